import PyProof.Rows.All
import Wide.All
import OpenK.AllK
import Wide.FinOn
import KE.KExcSuper
import HandS.ForMost
import HandS.ForExc
import HandS.ExcInit
import HandS.Nested
import HandS.Flow
import HandS.IsInst
import HandS.Wide
import HandS.StrMore
import HandS.RaiseMore
import HandS.TupAny
import HandS.Style
import HandS.NoneIn
import HandS.Conv
import HandS.Deep
import HandS.Small
import HandS.Evl
import HandS.SortInts
import HandS.More
import KE.SortData
import HandS.HotCalls
import HandS.ExcCtx
import HandS.ExcField
import HandS.ExcIs
import KE.KExcIs
import HandS.TryMany
import HandS.HeadWalk
import PyProof.StrOps2
import HandS.Defaults
import KE.IntTextText
import KE.KIntText
import KE.IntTextLaws
import HandS.ReplaceLit
import HandS.ReplaceList
import HandS.Flt
import PySem.Challenge.RW_saggar_k11_whole_texts_split_into_tokens
set_option Elab.async false
set_option linter.all false
set_option maxRecDepth 100000
set_option maxHeartbeats 4000000
/-! universal rules: by the values' constructors -/
namespace LX
open PySem PySem.Spec PyProof.Rows L2
section
variable {X : Cx}
/-! ### operators -/
def rAddU (K : PySem.W.Frag) : R2 := fun x y H Q => match x, y with
  | .int i, .int j => Q (.int (i + j)) H
  | .str i, .str j => i.length + j.length ≤ sizeLine ∧ Q (.str (i ++ j)) H
  | .ref a, .ref b => rCat (.ref a) (.ref b) H Q ∨ rCatA K (.ref a) (.ref b) H Q
  | _, _ => False
theorem op_addU : OpR X (binaryOp .Add) (rAddU X.K) := by
  intro pins s σ H x y v u Q I rx ry h
  unfold rAddU at h
  split at h
  · exact op_add pins s σ H _ _ v u Q I rx ry ⟨_, _, rfl, rfl, h⟩
  · exact op_add_str pins s σ H _ _ v u Q I rx ry ⟨_, _, rfl, rfl, h.1, h.2⟩
  · rcases h with h | h
    · exact op_cat pins s σ H _ _ v u Q I rx ry h
    · exact op_catA pins s σ H _ _ v u Q I rx ry h
  · exact h.elim
def rMulU : R2 := fun x y H Q => match x, y with
  | .int i, .int j => CMul i j ∧ Q (.int (i * j)) H
  | .ref a, .int j => rRep (.ref a) (.int j) H Q
  | _, _ => False
theorem op_mulU : OpR X (binaryOp .Mult) rMulU := by
  intro pins s σ H x y v u Q I rx ry h
  unfold rMulU at h
  split at h
  · exact op_mul pins s σ H _ _ v u Q I rx ry ⟨_, _, rfl, rfl, h.1, h.2⟩
  · exact op_rep pins s σ H _ _ v u Q I rx ry h
  · exact h.elim
/-- an order by ints, by texts -/
def rOrd (f : Int → Int → Bool) (g : List Nat → List Nat → Bool) : R2 := fun x y H Q => match x, y with
  | .int i, .int j => Q (.bl (f i j)) H
  | .str i, .str j => Q (.bl (g i.cps.toList j.cps.toList)) H
  | _, _ => False
abbrev rLtU : R2 := rOrd (fun i j => decide (i < j)) (fun i j => decide (i < j))
abbrev rLeU : R2 := rOrd (fun i j => decide (i ≤ j)) (fun i j => !decide (j < i))
abbrev rGtU : R2 := rOrd (fun i j => decide (j < i)) (fun i j => decide (j < i))
abbrev rGeU : R2 := rOrd (fun i j => decide (j ≤ i)) (fun i j => !decide (i < j))
theorem op_ltU : OpR X (compareOp .Lt) rLtU := by
  intro pins s σ H x y v u Q I rx ry h
  unfold rLtU rOrd at h
  split at h
  · exact op_lt pins s σ H _ _ v u Q I rx ry ⟨_, _, rfl, rfl, h⟩
  · exact op_lt_str pins s σ H _ _ v u Q I rx ry ⟨_, _, rfl, rfl, h⟩
  · exact h.elim
theorem op_leU : OpR X (compareOp .LtE) rLeU := by
  intro pins s σ H x y v u Q I rx ry h
  unfold rLeU rOrd at h
  split at h
  · exact op_le pins s σ H _ _ v u Q I rx ry ⟨_, _, rfl, rfl, h⟩
  · exact op_le_str pins s σ H _ _ v u Q I rx ry ⟨_, _, rfl, rfl, h⟩
  · exact h.elim
theorem op_gtU : OpR X (compareOp .Gt) rGtU := by
  intro pins s σ H x y v u Q I rx ry h
  unfold rGtU rOrd at h
  split at h
  · exact op_gt pins s σ H _ _ v u Q I rx ry ⟨_, _, rfl, rfl, h⟩
  · exact op_gt_str pins s σ H _ _ v u Q I rx ry ⟨_, _, rfl, rfl, h⟩
  · exact h.elim
theorem op_geU : OpR X (compareOp .GtE) rGeU := by
  intro pins s σ H x y v u Q I rx ry h
  unfold rGeU rOrd at h
  split at h
  · exact op_ge pins s σ H _ _ v u Q I rx ry ⟨_, _, rfl, rfl, h⟩
  · exact op_ge_str pins s σ H _ _ v u Q I rx ry ⟨_, _, rfl, rfl, h⟩
  · exact h.elim
/-- ==, != : two objects (deep), else by value -/
def rEqU (K : PySem.W.Frag) (g : Bool → Bool) : R2 := fun x y H Q => match x, y with
  | .ref a, .ref b => ∃ d e, Dp K H (.ref a) d ∧ Dp K H (.ref b) e ∧ SeqAt.shaped d = true ∧ SeqAt.shaped e = true ∧ Q (.bl (g (PyData.eqv d e))) H
  | x, y => scal x y = true ∧ Q (.bl (g (decide (x = y)))) H
theorem op_eqU (hu : X.A.units + 64 < cLine) : OpR X (compareOp .Eq) (rEqU X.K id) := by
  intro pins s σ H x y v u Q I rx ry h
  unfold rEqU at h
  split at h
  · exact op_eqD hu pins s σ H _ _ v u Q I rx ry h
  · exact op_eq pins s σ H _ _ v u Q I rx ry h
theorem op_neU (hu : X.A.units + 64 < cLine) : OpR X (compareOp .NotEq) (rEqU X.K (!·)) := by
  intro pins s σ H x y v u Q I rx ry h
  unfold rEqU at h
  split at h
  · exact op_neD hu pins s σ H _ _ v u Q I rx ry h
  · exact op_ne pins s σ H _ _ v u Q I rx ry h
/-- x is None, True, False -/
def rIsU (g : Bool → Bool) : R2 := fun x y H Q => match y with
  | .non => Q (.bl (g (decide (x = .non)))) H
  | .bl b => Q (.bl (g (decide (x = .bl b)))) H
  | _ => False
theorem op_isU : OpR X (compareOp .Is) (rIsU id) := by
  intro pins s σ H x y v u Q I rx ry h
  unfold rIsU at h
  split at h
  · exact op_isN pins s σ H _ _ v u Q I rx ry ⟨rfl, h⟩
  · rename_i b
    cases (show u = Value.bool b from ry)
    by_cases e : x = .bl b
    · subst e
      cases (show v = Value.bool b from rx)
      exact wpAny_is_self rfl ⟨.bl true, H, I, rfl, by simpa using h⟩
    · refine wpAny_is_other ?_ ?_ ⟨.bl false, H, I, rfl, by simpa [e] using h⟩
      · first | rfl | (cases x <;> first | rfl | (cases rx; rfl) | (obtain ⟨t, rfl⟩ := rx; rfl))
      · intro z
        subst z
        exact e (RelV.inj rx rfl)
  · exact h.elim
theorem op_isnotU : OpR X (compareOp .IsNot) (rIsU (!·)) := by
  intro pins s σ H x y v u Q I rx ry h
  unfold rIsU at h
  split at h
  · exact op_notN pins s σ H _ _ v u Q I rx ry ⟨rfl, h⟩
  · rename_i b
    cases (show u = Value.bool b from ry)
    by_cases e : x = .bl b
    · subst e
      cases (show v = Value.bool b from rx)
      exact wpAny_isNot_self rfl ⟨.bl false, H, I, rfl, by simpa using h⟩
    · refine wpAny_isNot_other ?_ ?_ ⟨.bl true, H, I, rfl, by simpa [e] using h⟩
      · first | rfl | (cases x <;> first | rfl | (cases rx; rfl) | (obtain ⟨t, rfl⟩ := rx; rfl))
      · intro z
        subst z
        exact e (RelV.inj rx rfl)
  · exact h.elim
/-! ### subscripts, slices, in -/
def rIxU (K : PySem.W.Frag) : R2 := fun x y H Q => match x with
  | .str z => ∃ i c, y = .int i ∧ z.length ≤ sizeLine ∧ atI z.cps.toList i = some c ∧ Q (.str ⟨#[c]⟩) H
  | .ref p => (∃ xs i v, y = .int i ∧ (SqL K H p xs ∨ SqT K H p xs) ∧ atI xs i = some v ∧ Q v H) ∨ (∃ v, DGet H p y (some v) ∧ Q v H)
  | _ => False
theorem ix_U (hu : X.A.units + 1 < cLine) : IxR X (rIxU X.K) := by
  intro value slice pins s σ H x y v u Q I rx ry h hs
  unfold rIxU at h
  split at h
  · obtain ⟨i, c, rfl, h1, h2, q⟩ := h
    exact ix_str value slice pins s σ H _ _ v u Q I rx ry ⟨_, _, _, rfl, rfl, h1, h2, q⟩ hs
  · rcases h with ⟨xs, i, w', rfl, h1 | h1, h2, q⟩ | ⟨w', g, q⟩
    · exact ix_list value slice pins s σ H _ _ v u Q I rx ry ⟨_, _, _, _, rfl, rfl, h1, h2, q⟩ hs
    · exact ix_tup value slice pins s σ H _ _ v u Q I rx ry ⟨_, _, _, _, rfl, rfl, h1, h2, q⟩ hs
    · rename_i p
      obtain rfl : v = Value.ref p := rx
      exact tail_any (dict_typeIs I g) PySem.F.slot_dict_getitem.lookup (d_getItem hu I g ry fun w2 s2 I2 rw2 => ⟨w', H, I2, rw2, q⟩) hs
  · exact h.elim
def rSlU (K : PySem.W.Frag) : V → Option Int → Option Int → Hp → VK → Prop := fun x lo hi H Q => match x with
  | .str z => z.length ≤ sizeLine ∧ Q (.str (cutS z lo hi)) H
  | .ref a => rSlL K (.ref a) lo hi H Q ∨ rSlA K (.ref a) lo hi H Q
  | _ => False
theorem sl_U : SlR X (rSlU X.K) := by
  intro pins s σ H x v vl vu lo hi sl Q I rx hs pl pu h
  unfold rSlU at h
  split at h
  · exact sl_str pins s σ H _ v vl vu lo hi sl Q I rx hs pl pu ⟨_, rfl, h.1, h.2⟩
  · rcases h with h | h
    · exact sl_list pins s σ H _ v vl vu lo hi sl Q I rx hs pl pu h
    · exact sl_tupA pins s σ H _ v vl vu lo hi sl Q I rx hs pl pu h
  · exact h.elim
/-- in, not in -/
def rInU (K : PySem.W.Frag) (g : Bool → Bool) : R2 := fun x y H Q => match y with
  | .str z => (∃ c : Nat, x = .str ⟨#[c]⟩ ∧ Q (.bl (g (decide (c ∈ z.cps.toList)))) H) ∨ ∃ i, x = .str i ∧ Q (.bl (g (!(Builtin.Str.occurrences z i 0 z.length 1).isEmpty))) H
  | .ref p => (∃ xs, (SqL K H p xs ∨ SqT K H p xs) ∧ flatV x = true ∧ xs.all flatV = true ∧ Q (.bl (g (inV x xs))) H) ∨ (∃ o, DGet H p x o ∧ Q (.bl (g o.isSome)) H)
  | _ => False
theorem op_inU (hu : X.A.units + 1 < cLine) : OpR X (compareOp .In) (rInU X.K id) := by
  intro pins s σ H x y v u Q I rx ry h
  unfold rInU at h
  split at h
  · rcases h with ⟨c, rfl, q⟩ | ⟨i, rfl, q⟩
    · exact op_in_sign pins s σ H _ _ v u Q I rx ry ⟨_, _, rfl, rfl, q⟩
    · exact op_in_str pins s σ H _ _ v u Q I rx ry ⟨_, _, rfl, rfl, q⟩
  · rcases h with ⟨xs, h1, h2, h3, q⟩ | ⟨o, g, q⟩
    · exact op_in_seq pins s σ H _ _ v u Q I rx ry ⟨_, xs, rfl, h1, h2, h3, q⟩
    · rename_i p
      obtain rfl : u = Value.ref p := ry
      exact d_in hu I g rx fun s3 I3 => ⟨.bl o.isSome, H, I3, rfl, q⟩
  · exact h.elim
theorem op_ninU (hu : X.A.units + 1 < cLine) : OpR X (compareOp .NotIn) (rInU X.K (!·)) := by
  intro pins s σ H x y v u Q I rx ry h
  unfold rInU at h
  split at h
  · rcases h with ⟨c, rfl, q⟩ | ⟨i, rfl, q⟩
    · exact op_notIn_sign pins s σ H _ _ v u Q I rx ry ⟨_, _, rfl, rfl, q⟩
    · exact op_notin_str pins s σ H _ _ v u Q I rx ry ⟨_, _, rfl, rfl, q⟩
  · rcases h with ⟨xs, h1, h2, h3, q⟩ | ⟨o, g, q⟩
    · exact op_notIn_seq pins s σ H _ _ v u Q I rx ry ⟨_, xs, rfl, h1, h2, h3, q⟩
    · rename_i p
      obtain rfl : u = Value.ref p := ry
      exact d_notIn hu I g rx fun s3 I3 => ⟨.bl (!o.isSome), H, I3, rfl, q⟩
  · exact h.elim
/-! ### calls -/
def rLenU (K : PySem.W.Frag) : List V → Hp → VK → Prop := fun xs H Q => match xs with
  | [.str z] => z.length ≤ sizeLine ∧ Q (.int z.length) H
  | [.ref p] => (∃ ys, (SqL K H p ys ∨ SqT K H p ys) ∧ Q (.int ys.length) H) ∨ ∃ kvs, H p = some (.dK kvs) ∧ Q (.int kvs.length) H
  | _ => False
theorem call_lenU : CallR X (.builtin "len") (rLenU X.K) := by
  intro pins s σ H xs us Q I r h
  unfold rLenU at h
  split at h
  · exact call_len_str pins s σ H _ us Q I r ⟨_, rfl, h.1, h.2⟩
  · rcases h with ⟨ys, h1, q⟩ | ⟨kvs, h1, q⟩
    · exact call_len_seq pins s σ H _ us Q I r ⟨_, ys, rfl, h1, q⟩
    · exact call_lenD pins s σ H _ us Q I r ⟨_, kvs, rfl, h1, q⟩
  · exact h.elim
def rIntU : List V → Hp → VK → Prop := fun xs H Q => match xs with
  | [.int i] => Q (.int i) H
  | [.bl k] => Q (.int (if k then 1 else 0)) H
  | [.str a] => ∃ n, PySem.intText? a = some n ∧ a.length ≤ 640 ∧ Q (.int n) H
  | _ => False
theorem call_intU : CallR X (.type "int") rIntU := by
  intro pins s σ H xs us Q I r h
  unfold rIntU at h
  split at h
  · exact call_int1 pins s σ H _ us Q I r (.inl ⟨_, rfl, h⟩)
  · exact call_int1 pins s σ H _ us Q I r (.inr ⟨_, rfl, h⟩)
  · obtain ⟨n, h1, h2, q⟩ := h
    exact call_int_str pins s σ H _ us Q I r ⟨_, n, rfl, h1, h2, q⟩
  · exact h.elim
def rStrU : List V → Hp → VK → Prop := fun xs H Q => match xs with
  | [.int i] => i.natAbs.log2 < 1920 ∧ Q (.str (toString i)) H
  | [.str a] => Q (.str a) H
  | _ => False
theorem call_strU : CallR X (.type "str") rStrU := by
  intro pins s σ H xs us Q I r h
  unfold rStrU at h
  split at h
  · exact call_str_int pins s σ H _ us Q I r ⟨_, rfl, h.1, h.2⟩
  · exact SkE.call_str_str pins s σ H _ us Q I r ⟨_, rfl, h⟩
  · exact h.elim
/-- isinstance: a built-in type or an own class -/
def rIsU2 (K : PySem.W.Frag) : List V → Hp → VK → Prop := fun xs H Q => ∃ (x c : V) (t u : Value) (b : Bool), xs = [x, c] ∧ ClsV c u ∧ TyX K H x t ∧ PySem.W.kitOne K t u = some b ∧ Q (.bl b) H
end
theorem hu64_of {A : Around} {k : Nat} (hr : Room k A) : A.units + 64 < cLine := by have := hr.un; omega
theorem ite_eq {c d : Bool} {A B : Prop} (e : c = d) (h : if d = true then A else B) : if c = true then A else B := by rw [e]; exact h
theorem iteD {c : Prop} [Decidable c] {A B : Prop} (h1 : c → A) (h2 : ¬ c → B) : if decide c = true then A else B := by
  by_cases h : c
  · rw [decide_eq_true h]; exact iteT (h1 h)
  · rw [decide_eq_false h]; exact iteF (h2 h)
theorem iteND {c : Prop} [Decidable c] {A B : Prop} (h1 : ¬ c → A) (h2 : c → B) : if (!decide c) = true then A else B := by
  by_cases h : c
  · rw [decide_eq_true h]; exact iteF (h2 h)
  · rw [decide_eq_false h]; exact iteT (h1 h)
/-- a text by its signs -/
abbrev T (l : List Nat) : Str := ⟨l.toArray⟩
theorem T_of (z : Str) : z = T z.cps.toList := rfl
theorem T_inj {a b : List Nat} (h : T a = T b) : a = b := congrArg (fun x : Str => x.cps.toList) h
theorem T_app (a b : List Nat) : T a ++ T b = T (a ++ b) := by
  show (⟨a.toArray ++ b.toArray⟩ : Str) = ⟨(a ++ b).toArray⟩
  simp
theorem T_dec (a b : List Nat) : decide (V.str (T a) = V.str (T b)) = decide (a = b) := by
  by_cases h : a = b
  · subst h; simp
  · have : ¬ V.str (T a) = V.str (T b) := fun z => h (T_inj (V.str.inj z))
    rw [decide_eq_false this, decide_eq_false h]
theorem I_dec (a b : Int) : decide (V.int a = V.int b) = decide (a = b) := by
  by_cases h : a = b
  · subst h; simp
  · have : ¬ V.int a = V.int b := fun z => h (V.int.inj z)
    rw [decide_eq_false this, decide_eq_false h]
theorem B_dec (a b : Bool) : decide (V.bl a = V.bl b) = (a == b) := by cases a <;> cases b <;> rfl
theorem pe_strT {X : Cx} {x : Str} {l : List Nat} {j : Nat} {pos : Pos} (e : x = T l) : PE X (.Constant (.str x) j pos) (tC (.str (T l))) := by subst e; exact pe_str
theorem pv_some {X : Cx} : True := True.intro
theorem bb_len : bootBuiltins "len" = some (.builtin "len") := by first | rfl | decide +kernel
theorem bb_isinstance : bootBuiltins "isinstance" = some (.builtin "isinstance") := by first | rfl | decide +kernel
theorem bb_abs : bootBuiltins "abs" = some (.builtin "abs") := by first | rfl | decide +kernel
theorem bb_sorted : bootBuiltins "sorted" = some (.builtin "sorted") := by first | rfl | decide +kernel
theorem bb_min : bootBuiltins "min" = some (.builtin "min") := by first | rfl | decide +kernel
theorem bb_max : bootBuiltins "max" = some (.builtin "max") := by first | rfl | decide +kernel
theorem bb_sum : bootBuiltins "sum" = some (.builtin "sum") := by first | rfl | decide +kernel
theorem bb_all : bootBuiltins "all" = some (.builtin "all") := by first | rfl | decide +kernel
theorem bb_any : bootBuiltins "any" = some (.builtin "any") := by first | rfl | decide +kernel
theorem bb_repr : bootBuiltins "repr" = some (.builtin "repr") := by first | rfl | decide +kernel
theorem bb_int : bootBuiltins "int" = some (.type "int") := by first | rfl | decide +kernel
theorem bb_str : bootBuiltins "str" = some (.type "str") := by first | rfl | decide +kernel
theorem bb_bool : bootBuiltins "bool" = some (.type "bool") := by first | rfl | decide +kernel
theorem bb_list : bootBuiltins "list" = some (.type "list") := by first | rfl | decide +kernel
theorem bb_dict : bootBuiltins "dict" = some (.type "dict") := by first | rfl | decide +kernel
theorem bb_tuple : bootBuiltins "tuple" = some (.type "tuple") := by first | rfl | decide +kernel
theorem bb_set : bootBuiltins "set" = some (.type "set") := by first | rfl | decide +kernel
theorem bb_ValueError : bootBuiltins "ValueError" = some (.type "ValueError") := by first | rfl | decide +kernel
theorem pe_gi {X : Cx} {x : Str} {z : Int} {t : Tok} {pos : Pos} (hg : Gl X x) (hm : X.mg x = some (.int z t)) (hd : (x == ("__debug__" : Str)) = false := by decide) : PE X (.Name x pos) (tC (.int z)) := pe_glob hg hm ⟨_, rfl⟩ hd
theorem pe_gs {X : Cx} {x : Str} {z : Str} {t : Tok} {pos : Pos} (hg : Gl X x) (hm : X.mg x = some (.str z t)) (hd : (x == ("__debug__" : Str)) = false := by decide) : PE X (.Name x pos) (tC (.str z)) := pe_glob hg hm ⟨_, rfl⟩ hd
theorem pe_gr {X : Cx} {x : Str} {a : Addr} {pos : Pos} (hg : Gl X x) (hm : X.mg x = some (.ref a)) (hd : (x == ("__debug__" : Str)) = false := by decide) : PE X (.Name x pos) (tC (.ref a)) := pe_glob hg hm rfl hd
theorem pe_bt {X : Cx} {x : Str} {n : String} {pos : Pos} (hg : Gl X x) (hm : X.mg x = none) (hv : bootBuiltins x = some (.type n)) (hn : x ≠ "__name__" := by decide) (hd : (x == ("__debug__" : Str)) = false := by decide) : PE X (.Name x pos) (tC (.ty n)) := pe_bltn hg hm hv rfl hn hd
/-! isinstance against built-in types -/
theorem kt_int_int {K : PySem.W.Frag} : PySem.W.kitOne K (.type "int") (.type "int") = some true := kit_ty (by decide +kernel)
theorem kt_int_bool {K : PySem.W.Frag} : PySem.W.kitOne K (.type "int") (.type "bool") = some false := kit_ty (by decide +kernel)
theorem kt_int_str {K : PySem.W.Frag} : PySem.W.kitOne K (.type "int") (.type "str") = some false := kit_ty (by decide +kernel)
theorem kt_int_list {K : PySem.W.Frag} : PySem.W.kitOne K (.type "int") (.type "list") = some false := kit_ty (by decide +kernel)
theorem kt_int_tuple {K : PySem.W.Frag} : PySem.W.kitOne K (.type "int") (.type "tuple") = some false := kit_ty (by decide +kernel)
theorem kt_int_dict {K : PySem.W.Frag} : PySem.W.kitOne K (.type "int") (.type "dict") = some false := kit_ty (by decide +kernel)
theorem kt_bool_int {K : PySem.W.Frag} : PySem.W.kitOne K (.type "bool") (.type "int") = some true := kit_ty (by decide +kernel)
theorem kt_bool_bool {K : PySem.W.Frag} : PySem.W.kitOne K (.type "bool") (.type "bool") = some true := kit_ty (by decide +kernel)
theorem kt_bool_str {K : PySem.W.Frag} : PySem.W.kitOne K (.type "bool") (.type "str") = some false := kit_ty (by decide +kernel)
theorem kt_bool_list {K : PySem.W.Frag} : PySem.W.kitOne K (.type "bool") (.type "list") = some false := kit_ty (by decide +kernel)
theorem kt_bool_tuple {K : PySem.W.Frag} : PySem.W.kitOne K (.type "bool") (.type "tuple") = some false := kit_ty (by decide +kernel)
theorem kt_bool_dict {K : PySem.W.Frag} : PySem.W.kitOne K (.type "bool") (.type "dict") = some false := kit_ty (by decide +kernel)
theorem kt_str_int {K : PySem.W.Frag} : PySem.W.kitOne K (.type "str") (.type "int") = some false := kit_ty (by decide +kernel)
theorem kt_str_bool {K : PySem.W.Frag} : PySem.W.kitOne K (.type "str") (.type "bool") = some false := kit_ty (by decide +kernel)
theorem kt_str_str {K : PySem.W.Frag} : PySem.W.kitOne K (.type "str") (.type "str") = some true := kit_ty (by decide +kernel)
theorem kt_str_list {K : PySem.W.Frag} : PySem.W.kitOne K (.type "str") (.type "list") = some false := kit_ty (by decide +kernel)
theorem kt_str_tuple {K : PySem.W.Frag} : PySem.W.kitOne K (.type "str") (.type "tuple") = some false := kit_ty (by decide +kernel)
theorem kt_str_dict {K : PySem.W.Frag} : PySem.W.kitOne K (.type "str") (.type "dict") = some false := kit_ty (by decide +kernel)
theorem kt_list_int {K : PySem.W.Frag} : PySem.W.kitOne K (.type "list") (.type "int") = some false := kit_ty (by decide +kernel)
theorem kt_list_bool {K : PySem.W.Frag} : PySem.W.kitOne K (.type "list") (.type "bool") = some false := kit_ty (by decide +kernel)
theorem kt_list_str {K : PySem.W.Frag} : PySem.W.kitOne K (.type "list") (.type "str") = some false := kit_ty (by decide +kernel)
theorem kt_list_list {K : PySem.W.Frag} : PySem.W.kitOne K (.type "list") (.type "list") = some true := kit_ty (by decide +kernel)
theorem kt_list_tuple {K : PySem.W.Frag} : PySem.W.kitOne K (.type "list") (.type "tuple") = some false := kit_ty (by decide +kernel)
theorem kt_list_dict {K : PySem.W.Frag} : PySem.W.kitOne K (.type "list") (.type "dict") = some false := kit_ty (by decide +kernel)
theorem kt_tuple_int {K : PySem.W.Frag} : PySem.W.kitOne K (.type "tuple") (.type "int") = some false := kit_ty (by decide +kernel)
theorem kt_tuple_bool {K : PySem.W.Frag} : PySem.W.kitOne K (.type "tuple") (.type "bool") = some false := kit_ty (by decide +kernel)
theorem kt_tuple_str {K : PySem.W.Frag} : PySem.W.kitOne K (.type "tuple") (.type "str") = some false := kit_ty (by decide +kernel)
theorem kt_tuple_list {K : PySem.W.Frag} : PySem.W.kitOne K (.type "tuple") (.type "list") = some false := kit_ty (by decide +kernel)
theorem kt_tuple_tuple {K : PySem.W.Frag} : PySem.W.kitOne K (.type "tuple") (.type "tuple") = some true := kit_ty (by decide +kernel)
theorem kt_tuple_dict {K : PySem.W.Frag} : PySem.W.kitOne K (.type "tuple") (.type "dict") = some false := kit_ty (by decide +kernel)
theorem kt_dict_int {K : PySem.W.Frag} : PySem.W.kitOne K (.type "dict") (.type "int") = some false := kit_ty (by decide +kernel)
theorem kt_dict_bool {K : PySem.W.Frag} : PySem.W.kitOne K (.type "dict") (.type "bool") = some false := kit_ty (by decide +kernel)
theorem kt_dict_str {K : PySem.W.Frag} : PySem.W.kitOne K (.type "dict") (.type "str") = some false := kit_ty (by decide +kernel)
theorem kt_dict_list {K : PySem.W.Frag} : PySem.W.kitOne K (.type "dict") (.type "list") = some false := kit_ty (by decide +kernel)
theorem kt_dict_tuple {K : PySem.W.Frag} : PySem.W.kitOne K (.type "dict") (.type "tuple") = some false := kit_ty (by decide +kernel)
theorem kt_dict_dict {K : PySem.W.Frag} : PySem.W.kitOne K (.type "dict") (.type "dict") = some true := kit_ty (by decide +kernel)
theorem kt_NoneType_int {K : PySem.W.Frag} : PySem.W.kitOne K (.type "NoneType") (.type "int") = some false := kit_ty (by decide +kernel)
theorem kt_NoneType_bool {K : PySem.W.Frag} : PySem.W.kitOne K (.type "NoneType") (.type "bool") = some false := kit_ty (by decide +kernel)
theorem kt_NoneType_str {K : PySem.W.Frag} : PySem.W.kitOne K (.type "NoneType") (.type "str") = some false := kit_ty (by decide +kernel)
theorem kt_NoneType_list {K : PySem.W.Frag} : PySem.W.kitOne K (.type "NoneType") (.type "list") = some false := kit_ty (by decide +kernel)
theorem kt_NoneType_tuple {K : PySem.W.Frag} : PySem.W.kitOne K (.type "NoneType") (.type "tuple") = some false := kit_ty (by decide +kernel)
theorem kt_NoneType_dict {K : PySem.W.Frag} : PySem.W.kitOne K (.type "NoneType") (.type "dict") = some false := kit_ty (by decide +kernel)
end LX
/-! sorted(x) of a list of whole numbers or of a dict with such keys, any number of them -/
namespace LX
open PySem PySem.Spec PyProof.Rows L2
section
variable {X : Cx}
theorem call_sortedDA (hcalm : X.calm = true) : CallR X (.builtin "sorted") (fun xs H Q => ∃ (a : Addr) (kvs : List (Key × V)) (ks : List Int), xs = [.ref a] ∧ Rd H a (.dK kvs) ∧ kvs.map (·.1) = ks.map Sum.inl ∧
    ∀ (ys : List Int) (p : Addr), ys.Perm ks → ys.Pairwise (· ≤ ·) → H p = none → Q (.ref p) (upd H p (.lst (ys.map V.int)))) := by
  intro pins s σ H xs us Q I r q
  obtain ⟨a, kvs, ks, ex, hd, hks, q⟩ := q
  subst ex
  obtain ⟨u, eu, rx⟩ := vals1 r
  subst eu
  cases rx
  obtain ⟨z, lo, vs, rel, dd⟩ := dk_rd I.hok hd
  obtain ⟨ep, hat⟩ := dd.dictAt
  have hkeys : vs.map (·.1) = ks.map Sum.inl := rel.keys.symm.trans hks
  have hl : vs.length = ks.length := by
    have e := congrArg List.length hkeys
    rw [List.length_map, List.length_map] at e
    exact e
  have hkl : ks.length ≤ sizeLine := by
    have e := congrArg List.length hks
    rw [List.length_map, List.length_map] at e
    omega
  have h16 : vs.length ≤ sizeLine := by rw [hl]; exact hkl
  refine Calls.call_function_entry PyProof.Rows.kind_sorted PyProof.Rows.plain_sorted PyProof.Rows.entry_sorted (PyProof.Rows.args_sorted1 _) ?_
  unfold Builtin.«sorted»
  refine wpAny_bind (m := checkCount "sorted" 1 1 _) (wpAny_pure ?_)
  refine wpAny_bind (PySem.W.kdu_collect (A := X.A.in1) (PySem.W.kdl_dict (knd := mixKind X.prog X.w) (kvs := vs) (ep := ep) lo) (I.ok.hd hcalm) hat h16 fun h' tk acc hk hacc => ?_)
  have hal : acc.toList.length = ks.length := by rw [Array.length_toList, hacc.1, hl]
  have hS : IntsAre acc.toList ks := ints_each hal fun j v e => by
    obtain ⟨k, x, e1, e2⟩ := hacc.2 j v (by rw [← Array.getElem?_toList]; exact e)
    have e3 : (vs.map (·.1))[j]? = some k := by rw [List.getElem?_map, e1]; rfl
    rw [hkeys, List.getElem?_map] at e3
    cases e4 : ks[j]? with
    | none => rw [e4] at e3; cases e3
    | some y =>
      rw [e4] at e3
      have e5 : Sum.inl y = k := Option.some.inj e3
      subst e5
      rcases keyIs_shape (show keyIs (Sum.inl y) v = true from e2) with ⟨i, t, ek, ev⟩ | ⟨z, t, ek, ev⟩
      · cases ek
        exact ⟨y, t, rfl, ev⟩
      · cases ek
  have I1 : Inv X pins σ H { s with heap := h', toks := tk } := I.kept hk
  refine wpAny_bind (wpAny_newList ?_ (by rw [hal]; exact hkl))
  have hoL : (h'.push (seqObj "list" acc.toList.toArray 0)).get? h'.objs.size = some (seqObj "list" acc.toList.toArray 0) := Heap.get?_push_size _ rfl
  show wpAny _ _ _ _ _ { s with heap := h'.push (seqObj "list" acc.toList.toArray 0), toks := tk }
  refine wpAny_bind (wpAny_holding (wpAny_call_entry PyProof.Rows.slot_list_sort ⟨_, hoL, rfl⟩ PyProof.Rows.entry_list_sort
    (SrtO.list_sort_ord (s := { s with heap := h'.push (seqObj "list" acc.toList.toArray 0), toks := tk }) SrtO.swo_int hoL (by rw [hal]; exact hkl) (fun h2 => SrtO.ints_sortable hS h2) fun out h1 h2 => ⟨.none, rfl, ?_⟩) (PyProof.Rows.args_list_sort _)))
  obtain ⟨k1, k2, k3⟩ := SrtO.ints_out hS h1 h2
  obtain ⟨e', he'⟩ := PyProof.Rows.sortedHeap_at (vs := acc.toList) (out := out.toArray) hoL
  have hlen : ((out.map SrtO.iv).map V.int).length ≤ sizeLine := by
    rw [List.length_map, k2.length_eq]
    exact hkl
  refine wpAny_pure ⟨_, rfl, .ref h'.objs.size, upd H h'.objs.size (.lst ((out.map SrtO.iv).map V.int)), I1.laid (t' := tk) (fun b u e => ?_) (Nat.le_refl _)
    (show ObjOk X.prog X.w _ _ _ (.lst ((out.map SrtO.iv).map V.int)) from ⟨hlen, out, e', vals_of_ints k1, he'⟩), rfl, q _ _ k2 k3 (I1.hok.fresh (Nat.le_refl _))⟩
  have hb : b < h'.objs.size := Heap.lt_size e
  rw [PyProof.Rows.sortedHeap_old (Nat.ne_of_lt hb) (by rw [size_push']; exact Nat.lt_succ_of_lt hb)]
  exact Heap.get?_push_of_some _ e
def rSortedU (K : PySem.W.Frag) : List V → Hp → VK → Prop := fun vs H Q => ∃ (a : Addr) (ns : List Int), vs = [V.ref a] ∧ (SqL K H a (ns.map V.int) ∨ ∃ kvs : List (Key × V), Rd H a (.dK kvs) ∧ kvs.map (·.1) = ns.map Sum.inl) ∧
  ∀ (ns' : List Int) (p : Addr), ns'.Perm ns → ns'.Pairwise (· ≤ ·) → H p = none → Q (.ref p) (upd H p (.lst (ns'.map V.int)))
theorem call_sortedU (hcalm : X.calm = true) : CallR X (.builtin "sorted") (rSortedU X.K) := by
  intro pins s σ H xs us Q I r h
  obtain ⟨a, ns, rfl, h1 | ⟨kvs, h1, h2⟩, q⟩ := h
  · exact cr_sortedI pins s σ H _ us Q I r ⟨a, ns, rfl, h1, q⟩
  · exact call_sortedDA hcalm pins s σ H _ us Q I r ⟨a, kvs, ns, rfl, h1, h2, q⟩
end
end LX
/-! the rules of LBase with the law's own K, for the parts of a comprehension -/
namespace LX
open PySem PySem.Spec PyProof.Rows L2
section
variable {X : Cx} {K : PySem.W.Frag}
theorem ix_UK (e : X.K = K) (hu : X.A.units + 1 < cLine) : IxR X (rIxU K) := by subst e; exact ix_U hu
theorem op_addUK (e : X.K = K) : OpR X (binaryOp .Add) (rAddU K) := by subst e; exact op_addU
theorem op_eqUK (e : X.K = K) (hu : X.A.units + 64 < cLine) : OpR X (compareOp .Eq) (rEqU K id) := by subst e; exact op_eqU hu
theorem op_neUK (e : X.K = K) (hu : X.A.units + 64 < cLine) : OpR X (compareOp .NotEq) (rEqU K (!·)) := by subst e; exact op_neU hu
theorem op_inUK (e : X.K = K) (hu : X.A.units + 1 < cLine) : OpR X (compareOp .In) (rInU K id) := by subst e; exact op_inU hu
theorem op_ninUK (e : X.K = K) (hu : X.A.units + 1 < cLine) : OpR X (compareOp .NotIn) (rInU K (!·)) := by subst e; exact op_ninU hu
theorem sl_UK (e : X.K = K) : SlR X (rSlU K) := by subst e; exact sl_U
theorem call_lenUK (e : X.K = K) : CallR X (.builtin "len") (rLenU K) := by subst e; exact call_lenU
theorem pe_fldK {o : Expr} {f : Str} {pos : Pos} {ta : TE} (e : X.K = K) (he : PE X o ta) (hb : attributeBase o f X.env (eval o X.env) = eval o X.env) : PE X (.Attribute o f pos) (tFld K ta f) := by subst e; exact pe_fld he hb
def tTruK (K : PySem.W.Frag) (ta : TE) : TT := fun σ H Q => ta σ H fun x H' => ∃ k, TruV K x H' k ∧ Q k H'
theorem pt_truthK {a : Expr} {ta : TE} (e : X.K = K) (ha : PE X a ta) (he : ∀ whole, isTrue a X.env whole = (do let v ← whole; standAt a.pos; holding [v] (truthy v))) :
    PT X a (tTruK K ta) := by subst e; exact pt_truth ha he
end
end LX
/-! the reading, step by step: one rule a head; the step tactic is printed from mkauto.py -/
namespace LX
open PySem PySem.Spec PyProof.Rows L2
/-- every old thing outside of F is kept -/
def Fr (F : List Addr) (H H' : Hp) : Prop := ∀ b o, H b = some o → b ∉ F → H' b = some o
theorem Fr.rfl' {F : List Addr} {H : Hp} : Fr F H H := fun _ _ e _ => e
theorem Fr.trans {F : List Addr} {H H1 H2 : Hp} (a : Fr F H H1) (b : Fr F H1 H2) : Fr F H H2 := fun c o e n => b c o (a c o e n) n
theorem Fr.new {F : List Addr} {H : Hp} {q : Addr} {o : HO} (hq : H q = none) : Fr F H (upd H q o) := fun c u e _ => by rw [upd_ne (ne_of_none e hq)]; exact e
theorem Fr.at {F : List Addr} {H : Hp} {q : Addr} {o : HO} (hq : q ∈ F) : Fr F H (upd H q o) := fun c u e n => by rw [upd_ne (fun z => n (by rw [z]; exact hq))]; exact e
theorem Fr.mono {F G : List Addr} {H H' : Hp} (a : Fr F H H') (h : ∀ b, b ∈ F → b ∈ G) : Fr G H H' := fun c o e n => a c o e fun m => n (h c m)
theorem Fr.skip {F : List Addr} {H H' : Hp} {q : Addr} {o : HO} (f : Fr F H H') (hq : H q = none) : Fr F H (upd H' q o) := fun b u e n => by rw [upd_ne (ne_of_none e hq)]; exact f b u e n
theorem Fr.g {F : List Addr} {H H' : Hp} (f : Fr F H H') {a : Addr} {o : HO} (h : H a = some o) (n : a ∉ F) : H' a = some o := f a o h n
theorem Fr.g0 {H H' : Hp} (f : Fr [] H H') {a : Addr} {o : HO} (h : H a = some o) : H' a = some o := f a o h (by simp)
/-- what is free later was free before -/
theorem Fr.none {H H' : Hp} (f : Fr [] H H') {q : Addr} (h : H' q = Option.none) : H q = Option.none := by
  cases e : H q with
  | none => rfl
  | some o => rw [f.g0 e] at h; cases h
theorem Fr.noneF {F : List Addr} {H H' : Hp} (f : Fr F H H') {q : Addr} (h : H' q = Option.none) (n : q ∉ F) : H q = Option.none := by
  cases e : H q with
  | none => rfl
  | some o => rw [f q o e n] at h; cases h
section
variable {K : PySem.W.Frag} {σ : L2.St} {H : Hp} {D : Ends}
/-! ### statements -/
theorem z_seq {t u : TS} (h : t { D with nx := u D } σ H) : tSeq t u D σ H := h
theorem z_next (h : D.nx σ H) : tNext D σ H := h
theorem z_brk (h : D.bk σ H) : tBreak D σ H := h
theorem z_cont (h : D.ct σ H) : tCont D σ H := h
theorem z_asg {te : TE} {g : TG} (h : te σ H fun x H1 => g x σ H1 D.nx) : tAsg te g D σ H := h
theorem z_drop {te : TE} (h : te σ H fun _ H1 => D.nx σ H1) : tDrop te D σ H := h
theorem z_ret {te : TE} (h : te σ H D.rt) : tRet te D σ H := h
theorem z_retN (h : D.rt .non H) : tRetN D σ H := h
theorem z_ifs {c : TT} {t u : TS} (h : c σ H fun b H1 => if b = true then t D σ H1 else u D σ H1) : tIfS c t u D σ H := h
theorem z_cut {t u : TS} (h : ∃ Mid : L2.St → Hp → Prop, t { D with nx := Mid } σ H ∧ ∀ σ' H', Mid σ' H' → u D σ' H') : Evl.tCut t u D σ H := h
theorem z_aug {i : Nat} {x : V} {te : TE} {ti : TIp} (e : σ[i]? = some (some x)) (h : te σ H fun y H1 => ti x y H1 fun z H2 => D.nx (σ.set i (some z)) H2) : tAug i te ti D σ H := ⟨x, e, h⟩
def oFldS (K : PySem.W.Frag) (f : Str) (x y : V) (D : Hp → Prop) (H : Hp) : Prop := ∃ a C dx fs, x = .ref a ∧ H a = some (.ins C dx fs) ∧ Cls K C ∧ NoAttr K C f ∧ fs.length < 1000 ∧ D (upd H a (.ins C dx (putF f y fs)))
theorem z_flds {ta tv : TE} {f : Str} (h : tv σ H fun y H1 => ta σ H1 fun x H2 => oFldS K f x y (D.nx σ) H2) : sFld K ta tv f D σ H := h
theorem z_flds1 {f : Str} {a C dx : Addr} {fs : List (Str × V)} {y : V} {Q : Hp → Prop} (h1 : H a = some (.ins C dx fs)) (h2 : Cls K C) (h3 : NoAttr K C f) (h4 : fs.length < 1000) (h : ∀ H1, Fr [a] H H1 → H1 a = some (.ins C dx (putF f y fs)) → (∀ b, H b = none → H1 b = none) → Q H1) : oFldS K f (.ref a) y Q H :=
  ⟨a, C, dx, fs, rfl, h1, h2, h3, h4, h _ (Fr.at (by simp)) upd_same (fun b e => by rw [upd_ne (ne_of_none h1 e).symm]; exact e)⟩
def oDPut (x y v : V) (D : Hp → Prop) (H : Hp) : Prop := ∃ a H4, x = .ref a ∧ DPut H a y v H4 ∧ D H4
theorem z_dput {td ty tv : TE} (h : tv σ H fun v H1 => td σ H1 fun x H2 => ty σ H2 fun y H3 => oDPut x y v (D.nx σ) H3) : sDPut td ty tv D σ H := h
theorem upd_free {H : Hp} {a : Addr} {o u : HO} (h1 : H a = some u) : ∀ b, H b = none → upd H a o b = none := fun b e => by rw [upd_ne (ne_of_none h1 e).symm]; exact e
theorem z_dputI {a : Addr} {n : Int} {v : V} {kvs : List (Key × V)} {Q : Hp → Prop} (h1 : H a = some (.dK kvs)) (h2 : kvs.length < sizeLine) (h : ∀ H1, Fr [a] H H1 → H1 a = some (.dK (putK kvs (.inl n) v)) → (∀ b, H b = none → H1 b = none) → Q H1) : oDPut (.ref a) (.int n) v Q H :=
  ⟨a, _, rfl, DPut.k (k := Sum.inl n) h1 h2, h _ (Fr.at (by simp)) upd_same (upd_free h1)⟩
theorem z_dputS {a : Addr} {n : Str} {v : V} {kvs : List (Key × V)} {Q : Hp → Prop} (h1 : H a = some (.dK kvs)) (h2 : kvs.length < sizeLine) (h : ∀ H1, Fr [a] H H1 → H1 a = some (.dK (putK kvs (.inr n) v)) → (∀ b, H b = none → H1 b = none) → Q H1) : oDPut (.ref a) (.str n) v Q H :=
  ⟨a, _, rfl, DPut.k (k := Sum.inr n) h1 h2, h _ (Fr.at (by simp)) upd_same (upd_free h1)⟩
/-! ### targets -/
theorem z_gtup {n : Nat} {t : TGs} {a : Addr} {xs : List V} {Q : L2.St → Hp → Prop} (h1 : H a = some (.tup xs)) (h2 : xs.length = n) (h : t xs σ H Q) : gTup K n t (.ref a) σ H Q := ⟨a, xs, rfl, SqT.of h1, h2, h⟩
theorem z_gcons {t : TG} {u : TGs} {v : V} {r : List V} {Q : L2.St → Hp → Prop} (h : t v σ H fun σ' H' => u r σ' H' Q) : gCons t u (v :: r) σ H Q := ⟨v, r, rfl, h⟩
theorem z_gnil {Q : L2.St → Hp → Prop} (h : Q σ H) : gNil [] σ H Q := ⟨rfl, h⟩
theorem z_gsub {to ti : TE} {t : TSet} {v : V} {Q : L2.St → Hp → Prop} (h : to σ H fun o H1 => ti σ H1 fun i H2 => t o i v H2 fun H3 => Q σ H3) : gSub to ti t v σ H Q := h
theorem z_setL {p : Addr} {xs : List V} {k : Int} {j : Nat} {v : V} {Q : Hp → Prop} (h1 : H p = some (.lst xs)) (h2 : ixN xs.length k = some j) (h : ∀ H1, Fr [p] H H1 → H1 p = some (.lst (xs.set j v)) → (∀ b, H b = none → H1 b = none) → Q H1) : rSetL (.ref p) (.int k) v H Q :=
  ⟨p, xs, k, j, rfl, rfl, h1, h2, h _ (Fr.at (by simp)) upd_same (upd_free h1)⟩
/-! ### expressions -/
variable {Q : VK}
theorem z_c {v : V} (h : Q v H) : tC v σ H Q := h
theorem z_op {r : R2} {ta tb : TE} (h : ta σ H fun x H1 => tb σ H1 fun y H2 => r x y H2 Q) : tOp r ta tb σ H Q := h
theorem z_un {r : V → Hp → VK → Prop} {ta : TE} (h : ta σ H fun x H1 => r x H1 Q) : tUn r ta σ H Q := h
/-- a new thing -/
def oNew (o : HO) (n : Nat) (H : Hp) (Q : VK) : Prop := n ≤ sizeLine ∧ ∀ p, H p = none → Q (.ref p) (upd H p o)
theorem z_tup {t : TA} (h : t σ H fun xs H1 => oNew (.tup xs) xs.length H1 Q) : tTup t σ H Q := h
theorem z_lst {t : TA} (h : t σ H fun xs H1 => oNew (.lst xs) xs.length H1 Q) : tLst t σ H Q := h
theorem z_newL {n : Nat} {o : HO} (hn : n ≤ sizeLine) (h : ∀ p H1, H p = none → Fr [] H H1 → H1 p = some o → Q (.ref p) H1) : oNew o n H Q := ⟨hn, fun p hp => h p _ hp (Fr.new hp) upd_same⟩
theorem sz1 {n : Nat} (h : n ≤ 1000) : n ≤ sizeLine := by rw [sizeLine_eq]; omega
def rListU (K : PySem.W.Frag) : List V → Hp → VK → Prop := fun xs H Q => ∃ p ys, xs = [.ref p] ∧ (SqL K H p ys ∨ SqT K H p ys) ∧ ∀ l, H l = none → Q (.ref l) (upd H l (.lst ys))
theorem call_listU {X : Cx} : CallR X (.type "list") (rListU X.K) := call_list_of
theorem call_listUK {X : Cx} {K : PySem.W.Frag} (e : X.K = K) : CallR X (.type "list") (rListU K) := by subst e; exact call_listU
theorem z_new {o : HO} (h : ∀ p H1, H p = none → Fr [] H H1 → H1 p = some o → Q (.ref p) H1) : ∀ p, H p = none → Q (.ref p) (upd H p o) := fun p hp => h p _ hp (Fr.new hp) upd_same
theorem z_dnew (h : ∀ p H1, H p = none → Fr [] H H1 → H1 p = some (.dK []) → Q (.ref p) H1) : tDNewK σ H Q := fun p hp => h p _ hp (Fr.new hp) upd_same
theorem z_nil {Q : List V → Hp → Prop} (h : Q [] H) : tNil σ H Q := h
theorem z_cons {ta : TE} {tr : TA} {Q : List V → Hp → Prop} (h : ta σ H fun x H1 => tr σ H1 fun xs H2 => Q (x :: xs) H2) : tCons ta tr σ H Q := h
theorem z_cb {r : List V → Hp → VK → Prop} {t : TA} (h : t σ H fun vs H1 => r vs H1 Q) : tCB r t σ H Q := h
theorem z_call {sp : Sp} {dvs : List V} {E : XK} {t : TA} (h : t σ H fun vs H1 => sp (vs ++ dvs) H1 Q E) : tCall sp dvs E t σ H Q := h
def oMeth (C : Addr) (m : Str) (x : V) (R : Hp → Prop) (H : Hp) : Prop := ∃ a dx fs, x = .ref a ∧ H a = some (.ins C dx fs) ∧ fs.lookup m = none ∧ R H
theorem z_meth {C : Addr} {m : Str} {sp : Sp} {dvs : List V} {E : XK} {ta : TE} {t : TA} (h : ta σ H fun x H1 => oMeth C m x (fun H1 => t σ H1 fun vs H2 => sp (x :: (vs ++ dvs)) H2 Q E) H1) : tMeth C m sp dvs E ta t σ H Q := h
theorem z_meth1 {C : Addr} {m : Str} {a dx : Addr} {fs : List (Str × V)} {R : Hp → Prop} (h1 : H a = some (.ins C dx fs)) (h2 : fs.lookup m = none) (h : R H) : oMeth C m (.ref a) R H := ⟨a, dx, fs, rfl, h1, h2, h⟩
theorem z_make {C : Addr} {sp : Sp} {dvs : List V} {E : XK} {t : TA} (h : t σ H fun vs H1 => ∀ x dx, H1 x = none → H1 dx = none → dx ≠ x → sp (.ref x :: (vs ++ dvs)) (upd (upd H1 dx (.own x)) x (.ins C dx [])) (fun v H2 => v = .non ∧ Q (.ref x) H2) E) : tMake C sp dvs E t σ H Q := h
def oFld (K : PySem.W.Frag) (f : Str) (x : V) (H : Hp) (Q : VK) : Prop := ∃ a C dx fs v, x = .ref a ∧ H a = some (.ins C dx fs) ∧ Cls K C ∧ NoAttr K C f ∧ fs.lookup f = some v ∧ Q v H
theorem z_fld {ta : TE} {f : Str} (h : ta σ H fun x H1 => oFld K f x H1 Q) : tFld K ta f σ H Q := h
theorem z_fld1 {f : Str} {a C dx : Addr} {fs : List (Str × V)} {v : V} (h1 : H a = some (.ins C dx fs)) (h2 : Cls K C) (h3 : NoAttr K C f) (h4 : fs.lookup f = some v) (h : Q v H) : oFld K f (.ref a) H Q := ⟨a, C, dx, fs, v, rfl, h1, h2, h3, h4, h⟩
def oBl (x : V) (H : Hp) (Q : Bool → Hp → Prop) : Prop := ∃ k, x = .bl k ∧ Q k H
theorem z_test {t : TE} {Q : Bool → Hp → Prop} (h : t σ H fun x H' => oBl x H' Q) : tTest t σ H Q := h
theorem z_tB {t : TE} {Q : Bool → Hp → Prop} (h : t σ H fun x H' => oBl x H' Q) : tB t σ H Q := h
theorem z_bl {k : Bool} {Q : Bool → Hp → Prop} (h : Q k H) : oBl (.bl k) H Q := ⟨k, rfl, h⟩
def oTru (K : PySem.W.Frag) (x : V) (H : Hp) (Q : Bool → Hp → Prop) : Prop := ∃ k, TruV K x H k ∧ Q k H
theorem z_tru {ta : TE} {Q : Bool → Hp → Prop} (h : ta σ H fun x H' => oTru K x H' Q) : (fun (σ : L2.St) (H : Hp) (Q : Bool → Hp → Prop) => ta σ H fun x H' => ∃ k, TruV K x H' k ∧ Q k H') σ H Q := h
theorem z_truK {ta : TE} {Q : Bool → Hp → Prop} (h : ta σ H fun x H' => oTru K x H' Q) : tTruK K ta σ H Q := h
theorem z_truI {k : Bool → Prop} {x : V} (h : oTru K x H (fun b _ => k b)) : ∃ b, TruV K x H b ∧ k b := h
theorem z_notT {ta : TE} (h : ta σ H fun x H' => oTru K x H' fun k H' => Q (.bl (!k)) H') : tNotT K ta σ H Q := h
theorem z_truB {k : Bool} {Q : Bool → Hp → Prop} (h : Q k H) : oTru K (.bl k) H Q := ⟨k, rfl, h⟩
theorem z_truN {Q : Bool → Hp → Prop} (h : Q false H) : oTru K .non H Q := ⟨false, rfl, h⟩
theorem z_truZ {i : Int} {Q : Bool → Hp → Prop} (h : Q (i != 0) H) : oTru K (.int i) H Q := ⟨_, rfl, h⟩
theorem z_truS {y : Str} {Q : Bool → Hp → Prop} (hl : y.length ≤ sizeLine) (h : Q ((y.length : Int) != 0) H) : oTru K (.str y) H Q := ⟨_, ⟨hl, rfl⟩, h⟩
theorem z_truL {p : Addr} {xs : List V} {Q : Bool → Hp → Prop} (h1 : H p = some (.lst xs)) (h : Q (!xs.isEmpty) H) : oTru K (.ref p) H Q := ⟨_, .inl ⟨_, SqL.of h1, rfl⟩, h⟩
theorem z_truT {p : Addr} {xs : List V} {Q : Bool → Hp → Prop} (h1 : H p = some (.tup xs)) (h : Q (!xs.isEmpty) H) : oTru K (.ref p) H Q := ⟨_, .inr (.inl ⟨_, SqT.of h1, rfl⟩), h⟩
theorem z_truD {p : Addr} {kvs : List (Key × V)} {Q : Bool → Hp → Prop} (h1 : H p = some (.dK kvs)) (h : Q (!kvs.isEmpty) H) : oTru K (.ref p) H Q := ⟨_, .inr (.inr ⟨_, h1, rfl⟩), h⟩
theorem z_tand {t u : TT} {Q : Bool → Hp → Prop} (h : t σ H fun c H1 => if c = true then u σ H1 Q else Q false H1) : tAnd t u σ H Q := h
theorem z_tor {t u : TT} {Q : Bool → Hp → Prop} (h : t σ H fun c H1 => if c = true then Q true H1 else u σ H1 Q) : tOr t u σ H Q := h
theorem z_tnot {t : TT} {Q : Bool → Hp → Prop} (h : t σ H fun c H1 => Q (!c) H1) : tNot t σ H Q := h
theorem z_yes {Q : Bool → Hp → Prop} (h : Q true H) : tYes σ H Q := h
theorem z_andV {ta tb : TE} (h : ta σ H fun x H1 => oBl x H1 fun c H1 => if c = true then tb σ H1 Q else Q (.bl false) H1) : tAndV ta tb σ H Q := h
theorem z_orV {ta tb : TE} (h : ta σ H fun x H1 => oBl x H1 fun c H1 => if c = true then Q (.bl true) H1 else tb σ H1 Q) : tOrV ta tb σ H Q := h
theorem z_tIf {t : TT} {ta tb : TE} (h : t σ H fun c H1 => if c = true then ta σ H1 Q else tb σ H1 Q) : tIf t ta tb σ H Q := h
/-! ### operators -/
theorem z_addI {i j : Int} (h : Q (.int (i + j)) H) : rAddU K (.int i) (.int j) H Q := h
theorem z_addS {i j : Str} (hl : i.length + j.length ≤ sizeLine) (h : Q (.str (i ++ j)) H) : rAddU K (.str i) (.str j) H Q := ⟨hl, h⟩
theorem z_addL {a b : Addr} {xs zs : List V} (h1 : H a = some (.lst xs)) (h2 : H b = some (.lst zs)) (h3 : xs.length + zs.length ≤ sizeLine) (h : ∀ p H1, H p = none → Fr [] H H1 → H1 p = some (.lst (xs ++ zs)) → Q (.ref p) H1) : rAddU K (.ref a) (.ref b) H Q := Or.inl ⟨a, b, xs, zs, rfl, rfl, h1, h2, h3, z_new h⟩
theorem z_rI {C : Int → Int → Prop} {g : Int → Int → V} {i j : Int} (hc : C i j) (h : Q (g i j) H) : rI C g (.int i) (.int j) H Q := ⟨i, j, rfl, rfl, hc, h⟩
theorem z_rI0 {g : Int → Int → V} {i j : Int} (h : Q (g i j) H) : rI0 g (.int i) (.int j) H Q := ⟨i, j, rfl, rfl, h⟩
theorem z_mulI {i j : Int} (hc : CMul i j) (h : Q (.int (i * j)) H) : rMulU (.int i) (.int j) H Q := ⟨hc, h⟩
theorem z_rep {l : Addr} {xs : List V} {k : Int} (n : Nat) (h1 : H l = some (.lst xs)) (hk : k = (n : Int)) (hn : n < 2 ^ 63) (h3 : xs.length * n ≤ sizeLine) (h : ∀ p H1, H p = none → Fr [] H H1 → H1 p = some (.lst (List.replicate n xs).flatten) → Q (.ref p) H1) : rMulU (.ref l) (.int k) H Q := by
  subst hk
  exact ⟨l, n, xs, rfl, rfl, h1, by omega, by omega, by rw [Int.toNat_natCast]; exact h3, z_new (by rw [Int.toNat_natCast]; exact h)⟩
theorem z_rU {g : Int → V} {i : Int} (h : Q (g i) H) : rU g (.int i) H Q := ⟨i, rfl, h⟩
theorem z_ordI {f : Int → Int → Bool} {g : List Nat → List Nat → Bool} {i j : Int} (h : Q (.bl (f i j)) H) : rOrd f g (.int i) (.int j) H Q := h
theorem z_ordS {f : Int → Int → Bool} {g : List Nat → List Nat → Bool} {i j : Str} (h : Q (.bl (g i.cps.toList j.cps.toList)) H) : rOrd f g (.str i) (.str j) H Q := h
theorem z_eqI {i j : Int} (h : Q (.bl (decide (i = j))) H) : rEqU K id (.int i) (.int j) H Q := ⟨rfl, by show Q (.bl (decide (V.int i = V.int j))) H; rw [I_dec]; exact h⟩
theorem z_neI {i j : Int} (h : Q (.bl (!decide (i = j))) H) : rEqU K (!·) (.int i) (.int j) H Q := ⟨rfl, by show Q (.bl (!decide (V.int i = V.int j))) H; rw [I_dec]; exact h⟩
theorem S_dec (a b : Str) : decide (V.str a = V.str b) = decide (a = b) := by
  by_cases h : a = b
  · subst h; simp
  · have : ¬ V.str a = V.str b := fun z => h (V.str.inj z)
    rw [decide_eq_false this, decide_eq_false h]
theorem z_eqS {i j : Str} (h : Q (.bl (decide (i = j))) H) : rEqU K id (.str i) (.str j) H Q := ⟨rfl, by show Q (.bl (decide (V.str i = V.str j))) H; rw [S_dec]; exact h⟩
theorem z_neS {i j : Str} (h : Q (.bl (!decide (i = j))) H) : rEqU K (!·) (.str i) (.str j) H Q := ⟨rfl, by show Q (.bl (!decide (V.str i = V.str j))) H; rw [S_dec]; exact h⟩
theorem z_isNP {x : V} (h : Q (.bl ((decide (x = .non)))) H) : rIsU id x .non H Q := h
theorem z_isNQ {x : V} (h : Q (.bl (!(decide (x = .non)))) H) : rIsU (!·) x .non H Q := h
theorem z_isNiP {i : Int} (h : Q (.bl false) H) : rIsU id (.int i) .non H Q := h
theorem z_isNiN {i : Int} (h : Q (.bl true) H) : rIsU (!·) (.int i) .non H Q := h
theorem z_isNsP {i : Str} (h : Q (.bl false) H) : rIsU id (.str i) .non H Q := h
theorem z_isNsN {i : Str} (h : Q (.bl true) H) : rIsU (!·) (.str i) .non H Q := h
theorem z_isNrP {a : Addr} (h : Q (.bl false) H) : rIsU id (.ref a) .non H Q := h
theorem z_isNrN {a : Addr} (h : Q (.bl true) H) : rIsU (!·) (.ref a) .non H Q := h
theorem z_isNbP {b : Bool} (h : Q (.bl false) H) : rIsU id (.bl b) .non H Q := h
theorem z_isNbN {b : Bool} (h : Q (.bl true) H) : rIsU (!·) (.bl b) .non H Q := h
theorem z_isNnP (h : Q (.bl true) H) : rIsU id .non .non H Q := h
theorem z_isNnN (h : Q (.bl false) H) : rIsU (!·) .non .non H Q := h
theorem z_isBP {x : V} {b : Bool} (h : Q (.bl ((decide (x = .bl b)))) H) : rIsU id x (.bl b) H Q := h
theorem z_isBQ {x : V} {b : Bool} (h : Q (.bl (!(decide (x = .bl b)))) H) : rIsU (!·) x (.bl b) H Q := h
theorem z_ixL {p : Addr} {xs : List V} {i : Int} {v : V} (h1 : H p = some (.lst xs)) (h2 : atI xs i = some v) (h : Q v H) : rIxU K (.ref p) (.int i) H Q := Or.inl ⟨xs, i, v, rfl, Or.inl (SqL.of h1), h2, h⟩
theorem z_ixT {p : Addr} {xs : List V} {i : Int} {v : V} (h1 : H p = some (.tup xs)) (h2 : atI xs i = some v) (h : Q v H) : rIxU K (.ref p) (.int i) H Q := Or.inl ⟨xs, i, v, rfl, Or.inr (SqT.of h1), h2, h⟩
theorem z_ixD {p : Addr} {kvs : List (Key × V)} {n : Int} {v : V} (h1 : H p = some (.dK kvs)) (h2 : valV kvs (.inl n) = some v) (h : Q v H) : rIxU K (.ref p) (.int n) H Q := Or.inr ⟨v, by rw [← h2]; exact DGet.k (k := Sum.inl n) h1, h⟩
theorem z_ixDf {p : Addr} {kvs : List (Key × V)} {od : Obj} {n : Int} {v : V} (h1 : H p = some (.frz od (.dK kvs))) (h2 : valV kvs (.inl n) = some v) (h : Q v H) : rIxU K (.ref p) (.int n) H Q := Or.inr ⟨v, by rw [← h2]; exact .inl ⟨kvs, .inl n, .inr ⟨od, h1⟩, rfl, rfl⟩, h⟩
theorem z_ixDS {p : Addr} {kvs : List (Key × V)} {n : Str} {v : V} (h1 : H p = some (.dK kvs)) (h2 : valV kvs (.inr n) = some v) (h : Q v H) : rIxU K (.ref p) (.str n) H Q := Or.inr ⟨v, by rw [← h2]; exact DGet.k (k := Sum.inr n) h1, h⟩
theorem z_ixS {z : Str} {i : Int} {c : Nat} (h1 : z.length ≤ sizeLine) (h2 : atI z.cps.toList i = some c) (h : Q (.str ⟨#[c]⟩) H) : rIxU K (.str z) (.int i) H Q := ⟨i, c, rfl, h1, h2, h⟩
theorem z_inDIP {p : Addr} {kvs : List (Key × V)} {n : Int} (h1 : H p = some (.dK kvs)) (h : Q (.bl ((valV kvs (.inl n)).isSome)) H) : rInU K id (.int n) (.ref p) H Q := Or.inr ⟨_, DGet.k (k := Sum.inl n) h1, h⟩
theorem z_inDIN {p : Addr} {kvs : List (Key × V)} {n : Int} (h1 : H p = some (.dK kvs)) (h : Q (.bl (!(valV kvs (.inl n)).isSome)) H) : rInU K (!·) (.int n) (.ref p) H Q := Or.inr ⟨_, DGet.k (k := Sum.inl n) h1, h⟩
theorem z_inDfP {p : Addr} {kvs : List (Key × V)} {od : Obj} {n : Int} (h1 : H p = some (.frz od (.dK kvs))) (h : Q (.bl ((valV kvs (.inl n)).isSome)) H) : rInU K id (.int n) (.ref p) H Q := Or.inr ⟨_, .inl ⟨kvs, .inl n, .inr ⟨od, h1⟩, rfl, rfl⟩, h⟩
theorem z_inDfN {p : Addr} {kvs : List (Key × V)} {od : Obj} {n : Int} (h1 : H p = some (.frz od (.dK kvs))) (h : Q (.bl (!(valV kvs (.inl n)).isSome)) H) : rInU K (!·) (.int n) (.ref p) H Q := Or.inr ⟨_, .inl ⟨kvs, .inl n, .inr ⟨od, h1⟩, rfl, rfl⟩, h⟩
theorem z_inDSP {p : Addr} {kvs : List (Key × V)} {n : Str} (h1 : H p = some (.dK kvs)) (h : Q (.bl ((valV kvs (.inr n)).isSome)) H) : rInU K id (.str n) (.ref p) H Q := Or.inr ⟨_, DGet.k (k := Sum.inr n) h1, h⟩
theorem z_inDSN {p : Addr} {kvs : List (Key × V)} {n : Str} (h1 : H p = some (.dK kvs)) (h : Q (.bl (!(valV kvs (.inr n)).isSome)) H) : rInU K (!·) (.str n) (.ref p) H Q := Or.inr ⟨_, DGet.k (k := Sum.inr n) h1, h⟩
theorem z_inLP {p : Addr} {xs : List V} {x : V} (h1 : H p = some (.lst xs)) (h2 : flatV x = true) (h3 : xs.all flatV = true) (h : Q (.bl ((inV x xs))) H) : rInU K id x (.ref p) H Q := Or.inl ⟨xs, Or.inl (SqL.of h1), h2, h3, h⟩
theorem z_inLN {p : Addr} {xs : List V} {x : V} (h1 : H p = some (.lst xs)) (h2 : flatV x = true) (h3 : xs.all flatV = true) (h : Q (.bl (!(inV x xs))) H) : rInU K (!·) x (.ref p) H Q := Or.inl ⟨xs, Or.inl (SqL.of h1), h2, h3, h⟩
theorem z_inTP {p : Addr} {xs : List V} {x : V} (h1 : H p = some (.tup xs)) (h2 : flatV x = true) (h3 : xs.all flatV = true) (h : Q (.bl ((inV x xs))) H) : rInU K id x (.ref p) H Q := Or.inl ⟨xs, Or.inr (SqT.of h1), h2, h3, h⟩
theorem z_inTN {p : Addr} {xs : List V} {x : V} (h1 : H p = some (.tup xs)) (h2 : flatV x = true) (h3 : xs.all flatV = true) (h : Q (.bl (!(inV x xs))) H) : rInU K (!·) x (.ref p) H Q := Or.inl ⟨xs, Or.inr (SqT.of h1), h2, h3, h⟩
def tSlO := @tSl
theorem z_sl {r : V → Option Int → Option Int → Hp → VK → Prop} {te : TE} {tl th : TO} (h : te σ H fun x H1 => tl σ H1 fun l H2 => th σ H2 fun u H3 => r x l u H3 Q) : tSl r te tl th σ H Q := h
theorem z_nopart {Q : Option Int → Hp → Prop} (h : Q none H) : tNoPart σ H Q := h
def oPart (x : V) (H : Hp) (Q : Option Int → Hp → Prop) : Prop := ∃ i, x = .int i ∧ Q (some i) H
theorem z_part {t : TE} {Q : Option Int → Hp → Prop} (h : t σ H fun x H1 => oPart x H1 Q) : tPart t σ H Q := h
theorem z_part1 {i : Int} {Q : Option Int → Hp → Prop} (h : Q (some i) H) : oPart (.int i) H Q := ⟨i, rfl, h⟩
theorem z_slS {z : Str} {lo hi : Option Int} (h1 : z.length ≤ sizeLine) (h : Q (.str (cutS z lo hi)) H) : rSlU K (.str z) lo hi H Q := ⟨h1, h⟩
theorem z_slL {a : Addr} {xs : List V} {lo hi : Option Int} (h1 : H a = some (.lst xs)) (h : ∀ p H1, H p = none → Fr [] H H1 → H1 p = some (.lst (cutV xs lo hi)) → Q (.ref p) H1) : rSlU K (.ref a) lo hi H Q := Or.inl ⟨a, xs, rfl, SqL.of h1, z_new h⟩
/-! ### builtins -/
theorem z_lenS {z : Str} (h1 : z.length ≤ sizeLine) (h : Q (.int z.length) H) : rLenU K [.str z] H Q := ⟨h1, h⟩
theorem z_lenL {p : Addr} {ys : List V} (h1 : H p = some (.lst ys)) (h : Q (.int ys.length) H) : rLenU K [.ref p] H Q := Or.inl ⟨ys, Or.inl (SqL.of h1), h⟩
theorem z_lenT {p : Addr} {ys : List V} (h1 : H p = some (.tup ys)) (h : Q (.int ys.length) H) : rLenU K [.ref p] H Q := Or.inl ⟨ys, Or.inr (SqT.of h1), h⟩
theorem z_lenD {p : Addr} {kvs : List (Key × V)} (h1 : H p = some (.dK kvs)) (h : Q (.int kvs.length) H) : rLenU K [.ref p] H Q := Or.inr ⟨kvs, h1, h⟩
theorem z_intI {i : Int} (h : Q (.int i) H) : rIntU [.int i] H Q := h
theorem z_intB {k : Bool} (h : Q (.int (if k then 1 else 0)) H) : rIntU [.bl k] H Q := h
theorem z_isi {x c : V} {t u : Value} {b : Bool} (h1 : ClsV c u) (h2 : TyX K H x t) (h3 : PySem.W.kitOne K t u = some b) (h : Q (.bl b) H) : rIsi K [x, c] H Q := ⟨x, c, t, u, b, rfl, h1, h2, h3, h⟩
theorem z_isi_int_int {i : Int} (h : Q (.bl true) H) : rIsi K [.int i, .ty "int"] H Q := z_isi (ClsV.ty _) (TyX.base (TyOf.int _)) kt_int_int h
theorem z_isi_int_bool {i : Int} (h : Q (.bl false) H) : rIsi K [.int i, .ty "bool"] H Q := z_isi (ClsV.ty _) (TyX.base (TyOf.int _)) kt_int_bool h
theorem z_isi_int_str {i : Int} (h : Q (.bl false) H) : rIsi K [.int i, .ty "str"] H Q := z_isi (ClsV.ty _) (TyX.base (TyOf.int _)) kt_int_str h
theorem z_isi_int_list {i : Int} (h : Q (.bl false) H) : rIsi K [.int i, .ty "list"] H Q := z_isi (ClsV.ty _) (TyX.base (TyOf.int _)) kt_int_list h
theorem z_isi_int_tuple {i : Int} (h : Q (.bl false) H) : rIsi K [.int i, .ty "tuple"] H Q := z_isi (ClsV.ty _) (TyX.base (TyOf.int _)) kt_int_tuple h
theorem z_isi_int_dict {i : Int} (h : Q (.bl false) H) : rIsi K [.int i, .ty "dict"] H Q := z_isi (ClsV.ty _) (TyX.base (TyOf.int _)) kt_int_dict h
theorem z_isi_str_int {i : Str} (h : Q (.bl false) H) : rIsi K [.str i, .ty "int"] H Q := z_isi (ClsV.ty _) (TyX.base (TyOf.str _)) kt_str_int h
theorem z_isi_str_bool {i : Str} (h : Q (.bl false) H) : rIsi K [.str i, .ty "bool"] H Q := z_isi (ClsV.ty _) (TyX.base (TyOf.str _)) kt_str_bool h
theorem z_isi_str_str {i : Str} (h : Q (.bl true) H) : rIsi K [.str i, .ty "str"] H Q := z_isi (ClsV.ty _) (TyX.base (TyOf.str _)) kt_str_str h
theorem z_isi_str_list {i : Str} (h : Q (.bl false) H) : rIsi K [.str i, .ty "list"] H Q := z_isi (ClsV.ty _) (TyX.base (TyOf.str _)) kt_str_list h
theorem z_isi_str_tuple {i : Str} (h : Q (.bl false) H) : rIsi K [.str i, .ty "tuple"] H Q := z_isi (ClsV.ty _) (TyX.base (TyOf.str _)) kt_str_tuple h
theorem z_isi_str_dict {i : Str} (h : Q (.bl false) H) : rIsi K [.str i, .ty "dict"] H Q := z_isi (ClsV.ty _) (TyX.base (TyOf.str _)) kt_str_dict h
theorem z_isi_bool_int {i : Bool} (h : Q (.bl true) H) : rIsi K [.bl i, .ty "int"] H Q := z_isi (ClsV.ty _) (TyX.base (TyOf.bl _)) kt_bool_int h
theorem z_isi_bool_bool {i : Bool} (h : Q (.bl true) H) : rIsi K [.bl i, .ty "bool"] H Q := z_isi (ClsV.ty _) (TyX.base (TyOf.bl _)) kt_bool_bool h
theorem z_isi_bool_str {i : Bool} (h : Q (.bl false) H) : rIsi K [.bl i, .ty "str"] H Q := z_isi (ClsV.ty _) (TyX.base (TyOf.bl _)) kt_bool_str h
theorem z_isi_bool_list {i : Bool} (h : Q (.bl false) H) : rIsi K [.bl i, .ty "list"] H Q := z_isi (ClsV.ty _) (TyX.base (TyOf.bl _)) kt_bool_list h
theorem z_isi_bool_tuple {i : Bool} (h : Q (.bl false) H) : rIsi K [.bl i, .ty "tuple"] H Q := z_isi (ClsV.ty _) (TyX.base (TyOf.bl _)) kt_bool_tuple h
theorem z_isi_bool_dict {i : Bool} (h : Q (.bl false) H) : rIsi K [.bl i, .ty "dict"] H Q := z_isi (ClsV.ty _) (TyX.base (TyOf.bl _)) kt_bool_dict h
theorem z_isi_NoneType_int  (h : Q (.bl false) H) : rIsi K [.non, .ty "int"] H Q := z_isi (ClsV.ty _) (TyX.base (TyOf.non)) kt_NoneType_int h
theorem z_isi_NoneType_bool  (h : Q (.bl false) H) : rIsi K [.non, .ty "bool"] H Q := z_isi (ClsV.ty _) (TyX.base (TyOf.non)) kt_NoneType_bool h
theorem z_isi_NoneType_str  (h : Q (.bl false) H) : rIsi K [.non, .ty "str"] H Q := z_isi (ClsV.ty _) (TyX.base (TyOf.non)) kt_NoneType_str h
theorem z_isi_NoneType_list  (h : Q (.bl false) H) : rIsi K [.non, .ty "list"] H Q := z_isi (ClsV.ty _) (TyX.base (TyOf.non)) kt_NoneType_list h
theorem z_isi_NoneType_tuple  (h : Q (.bl false) H) : rIsi K [.non, .ty "tuple"] H Q := z_isi (ClsV.ty _) (TyX.base (TyOf.non)) kt_NoneType_tuple h
theorem z_isi_NoneType_dict  (h : Q (.bl false) H) : rIsi K [.non, .ty "dict"] H Q := z_isi (ClsV.ty _) (TyX.base (TyOf.non)) kt_NoneType_dict h
theorem z_isi0 {a : Addr} {c : V} {t u : Value} {b : Bool} (h1 : ClsV c u) (h2 : TyX K H (.ref a) t) (h3 : PySem.W.kitOne K t u = some b) (h : Q (.bl b) H) : rIsi K [.ref a, c] H Q := z_isi h1 h2 h3 h
theorem z_listL {p : Addr} {ys : List V} (h1 : H p = some (.lst ys)) (h : ∀ l H1, H l = none → Fr [] H H1 → H1 l = some (.lst ys) → Q (.ref l) H1) : rListU K [V.ref p] H Q := ⟨p, ys, rfl, Or.inl (SqL.of h1), z_new h⟩
/-! ### methods of lists -/
def oBM (K : PySem.W.Frag) (T : String) (x : V) (R : Hp → Prop) (H : Hp) : Prop := tyV K T x H ∧ R H
theorem z_bm0 {T : String} {r : V → List V → Hp → VK → Prop} {to : TE} (h : to σ H fun x H1 => oBM K T x (fun H1 => r x [] H1 Q) H1) : tBM0 K T r to σ H Q := h
theorem z_bm {T : String} {r : V → List V → Hp → VK → Prop} {to : TE} {t : TA} (h : to σ H fun x H1 => oBM K T x (fun H1 => t σ H1 fun xs H2 => r x xs H2 Q) H1) : tBM K T r to t σ H Q := h
theorem z_bmL {p : Addr} {xs : List V} {R : Hp → Prop} (h1 : H p = some (.lst xs)) (h : R H) : oBM K "list" (.ref p) R H := ⟨Or.inl ⟨rfl, xs, SqL.of h1⟩, h⟩
theorem z_bmS {z : Str} {R : Hp → Prop} (h : R H) : oBM K "str" (.str z) R H := ⟨rfl, h⟩
theorem z_append {l : Addr} {xs : List V} {y : V} (h1 : H l = some (.lst xs)) (h2 : xs.length < sizeLine) (h : ∀ H1, Fr [l] H H1 → H1 l = some (.lst (xs ++ [y])) → (∀ b, H b = none → H1 b = none) → Q .non H1) : rAppend (.ref l) [y] H Q := ⟨l, xs, y, rfl, rfl, h1, h2, h _ (Fr.at (by simp)) upd_same (upd_free h1)⟩
theorem z_extend {l b : Addr} {xs zs : List V} (h1 : H l = some (.lst xs)) (h2 : H b = some (.lst zs)) (h3 : xs.length + zs.length ≤ sizeLine) (h : ∀ H1, Fr [l] H H1 → H1 l = some (.lst (xs ++ zs)) → (∀ b, H b = none → H1 b = none) → Q .non H1) : rExtend (.ref l) [.ref b] H Q := ⟨l, b, xs, zs, rfl, rfl, h1, h2, h3, h _ (Fr.at (by simp)) upd_same (upd_free h1)⟩
theorem z_pop {l : Addr} {xs : List V} {y : V} (h1 : H l = some (.lst xs)) (h2 : xs[xs.length - 1]? = some y) (h : ∀ H1, Fr [l] H H1 → H1 l = some (.lst xs.dropLast) → (∀ b, H b = none → H1 b = none) → Q y H1) : rPop (.ref l) [] H Q := ⟨l, xs, y, rfl, rfl, h1, h2, h _ (Fr.at (by simp)) upd_same (upd_free h1)⟩
/-! ### the heap behind an in-place change, seen from the entry: q is new since H0 -/
theorem Fr.in {H0 H H1 : Hp} {q : Addr} (f : Fr [] H0 H) (g : Fr [q] H H1) (hq : H0 q = Option.none) : Fr [] H0 H1 := fun b o e _ => g b o (f.g0 e) (by
  have : b ≠ q := fun z => by rw [z, hq] at e; cases e
  simpa using this)
/-! ### loops' heads -/
theorem z_for {wi : TI} {g : TG} {tb : TS} (h : wi σ H fun J H1 => ∃ W : Nat → Nat → L2.St → Hp → Prop, (∃ m, W 0 m σ H1) ∧ ∀ i m σ H, W i m σ H →
  (J.stop i H ∧ D.nx σ H) ∨ (J.go i H ∧ ∃ N : L2.St → Hp → Prop, (∀ σ' H', N σ' H' → ∃ m', m' < m ∧ W (i + 1) m' σ' H') ∧ ∀ x H', J.yld i H x H' → g x σ H' fun σ2 H2 => tb { D with nx := N, ct := N, bk := D.nx } σ2 H2)) : tFor wi g tb D σ H := h
def oIter (K : PySem.W.Frag) (x : V) (H : Hp) (R : It → Hp → Prop) : Prop := ∃ a, x = .ref a ∧ (∃ xs, SqL K H a xs) ∧ R (Itl K a) H
theorem z_iList {tl : TE} {R : It → Hp → Prop} (h : tl σ H fun x H1 => oIter K x H1 R) : iList K tl σ H R := h
theorem z_iList1 {p : Addr} {xs : List V} {R : It → Hp → Prop} (h1 : H p = some (.lst xs)) (h : R (Itl K p) H) : oIter K (.ref p) H R := ⟨p, rfl, ⟨xs, SqL.of h1⟩, h⟩
def oRng1 (vs : List V) (H : Hp) (R : It → Hp → Prop) : Prop := ∃ j : Int, vs = [.int j] ∧ -(2 ^ 62) ≤ j ∧ j < 2 ^ 62 ∧ R (Itr 0 j.toNat) H
theorem z_iRng1 {ta : TA} {R : It → Hp → Prop} (h : ta σ H fun vs H1 => oRng1 vs H1 R) : iRng1 ta σ H R := h
theorem z_rng1 {j : Int} (n : Nat) {R : It → Hp → Prop} (e : j = (n : Int)) (h1 : n < 2 ^ 62) (h : R (Itr 0 n) H) : oRng1 [.int j] H R := ⟨j, rfl, by omega, by omega, by subst e; rw [Int.toNat_natCast]; exact h⟩
def oRng2 (vs : List V) (H : Hp) (R : It → Hp → Prop) : Prop := ∃ i j : Int, vs = [.int i, .int j] ∧ (-(2 ^ 62) ≤ i ∧ i < 2 ^ 62 ∧ -(2 ^ 62) ≤ j ∧ j < 2 ^ 62) ∧ R (Itr i (j - i).toNat) H
theorem z_iRng2 {ta : TA} {R : It → Hp → Prop} (h : ta σ H fun vs H1 => oRng2 vs H1 R) : iRng2 ta σ H R := h
theorem z_rng2 {i j : Int} (n : Nat) {R : It → Hp → Prop} (e : (j - i).toNat = n) (h1 : -(2 ^ 62) ≤ i ∧ i < 2 ^ 62 ∧ -(2 ^ 62) ≤ j ∧ j < 2 ^ 62) (h : R (Itr i n) H) : oRng2 [.int i, .int j] H R := ⟨i, j, rfl, h1, by rw [e]; exact h⟩
/-- a comprehension's loop -/
def oLc (J : It) (g : TG) (tt : TT) (te : TE) (vs : List Nat) (σ : L2.St) (H1 : Hp) (Q : VK) : Prop := ∀ D, H1 D = none → ∃ W : Nat → Nat → Hp → Prop, (∃ m, W 0 m (upd H1 D (.lst []))) ∧ ∀ i m H, W i m H →
  (J.stop i H ∧ Q (.ref D) H) ∨ (J.go i H ∧ ∃ N : Hp → Prop, (∀ H', N H' → ∃ m', m' < m ∧ W (i + 1) m' H') ∧ ∀ x H', J.yld i H x H' → g x (wipe σ vs) H' fun σ2 H2 => wipe σ2 vs = wipe σ vs ∧ tt σ2 H2 fun b H3 =>
    if b = true then te σ2 H3 fun y H4 => ∃ acc, H4 D = some (.lst acc) ∧ acc.length < sizeLine ∧ N (upd H4 D (.lst (acc ++ [y]))) else N H3)
theorem z_lc {wi : TI} {g : TG} {tt : TT} {te : TE} {vs : List Nat} (h : wi σ H fun J H1 => oLc J g tt te vs σ H1 Q) : tLc wi g tt te vs σ H Q := h
theorem z_iteTT {A B : Prop} (h : A) : if true = true then A else B := iteT h
theorem z_iteFF {A B : Prop} (h : B) : if false = true then A else B := iteF h
theorem z_iteNT {A B : Prop} (h : B) : if (!true) = true then A else B := h
theorem z_iteNF {A B : Prop} (h : A) : if (!false) = true then A else B := h
theorem z_iteS1 {α : Type} {v : α} {A B : Prop} (h : A) : if (some v).isSome = true then A else B := h
theorem z_iteS2 {α : Type} {v : α} {A B : Prop} (h : B) : if (!(some v).isSome) = true then A else B := h
theorem z_iteS3 {α : Type} {A B : Prop} (h : B) : if (none : Option α).isSome = true then A else B := h
theorem z_iteS4 {α : Type} {A B : Prop} (h : A) : if (!(none : Option α).isSome) = true then A else B := h
theorem z_lockAsg {te : TE} {i : Nat} (h : tLockE te σ H fun x H1 => gName i x σ H1 D.nx) : tLock (tAsg te (gName i)) D σ H := h
theorem z_sortedL {a : Addr} {ns : List Int} (h1 : H a = some (.lst (ns.map V.int))) (h : ∀ (ns' : List Int) p H1, ns'.Perm ns → ns'.Pairwise (· ≤ ·) → H p = none → Fr [] H H1 → H1 p = some (.lst (ns'.map V.int)) → Q (.ref p) H1) : rSortedU K [.ref a] H Q := ⟨a, ns, rfl, Or.inl (SqL.of h1), fun ns' p e1 e2 hp => h ns' p _ e1 e2 hp (Fr.new hp) upd_same⟩
theorem z_sortedD {a : Addr} {kvs : List (Key × V)} {ns : List Int} (h1 : H a = some (.dK kvs)) (h2 : kvs.map (·.1) = ns.map Sum.inl) (h : ∀ (ns' : List Int) p H1, ns'.Perm ns → ns'.Pairwise (· ≤ ·) → H p = none → Fr [] H H1 → H1 p = some (.lst (ns'.map V.int)) → Q (.ref p) H1) : rSortedU K [.ref a] H Q := ⟨a, ns, rfl, Or.inr ⟨kvs, Rd.of h1, h2⟩, fun ns' p e1 e2 hp => h ns' p _ e1 e2 hp (Fr.new hp) upd_same⟩
theorem z_start {N : List Str} {vs : List V} {t : TS} {σ : L2.St} (e : L2.start N vs = σ) (h : t D σ H) : t D (L2.start N vs) H := by rw [e]; exact h
theorem z_ok {A B : Prop} (a : A) (b : B) : A ∧ B := ⟨a, b⟩
theorem z_var0 {v : V} {l : L2.St} (h : Q v H) : tVar 0 (some v :: l) H Q := ⟨v, rfl, h⟩
theorem z_nm0 {y : Option V} {v : V} {l : L2.St} {Q : L2.St → Hp → Prop} (h : Q (some v :: l) H) : gName 0 v (y :: l) H Q := h
theorem z_var1 {x0 : Option V} {v : V} {l : L2.St} (h : Q v H) : tVar 1 (x0 :: some v :: l) H Q := ⟨v, rfl, h⟩
theorem z_nm1 {x0 : Option V} {y : Option V} {v : V} {l : L2.St} {Q : L2.St → Hp → Prop} (h : Q (x0 :: some v :: l) H) : gName 1 v (x0 :: y :: l) H Q := h
theorem z_var2 {x0 x1 : Option V} {v : V} {l : L2.St} (h : Q v H) : tVar 2 (x0 :: x1 :: some v :: l) H Q := ⟨v, rfl, h⟩
theorem z_nm2 {x0 x1 : Option V} {y : Option V} {v : V} {l : L2.St} {Q : L2.St → Hp → Prop} (h : Q (x0 :: x1 :: some v :: l) H) : gName 2 v (x0 :: x1 :: y :: l) H Q := h
theorem z_var3 {x0 x1 x2 : Option V} {v : V} {l : L2.St} (h : Q v H) : tVar 3 (x0 :: x1 :: x2 :: some v :: l) H Q := ⟨v, rfl, h⟩
theorem z_nm3 {x0 x1 x2 : Option V} {y : Option V} {v : V} {l : L2.St} {Q : L2.St → Hp → Prop} (h : Q (x0 :: x1 :: x2 :: some v :: l) H) : gName 3 v (x0 :: x1 :: x2 :: y :: l) H Q := h
theorem z_var4 {x0 x1 x2 x3 : Option V} {v : V} {l : L2.St} (h : Q v H) : tVar 4 (x0 :: x1 :: x2 :: x3 :: some v :: l) H Q := ⟨v, rfl, h⟩
theorem z_nm4 {x0 x1 x2 x3 : Option V} {y : Option V} {v : V} {l : L2.St} {Q : L2.St → Hp → Prop} (h : Q (x0 :: x1 :: x2 :: x3 :: some v :: l) H) : gName 4 v (x0 :: x1 :: x2 :: x3 :: y :: l) H Q := h
theorem z_var5 {x0 x1 x2 x3 x4 : Option V} {v : V} {l : L2.St} (h : Q v H) : tVar 5 (x0 :: x1 :: x2 :: x3 :: x4 :: some v :: l) H Q := ⟨v, rfl, h⟩
theorem z_nm5 {x0 x1 x2 x3 x4 : Option V} {y : Option V} {v : V} {l : L2.St} {Q : L2.St → Hp → Prop} (h : Q (x0 :: x1 :: x2 :: x3 :: x4 :: some v :: l) H) : gName 5 v (x0 :: x1 :: x2 :: x3 :: x4 :: y :: l) H Q := h
theorem z_var6 {x0 x1 x2 x3 x4 x5 : Option V} {v : V} {l : L2.St} (h : Q v H) : tVar 6 (x0 :: x1 :: x2 :: x3 :: x4 :: x5 :: some v :: l) H Q := ⟨v, rfl, h⟩
theorem z_nm6 {x0 x1 x2 x3 x4 x5 : Option V} {y : Option V} {v : V} {l : L2.St} {Q : L2.St → Hp → Prop} (h : Q (x0 :: x1 :: x2 :: x3 :: x4 :: x5 :: some v :: l) H) : gName 6 v (x0 :: x1 :: x2 :: x3 :: x4 :: x5 :: y :: l) H Q := h
theorem z_var7 {x0 x1 x2 x3 x4 x5 x6 : Option V} {v : V} {l : L2.St} (h : Q v H) : tVar 7 (x0 :: x1 :: x2 :: x3 :: x4 :: x5 :: x6 :: some v :: l) H Q := ⟨v, rfl, h⟩
theorem z_nm7 {x0 x1 x2 x3 x4 x5 x6 : Option V} {y : Option V} {v : V} {l : L2.St} {Q : L2.St → Hp → Prop} (h : Q (x0 :: x1 :: x2 :: x3 :: x4 :: x5 :: x6 :: some v :: l) H) : gName 7 v (x0 :: x1 :: x2 :: x3 :: x4 :: x5 :: x6 :: y :: l) H Q := h
theorem z_var8 {x0 x1 x2 x3 x4 x5 x6 x7 : Option V} {v : V} {l : L2.St} (h : Q v H) : tVar 8 (x0 :: x1 :: x2 :: x3 :: x4 :: x5 :: x6 :: x7 :: some v :: l) H Q := ⟨v, rfl, h⟩
theorem z_nm8 {x0 x1 x2 x3 x4 x5 x6 x7 : Option V} {y : Option V} {v : V} {l : L2.St} {Q : L2.St → Hp → Prop} (h : Q (x0 :: x1 :: x2 :: x3 :: x4 :: x5 :: x6 :: x7 :: some v :: l) H) : gName 8 v (x0 :: x1 :: x2 :: x3 :: x4 :: x5 :: x6 :: x7 :: y :: l) H Q := h
theorem z_var9 {x0 x1 x2 x3 x4 x5 x6 x7 x8 : Option V} {v : V} {l : L2.St} (h : Q v H) : tVar 9 (x0 :: x1 :: x2 :: x3 :: x4 :: x5 :: x6 :: x7 :: x8 :: some v :: l) H Q := ⟨v, rfl, h⟩
theorem z_nm9 {x0 x1 x2 x3 x4 x5 x6 x7 x8 : Option V} {y : Option V} {v : V} {l : L2.St} {Q : L2.St → Hp → Prop} (h : Q (x0 :: x1 :: x2 :: x3 :: x4 :: x5 :: x6 :: x7 :: x8 :: some v :: l) H) : gName 9 v (x0 :: x1 :: x2 :: x3 :: x4 :: x5 :: x6 :: x7 :: x8 :: y :: l) H Q := h
theorem z_var10 {x0 x1 x2 x3 x4 x5 x6 x7 x8 x9 : Option V} {v : V} {l : L2.St} (h : Q v H) : tVar 10 (x0 :: x1 :: x2 :: x3 :: x4 :: x5 :: x6 :: x7 :: x8 :: x9 :: some v :: l) H Q := ⟨v, rfl, h⟩
theorem z_nm10 {x0 x1 x2 x3 x4 x5 x6 x7 x8 x9 : Option V} {y : Option V} {v : V} {l : L2.St} {Q : L2.St → Hp → Prop} (h : Q (x0 :: x1 :: x2 :: x3 :: x4 :: x5 :: x6 :: x7 :: x8 :: x9 :: some v :: l) H) : gName 10 v (x0 :: x1 :: x2 :: x3 :: x4 :: x5 :: x6 :: x7 :: x8 :: x9 :: y :: l) H Q := h
theorem z_var11 {x0 x1 x2 x3 x4 x5 x6 x7 x8 x9 x10 : Option V} {v : V} {l : L2.St} (h : Q v H) : tVar 11 (x0 :: x1 :: x2 :: x3 :: x4 :: x5 :: x6 :: x7 :: x8 :: x9 :: x10 :: some v :: l) H Q := ⟨v, rfl, h⟩
theorem z_nm11 {x0 x1 x2 x3 x4 x5 x6 x7 x8 x9 x10 : Option V} {y : Option V} {v : V} {l : L2.St} {Q : L2.St → Hp → Prop} (h : Q (x0 :: x1 :: x2 :: x3 :: x4 :: x5 :: x6 :: x7 :: x8 :: x9 :: x10 :: some v :: l) H) : gName 11 v (x0 :: x1 :: x2 :: x3 :: x4 :: x5 :: x6 :: x7 :: x8 :: x9 :: x10 :: y :: l) H Q := h
theorem z_var12 {x0 x1 x2 x3 x4 x5 x6 x7 x8 x9 x10 x11 : Option V} {v : V} {l : L2.St} (h : Q v H) : tVar 12 (x0 :: x1 :: x2 :: x3 :: x4 :: x5 :: x6 :: x7 :: x8 :: x9 :: x10 :: x11 :: some v :: l) H Q := ⟨v, rfl, h⟩
theorem z_nm12 {x0 x1 x2 x3 x4 x5 x6 x7 x8 x9 x10 x11 : Option V} {y : Option V} {v : V} {l : L2.St} {Q : L2.St → Hp → Prop} (h : Q (x0 :: x1 :: x2 :: x3 :: x4 :: x5 :: x6 :: x7 :: x8 :: x9 :: x10 :: x11 :: some v :: l) H) : gName 12 v (x0 :: x1 :: x2 :: x3 :: x4 :: x5 :: x6 :: x7 :: x8 :: x9 :: x10 :: x11 :: y :: l) H Q := h
theorem z_var13 {x0 x1 x2 x3 x4 x5 x6 x7 x8 x9 x10 x11 x12 : Option V} {v : V} {l : L2.St} (h : Q v H) : tVar 13 (x0 :: x1 :: x2 :: x3 :: x4 :: x5 :: x6 :: x7 :: x8 :: x9 :: x10 :: x11 :: x12 :: some v :: l) H Q := ⟨v, rfl, h⟩
theorem z_nm13 {x0 x1 x2 x3 x4 x5 x6 x7 x8 x9 x10 x11 x12 : Option V} {y : Option V} {v : V} {l : L2.St} {Q : L2.St → Hp → Prop} (h : Q (x0 :: x1 :: x2 :: x3 :: x4 :: x5 :: x6 :: x7 :: x8 :: x9 :: x10 :: x11 :: x12 :: some v :: l) H) : gName 13 v (x0 :: x1 :: x2 :: x3 :: x4 :: x5 :: x6 :: x7 :: x8 :: x9 :: x10 :: x11 :: x12 :: y :: l) H Q := h
theorem z_var14 {x0 x1 x2 x3 x4 x5 x6 x7 x8 x9 x10 x11 x12 x13 : Option V} {v : V} {l : L2.St} (h : Q v H) : tVar 14 (x0 :: x1 :: x2 :: x3 :: x4 :: x5 :: x6 :: x7 :: x8 :: x9 :: x10 :: x11 :: x12 :: x13 :: some v :: l) H Q := ⟨v, rfl, h⟩
theorem z_nm14 {x0 x1 x2 x3 x4 x5 x6 x7 x8 x9 x10 x11 x12 x13 : Option V} {y : Option V} {v : V} {l : L2.St} {Q : L2.St → Hp → Prop} (h : Q (x0 :: x1 :: x2 :: x3 :: x4 :: x5 :: x6 :: x7 :: x8 :: x9 :: x10 :: x11 :: x12 :: x13 :: some v :: l) H) : gName 14 v (x0 :: x1 :: x2 :: x3 :: x4 :: x5 :: x6 :: x7 :: x8 :: x9 :: x10 :: x11 :: x12 :: x13 :: y :: l) H Q := h
theorem z_var15 {x0 x1 x2 x3 x4 x5 x6 x7 x8 x9 x10 x11 x12 x13 x14 : Option V} {v : V} {l : L2.St} (h : Q v H) : tVar 15 (x0 :: x1 :: x2 :: x3 :: x4 :: x5 :: x6 :: x7 :: x8 :: x9 :: x10 :: x11 :: x12 :: x13 :: x14 :: some v :: l) H Q := ⟨v, rfl, h⟩
theorem z_nm15 {x0 x1 x2 x3 x4 x5 x6 x7 x8 x9 x10 x11 x12 x13 x14 : Option V} {y : Option V} {v : V} {l : L2.St} {Q : L2.St → Hp → Prop} (h : Q (x0 :: x1 :: x2 :: x3 :: x4 :: x5 :: x6 :: x7 :: x8 :: x9 :: x10 :: x11 :: x12 :: x13 :: x14 :: some v :: l) H) : gName 15 v (x0 :: x1 :: x2 :: x3 :: x4 :: x5 :: x6 :: x7 :: x8 :: x9 :: x10 :: x11 :: x12 :: x13 :: x14 :: y :: l) H Q := h
theorem z_var16 {x0 x1 x2 x3 x4 x5 x6 x7 x8 x9 x10 x11 x12 x13 x14 x15 : Option V} {v : V} {l : L2.St} (h : Q v H) : tVar 16 (x0 :: x1 :: x2 :: x3 :: x4 :: x5 :: x6 :: x7 :: x8 :: x9 :: x10 :: x11 :: x12 :: x13 :: x14 :: x15 :: some v :: l) H Q := ⟨v, rfl, h⟩
theorem z_nm16 {x0 x1 x2 x3 x4 x5 x6 x7 x8 x9 x10 x11 x12 x13 x14 x15 : Option V} {y : Option V} {v : V} {l : L2.St} {Q : L2.St → Hp → Prop} (h : Q (x0 :: x1 :: x2 :: x3 :: x4 :: x5 :: x6 :: x7 :: x8 :: x9 :: x10 :: x11 :: x12 :: x13 :: x14 :: x15 :: some v :: l) H) : gName 16 v (x0 :: x1 :: x2 :: x3 :: x4 :: x5 :: x6 :: x7 :: x8 :: x9 :: x10 :: x11 :: x12 :: x13 :: x14 :: x15 :: y :: l) H Q := h
theorem z_var17 {x0 x1 x2 x3 x4 x5 x6 x7 x8 x9 x10 x11 x12 x13 x14 x15 x16 : Option V} {v : V} {l : L2.St} (h : Q v H) : tVar 17 (x0 :: x1 :: x2 :: x3 :: x4 :: x5 :: x6 :: x7 :: x8 :: x9 :: x10 :: x11 :: x12 :: x13 :: x14 :: x15 :: x16 :: some v :: l) H Q := ⟨v, rfl, h⟩
theorem z_nm17 {x0 x1 x2 x3 x4 x5 x6 x7 x8 x9 x10 x11 x12 x13 x14 x15 x16 : Option V} {y : Option V} {v : V} {l : L2.St} {Q : L2.St → Hp → Prop} (h : Q (x0 :: x1 :: x2 :: x3 :: x4 :: x5 :: x6 :: x7 :: x8 :: x9 :: x10 :: x11 :: x12 :: x13 :: x14 :: x15 :: x16 :: some v :: l) H) : gName 17 v (x0 :: x1 :: x2 :: x3 :: x4 :: x5 :: x6 :: x7 :: x8 :: x9 :: x10 :: x11 :: x12 :: x13 :: x14 :: x15 :: x16 :: y :: l) H Q := h
theorem z_var18 {x0 x1 x2 x3 x4 x5 x6 x7 x8 x9 x10 x11 x12 x13 x14 x15 x16 x17 : Option V} {v : V} {l : L2.St} (h : Q v H) : tVar 18 (x0 :: x1 :: x2 :: x3 :: x4 :: x5 :: x6 :: x7 :: x8 :: x9 :: x10 :: x11 :: x12 :: x13 :: x14 :: x15 :: x16 :: x17 :: some v :: l) H Q := ⟨v, rfl, h⟩
theorem z_nm18 {x0 x1 x2 x3 x4 x5 x6 x7 x8 x9 x10 x11 x12 x13 x14 x15 x16 x17 : Option V} {y : Option V} {v : V} {l : L2.St} {Q : L2.St → Hp → Prop} (h : Q (x0 :: x1 :: x2 :: x3 :: x4 :: x5 :: x6 :: x7 :: x8 :: x9 :: x10 :: x11 :: x12 :: x13 :: x14 :: x15 :: x16 :: x17 :: some v :: l) H) : gName 18 v (x0 :: x1 :: x2 :: x3 :: x4 :: x5 :: x6 :: x7 :: x8 :: x9 :: x10 :: x11 :: x12 :: x13 :: x14 :: x15 :: x16 :: x17 :: y :: l) H Q := h
theorem z_var19 {x0 x1 x2 x3 x4 x5 x6 x7 x8 x9 x10 x11 x12 x13 x14 x15 x16 x17 x18 : Option V} {v : V} {l : L2.St} (h : Q v H) : tVar 19 (x0 :: x1 :: x2 :: x3 :: x4 :: x5 :: x6 :: x7 :: x8 :: x9 :: x10 :: x11 :: x12 :: x13 :: x14 :: x15 :: x16 :: x17 :: x18 :: some v :: l) H Q := ⟨v, rfl, h⟩
theorem z_nm19 {x0 x1 x2 x3 x4 x5 x6 x7 x8 x9 x10 x11 x12 x13 x14 x15 x16 x17 x18 : Option V} {y : Option V} {v : V} {l : L2.St} {Q : L2.St → Hp → Prop} (h : Q (x0 :: x1 :: x2 :: x3 :: x4 :: x5 :: x6 :: x7 :: x8 :: x9 :: x10 :: x11 :: x12 :: x13 :: x14 :: x15 :: x16 :: x17 :: x18 :: some v :: l) H) : gName 19 v (x0 :: x1 :: x2 :: x3 :: x4 :: x5 :: x6 :: x7 :: x8 :: x9 :: x10 :: x11 :: x12 :: x13 :: x14 :: x15 :: x16 :: x17 :: x18 :: y :: l) H Q := h
theorem z_var20 {x0 x1 x2 x3 x4 x5 x6 x7 x8 x9 x10 x11 x12 x13 x14 x15 x16 x17 x18 x19 : Option V} {v : V} {l : L2.St} (h : Q v H) : tVar 20 (x0 :: x1 :: x2 :: x3 :: x4 :: x5 :: x6 :: x7 :: x8 :: x9 :: x10 :: x11 :: x12 :: x13 :: x14 :: x15 :: x16 :: x17 :: x18 :: x19 :: some v :: l) H Q := ⟨v, rfl, h⟩
theorem z_nm20 {x0 x1 x2 x3 x4 x5 x6 x7 x8 x9 x10 x11 x12 x13 x14 x15 x16 x17 x18 x19 : Option V} {y : Option V} {v : V} {l : L2.St} {Q : L2.St → Hp → Prop} (h : Q (x0 :: x1 :: x2 :: x3 :: x4 :: x5 :: x6 :: x7 :: x8 :: x9 :: x10 :: x11 :: x12 :: x13 :: x14 :: x15 :: x16 :: x17 :: x18 :: x19 :: some v :: l) H) : gName 20 v (x0 :: x1 :: x2 :: x3 :: x4 :: x5 :: x6 :: x7 :: x8 :: x9 :: x10 :: x11 :: x12 :: x13 :: x14 :: x15 :: x16 :: x17 :: x18 :: x19 :: y :: l) H Q := h
theorem z_var21 {x0 x1 x2 x3 x4 x5 x6 x7 x8 x9 x10 x11 x12 x13 x14 x15 x16 x17 x18 x19 x20 : Option V} {v : V} {l : L2.St} (h : Q v H) : tVar 21 (x0 :: x1 :: x2 :: x3 :: x4 :: x5 :: x6 :: x7 :: x8 :: x9 :: x10 :: x11 :: x12 :: x13 :: x14 :: x15 :: x16 :: x17 :: x18 :: x19 :: x20 :: some v :: l) H Q := ⟨v, rfl, h⟩
theorem z_nm21 {x0 x1 x2 x3 x4 x5 x6 x7 x8 x9 x10 x11 x12 x13 x14 x15 x16 x17 x18 x19 x20 : Option V} {y : Option V} {v : V} {l : L2.St} {Q : L2.St → Hp → Prop} (h : Q (x0 :: x1 :: x2 :: x3 :: x4 :: x5 :: x6 :: x7 :: x8 :: x9 :: x10 :: x11 :: x12 :: x13 :: x14 :: x15 :: x16 :: x17 :: x18 :: x19 :: x20 :: some v :: l) H) : gName 21 v (x0 :: x1 :: x2 :: x3 :: x4 :: x5 :: x6 :: x7 :: x8 :: x9 :: x10 :: x11 :: x12 :: x13 :: x14 :: x15 :: x16 :: x17 :: x18 :: x19 :: x20 :: y :: l) H Q := h
theorem z_var22 {x0 x1 x2 x3 x4 x5 x6 x7 x8 x9 x10 x11 x12 x13 x14 x15 x16 x17 x18 x19 x20 x21 : Option V} {v : V} {l : L2.St} (h : Q v H) : tVar 22 (x0 :: x1 :: x2 :: x3 :: x4 :: x5 :: x6 :: x7 :: x8 :: x9 :: x10 :: x11 :: x12 :: x13 :: x14 :: x15 :: x16 :: x17 :: x18 :: x19 :: x20 :: x21 :: some v :: l) H Q := ⟨v, rfl, h⟩
theorem z_nm22 {x0 x1 x2 x3 x4 x5 x6 x7 x8 x9 x10 x11 x12 x13 x14 x15 x16 x17 x18 x19 x20 x21 : Option V} {y : Option V} {v : V} {l : L2.St} {Q : L2.St → Hp → Prop} (h : Q (x0 :: x1 :: x2 :: x3 :: x4 :: x5 :: x6 :: x7 :: x8 :: x9 :: x10 :: x11 :: x12 :: x13 :: x14 :: x15 :: x16 :: x17 :: x18 :: x19 :: x20 :: x21 :: some v :: l) H) : gName 22 v (x0 :: x1 :: x2 :: x3 :: x4 :: x5 :: x6 :: x7 :: x8 :: x9 :: x10 :: x11 :: x12 :: x13 :: x14 :: x15 :: x16 :: x17 :: x18 :: x19 :: x20 :: x21 :: y :: l) H Q := h
theorem z_var23 {x0 x1 x2 x3 x4 x5 x6 x7 x8 x9 x10 x11 x12 x13 x14 x15 x16 x17 x18 x19 x20 x21 x22 : Option V} {v : V} {l : L2.St} (h : Q v H) : tVar 23 (x0 :: x1 :: x2 :: x3 :: x4 :: x5 :: x6 :: x7 :: x8 :: x9 :: x10 :: x11 :: x12 :: x13 :: x14 :: x15 :: x16 :: x17 :: x18 :: x19 :: x20 :: x21 :: x22 :: some v :: l) H Q := ⟨v, rfl, h⟩
theorem z_nm23 {x0 x1 x2 x3 x4 x5 x6 x7 x8 x9 x10 x11 x12 x13 x14 x15 x16 x17 x18 x19 x20 x21 x22 : Option V} {y : Option V} {v : V} {l : L2.St} {Q : L2.St → Hp → Prop} (h : Q (x0 :: x1 :: x2 :: x3 :: x4 :: x5 :: x6 :: x7 :: x8 :: x9 :: x10 :: x11 :: x12 :: x13 :: x14 :: x15 :: x16 :: x17 :: x18 :: x19 :: x20 :: x21 :: x22 :: some v :: l) H) : gName 23 v (x0 :: x1 :: x2 :: x3 :: x4 :: x5 :: x6 :: x7 :: x8 :: x9 :: x10 :: x11 :: x12 :: x13 :: x14 :: x15 :: x16 :: x17 :: x18 :: x19 :: x20 :: x21 :: x22 :: y :: l) H Q := h
/-! the same as instances: the step is found by its head -/
class Stp (goal : Prop) (sub : outParam Prop) : Prop where
  h : sub → goal
instance i_z_seq {t u : TS} : Stp (tSeq t u D σ H) (t { D with nx := u D } σ H) := ⟨z_seq⟩
instance i_z_next : Stp (tNext D σ H) (D.nx σ H) := ⟨z_next⟩
instance i_z_brk : Stp (tBreak D σ H) (D.bk σ H) := ⟨z_brk⟩
instance i_z_cont : Stp (tCont D σ H) (D.ct σ H) := ⟨z_cont⟩
instance i_z_asg {te : TE} {g : TG} : Stp (tAsg te g D σ H) (te σ H fun x H1 => g x σ H1 D.nx) := ⟨z_asg⟩
instance i_z_drop {te : TE} : Stp (tDrop te D σ H) (te σ H fun _ H1 => D.nx σ H1) := ⟨z_drop⟩
instance i_z_ret {te : TE} : Stp (tRet te D σ H) (te σ H D.rt) := ⟨z_ret⟩
instance i_z_retN : Stp (tRetN D σ H) (D.rt .non H) := ⟨z_retN⟩
instance i_z_ifs {c : TT} {t u : TS} : Stp (tIfS c t u D σ H) (c σ H fun b H1 => if b = true then t D σ H1 else u D σ H1) := ⟨z_ifs⟩
instance i_z_cut {t u : TS} : Stp (Evl.tCut t u D σ H) (∃ Mid : L2.St → Hp → Prop, t { D with nx := Mid } σ H ∧ ∀ σ' H', Mid σ' H' → u D σ' H') := ⟨z_cut⟩
instance i_z_flds {ta tv : TE} {f : Str} : Stp (sFld K ta tv f D σ H) (tv σ H fun y H1 => ta σ H1 fun x H2 => oFldS K f x y (D.nx σ) H2) := ⟨z_flds⟩
instance i_z_dput {td ty tv : TE} : Stp (sDPut td ty tv D σ H) (tv σ H fun v H1 => td σ H1 fun x H2 => ty σ H2 fun y H3 => oDPut x y v (D.nx σ) H3) := ⟨z_dput⟩
instance i_z_gcons {t : TG} {u : TGs} {v : V} {r : List V} {Q : L2.St → Hp → Prop} : Stp (gCons t u (v :: r) σ H Q) (t v σ H fun σ' H' => u r σ' H' Q) := ⟨z_gcons⟩
instance i_z_gnil {Q : L2.St → Hp → Prop} : Stp (gNil [] σ H Q) (Q σ H) := ⟨z_gnil⟩
instance i_z_gsub {to ti : TE} {t : TSet} {v : V} {Q : L2.St → Hp → Prop} : Stp (gSub to ti t v σ H Q) (to σ H fun o H1 => ti σ H1 fun i H2 => t o i v H2 fun H3 => Q σ H3) := ⟨z_gsub⟩
instance i_z_c {v : V} : Stp (tC v σ H Q) (Q v H) := ⟨z_c⟩
instance i_z_op {r : R2} {ta tb : TE} : Stp (tOp r ta tb σ H Q) (ta σ H fun x H1 => tb σ H1 fun y H2 => r x y H2 Q) := ⟨z_op⟩
instance i_z_un {r : V → Hp → VK → Prop} {ta : TE} : Stp (tUn r ta σ H Q) (ta σ H fun x H1 => r x H1 Q) := ⟨z_un⟩
instance i_z_tup {t : TA} : Stp (tTup t σ H Q) (t σ H fun xs H1 => oNew (.tup xs) xs.length H1 Q) := ⟨z_tup⟩
instance i_z_lst {t : TA} : Stp (tLst t σ H Q) (t σ H fun xs H1 => oNew (.lst xs) xs.length H1 Q) := ⟨z_lst⟩
instance i_z_dnew : Stp (tDNewK σ H Q) (∀ p H1, H p = none → Fr [] H H1 → H1 p = some (.dK []) → Q (.ref p) H1) := ⟨z_dnew⟩
instance i_z_nil {Q : List V → Hp → Prop} : Stp (tNil σ H Q) (Q [] H) := ⟨z_nil⟩
instance i_z_cons {ta : TE} {tr : TA} {Q : List V → Hp → Prop} : Stp (tCons ta tr σ H Q) (ta σ H fun x H1 => tr σ H1 fun xs H2 => Q (x :: xs) H2) := ⟨z_cons⟩
instance i_z_cb {r : List V → Hp → VK → Prop} {t : TA} : Stp (tCB r t σ H Q) (t σ H fun vs H1 => r vs H1 Q) := ⟨z_cb⟩
instance i_z_call {sp : Sp} {dvs : List V} {E : XK} {t : TA} : Stp (tCall sp dvs E t σ H Q) (t σ H fun vs H1 => sp (vs ++ dvs) H1 Q E) := ⟨z_call⟩
instance i_z_meth {C : Addr} {m : Str} {sp : Sp} {dvs : List V} {E : XK} {ta : TE} {t : TA} : Stp (tMeth C m sp dvs E ta t σ H Q) (ta σ H fun x H1 => oMeth C m x (fun H1 => t σ H1 fun vs H2 => sp (x :: (vs ++ dvs)) H2 Q E) H1) := ⟨z_meth⟩
instance i_z_make {C : Addr} {sp : Sp} {dvs : List V} {E : XK} {t : TA} : Stp (tMake C sp dvs E t σ H Q) (t σ H fun vs H1 => ∀ x dx, H1 x = none → H1 dx = none → dx ≠ x → sp (.ref x :: (vs ++ dvs)) (upd (upd H1 dx (.own x)) x (.ins C dx [])) (fun v H2 => v = .non ∧ Q (.ref x) H2) E) := ⟨z_make⟩
instance i_z_fld {ta : TE} {f : Str} : Stp (tFld K ta f σ H Q) (ta σ H fun x H1 => oFld K f x H1 Q) := ⟨z_fld⟩
instance i_z_test {t : TE} {Q : Bool → Hp → Prop} : Stp (tTest t σ H Q) (t σ H fun x H' => oBl x H' Q) := ⟨z_test⟩
instance i_z_tB {t : TE} {Q : Bool → Hp → Prop} : Stp (tB t σ H Q) (t σ H fun x H' => oBl x H' Q) := ⟨z_tB⟩
instance i_z_bl {k : Bool} {Q : Bool → Hp → Prop} : Stp (oBl (.bl k) H Q) (Q k H) := ⟨z_bl⟩
instance i_z_truK {ta : TE} {Q : Bool → Hp → Prop} : Stp (tTruK K ta σ H Q) (ta σ H fun x H' => oTru K x H' Q) := ⟨z_truK⟩
instance i_z_truI {k : Bool → Prop} {x : V} : Stp (∃ b, TruV K x H b ∧ k b) (oTru K x H (fun b _ => k b)) := ⟨z_truI⟩
instance i_z_notT {ta : TE} : Stp (tNotT K ta σ H Q) (ta σ H fun x H' => oTru K x H' fun k H' => Q (.bl (!k)) H') := ⟨z_notT⟩
instance i_z_truB {k : Bool} {Q : Bool → Hp → Prop} : Stp (oTru K (.bl k) H Q) (Q k H) := ⟨z_truB⟩
instance i_z_truN {Q : Bool → Hp → Prop} : Stp (oTru K .non H Q) (Q false H) := ⟨z_truN⟩
instance i_z_truZ {i : Int} {Q : Bool → Hp → Prop} : Stp (oTru K (.int i) H Q) (Q (i != 0) H) := ⟨z_truZ⟩
instance i_z_tand {t u : TT} {Q : Bool → Hp → Prop} : Stp (tAnd t u σ H Q) (t σ H fun c H1 => if c = true then u σ H1 Q else Q false H1) := ⟨z_tand⟩
instance i_z_tor {t u : TT} {Q : Bool → Hp → Prop} : Stp (tOr t u σ H Q) (t σ H fun c H1 => if c = true then Q true H1 else u σ H1 Q) := ⟨z_tor⟩
instance i_z_tnot {t : TT} {Q : Bool → Hp → Prop} : Stp (tNot t σ H Q) (t σ H fun c H1 => Q (!c) H1) := ⟨z_tnot⟩
instance i_z_yes {Q : Bool → Hp → Prop} : Stp (tYes σ H Q) (Q true H) := ⟨z_yes⟩
instance i_z_andV {ta tb : TE} : Stp (tAndV ta tb σ H Q) (ta σ H fun x H1 => oBl x H1 fun c H1 => if c = true then tb σ H1 Q else Q (.bl false) H1) := ⟨z_andV⟩
instance i_z_orV {ta tb : TE} : Stp (tOrV ta tb σ H Q) (ta σ H fun x H1 => oBl x H1 fun c H1 => if c = true then Q (.bl true) H1 else tb σ H1 Q) := ⟨z_orV⟩
instance i_z_tIf {t : TT} {ta tb : TE} : Stp (tIf t ta tb σ H Q) (t σ H fun c H1 => if c = true then ta σ H1 Q else tb σ H1 Q) := ⟨z_tIf⟩
instance i_z_addI {i j : Int} : Stp (rAddU K (.int i) (.int j) H Q) (Q (.int (i + j)) H) := ⟨z_addI⟩
instance i_z_rI0 {g : Int → Int → V} {i j : Int} : Stp (rI0 g (.int i) (.int j) H Q) (Q (g i j) H) := ⟨z_rI0⟩
instance i_z_rU {g : Int → V} {i : Int} : Stp (rU g (.int i) H Q) (Q (g i) H) := ⟨z_rU⟩
instance i_z_ordI {f : Int → Int → Bool} {g : List Nat → List Nat → Bool} {i j : Int} : Stp (rOrd f g (.int i) (.int j) H Q) (Q (.bl (f i j)) H) := ⟨z_ordI⟩
instance i_z_ordS {f : Int → Int → Bool} {g : List Nat → List Nat → Bool} {i j : Str} : Stp (rOrd f g (.str i) (.str j) H Q) (Q (.bl (g i.cps.toList j.cps.toList)) H) := ⟨z_ordS⟩
instance i_z_eqI {i j : Int} : Stp (rEqU K id (.int i) (.int j) H Q) (Q (.bl (decide (i = j))) H) := ⟨z_eqI⟩
instance i_z_neI {i j : Int} : Stp (rEqU K (!·) (.int i) (.int j) H Q) (Q (.bl (!decide (i = j))) H) := ⟨z_neI⟩
instance i_z_eqS {i j : Str} : Stp (rEqU K id (.str i) (.str j) H Q) (Q (.bl (decide (i = j))) H) := ⟨z_eqS⟩
instance i_z_neS {i j : Str} : Stp (rEqU K (!·) (.str i) (.str j) H Q) (Q (.bl (!decide (i = j))) H) := ⟨z_neS⟩
instance i_z_isNP {x : V} : Stp (rIsU id x .non H Q) (Q (.bl ((decide (x = .non)))) H) := ⟨z_isNP⟩
instance i_z_isNQ {x : V} : Stp (rIsU (!·) x .non H Q) (Q (.bl (!(decide (x = .non)))) H) := ⟨z_isNQ⟩
instance i_z_isNiP {i : Int} : Stp (rIsU id (.int i) .non H Q) (Q (.bl false) H) := ⟨z_isNiP⟩
instance i_z_isNiN {i : Int} : Stp (rIsU (!·) (.int i) .non H Q) (Q (.bl true) H) := ⟨z_isNiN⟩
instance i_z_isNsP {i : Str} : Stp (rIsU id (.str i) .non H Q) (Q (.bl false) H) := ⟨z_isNsP⟩
instance i_z_isNsN {i : Str} : Stp (rIsU (!·) (.str i) .non H Q) (Q (.bl true) H) := ⟨z_isNsN⟩
instance i_z_isNrP {a : Addr} : Stp (rIsU id (.ref a) .non H Q) (Q (.bl false) H) := ⟨z_isNrP⟩
instance i_z_isNrN {a : Addr} : Stp (rIsU (!·) (.ref a) .non H Q) (Q (.bl true) H) := ⟨z_isNrN⟩
instance i_z_isNbP {b : Bool} : Stp (rIsU id (.bl b) .non H Q) (Q (.bl false) H) := ⟨z_isNbP⟩
instance i_z_isNbN {b : Bool} : Stp (rIsU (!·) (.bl b) .non H Q) (Q (.bl true) H) := ⟨z_isNbN⟩
instance i_z_isNnP : Stp (rIsU id .non .non H Q) (Q (.bl true) H) := ⟨z_isNnP⟩
instance i_z_isNnN : Stp (rIsU (!·) .non .non H Q) (Q (.bl false) H) := ⟨z_isNnN⟩
instance i_z_isBP {x : V} {b : Bool} : Stp (rIsU id x (.bl b) H Q) (Q (.bl ((decide (x = .bl b)))) H) := ⟨z_isBP⟩
instance i_z_isBQ {x : V} {b : Bool} : Stp (rIsU (!·) x (.bl b) H Q) (Q (.bl (!(decide (x = .bl b)))) H) := ⟨z_isBQ⟩
instance i_z_sl {r : V → Option Int → Option Int → Hp → VK → Prop} {te : TE} {tl th : TO} : Stp (tSl r te tl th σ H Q) (te σ H fun x H1 => tl σ H1 fun l H2 => th σ H2 fun u H3 => r x l u H3 Q) := ⟨z_sl⟩
instance i_z_nopart {Q : Option Int → Hp → Prop} : Stp (tNoPart σ H Q) (Q none H) := ⟨z_nopart⟩
instance i_z_part {t : TE} {Q : Option Int → Hp → Prop} : Stp (tPart t σ H Q) (t σ H fun x H1 => oPart x H1 Q) := ⟨z_part⟩
instance i_z_part1 {i : Int} {Q : Option Int → Hp → Prop} : Stp (oPart (.int i) H Q) (Q (some i) H) := ⟨z_part1⟩
instance i_z_intI {i : Int} : Stp (rIntU [.int i] H Q) (Q (.int i) H) := ⟨z_intI⟩
instance i_z_intB {k : Bool} : Stp (rIntU [.bl k] H Q) (Q (.int (if k then 1 else 0)) H) := ⟨z_intB⟩
instance i_z_isi_int_int {i : Int} : Stp (rIsi K [.int i, .ty "int"] H Q) (Q (.bl true) H) := ⟨z_isi_int_int⟩
instance i_z_isi_int_bool {i : Int} : Stp (rIsi K [.int i, .ty "bool"] H Q) (Q (.bl false) H) := ⟨z_isi_int_bool⟩
instance i_z_isi_int_str {i : Int} : Stp (rIsi K [.int i, .ty "str"] H Q) (Q (.bl false) H) := ⟨z_isi_int_str⟩
instance i_z_isi_int_list {i : Int} : Stp (rIsi K [.int i, .ty "list"] H Q) (Q (.bl false) H) := ⟨z_isi_int_list⟩
instance i_z_isi_int_tuple {i : Int} : Stp (rIsi K [.int i, .ty "tuple"] H Q) (Q (.bl false) H) := ⟨z_isi_int_tuple⟩
instance i_z_isi_int_dict {i : Int} : Stp (rIsi K [.int i, .ty "dict"] H Q) (Q (.bl false) H) := ⟨z_isi_int_dict⟩
instance i_z_isi_str_int {i : Str} : Stp (rIsi K [.str i, .ty "int"] H Q) (Q (.bl false) H) := ⟨z_isi_str_int⟩
instance i_z_isi_str_bool {i : Str} : Stp (rIsi K [.str i, .ty "bool"] H Q) (Q (.bl false) H) := ⟨z_isi_str_bool⟩
instance i_z_isi_str_str {i : Str} : Stp (rIsi K [.str i, .ty "str"] H Q) (Q (.bl true) H) := ⟨z_isi_str_str⟩
instance i_z_isi_str_list {i : Str} : Stp (rIsi K [.str i, .ty "list"] H Q) (Q (.bl false) H) := ⟨z_isi_str_list⟩
instance i_z_isi_str_tuple {i : Str} : Stp (rIsi K [.str i, .ty "tuple"] H Q) (Q (.bl false) H) := ⟨z_isi_str_tuple⟩
instance i_z_isi_str_dict {i : Str} : Stp (rIsi K [.str i, .ty "dict"] H Q) (Q (.bl false) H) := ⟨z_isi_str_dict⟩
instance i_z_isi_bool_int {i : Bool} : Stp (rIsi K [.bl i, .ty "int"] H Q) (Q (.bl true) H) := ⟨z_isi_bool_int⟩
instance i_z_isi_bool_bool {i : Bool} : Stp (rIsi K [.bl i, .ty "bool"] H Q) (Q (.bl true) H) := ⟨z_isi_bool_bool⟩
instance i_z_isi_bool_str {i : Bool} : Stp (rIsi K [.bl i, .ty "str"] H Q) (Q (.bl false) H) := ⟨z_isi_bool_str⟩
instance i_z_isi_bool_list {i : Bool} : Stp (rIsi K [.bl i, .ty "list"] H Q) (Q (.bl false) H) := ⟨z_isi_bool_list⟩
instance i_z_isi_bool_tuple {i : Bool} : Stp (rIsi K [.bl i, .ty "tuple"] H Q) (Q (.bl false) H) := ⟨z_isi_bool_tuple⟩
instance i_z_isi_bool_dict {i : Bool} : Stp (rIsi K [.bl i, .ty "dict"] H Q) (Q (.bl false) H) := ⟨z_isi_bool_dict⟩
instance i_z_bm0 {T : String} {r : V → List V → Hp → VK → Prop} {to : TE} : Stp (tBM0 K T r to σ H Q) (to σ H fun x H1 => oBM K T x (fun H1 => r x [] H1 Q) H1) := ⟨z_bm0⟩
instance i_z_bm {T : String} {r : V → List V → Hp → VK → Prop} {to : TE} {t : TA} : Stp (tBM K T r to t σ H Q) (to σ H fun x H1 => oBM K T x (fun H1 => t σ H1 fun xs H2 => r x xs H2 Q) H1) := ⟨z_bm⟩
instance i_z_bmS {z : Str} {R : Hp → Prop} : Stp (oBM K "str" (.str z) R H) (R H) := ⟨z_bmS⟩
instance i_z_for {wi : TI} {g : TG} {tb : TS} : Stp (tFor wi g tb D σ H) (wi σ H fun J H1 => ∃ W : Nat → Nat → L2.St → Hp → Prop, (∃ m, W 0 m σ H1) ∧ ∀ i m σ H, W i m σ H → (J.stop i H ∧ D.nx σ H) ∨ (J.go i H ∧ ∃ N : L2.St → Hp → Prop, (∀ σ' H', N σ' H' → ∃ m', m' < m ∧ W (i + 1) m' σ' H') ∧ ∀ x H', J.yld i H x H' → g x σ H' fun σ2 H2 => tb { D with nx := N, ct := N, bk := D.nx } σ2 H2)) := ⟨z_for⟩
instance i_z_iList {tl : TE} {R : It → Hp → Prop} : Stp (iList K tl σ H R) (tl σ H fun x H1 => oIter K x H1 R) := ⟨z_iList⟩
instance i_z_iRng1 {ta : TA} {R : It → Hp → Prop} : Stp (iRng1 ta σ H R) (ta σ H fun vs H1 => oRng1 vs H1 R) := ⟨z_iRng1⟩
instance i_z_iRng2 {ta : TA} {R : It → Hp → Prop} : Stp (iRng2 ta σ H R) (ta σ H fun vs H1 => oRng2 vs H1 R) := ⟨z_iRng2⟩
instance i_z_lc {wi : TI} {g : TG} {tt : TT} {te : TE} {vs : List Nat} : Stp (tLc wi g tt te vs σ H Q) (wi σ H fun J H1 => oLc J g tt te vs σ H1 Q) := ⟨z_lc⟩
instance i_z_iteTT {A B : Prop} : Stp (if true = true then A else B) (A) := ⟨z_iteTT⟩
instance i_z_iteFF {A B : Prop} : Stp (if false = true then A else B) (B) := ⟨z_iteFF⟩
instance i_z_iteNT {A B : Prop} : Stp (if (!true) = true then A else B) (B) := ⟨z_iteNT⟩
instance i_z_iteNF {A B : Prop} : Stp (if (!false) = true then A else B) (A) := ⟨z_iteNF⟩
instance i_z_iteS1 {α : Type} {v : α} {A B : Prop} : Stp (if (some v).isSome = true then A else B) (A) := ⟨z_iteS1⟩
instance i_z_iteS2 {α : Type} {v : α} {A B : Prop} : Stp (if (!(some v).isSome) = true then A else B) (B) := ⟨z_iteS2⟩
instance i_z_iteS3 {α : Type} {A B : Prop} : Stp (if (none : Option α).isSome = true then A else B) (B) := ⟨z_iteS3⟩
instance i_z_iteS4 {α : Type} {A B : Prop} : Stp (if (!(none : Option α).isSome) = true then A else B) (A) := ⟨z_iteS4⟩
instance i_z_lockAsg {te : TE} {i : Nat} : Stp (tLock (tAsg te (gName i)) D σ H) (tLockE te σ H fun x H1 => gName i x σ H1 D.nx) := ⟨z_lockAsg⟩
instance i_z_var0 {v : V} {l : L2.St} : Stp (tVar 0 (some v :: l) H Q) (Q v H) := ⟨z_var0⟩
instance i_z_nm0 {y : Option V} {v : V} {l : L2.St} {Q : L2.St → Hp → Prop} : Stp (gName 0 v (y :: l) H Q) (Q (some v :: l) H) := ⟨z_nm0⟩
instance i_z_var1 {x0 : Option V} {v : V} {l : L2.St} : Stp (tVar 1 (x0 :: some v :: l) H Q) (Q v H) := ⟨z_var1⟩
instance i_z_nm1 {x0 : Option V} {y : Option V} {v : V} {l : L2.St} {Q : L2.St → Hp → Prop} : Stp (gName 1 v (x0 :: y :: l) H Q) (Q (x0 :: some v :: l) H) := ⟨z_nm1⟩
instance i_z_var2 {x0 x1 : Option V} {v : V} {l : L2.St} : Stp (tVar 2 (x0 :: x1 :: some v :: l) H Q) (Q v H) := ⟨z_var2⟩
instance i_z_nm2 {x0 x1 : Option V} {y : Option V} {v : V} {l : L2.St} {Q : L2.St → Hp → Prop} : Stp (gName 2 v (x0 :: x1 :: y :: l) H Q) (Q (x0 :: x1 :: some v :: l) H) := ⟨z_nm2⟩
instance i_z_var3 {x0 x1 x2 : Option V} {v : V} {l : L2.St} : Stp (tVar 3 (x0 :: x1 :: x2 :: some v :: l) H Q) (Q v H) := ⟨z_var3⟩
instance i_z_nm3 {x0 x1 x2 : Option V} {y : Option V} {v : V} {l : L2.St} {Q : L2.St → Hp → Prop} : Stp (gName 3 v (x0 :: x1 :: x2 :: y :: l) H Q) (Q (x0 :: x1 :: x2 :: some v :: l) H) := ⟨z_nm3⟩
instance i_z_var4 {x0 x1 x2 x3 : Option V} {v : V} {l : L2.St} : Stp (tVar 4 (x0 :: x1 :: x2 :: x3 :: some v :: l) H Q) (Q v H) := ⟨z_var4⟩
instance i_z_nm4 {x0 x1 x2 x3 : Option V} {y : Option V} {v : V} {l : L2.St} {Q : L2.St → Hp → Prop} : Stp (gName 4 v (x0 :: x1 :: x2 :: x3 :: y :: l) H Q) (Q (x0 :: x1 :: x2 :: x3 :: some v :: l) H) := ⟨z_nm4⟩
instance i_z_var5 {x0 x1 x2 x3 x4 : Option V} {v : V} {l : L2.St} : Stp (tVar 5 (x0 :: x1 :: x2 :: x3 :: x4 :: some v :: l) H Q) (Q v H) := ⟨z_var5⟩
instance i_z_nm5 {x0 x1 x2 x3 x4 : Option V} {y : Option V} {v : V} {l : L2.St} {Q : L2.St → Hp → Prop} : Stp (gName 5 v (x0 :: x1 :: x2 :: x3 :: x4 :: y :: l) H Q) (Q (x0 :: x1 :: x2 :: x3 :: x4 :: some v :: l) H) := ⟨z_nm5⟩
instance i_z_var6 {x0 x1 x2 x3 x4 x5 : Option V} {v : V} {l : L2.St} : Stp (tVar 6 (x0 :: x1 :: x2 :: x3 :: x4 :: x5 :: some v :: l) H Q) (Q v H) := ⟨z_var6⟩
instance i_z_nm6 {x0 x1 x2 x3 x4 x5 : Option V} {y : Option V} {v : V} {l : L2.St} {Q : L2.St → Hp → Prop} : Stp (gName 6 v (x0 :: x1 :: x2 :: x3 :: x4 :: x5 :: y :: l) H Q) (Q (x0 :: x1 :: x2 :: x3 :: x4 :: x5 :: some v :: l) H) := ⟨z_nm6⟩
instance i_z_var7 {x0 x1 x2 x3 x4 x5 x6 : Option V} {v : V} {l : L2.St} : Stp (tVar 7 (x0 :: x1 :: x2 :: x3 :: x4 :: x5 :: x6 :: some v :: l) H Q) (Q v H) := ⟨z_var7⟩
instance i_z_nm7 {x0 x1 x2 x3 x4 x5 x6 : Option V} {y : Option V} {v : V} {l : L2.St} {Q : L2.St → Hp → Prop} : Stp (gName 7 v (x0 :: x1 :: x2 :: x3 :: x4 :: x5 :: x6 :: y :: l) H Q) (Q (x0 :: x1 :: x2 :: x3 :: x4 :: x5 :: x6 :: some v :: l) H) := ⟨z_nm7⟩
instance i_z_var8 {x0 x1 x2 x3 x4 x5 x6 x7 : Option V} {v : V} {l : L2.St} : Stp (tVar 8 (x0 :: x1 :: x2 :: x3 :: x4 :: x5 :: x6 :: x7 :: some v :: l) H Q) (Q v H) := ⟨z_var8⟩
instance i_z_nm8 {x0 x1 x2 x3 x4 x5 x6 x7 : Option V} {y : Option V} {v : V} {l : L2.St} {Q : L2.St → Hp → Prop} : Stp (gName 8 v (x0 :: x1 :: x2 :: x3 :: x4 :: x5 :: x6 :: x7 :: y :: l) H Q) (Q (x0 :: x1 :: x2 :: x3 :: x4 :: x5 :: x6 :: x7 :: some v :: l) H) := ⟨z_nm8⟩
instance i_z_var9 {x0 x1 x2 x3 x4 x5 x6 x7 x8 : Option V} {v : V} {l : L2.St} : Stp (tVar 9 (x0 :: x1 :: x2 :: x3 :: x4 :: x5 :: x6 :: x7 :: x8 :: some v :: l) H Q) (Q v H) := ⟨z_var9⟩
instance i_z_nm9 {x0 x1 x2 x3 x4 x5 x6 x7 x8 : Option V} {y : Option V} {v : V} {l : L2.St} {Q : L2.St → Hp → Prop} : Stp (gName 9 v (x0 :: x1 :: x2 :: x3 :: x4 :: x5 :: x6 :: x7 :: x8 :: y :: l) H Q) (Q (x0 :: x1 :: x2 :: x3 :: x4 :: x5 :: x6 :: x7 :: x8 :: some v :: l) H) := ⟨z_nm9⟩
instance i_z_var10 {x0 x1 x2 x3 x4 x5 x6 x7 x8 x9 : Option V} {v : V} {l : L2.St} : Stp (tVar 10 (x0 :: x1 :: x2 :: x3 :: x4 :: x5 :: x6 :: x7 :: x8 :: x9 :: some v :: l) H Q) (Q v H) := ⟨z_var10⟩
instance i_z_nm10 {x0 x1 x2 x3 x4 x5 x6 x7 x8 x9 : Option V} {y : Option V} {v : V} {l : L2.St} {Q : L2.St → Hp → Prop} : Stp (gName 10 v (x0 :: x1 :: x2 :: x3 :: x4 :: x5 :: x6 :: x7 :: x8 :: x9 :: y :: l) H Q) (Q (x0 :: x1 :: x2 :: x3 :: x4 :: x5 :: x6 :: x7 :: x8 :: x9 :: some v :: l) H) := ⟨z_nm10⟩
instance i_z_var11 {x0 x1 x2 x3 x4 x5 x6 x7 x8 x9 x10 : Option V} {v : V} {l : L2.St} : Stp (tVar 11 (x0 :: x1 :: x2 :: x3 :: x4 :: x5 :: x6 :: x7 :: x8 :: x9 :: x10 :: some v :: l) H Q) (Q v H) := ⟨z_var11⟩
instance i_z_nm11 {x0 x1 x2 x3 x4 x5 x6 x7 x8 x9 x10 : Option V} {y : Option V} {v : V} {l : L2.St} {Q : L2.St → Hp → Prop} : Stp (gName 11 v (x0 :: x1 :: x2 :: x3 :: x4 :: x5 :: x6 :: x7 :: x8 :: x9 :: x10 :: y :: l) H Q) (Q (x0 :: x1 :: x2 :: x3 :: x4 :: x5 :: x6 :: x7 :: x8 :: x9 :: x10 :: some v :: l) H) := ⟨z_nm11⟩
instance i_z_var12 {x0 x1 x2 x3 x4 x5 x6 x7 x8 x9 x10 x11 : Option V} {v : V} {l : L2.St} : Stp (tVar 12 (x0 :: x1 :: x2 :: x3 :: x4 :: x5 :: x6 :: x7 :: x8 :: x9 :: x10 :: x11 :: some v :: l) H Q) (Q v H) := ⟨z_var12⟩
instance i_z_nm12 {x0 x1 x2 x3 x4 x5 x6 x7 x8 x9 x10 x11 : Option V} {y : Option V} {v : V} {l : L2.St} {Q : L2.St → Hp → Prop} : Stp (gName 12 v (x0 :: x1 :: x2 :: x3 :: x4 :: x5 :: x6 :: x7 :: x8 :: x9 :: x10 :: x11 :: y :: l) H Q) (Q (x0 :: x1 :: x2 :: x3 :: x4 :: x5 :: x6 :: x7 :: x8 :: x9 :: x10 :: x11 :: some v :: l) H) := ⟨z_nm12⟩
instance i_z_var13 {x0 x1 x2 x3 x4 x5 x6 x7 x8 x9 x10 x11 x12 : Option V} {v : V} {l : L2.St} : Stp (tVar 13 (x0 :: x1 :: x2 :: x3 :: x4 :: x5 :: x6 :: x7 :: x8 :: x9 :: x10 :: x11 :: x12 :: some v :: l) H Q) (Q v H) := ⟨z_var13⟩
instance i_z_nm13 {x0 x1 x2 x3 x4 x5 x6 x7 x8 x9 x10 x11 x12 : Option V} {y : Option V} {v : V} {l : L2.St} {Q : L2.St → Hp → Prop} : Stp (gName 13 v (x0 :: x1 :: x2 :: x3 :: x4 :: x5 :: x6 :: x7 :: x8 :: x9 :: x10 :: x11 :: x12 :: y :: l) H Q) (Q (x0 :: x1 :: x2 :: x3 :: x4 :: x5 :: x6 :: x7 :: x8 :: x9 :: x10 :: x11 :: x12 :: some v :: l) H) := ⟨z_nm13⟩
instance i_z_var14 {x0 x1 x2 x3 x4 x5 x6 x7 x8 x9 x10 x11 x12 x13 : Option V} {v : V} {l : L2.St} : Stp (tVar 14 (x0 :: x1 :: x2 :: x3 :: x4 :: x5 :: x6 :: x7 :: x8 :: x9 :: x10 :: x11 :: x12 :: x13 :: some v :: l) H Q) (Q v H) := ⟨z_var14⟩
instance i_z_nm14 {x0 x1 x2 x3 x4 x5 x6 x7 x8 x9 x10 x11 x12 x13 : Option V} {y : Option V} {v : V} {l : L2.St} {Q : L2.St → Hp → Prop} : Stp (gName 14 v (x0 :: x1 :: x2 :: x3 :: x4 :: x5 :: x6 :: x7 :: x8 :: x9 :: x10 :: x11 :: x12 :: x13 :: y :: l) H Q) (Q (x0 :: x1 :: x2 :: x3 :: x4 :: x5 :: x6 :: x7 :: x8 :: x9 :: x10 :: x11 :: x12 :: x13 :: some v :: l) H) := ⟨z_nm14⟩
instance i_z_var15 {x0 x1 x2 x3 x4 x5 x6 x7 x8 x9 x10 x11 x12 x13 x14 : Option V} {v : V} {l : L2.St} : Stp (tVar 15 (x0 :: x1 :: x2 :: x3 :: x4 :: x5 :: x6 :: x7 :: x8 :: x9 :: x10 :: x11 :: x12 :: x13 :: x14 :: some v :: l) H Q) (Q v H) := ⟨z_var15⟩
instance i_z_nm15 {x0 x1 x2 x3 x4 x5 x6 x7 x8 x9 x10 x11 x12 x13 x14 : Option V} {y : Option V} {v : V} {l : L2.St} {Q : L2.St → Hp → Prop} : Stp (gName 15 v (x0 :: x1 :: x2 :: x3 :: x4 :: x5 :: x6 :: x7 :: x8 :: x9 :: x10 :: x11 :: x12 :: x13 :: x14 :: y :: l) H Q) (Q (x0 :: x1 :: x2 :: x3 :: x4 :: x5 :: x6 :: x7 :: x8 :: x9 :: x10 :: x11 :: x12 :: x13 :: x14 :: some v :: l) H) := ⟨z_nm15⟩
instance i_z_var16 {x0 x1 x2 x3 x4 x5 x6 x7 x8 x9 x10 x11 x12 x13 x14 x15 : Option V} {v : V} {l : L2.St} : Stp (tVar 16 (x0 :: x1 :: x2 :: x3 :: x4 :: x5 :: x6 :: x7 :: x8 :: x9 :: x10 :: x11 :: x12 :: x13 :: x14 :: x15 :: some v :: l) H Q) (Q v H) := ⟨z_var16⟩
instance i_z_nm16 {x0 x1 x2 x3 x4 x5 x6 x7 x8 x9 x10 x11 x12 x13 x14 x15 : Option V} {y : Option V} {v : V} {l : L2.St} {Q : L2.St → Hp → Prop} : Stp (gName 16 v (x0 :: x1 :: x2 :: x3 :: x4 :: x5 :: x6 :: x7 :: x8 :: x9 :: x10 :: x11 :: x12 :: x13 :: x14 :: x15 :: y :: l) H Q) (Q (x0 :: x1 :: x2 :: x3 :: x4 :: x5 :: x6 :: x7 :: x8 :: x9 :: x10 :: x11 :: x12 :: x13 :: x14 :: x15 :: some v :: l) H) := ⟨z_nm16⟩
instance i_z_var17 {x0 x1 x2 x3 x4 x5 x6 x7 x8 x9 x10 x11 x12 x13 x14 x15 x16 : Option V} {v : V} {l : L2.St} : Stp (tVar 17 (x0 :: x1 :: x2 :: x3 :: x4 :: x5 :: x6 :: x7 :: x8 :: x9 :: x10 :: x11 :: x12 :: x13 :: x14 :: x15 :: x16 :: some v :: l) H Q) (Q v H) := ⟨z_var17⟩
instance i_z_nm17 {x0 x1 x2 x3 x4 x5 x6 x7 x8 x9 x10 x11 x12 x13 x14 x15 x16 : Option V} {y : Option V} {v : V} {l : L2.St} {Q : L2.St → Hp → Prop} : Stp (gName 17 v (x0 :: x1 :: x2 :: x3 :: x4 :: x5 :: x6 :: x7 :: x8 :: x9 :: x10 :: x11 :: x12 :: x13 :: x14 :: x15 :: x16 :: y :: l) H Q) (Q (x0 :: x1 :: x2 :: x3 :: x4 :: x5 :: x6 :: x7 :: x8 :: x9 :: x10 :: x11 :: x12 :: x13 :: x14 :: x15 :: x16 :: some v :: l) H) := ⟨z_nm17⟩
instance i_z_var18 {x0 x1 x2 x3 x4 x5 x6 x7 x8 x9 x10 x11 x12 x13 x14 x15 x16 x17 : Option V} {v : V} {l : L2.St} : Stp (tVar 18 (x0 :: x1 :: x2 :: x3 :: x4 :: x5 :: x6 :: x7 :: x8 :: x9 :: x10 :: x11 :: x12 :: x13 :: x14 :: x15 :: x16 :: x17 :: some v :: l) H Q) (Q v H) := ⟨z_var18⟩
instance i_z_nm18 {x0 x1 x2 x3 x4 x5 x6 x7 x8 x9 x10 x11 x12 x13 x14 x15 x16 x17 : Option V} {y : Option V} {v : V} {l : L2.St} {Q : L2.St → Hp → Prop} : Stp (gName 18 v (x0 :: x1 :: x2 :: x3 :: x4 :: x5 :: x6 :: x7 :: x8 :: x9 :: x10 :: x11 :: x12 :: x13 :: x14 :: x15 :: x16 :: x17 :: y :: l) H Q) (Q (x0 :: x1 :: x2 :: x3 :: x4 :: x5 :: x6 :: x7 :: x8 :: x9 :: x10 :: x11 :: x12 :: x13 :: x14 :: x15 :: x16 :: x17 :: some v :: l) H) := ⟨z_nm18⟩
instance i_z_var19 {x0 x1 x2 x3 x4 x5 x6 x7 x8 x9 x10 x11 x12 x13 x14 x15 x16 x17 x18 : Option V} {v : V} {l : L2.St} : Stp (tVar 19 (x0 :: x1 :: x2 :: x3 :: x4 :: x5 :: x6 :: x7 :: x8 :: x9 :: x10 :: x11 :: x12 :: x13 :: x14 :: x15 :: x16 :: x17 :: x18 :: some v :: l) H Q) (Q v H) := ⟨z_var19⟩
instance i_z_nm19 {x0 x1 x2 x3 x4 x5 x6 x7 x8 x9 x10 x11 x12 x13 x14 x15 x16 x17 x18 : Option V} {y : Option V} {v : V} {l : L2.St} {Q : L2.St → Hp → Prop} : Stp (gName 19 v (x0 :: x1 :: x2 :: x3 :: x4 :: x5 :: x6 :: x7 :: x8 :: x9 :: x10 :: x11 :: x12 :: x13 :: x14 :: x15 :: x16 :: x17 :: x18 :: y :: l) H Q) (Q (x0 :: x1 :: x2 :: x3 :: x4 :: x5 :: x6 :: x7 :: x8 :: x9 :: x10 :: x11 :: x12 :: x13 :: x14 :: x15 :: x16 :: x17 :: x18 :: some v :: l) H) := ⟨z_nm19⟩
instance i_z_var20 {x0 x1 x2 x3 x4 x5 x6 x7 x8 x9 x10 x11 x12 x13 x14 x15 x16 x17 x18 x19 : Option V} {v : V} {l : L2.St} : Stp (tVar 20 (x0 :: x1 :: x2 :: x3 :: x4 :: x5 :: x6 :: x7 :: x8 :: x9 :: x10 :: x11 :: x12 :: x13 :: x14 :: x15 :: x16 :: x17 :: x18 :: x19 :: some v :: l) H Q) (Q v H) := ⟨z_var20⟩
instance i_z_nm20 {x0 x1 x2 x3 x4 x5 x6 x7 x8 x9 x10 x11 x12 x13 x14 x15 x16 x17 x18 x19 : Option V} {y : Option V} {v : V} {l : L2.St} {Q : L2.St → Hp → Prop} : Stp (gName 20 v (x0 :: x1 :: x2 :: x3 :: x4 :: x5 :: x6 :: x7 :: x8 :: x9 :: x10 :: x11 :: x12 :: x13 :: x14 :: x15 :: x16 :: x17 :: x18 :: x19 :: y :: l) H Q) (Q (x0 :: x1 :: x2 :: x3 :: x4 :: x5 :: x6 :: x7 :: x8 :: x9 :: x10 :: x11 :: x12 :: x13 :: x14 :: x15 :: x16 :: x17 :: x18 :: x19 :: some v :: l) H) := ⟨z_nm20⟩
instance i_z_var21 {x0 x1 x2 x3 x4 x5 x6 x7 x8 x9 x10 x11 x12 x13 x14 x15 x16 x17 x18 x19 x20 : Option V} {v : V} {l : L2.St} : Stp (tVar 21 (x0 :: x1 :: x2 :: x3 :: x4 :: x5 :: x6 :: x7 :: x8 :: x9 :: x10 :: x11 :: x12 :: x13 :: x14 :: x15 :: x16 :: x17 :: x18 :: x19 :: x20 :: some v :: l) H Q) (Q v H) := ⟨z_var21⟩
instance i_z_nm21 {x0 x1 x2 x3 x4 x5 x6 x7 x8 x9 x10 x11 x12 x13 x14 x15 x16 x17 x18 x19 x20 : Option V} {y : Option V} {v : V} {l : L2.St} {Q : L2.St → Hp → Prop} : Stp (gName 21 v (x0 :: x1 :: x2 :: x3 :: x4 :: x5 :: x6 :: x7 :: x8 :: x9 :: x10 :: x11 :: x12 :: x13 :: x14 :: x15 :: x16 :: x17 :: x18 :: x19 :: x20 :: y :: l) H Q) (Q (x0 :: x1 :: x2 :: x3 :: x4 :: x5 :: x6 :: x7 :: x8 :: x9 :: x10 :: x11 :: x12 :: x13 :: x14 :: x15 :: x16 :: x17 :: x18 :: x19 :: x20 :: some v :: l) H) := ⟨z_nm21⟩
instance i_z_var22 {x0 x1 x2 x3 x4 x5 x6 x7 x8 x9 x10 x11 x12 x13 x14 x15 x16 x17 x18 x19 x20 x21 : Option V} {v : V} {l : L2.St} : Stp (tVar 22 (x0 :: x1 :: x2 :: x3 :: x4 :: x5 :: x6 :: x7 :: x8 :: x9 :: x10 :: x11 :: x12 :: x13 :: x14 :: x15 :: x16 :: x17 :: x18 :: x19 :: x20 :: x21 :: some v :: l) H Q) (Q v H) := ⟨z_var22⟩
instance i_z_nm22 {x0 x1 x2 x3 x4 x5 x6 x7 x8 x9 x10 x11 x12 x13 x14 x15 x16 x17 x18 x19 x20 x21 : Option V} {y : Option V} {v : V} {l : L2.St} {Q : L2.St → Hp → Prop} : Stp (gName 22 v (x0 :: x1 :: x2 :: x3 :: x4 :: x5 :: x6 :: x7 :: x8 :: x9 :: x10 :: x11 :: x12 :: x13 :: x14 :: x15 :: x16 :: x17 :: x18 :: x19 :: x20 :: x21 :: y :: l) H Q) (Q (x0 :: x1 :: x2 :: x3 :: x4 :: x5 :: x6 :: x7 :: x8 :: x9 :: x10 :: x11 :: x12 :: x13 :: x14 :: x15 :: x16 :: x17 :: x18 :: x19 :: x20 :: x21 :: some v :: l) H) := ⟨z_nm22⟩
instance i_z_var23 {x0 x1 x2 x3 x4 x5 x6 x7 x8 x9 x10 x11 x12 x13 x14 x15 x16 x17 x18 x19 x20 x21 x22 : Option V} {v : V} {l : L2.St} : Stp (tVar 23 (x0 :: x1 :: x2 :: x3 :: x4 :: x5 :: x6 :: x7 :: x8 :: x9 :: x10 :: x11 :: x12 :: x13 :: x14 :: x15 :: x16 :: x17 :: x18 :: x19 :: x20 :: x21 :: x22 :: some v :: l) H Q) (Q v H) := ⟨z_var23⟩
instance i_z_nm23 {x0 x1 x2 x3 x4 x5 x6 x7 x8 x9 x10 x11 x12 x13 x14 x15 x16 x17 x18 x19 x20 x21 x22 : Option V} {y : Option V} {v : V} {l : L2.St} {Q : L2.St → Hp → Prop} : Stp (gName 23 v (x0 :: x1 :: x2 :: x3 :: x4 :: x5 :: x6 :: x7 :: x8 :: x9 :: x10 :: x11 :: x12 :: x13 :: x14 :: x15 :: x16 :: x17 :: x18 :: x19 :: x20 :: x21 :: x22 :: y :: l) H Q) (Q (x0 :: x1 :: x2 :: x3 :: x4 :: x5 :: x6 :: x7 :: x8 :: x9 :: x10 :: x11 :: x12 :: x13 :: x14 :: x15 :: x16 :: x17 :: x18 :: x19 :: x20 :: x21 :: x22 :: some v :: l) H) := ⟨z_nm23⟩
end
end LX
/-! loops and comprehensions, with their new list and a locked dict looked after -/
namespace LX
open PySem PySem.Spec PyProof.Rows L2
theorem nin {a b : Addr} (h : a ≠ b) : a ∉ [b] := by simpa using h
theorem Fr.lock {H H' : Hp} {d : Addr} {u : HO} {od : Obj} (hd : H d = some u) (f : Fr [] (upd H d (.frz od u)) H') : Fr [] H (upd H' d u) := fun b o e _ => by
  by_cases hb : b = d
  · subst hb; rw [hd] at e; cases e; exact upd_same
  · rw [upd_ne hb]
    exact f.g0 (by rw [upd_ne hb]; exact e)
section
variable {K : PySem.W.Frag} {g : TG} {tt : TT} {te : TE} {vs : List Nat} {σ : L2.St} {H H1 : Hp} {R : Addr}
/-- the state of a comprehension's list R, new since H1: i turns are done -/
def LcI (H1 : Hp) (R : Addr) (Pv : Nat → List V → Hp → Prop) (i : Nat) (H' : Hp) : Prop := ∃ xs, xs.length ≤ i ∧ Pv i xs H' ∧ H' R = some (.lst xs) ∧ Fr [] H1 H'
/-- what is asked behind an element y -/
def LcY (H1 : Hp) (R : Addr) (Pv : Nat → List V → Hp → Prop) (i : Nat) (y : V) (H4 : Hp) : Prop := ∃ acc, H4 R = some (.lst acc) ∧ acc.length < sizeLine ∧ LcI H1 R Pv i (upd H4 R (.lst (acc ++ [y])))
theorem z_lcY {Pv : Nat → List V → Hp → Prop} {i : Nat} {y : V} {xs : List V} (hR : H1 R = none) (h1 : H R = some (.lst xs)) (f : Fr [] H1 H) (hl : xs.length ≤ i) (hs : i < sizeLine) (k : ∀ H5, Fr [R] H H5 → Fr [] H1 H5 → (∀ b, H b = none → H5 b = none) → Pv (i + 1) (xs ++ [y]) H5) : LcY H1 R Pv (i + 1) y H :=
  ⟨xs, h1, by omega, xs ++ [y], by rw [List.length_append]; show xs.length + 1 ≤ i + 1; omega, k _ (Fr.at (by simp)) (f.skip hR) (upd_free h1), upd_same, f.skip hR⟩
theorem z_lcN {Pv : Nat → List V → Hp → Prop} {i : Nat} {xs : List V} (h1 : H R = some (.lst xs)) (f : Fr [] H1 H) (hl : xs.length ≤ i) (k : Pv (i + 1) xs H) : LcI H1 R Pv (i + 1) H := ⟨xs, by omega, k, h1, f⟩
/-- a comprehension over a range -/
theorem z_lcR {lo : Int} {n : Nat} {Q : VK} (Pv : Nat → List V → Hp → Prop) (h0 : ∀ R H', H1 R = none → Fr [] H1 H' → Pv 0 [] H')
    (hs : ∀ R i xs H', H1 R = none → i < n → xs.length ≤ i → Pv i xs H' → H' R = some (.lst xs) → Fr [] H1 H' → g (.int (lo + i)) (wipe σ vs) H' fun σ2 H2 => wipe σ2 vs = wipe σ vs ∧ tt σ2 H2 fun b H3 =>
      if b = true then te σ2 H3 fun y H4 => LcY H1 R Pv (i + 1) y H4 else LcI H1 R Pv (i + 1) H3)
    (hd : ∀ R xs H', H1 R = none → Pv n xs H' → xs.length ≤ n → H' R = some (.lst xs) → Fr [] H1 H' → Q (.ref R) H') :
    oLc (Itr lo n) g tt te vs σ H1 Q := fun R hR =>
  lc_range (fun i H' => LcI H1 R Pv i H') ⟨[], Nat.le_refl _, h0 R _ hR (Fr.new hR), upd_same, Fr.new hR⟩ (fun i H' hi ⟨xs, hl, p, hx, f⟩ => hs R i xs H' hR hi hl p hx f) (fun H' ⟨xs, hl, p, hx, f⟩ => hd R xs H' hR p hl hx f)
/-- a comprehension over a list -/
theorem z_lcL {a : Addr} {src : List V} {Q : VK} (ha : H1 a = some (.lst src)) (Pv : Nat → List V → Hp → Prop) (h0 : ∀ R H', H1 R = none → Fr [] H1 H' → Pv 0 [] H')
    (hs : ∀ R i x xs H', H1 R = none → src[i]? = some x → i < src.length → xs.length ≤ i → Pv i xs H' → H' R = some (.lst xs) → Fr [] H1 H' → g x (wipe σ vs) H' fun σ2 H2 => wipe σ2 vs = wipe σ vs ∧ tt σ2 H2 fun b H3 =>
      if b = true then te σ2 H3 fun y H4 => LcY H1 R Pv (i + 1) y H4 else LcI H1 R Pv (i + 1) H3)
    (hd : ∀ R xs H', H1 R = none → Pv src.length xs H' → xs.length ≤ src.length → H' R = some (.lst xs) → Fr [] H1 H' → Q (.ref R) H') :
    oLc (Itl K a) g tt te vs σ H1 Q := fun R hR =>
  lc_list (xs := src) (fun i H' => LcI H1 R Pv i H') ⟨[], Nat.le_refl _, h0 R _ hR (Fr.new hR), upd_same, Fr.new hR⟩ (fun i H' _ ⟨xs, hl, p, hx, f⟩ => SqL.of (f.g0 ha))
    (fun i x H' hi ⟨xs, hl, p, hx, f⟩ => hs R i x xs H' hR hi (List.getElem?_eq_some_iff.mp hi).1 hl p hx f) (fun H' ⟨xs, hl, p, hx, f⟩ => hd R xs H' hR p hl hx f)
theorem Fr.seq {H H' : Hp} {a : Addr} {xs : List V} (f : Fr [] H H') (h : SqL K H a xs) : SqL K H' a xs := (show L2.Same H H' from fun b u e => f.g0 e).seq h
/-- over a list that may be the script -/
theorem z_lcQ {a : Addr} {src : List V} {Q : VK} (ha : SqL K H1 a src) (Pv : Nat → List V → Hp → Prop) (h0 : ∀ R H', H1 R = none → Fr [] H1 H' → Pv 0 [] H')
    (hs : ∀ R i x xs H', H1 R = none → src[i]? = some x → i < src.length → xs.length ≤ i → Pv i xs H' → H' R = some (.lst xs) → Fr [] H1 H' → g x (wipe σ vs) H' fun σ2 H2 => wipe σ2 vs = wipe σ vs ∧ tt σ2 H2 fun b H3 =>
      if b = true then te σ2 H3 fun y H4 => LcY H1 R Pv (i + 1) y H4 else LcI H1 R Pv (i + 1) H3)
    (hd : ∀ R xs H', H1 R = none → Pv src.length xs H' → xs.length ≤ src.length → H' R = some (.lst xs) → Fr [] H1 H' → Q (.ref R) H') :
    oLc (Itl K a) g tt te vs σ H1 Q := fun R hR =>
  lc_list (xs := src) (fun i H' => LcI H1 R Pv i H') ⟨[], Nat.le_refl _, h0 R _ hR (Fr.new hR), upd_same, Fr.new hR⟩ (fun i H' _ ⟨xs, hl, p, hx, f⟩ => f.seq ha)
    (fun i x H' hi ⟨xs, hl, p, hx, f⟩ => hs R i x xs H' hR hi (List.getElem?_eq_some_iff.mp hi).1 hl p hx f) (fun H' ⟨xs, hl, p, hx, f⟩ => hd R xs H' hR p hl hx f)
theorem z_iterQ {p : Addr} {xs : List V} {R : It → Hp → Prop} (h1 : SqL K H p xs) (h : R (Itl K p) H) : oIter K (.ref p) H R := ⟨p, rfl, ⟨xs, h1⟩, h⟩
/-- over a tuple -/
theorem z_lcT {a : Addr} {src : List V} {Q : VK} (ha : H1 a = some (.tup src)) (Pv : Nat → List V → Hp → Prop) (h0 : ∀ R H', H1 R = none → Fr [] H1 H' → Pv 0 [] H')
    (hs : ∀ R i x xs H', H1 R = none → src[i]? = some x → i < src.length → xs.length ≤ i → Pv i xs H' → H' R = some (.lst xs) → Fr [] H1 H' → g x (wipe σ vs) H' fun σ2 H2 => wipe σ2 vs = wipe σ vs ∧ tt σ2 H2 fun b H3 =>
      if b = true then te σ2 H3 fun y H4 => LcY H1 R Pv (i + 1) y H4 else LcI H1 R Pv (i + 1) H3)
    (hd : ∀ R xs H', H1 R = none → Pv src.length xs H' → xs.length ≤ src.length → H' R = some (.lst xs) → Fr [] H1 H' → Q (.ref R) H') :
    oLc (Itt K a) g tt te vs σ H1 Q := fun R hR =>
  lc_tup (xs := src) (fun i H' => LcI H1 R Pv i H') ⟨[], Nat.le_refl _, h0 R _ hR (Fr.new hR), upd_same, Fr.new hR⟩ (fun i H' _ ⟨xs, hl, p, hx, f⟩ => SqT.of (f.g0 ha))
    (fun i x H' hi ⟨xs, hl, p, hx, f⟩ => hs R i x xs H' hR hi (List.getElem?_eq_some_iff.mp hi).1 hl p hx f) (fun H' ⟨xs, hl, p, hx, f⟩ => hd R xs H' hR p hl hx f)
/-- a comprehension over a dict's keys; the dict is locked meanwhile (HF), and free again behind it -/
theorem z_lcK {td : TE} {d : Addr} {kvs : List (Key × V)} {Q : VK} (htd : ∀ H' (R : VK), R (.ref d) H' → td σ H' R) (hd : H d = some (.dK kvs)) (Pv : Nat → List V → Hp → Prop)
    (h0 : ∀ od HF R H', Fr [d] H HF → HF d = some (.frz od (.dK kvs)) → HF R = none → Fr [] HF H' → Pv 0 [] H')
    (hs : ∀ od HF R i k v xs H', Fr [d] H HF → HF d = some (.frz od (.dK kvs)) → HF R = none → kvs[i]? = some (k, v) → i < kvs.length → xs.length ≤ i → Pv i xs H' → H' R = some (.lst xs) → Fr [] HF H' → g (kV k) (wipe σ vs) H' fun σ2 H2 => wipe σ2 vs = wipe σ vs ∧ tt σ2 H2 fun b H3 =>
      if b = true then te σ2 H3 fun y H4 => LcY HF R Pv (i + 1) y H4 else LcI HF R Pv (i + 1) H3)
    (he : ∀ R xs H' H2, H R = none → Pv kvs.length xs H' → xs.length ≤ kvs.length → H2 R = some (.lst xs) → Fr [d] H' H2 → Fr [] H H2 → Q (.ref R) H2) :
    tLockE (tLc (iKeys td) g tt te vs) σ H Q := by
  refine ⟨d, .dK kvs, hd, trivial, fun od => ?_⟩
  refine htd _ _ ⟨d, od, rfl, Or.inl ⟨kvs, upd_same, fun R hR => ?_⟩⟩
  have hF : upd H d (.frz od (.dK kvs)) d = some (.frz od (.dK kvs)) := upd_same
  have fF : Fr [d] H (upd H d (.frz od (.dK kvs))) := Fr.at (by simp)
  have nR : R ≠ d := fun z => by rw [z, upd_same] at hR; cases hR
  have hR0 : H R = none := by rw [upd_ne nR] at hR; exact hR
  have lk : ∀ H', Fr [] (upd H d (.frz od (.dK kvs))) H' → Fr [] H (upd H' d (.dK kvs)) := fun H' f => Fr.lock hd f
  generalize upd H d (.frz od (.dK kvs)) = HF at hF fF hR lk
  refine ⟨fun i m H' => m = kvs.length - i ∧ i ≤ kvs.length ∧ LcI HF R Pv i H', ⟨kvs.length, by simp, Nat.zero_le _, [], Nat.le_refl _, h0 od HF R _ fF hF hR (Fr.new hR), upd_same, Fr.new hR⟩, ?_⟩
  rintro i m H' ⟨rfl, hi, xs, hl, p, hx, f⟩
  by_cases hlt : i < kvs.length
  · refine .inr ⟨⟨f.g0 hF, hlt⟩, fun H' => LcI HF R Pv (i + 1) H', fun H'' p' => ⟨kvs.length - (i + 1), by omega, rfl, hlt, p'⟩, fun x H'' y => ?_⟩
    obtain ⟨e, k, v, hk, ex⟩ := y
    subst e ex
    exact hs od HF R i k v xs _ fF hF hR hk hlt hl p hx f
  · have e : i = kvs.length := by omega
    subst e
    exact .inl ⟨⟨f.g0 hF, Nat.le_refl _⟩, f.g0 hF, he R xs H' _ hR0 p hl (by rw [upd_ne nR]; exact hx) (Fr.at (by simp)) (lk _ f)⟩
/-- a dict locked: HF is H with it locked -/
structure Lk (H : Hp) (d : Addr) (kvs : List (Key × V)) (od : Obj) (HF : Hp) : Prop where
  f : Fr [d] H HF
  at' : HF d = some (.frz od (.dK kvs))
  lk : ∀ F H', d ∉ F → Fr F HF H' → Fr F H (upd H' d (.dK kvs))
theorem Fr.lockF {F : List Addr} {H H' : Hp} {d : Addr} {u : HO} {od : Obj} (hd : H d = some u) (f : Fr F (upd H d (.frz od u)) H') : Fr F H (upd H' d u) := fun b o e n => by
  by_cases hb : b = d
  · subst hb; rw [hd] at e; cases e; exact upd_same
  · rw [upd_ne hb]
    exact f b o (by rw [upd_ne hb]; exact e) n
def FkN (HF : Hp) (F : List Addr) (Pv : Nat → L2.St → Hp → Prop) (i : Nat) (σ : L2.St) (H : Hp) : Prop := Pv i σ H ∧ Fr F HF H
def FkR (d : Addr) (kvs : List (Key × V)) (od : Obj) (R : Hp → Prop) (H : Hp) : Prop := H d = some (.frz od (.dK kvs)) ∧ R (upd H d (.dK kvs))
theorem z_fkR {H HF H3 : Hp} {F : List Addr} {d : Addr} {kvs : List (Key × V)} {od : Obj} {R : Hp → Prop} (L : Lk H d kvs od HF) (hF : d ∉ F) (f : Fr F HF H3) (k : ∀ H4, Fr [d] H3 H4 → Fr F H H4 → R H4) : FkR d kvs od R H3 := ⟨f.g L.at' hF, k _ (Fr.at (by simp)) (L.lk F _ hF f)⟩
theorem z_fkN {HF : Hp} {F : List Addr} {Pv : Nat → L2.St → Hp → Prop} {i : Nat} {σ : L2.St} {H : Hp} (f : Fr F HF H) (k : Pv i σ H) : FkN HF F Pv i σ H := ⟨k, f⟩
/-- a for over a dict's keys; the dict is locked meanwhile; the body may change what F names -/
theorem z_forK {D : Ends} {td : TE} {tb : TS} {d : Addr} {kvs : List (Key × V)} (F : List Addr) (hF : d ∉ F) (htd : ∀ H' (R : VK), R (.ref d) H' → td σ H' R) (hd : H d = some (.dK kvs)) (Pv : Nat → L2.St → Hp → Prop)
    (h0 : ∀ od HF, Lk H d kvs od HF → Pv 0 σ HF)
    (hs : ∀ od HF i k v σ' H', Lk H d kvs od HF → kvs[i]? = some (k, v) → i < kvs.length → Pv i σ' H' → Fr F HF H' → H' d = some (.frz od (.dK kvs)) → g (kV k) σ' H' fun σ2 H2 => tb ⟨FkN HF F Pv (i + 1), fun v H3 => FkR d kvs od (D.rt v) H3, fun σ3 H3 => FkR d kvs od (D.nx σ3) H3, FkN HF F Pv (i + 1)⟩ σ2 H2)
    (he : ∀ σ' H' H2, Pv kvs.length σ' H' → Fr [d] H' H2 → H2 d = some (.dK kvs) → Fr F H H2 → D.nx σ' H2) :
    tLock (tFor (iKeys td) g tb) D σ H := by
  refine ⟨d, .dK kvs, hd, trivial, fun od => ?_⟩
  refine htd _ _ ⟨d, od, rfl, Or.inl ⟨kvs, upd_same, ?_⟩⟩
  have L : Lk H d kvs od (upd H d (.frz od (.dK kvs))) := ⟨Fr.at (by simp), upd_same, fun F H' _ f => Fr.lockF hd f⟩
  generalize upd H d (.frz od (.dK kvs)) = HF at L
  refine ⟨fun i m σ' H' => m = kvs.length - i ∧ i ≤ kvs.length ∧ FkN HF F Pv i σ' H', ⟨kvs.length, by simp, Nat.zero_le _, h0 od HF L, Fr.rfl'⟩, ?_⟩
  rintro i m σ' H' ⟨rfl, hi, p, f⟩
  by_cases hlt : i < kvs.length
  · refine .inr ⟨⟨f.g L.at' hF, hlt⟩, FkN HF F Pv (i + 1), fun σ'' H'' p' => ⟨kvs.length - (i + 1), by omega, rfl, hlt, p'⟩, fun x H'' y => ?_⟩
    obtain ⟨e, k, v, hk, ex⟩ := y
    subst e ex
    exact hs od HF i k v σ' _ L hk hlt p f (f.g L.at' hF)
  · have e : i = kvs.length := by omega
    subst e
    exact .inl ⟨⟨f.g L.at' hF, Nat.le_refl _⟩, f.g L.at' hF, he σ' H' _ p (Fr.at (by simp)) upd_same (L.lk F _ hF f)⟩
end
end LX
/-! more rules: chains, tuples, sorted of tuples -/
namespace LX
open PySem PySem.Spec PyProof.Rows L2
section
variable {K : PySem.W.Frag} {σ : L2.St} {H : Hp} {D : Ends} {Q : VK}
theorem z_chain {r r' : R2} {ta tb tc : TE} (h : ta σ H fun x H1 => tb σ H1 fun y H2 => r x y H2 fun z H3 => oBl z H3 fun k H3 => if k = true then tc σ H3 fun u H4 => r' y u H4 Q else Q (.bl false) H3) : tChain r r' ta tb tc σ H Q := h
instance i_chain {r r' : R2} {ta tb tc : TE} : Stp (tChain r r' ta tb tc σ H Q) (ta σ H fun x H1 => tb σ H1 fun y H2 => r x y H2 fun z H3 => oBl z H3 fun k H3 => if k = true then tc σ H3 fun u H4 => r' y u H4 Q else Q (.bl false) H3) := ⟨z_chain⟩
theorem z_addT {a b : Addr} {xs ys : List V} (h1 : H a = some (.tup xs)) (h2 : H b = some (.tup ys)) (h3 : xs.length + ys.length ≤ sizeLine) (n1 : xs ≠ []) (n2 : ys ≠ []) (h : ∀ p H1, H p = none → Fr [] H H1 → H1 p = some (.tup (xs ++ ys)) → Q (.ref p) H1) : rAddU K (.ref a) (.ref b) H Q :=
  Or.inr ⟨a, b, xs, ys, rfl, rfl, SqT.of h1, SqT.of h2, h3, fun e => absurd e n1, fun _ e => absurd e n2, fun _ _ => z_new h⟩
def rTupU (K : PySem.W.Frag) : List V → Hp → VK → Prop := fun xs H Q => ∃ p ys, xs = [.ref p] ∧ ((SqL K H p ys ∧ ∀ l, H l = none → Q (.ref l) (upd H l (.tup ys))) ∨ (SqT K H p ys ∧ Q (.ref p) H))
theorem call_tupleU {X : Cx} : CallR X (.type "tuple") (rTupU X.K) := call_tuple_of
theorem z_tupL {p : Addr} {ys : List V} (h1 : H p = some (.lst ys)) (h : ∀ l H1, H l = none → Fr [] H H1 → H1 l = some (.tup ys) → Q (.ref l) H1) : rTupU K [.ref p] H Q := ⟨p, ys, rfl, Or.inl ⟨SqL.of h1, z_new h⟩⟩
theorem z_tupT {p : Addr} {ys : List V} (h1 : H p = some (.tup ys)) (h : Q (.ref p) H) : rTupU K [.ref p] H Q := ⟨p, ys, rfl, Or.inr ⟨SqT.of h1, h⟩⟩
/-- sorted of a list of tuples, as data -/
def rSortT (K : PySem.W.Frag) : List V → Hp → VK → Prop := fun vs H Q => ∃ (a : Addr) (bs : List (Addr × PyData)), vs = [.ref a] ∧ SqL K H a (bs.map fun b => V.ref b.1) ∧ (∀ b ∈ bs, Dp K H (.ref b.1) b.2) ∧ (∀ b ∈ bs, ∀ b' ∈ bs, PySem.W.alike b.2 b'.2 = true) ∧ (∀ b ∈ bs, ∃ x r, b.2 = .tuple (x :: r)) ∧ bs.length ≤ sizeLine ∧ (∀ b ∈ bs, b.2.depth ≤ 60) ∧
  ∀ p, H p = none → Q (.ref p) (upd H p (.lst ((bs.mergeSort (PySem.W.dataLe false (fun b : Addr × PyData => b.2))).map fun b => V.ref b.1)))
theorem each_refs : ∀ {bs : List (Addr × PyData)} {its : List Value}, Vals (bs.map fun b => V.ref b.1) its → PySem.W.EachIs (fun v (b : Addr × PyData) => v = .ref b.1) its bs
  | [], _, r => by cases r; exact .nil
  | b :: bs, _, r => by
    cases r with
    | cons h t => exact .cons h (each_refs t)
theorem refs_each : ∀ {bs : List (Addr × PyData)} {its : List Value}, PySem.W.EachIs (fun v (b : Addr × PyData) => v = .ref b.1) its bs → Vals (bs.map fun b => V.ref b.1) its
  | _, _, .nil => .nil
  | _, _, .cons h t => .cons h (refs_each t)
theorem call_sortedT {X : Cx} (hu : X.A.units + 64 < cLine) : CallR X (.builtin "sorted") (rSortT X.K) := by
  intro pins s σ H vs us Q I r h
  obtain ⟨a, bs, rfl, hs, hd, hal, htp, hl, hdep, q⟩ := h
  obtain ⟨its, rv, pl, _⟩ := I.list hs
  rw [Vals.ref1 r]
  have e1 := each_refs rv
  have er : PySem.W.EachIs (fun v (b : Addr × PyData) => ∃ as, Reads s.heap v b.2 as) its bs := PySem.W.EachIs.of_zip e1.length fun p hp => by
    have hm := (List.of_mem_zip hp).2
    have hv := e1.zip p hp
    exact Dp.reads I _ _ _ (hd _ hm) hv
  refine PySem.W.sorted_data (enc := fun b : Addr × PyData => b.2) (by simpa using pl.isList) e1 er (fun d h d' h' => ?_) (.inl fun d h => ?_) hl (fun b hb => by have := hdep b hb; omega) fun out ho eo => ?_
  · obtain ⟨b, hb, rfl⟩ := List.mem_map.mp h
    obtain ⟨b', hb', rfl⟩ := List.mem_map.mp h'
    exact hal b hb b' hb'
  · obtain ⟨b, hb, rfl⟩ := List.mem_map.mp h
    exact htp b hb
  obtain ⟨ep, he'⟩ := PyProof.Rows.sortedAll_at s.heap its out.toArray
  have hlen : ((bs.mergeSort (PySem.W.dataLe false (fun b : Addr × PyData => b.2))).map fun b => V.ref b.1).length ≤ sizeLine := by rw [List.length_map, List.length_mergeSort]; exact hl
  exact ⟨.ref _, upd H (s.heap.objs.size + 1) (.lst ((bs.mergeSort (PySem.W.dataLe false (fun b : Addr × PyData => b.2))).map fun b => V.ref b.1)), I.laid (t' := s.toks) (fun _ _ => PyProof.Rows.sortedAll_old) (Nat.le_succ _) ⟨hlen, out, ep, refs_each eo, he'⟩, rfl, q _ (I.hok.fresh (Nat.le_succ _))⟩
/-- .. already in order -/
theorem z_sortT {a : Addr} {bs : List (Addr × PyData)} (h1 : H a = some (.lst (bs.map fun b => V.ref b.1))) (h2 : ∀ b ∈ bs, Dp K H (.ref b.1) b.2) (h3 : ∀ b ∈ bs, ∀ b' ∈ bs, PySem.W.alike b.2 b'.2 = true) (h4 : ∀ b ∈ bs, ∃ x r, b.2 = .tuple (x :: r)) (h5 : bs.length ≤ sizeLine) (h6 : ∀ b ∈ bs, b.2.depth ≤ 60)
    (h7 : bs.Pairwise fun x y => PySem.W.dataLe false (fun b : Addr × PyData => b.2) x y = true) (h : ∀ p H1, H p = none → Fr [] H H1 → H1 p = some (.lst (bs.map fun b => V.ref b.1)) → Q (.ref p) H1) : rSortT K [.ref a] H Q :=
  ⟨a, bs, rfl, SqL.of h1, h2, h3, h4, h5, h6, by rw [List.mergeSort_of_pairwise h7]; exact fun p hp => h p _ hp (Fr.new hp) upd_same⟩
end
end LX
/-! own exceptions over ValueError whose __init__ begins with super().__init__(..) -/
namespace LX
open PySem PySem.Spec PyProof.Rows L2 NdefX PySem.W PySem.HandSPX

/-- what the written part says of the class at C and of its __init__ at f -/
structure SupTxt (P : Program) (K : Frag) (mg : Str → Option Value) (C : Addr) (cda cc : Addr) (scope : Scope) : Prop where
  ox : OexC K C
  code : ∃ (ccl : Value) (cdd : Option Addr) (vs : Array Value) (ccs : Array (Option Value)) (file : Str) (tf : Tok), K.lookup cda = some ⟨ccl, cdd, .fields vs, ccs⟩ ∧ vs[2]? = some (.str file tf) ∧ ((P.main.file : Str) == file) = true
  cell : ∃ (cl : Value) (cld : Option Addr) (csl : Array (Option Value)), K.lookup cc = some ⟨cl, cld, .cell (some (.ref C)), csl⟩
  cls : ∃ cdC, clsIn K C = some cdC
  sub : mroIn K C (.ref C) = some true
  init : ks_superIn K C C "__init__" = some (some (.builtin "ValueError.__init__"))
  isB : subIn K (.ref C) (.type "ValueError") = some true
  third : nsIn K cStatics "thirdparty.any" = some none
  mgS : mg "super" = none
  hks : scope.names.lookup ("super" : Str) = some .globalImplicit
  hkc : scope.names.lookup ("__class__" : Str) = some .free
  htop : (P.main.scope.names.lookup ("super" : Str)).isSome = false

section
variable {prog : Program} {w : World} {M : Model} {A : Around} {E : Value → Shared → Prop} {s : Shared} {i : String} {x u : Addr}
theorem mw_callWith {pos : Pos} {first : List Value} {args : List (Bool × Sem Value)} {Q : Value → Shared → Prop} (hplain : args.any (·.1) = false)
    (h : wpAny M A (evalArgs (.ref u) true args []) (fun ar s₁ => s₁.heap.get? u = some (kxs_mw i x) ∧ wpAny M A (call (.ref u) (first ++ ar.pos) ar.kw) Q E s₁) E s) : wpAny M A (callWith pos (.ref u) first args []) Q E s :=
  kxs_callWith (i := i) (x := x) hplain h
theorem mw_call {t0 C : Addr} {rest : List Value} {nm q : Str} {N : Addr} {bs bm : List Value} {hdct : Bool} {sn : List Str} {sub : List Value} {ab : Bool} {col : Option Bool} {dd : Option Addr} {k0 k1 k2 k3 k5 : Option Value} {h : Heap} {g : Array GenState} {d : Drawn} {t : Nat} {os : OsState} {Q : Value → Shared → Prop}
    (hC : h.get? C = some (excClassObj nm q C N bs bm hdct sn sub ab col dd k0 k1 k2 k3 k5 "ValueError.__new__")) (he : h.get? x = some (excO C t0)) (hu : h.get? u = some (kxs_mw "ValueError.__init__" x)) (hrest : rest.length ≤ sizeLine)
    (hq : ∀ h' t1, (∀ b o, b ≠ x → h.get? b = some o → h'.get? b = some o) → h'.get? x = some (excO C t1) → Q .none ⟨h', g, d, t, os⟩) :
    wpAny (model prog w) A (call (.ref u) rest) Q E ⟨h, g, d, t, os⟩ := by
  refine wpAny_call (codeAny_of_tree ?_)
  show wpAny _ A.in1 (callAny (.ref u) ⟨rest, []⟩) _ _ _
  simp only [callAny]
  refine wpAny_bind (wpAny_load hu ?_)
  simp only [kxs_mw, show (Value.type "method-wrapper" == Value.type "method" || Value.type "method-wrapper" == Value.type "builtin_function_or_method" || Value.type "method-wrapper" == Value.type "method-wrapper") = true by decide, if_true]
  refine KFB.if_so (by decide) ?_
  refine wpAny_bind (check_bound_init F.excBase_ValueError.toExcCallFacts hC he rfl ?_)
  refine wpAny_bind (wpAny_pure (wpAny_pure ?_))
  refine ⟨plainId_quiet F.excBase_ValueError.init.plain _, codeAny_builtin F.excBase_ValueError.initEntry ?_⟩
  rw [Around.under_plainId F.excBase_ValueError.init.plain _]
  wp_walk
  refine hq _ h.objs.size (fun b o hb ho => ?_) ?_
  · rw [Heap.get?_update_other _ _ (Ne.symm hb)]
    exact Heap.get?_push_of_some _ ho
  · rw [Heap.get?_update_self _ (Heap.get?_push_of_some _ he) rfl]
    rfl
end

/-- the reading of super().__init__(e, ..) as the first statement of C's own __init__, self in slot 0 -/
def tSup (C : Addr) (ta : TA) : TS := fun D σ H => ∃ a : Addr, σ[0]? = some (some (.ref a)) ∧ H a = some (exo a C none) ∧ ta σ H fun vs H1 => vs.length ≤ sizeLine ∧ H1 a = some (exo a C none) ∧ D.nx σ H1

section
variable {P : Program} {w : World} {K : PySem.W.Frag} {mg : Str → Option Value} {base : Heap}
theorem fn_sup {CX : CXT} {k : Nat} {f : Addr} {name qual : Str} {params : Arguments} {scope : Scope} {dV kV doc pm ct oc : Value} {cda cc C : Addr} {an od : Option Addr} {osl : Array (Option Value)} {N ps : List Str} {sp : Sp}
    {p0 p1 p2 p3 p4 : Pos} {e : Expr} {es : List Expr} {rest : List Stmt} {ar : Arg}
    (lk : K.lookup f = some ⟨oc, od, .func (PySem.W.fnX name qual params (.Expr (.Call (.Attribute (.Call (.Name "super" p0) [] [] p1) "__init__" p2) (e :: es) [] p3) p4 :: rest) scope [("__class__", cc)] dV kV doc pm an (.ref cda) ct), osl⟩)
    (hcd : PySem.W.codeIn K (.ref cda) qual = true) (S : NScope N ps ["__class__"] scope) (T : SupTxt P K mg C cda cc scope) (hp : (params.posonlyargs ++ params.args).head? = some ar) (hp0 : ps[0]? = some ar.arg)
    {pl : Env → Sem Bool}
    (hev : ∀ L, eval (.Call (.Attribute (.Call (.Name "super" p0) [] [] p1) "__init__" p2) (e :: es) [] p3) (envX qual scope L f (.ref cda) [("__class__", cc)]) = (do
      let ov ← attributeBase (.Call (.Name "super" p0) [] [] p1) "__init__" (envX qual scope L f (.ref cda) [("__class__", cc)]) (eval (.Call (.Name "super" p0) [] [] p1) (envX qual scope L f (.ref cda) [("__class__", cc)]))
      standAt p2.atName
      let (f', first) ← holding [ov] (getMethod ov "__init__" (pl (envX qual scope L f (.ref cda) [("__class__", cc)])))
      callWith p3 f' first (backTo p3 (starEach (e :: es) (envX qual scope L f (.ref cda) [("__class__", cc)]))) []))
    (hst : ∀ env, starEach (e :: es) env = (false, eval e env) :: starEach es env) (hplain : ∀ env, (backTo p3 (starEach es env)).any (·.1) = false)
    (hint : ∀ L, interactive (envX qual scope L f (.ref cda) [("__class__", cc)]) = false) (hsw : ∀ L, swapsWith (.Call (.Attribute (.Call (.Name "super" p0) [] [] p1) "__init__" p2) (e :: es) [] p3) none p4.line (envX qual scope L f (.ref cda) [("__class__", cc)]) = pure false)
    (len : ∀ vs H Q E, sp vs H Q E → vs.length = ps.length)
    (hbody : ∀ (A : Around) (outer : List Env) (s : Shared) (H : Hp) (vs : List V) (Q : VK) (E : XK), Room k (A.deeper (envX qual scope s.heap.objs.size f (.ref cda) [("__class__", cc)])) → sp vs H Q E →
      ∃ ta t, PA (ncx CX P w K mg base N ⟨name, qual, params, .Expr (.Call (.Attribute (.Call (.Name "super" p0) [] [] p1) "__init__" p2) (e :: es) [] p3) p4 :: rest, scope, [("__class__", cc)], cda⟩ f A outer s H E) (e :: es) ta ∧
        PSs (ncx CX P w K mg base N ⟨name, qual, params, .Expr (.Call (.Attribute (.Call (.Name "super" p0) [] [] p1) "__init__" p2) (e :: es) [] p3) p4 :: rest, scope, [("__class__", cc)], cda⟩ f A outer s H E) rest t ∧
        tSeq (tSup C ta) t { nx := fun _ H' => Q .non H', rt := Q } (startF N vs [some (.ref C)]) H) :
    FnOk P w K mg base CX (k + 1) f (PySem.W.fnX name qual params (.Expr (.Call (.Attribute (.Call (.Name "super" p0) [] [] p1) "__init__" p2) (e :: es) [] p3) p4 :: rest) scope [("__class__", cc)] dV kV doc pm an (.ref cda) ct) ps sp := by
  refine ⟨len, fun A outer s H args us vs Q E hr e0 hb r hsp => ?_⟩
  have hl := len _ _ _ _ hsp
  have KX : K.In s.heap := e0.mod.kin.keeps fun b o e => (e0.bs b o e).1
  have lim : s.heap.NoLimit := e0.mod.nolimit.keeps fun b o e => (e0.bs b o e).1
  obtain ⟨cl, cld, csl, hcell⟩ := T.cell
  have CA : CellsAt [(("__class__" : Str), cc)] ["__class__"] [some (.ref C)] s.heap H := by
    have hcc : s.heap.get? cc = some ⟨cl, cld, .cell (some (.ref C)), csl⟩ := KX _ _ hcell
    have hn : H cc = none := (e0.bs cc _ (e0.mod.kin _ _ hcell)).2
    refine ⟨rfl, fun y c h => ?_, fun y z c h1 h2 => ?_, fun j y h => ?_⟩
    · have : y = "__class__" ∧ c = cc := by
        simp only [List.lookup] at h
        split at h
        · rename_i q
          exact ⟨by simpa using q, (Option.some.inj h).symm⟩
        · cases h
      obtain ⟨rfl, rfl⟩ := this
      exact ⟨hn, _, _, hcc, rfl⟩
    · have key : ∀ {y : Str}, List.lookup y [(("__class__" : Str), cc)] = some c → y = "__class__" := fun {y} h => by
        simp only [List.lookup] at h
        split at h
        · rename_i q
          simpa using q
        · cases h
      rw [key h1, key h2]
    · cases j with
      | zero =>
        have : y = "__class__" := (Option.some.inj h).symm
        subst this
        refine ⟨cc, by simp [List.lookup], fun v hv => ?_⟩
        have : v = .ref C := by simpa using hv.symm
        subst this
        exact ⟨.ref C, rfl, _, hcc, rfl⟩
      | succ j => simp at h
  refine ks_codeAny_call_defAt (binds := ps.zip us) hr.depth (KX _ _ lk) rfl lim (codeRec_of KX hcd) rfl hb S.nocell (fun x hx => S.par x.1 (List.of_mem_zip hx).1) (fun h₁ hns kp => ?_) S.co S.gen S.kind
  obtain ⟨ta, t, hta, ht, hq⟩ := hbody A outer s H vs Q E (hr.deeper _) hsp
  obtain ⟨a, hσ, hea, hq⟩ := hq
  have I : Inv (ncx CX P w K mg base N ⟨name, qual, params, .Expr (.Call (.Attribute (.Call (.Name "super" p0) [] [] p1) "__init__" p2) (e :: es) [] p3) p4 :: rest, scope, [("__class__", cc)], cda⟩ f A outer s H E) [] (startF N vs [some (.ref C)]) H { s with heap := h₁, toks := s.toks + (ps.zip us).length } :=
    inv_startN (F := ⟨name, qual, params, .Expr (.Call (.Attribute (.Call (.Name "super" p0) [] [] p1) "__init__" p2) (e :: es) [] p3) p4 :: rest, scope, [("__class__", cc)], cda⟩) S hr.hd e0 hl r CA hns kp
  generalize hX : ncx CX P w K mg base N ⟨name, qual, params, .Expr (.Call (.Attribute (.Call (.Name "super" p0) [] [] p1) "__init__" p2) (e :: es) [] p3) p4 :: rest, scope, [("__class__", cc)], cda⟩ f A outer s H E = X at hta ht I
  have eK : X.K = K := by rw [← hX]; rfl
  have eP : X.prog = P := by rw [← hX]; rfl
  have ew : X.w = w := by rw [← hX]; rfl
  have emg : X.mg = mg := by rw [← hX]; rfl
  have eN : X.N = N := by rw [← hX]; rfl
  have eenv : X.env = envX qual scope s.heap.objs.size f (.ref cda) [("__class__", cc)] := by rw [← hX]; rfl
  have eA : X.A = A.deeper X.env := by rw [← hX]; rfl
  have exe : X.xe = fun e s' => wpAny (model P w) (A.deeper (envX qual scope s.heap.objs.size f (.ref cda) [("__class__", cc)])) (leaving (envX qual scope s.heap.objs.size f (.ref cda) [("__class__", cc)]) e) (fun _ s'' => CX outer H s E e s'') (fun e' s'' => CX outer H s E e' s'') s' := by rw [← hX]; rfl
  have fin : ∀ {s' : Shared} {σ' : L2.St} {H' : Hp} {v : V} {u : Value}, Inv X [] σ' H' s' → L2.RelV v u → Q v H' → CE outer P w H s Q u s' :=
    fun {s' σ' H' v u} J rv q => by
      subst hX
      exact ⟨v, H', J.os, J.bare, J.base, J.hok, rv, q⟩
  show PySem.wpAt (model P w) (A.deeper (envX qual scope s.heap.objs.size f (.ref cda) [("__class__", cc)])) (.func (.Expr (.Call (.Attribute (.Call (.Name "super" p0) [] [] p1) "__init__" p2) (e :: es) [] p3) p4 :: rest) (envX qual scope s.heap.objs.size f (.ref cda) [("__class__", cc)]))
    (execs (.Expr (.Call (.Attribute (.Call (.Name "super" p0) [] [] p1) "__init__" p2) (e :: es) [] p3) p4 :: rest) (envX qual scope s.heap.objs.size f (.ref cda) [("__class__", cc)])) _ _ _
  rw [← eenv, ← eA]
  have eM : model P w = model X.prog X.w := by rw [eP, ew]
  rw [eM]
  refine ks_wpAt_mono (Q := SP X [] { nx := fun _ H' => Q .non H', rt := Q }) (E := X.xe) ?_ (fun fl s' hs => ?_) (fun e s' hs => ?_)
  · refine ks_wpAt_execs_cons (ks_wpAt_Expr_any (ks_wpAt_MethodCall ?_ (by rw [eenv]; exact hev _)) (by rw [eenv]; exact hint _) (by rw [eenv]; exact hsw _))
    -- super()
    obtain ⟨ccl, cdd, cvs, ccs, file, tf, hcode, hvs, hfile⟩ := T.code
    obtain ⟨cdC, hcl⟩ := T.cls
    obtain ⟨t1, ho⟩ := exo_at I.hok hea
    have XK : K.In h₁ := by have := I.kIn; rw [eK] at this; exact this
    obtain ⟨oD, hD1, hD2⟩ : ∃ oD, h₁.get? C = some oD ∧ oD.data = .cls cdC := by
      unfold clsIn at hcl
      split at hcl
      · rename_i c d cd' sl ho
        cases hcl
        exact ⟨_, XK _ _ ho, rfl⟩
      · cases hcl
    have hN0 : X.N[0]? = some ar.arg := by
      rw [eN]
      have z := congrArg (fun l => l[0]?) S.pre
      rw [List.getElem?_take_of_lt (by simp)] at z
      rw [z, List.getElem?_append_left (by obtain ⟨h0, _⟩ := List.getElem?_eq_some_iff.mp hp0; exact h0), hp0]
    have harl : scope.names.lookup ar.arg = some .local := S.par _ (List.mem_of_getElem? hp0)
    obtain ⟨m, hn, hlk⟩ := I.loc
    obtain ⟨u0, ru0, lo0⟩ := hlk 0 ar.arg (.ref a) hN0 hσ (by rw [eenv]; exact Or.inl harl)
    obtain rfl : u0 = Value.ref a := ru0
    have hm0 : m ar.arg = some (.ref a) := by
      rcases lo0 with ⟨_, z⟩ | ⟨z, _⟩
      · exact z
      · exfalso
        have z' : scope.names.lookup ar.arg = some .cell ∨ scope.names.lookup ar.arg = some .free := by rw [eenv] at z; exact z
        rw [harl] at z'
        rcases z' with z' | z' <;> cases z'
    have hkind : X.env.scope.kind = .function := I.ok.kind
    have hks : X.env.kindOf "super" = some .globalImplicit := by rw [eenv]; exact T.hks
    have hkc : X.env.kindOf "__class__" = some .free := by rw [eenv]; exact T.hkc
    have hka : X.env.kindOf ar.arg = some .local := by rw [eenv]; exact harl
    refine ks_wpAt_super_base (of := ⟨oc, od, .func (PySem.W.fnX name qual params (.Expr (.Call (.Attribute (.Call (.Name "super" p0) [] [] p1) "__init__" p2) (e :: es) [] p3) p4 :: rest) scope [("__class__", cc)] dV kV doc pm an (.ref cda) ct), osl⟩) (f := f) (cc := cda) hks hkc (by decide) (by rw [eenv]) (XK _ _ lk) rfl hp (by rw [eenv]) (XK _ _ hcode) rfl hvs (by rw [eP]; exact hfile) (by rw [eP]; exact T.htop) ?_
    obtain ⟨mb, hmb1, hmb2⟩ := I.mod.blt
    refine ks_loadName_global hkind hks (Calls.loadGlobal_builtin (by rw [I.ok.glob]; exact I.mod.glob.keeps I.bk) (by rw [emg]; exact T.mgS) (by rw [I.ok.blt]; exact hmb1.keeps I.bk) ((hmb2 _ (by decide)).trans PyProof.Rows.Boot.super) ⟨rfl, ?_⟩)
    refine wpAny_loadName_free (c := cc) hkind hkc (by rw [eenv]; simp [List.lookup]) ⟨_, XK _ _ hcell, rfl⟩ ?_
    refine wpAny_loadName_local hkind hka hn hm0 ?_
    refine ks_wpAny_isType_cls hD1 hD2 ⟨rfl, ?_⟩
    refine ks_wpAny_call_super (C := C) hD1 hD2 ho rfl (fun c z => by cases z) (looks_mroIn XK T.sub) (fun h2 e2 k2 => ?_)
    have I2 : Inv X [] (startF N vs [some (.ref C)]) H { s with heap := h2, toks := s.toks + (ps.zip us).length } := I.kept (t' := s.toks + (ps.zip us).length) k2
    have XK2 : K.In h2 := XK.keeps k2
    have hx2 := k2 _ _ ho
    have II : PySem.W.InstAt h2 a ({ cls := .ref C, dict := none, data := .fields #[.ref t1, .none, .none, .none, .bool false, .none] } : Obj) C none := ⟨hx2, rfl, rfl, trivial⟩
    have hsup := T.init
    unfold ks_superIn at hsup
    rw [hcl] at hsup
    refine kxs_getMethod kxs_ValueError e2 (looks_opaque XK2 T.third) (l₀ := cdC.mro) (fun A Q E s k q => wpAny_bind ((looks_clsIn XK2 hcl) A _ E s k (wpAny_pure q))) rfl XK2 hsup (II.type.andThen (looks_subIn XK2 T.isB)) (ks_ne XK2 II hcl) (by decide) ?_
    -- the wrapper stands, pinned
    have k3 : ∀ b o, h2.get? b = some o → (h2.push (kxs_mw "ValueError.__init__" a)).get? b = some o := fun b o q => Heap.get?_push_of_some _ q
    have I3 : Inv X [] (startF N vs [some (.ref C)]) H { s with heap := h2.push (kxs_mw "ValueError.__init__" a), toks := s.toks + (ps.zip us).length + 1 } := I2.kept (t' := s.toks + (ps.zip us).length + 1) k3
    have hmw : (h2.push (kxs_mw "ValueError.__init__" a)).get? h2.objs.size = some (kxs_mw "ValueError.__init__" a) := Heap.get?_push_at rfl rfl
    have I4 : Inv X [(h2.objs.size, kxs_mw "ValueError.__init__" a)] (startF N vs [some (.ref C)]) H { s with heap := h2.push (kxs_mw "ValueError.__init__" a), toks := s.toks + (ps.zip us).length + 1 } := by
      refine I3.pins_of fun p hp => ?_
      obtain rfl : p = (h2.objs.size, kxs_mw "ValueError.__init__" a) := by simpa using hp
      exact ⟨hmw, I2.hok.fresh (Nat.le_refl _), Nat.ne_of_gt I2.lt, I2.nofs (Nat.le_refl _), fun v z => by cases z⟩
    have hargs := hta.run p3 _ _ _ _ _ I4 hq
    have hst' := hst X.env
    rw [hst'] at hargs ⊢
    refine kxs_callWith (i := "ValueError.__init__") (x := a) (by show (false || (backTo p3 (starEach es X.env)).any (·.1)) = false; rw [hplain]; rfl) (PySem.Calls.evalArgs_plain (thn hargs fun us2 s2 hh => ?_))
    obtain ⟨vs2, H2, J, rv2, hlen2, hea2, hnx⟩ := hh
    obtain ⟨hu2, _⟩ := J.pin (h2.objs.size, kxs_mw "ValueError.__init__" a) (List.mem_append_right _ (by simp))
    refine ⟨hu2, ?_⟩
    obtain ⟨nm, q, N', bs, bm, sn, sub, ab, col, dd, k0, k1, k2', k3', k5, hC, hbm⟩ := T.ox.cls
    obtain ⟨t3, ho3⟩ := exo_at J.hok hea2
    have XK4 : K.In s2.heap := by have := J.kIn; rw [eK] at this; exact this
    obtain ⟨hp4, g4, d4, tk4, os4⟩ := s2
    refine mw_call (XK4 _ _ hC) ho3 hu2 (by show us2.length ≤ sizeLine; rw [← rv2.length]; exact hlen2) fun h5 t5 k5 hx5 => ?_
    have J5 := J.write (t' := tk4) (x := a) (e := a) (o := exo a C none) (by rw [hea2]; exact True.intro) (.inl rfl) k5 ⟨_, hx5⟩ (exo_ok hx5)
    have eu : upd H2 a (exo a C none) = H2 := by
      funext b
      by_cases hb : b = a
      · rw [hb, upd_same, hea2]
      · rw [upd_ne hb]
    rw [eu] at J5
    have J6 : Inv X [] (startF N vs [some (.ref C)]) H2 { heap := h5, gens := g4, drawn := d4, toks := tk4, os := os4 } := J5.pins_of fun p hp => by cases hp
    exact wpAt_of_wpAny (ht.run [] _ _ _ _ J6 hnx)
  · cases fl with
    | ret u =>
      obtain ⟨v, σ', H', J, rv, q⟩ := hs
      exact fin J rv q
    | next =>
      obtain ⟨σ', H', J, q⟩ := hs
      exact fin (v := V.non) (u := Value.none) J rfl q
    | brk =>
      obtain ⟨_, _, _, q⟩ := hs
      exact False.elim q
    | cont =>
      obtain ⟨_, _, _, q⟩ := hs
      exact False.elim q
  · rw [exe] at hs
    rw [eP, ew]
    exact hs
end
end LX
/-! own exceptions that carry fields, caught and asked; defs called where one is handled -/
namespace LX
open PySem PySem.Spec PyProof.Rows L2 NdefX
/-- what an own exception class says -/
structure ExK (K : PySem.W.Frag) (D : Addr) : Prop where
  ox : OexC K D
  hg : PySem.W.findIn K (.ref D) "__getattribute__" = some (some (.builtin "BaseException.__getattribute__"))
  hk : PySem.W.findIn K (.ref D) "__getattr__" = some none
  hd : PySem.W.hasDictIn K D = true
  ha : PySem.W.findIn K (.ref D) "__class__" = some (some (.builtin "object.__class__"))
  hn : PySem.W.specialIn K (.builtin "object.__class__") "__get__" = some (some (.builtin "getset_descriptor.__get__"))
  ht : PySem.W.takesIn K (.builtin "object.__class__") = some true
  hm : PySem.W.mroIn K D (.type "object") = some true
section
variable {P : Program} {w : World} {K : PySem.W.Frag} {mg : Str → Option Value} {base : Heap}
theorem okN {x qual : Str} {st : Stmt} {f : Addr} {fd : FuncData} {N ps : List Str} {k : Nat} {sp : Sp} (F : Fun K x qual st f fd) (S : FnScope N ps (defScope st)) (len : ∀ vs H Q E, sp vs H Q E → vs.length = ps.length)
    (hbody : ∀ (cdv : Value) (A : Around) (outer : List Env) (s : Shared) (H : Hp) (vs : List V) (Q : VK) (E : XK), Room k (A.deeper (envOfC qual (defScope st) s.heap.objs.size f cdv)) → sp vs H Q E →
      ∃ t, PSs (cxOf (L2N.CX P w) P w K mg base N qual (defScope st) f cdv A outer s H E) (defBody st) t ∧ t { nx := fun _ H' => Q .non H', rt := Q } (L2.start N vs) H) : FnOk P w K mg base (L2N.CX P w) (k + 1) f fd ps sp := by
  obtain ⟨oc, od, kV, doc, pm, an, cdv, ct, osl, rfl, lk, hcd⟩ := F.ex
  exact fn_of lk hcd S len fun A outer s H vs Q E hr hsp => hbody cdv A outer s H vs Q E hr hsp
end
section
variable {X : Cx} {o e : Expr} {es : List Expr} {to te : TE} {ta : TA} {f : Str} {p p' p1 p2 pos : Pos}
theorem pmk_x {CX : CXT} {x : Str} {C fI : Addr} {k : Nat} {fd : FuncData} {ps : List Str} {sp : Sp} (T : OexC X.K C) (iC : PySem.W.findIn X.K (.ref C) "__init__" = some (some (.ref fI)) ∧ PySem.W.typeIn X.K (.ref fI) = some (.type "function"))
    (F1 : FnOk X.prog X.w X.K X.mg X.base CX k fI fd ps sp) (hr : Room (k + 1) X.A) (hb : Binds X.K fd ps []) (hx : Passes CX X (fun _ _ _ => False)) (hg : Gl X x) (hm : X.mg x = some (.ref C)) (ha : PA X (e :: es) ta)
    (hdb : (x == ("__debug__" : Str)) = false := by decide) (he : starEach (e :: es) X.env = (false, eval e X.env) :: starEach es X.env := by rfl) (hpl : (backTo pos (starEach es X.env)).any (·.1) = false := by rfl) :
    L2N.PMk X (.Call (.Name x p) (e :: es) [] pos) (tMkO C sp [] ta) := by
  obtain ⟨iC, tI⟩ := iC
  intro pins s σ H Q I h
  obtain ⟨nm, q, N, bs, bm, sn, sub, ab, col, dd, k0, k1, k2, k3, k5, hC, hbm⟩ := T.cls
  refine wpAny_Call_Name_kw (ld_glob I hg hm ?_ hdb)
  refine PySem.W.callWith_K (h₀ := X.base) I.ok.mod.kin T.kC (thn (ha.run pos pins s σ H _ I h) fun us s1 ⟨vs, H1, I1, r1, hz, q1⟩ => ⟨I1.kIn, ?_⟩) he hpl
  show wpAny _ _ (call (.ref C) us) _ _ _
  obtain ⟨hp, g, dr, tk, os⟩ := s1
  have hsz : hp.objs.size ≤ hp.objs.size + 1 := Nat.le_succ _
  have hn : H1 (hp.objs.size + 1) = none := I1.hok.fresh hsz
  have hq := q1 (hp.objs.size + 1) hn
  rw [List.append_nil] at hq
  have kk : ∀ b o, hp.get? b = some o → ((hp.push (PySem.W.kdv_tup us)).push (PySem.HandSPX.excO C hp.objs.size)).get? b = some o := fun b o e => Heap.get?_push_of_some _ (Heap.get?_push_of_some _ e)
  have hget : ((hp.push (PySem.W.kdv_tup us)).push (PySem.HandSPX.excO C hp.objs.size)).get? (hp.objs.size + 1) = some (PySem.HandSPX.excO C hp.objs.size) := by heap_get
  have I2 : Inv X pins σ (upd H1 (hp.objs.size + 1) (exo (hp.objs.size + 1) C none)) ⟨(hp.push (PySem.W.kdv_tup us)).push (PySem.HandSPX.excO C hp.objs.size), g, dr, tk, os⟩ :=
    I1.laid (t' := tk) (a := hp.objs.size + 1) (o := exo (hp.objs.size + 1) C none) (h' := (hp.push (PySem.W.kdv_tup us)).push (PySem.HandSPX.excO C hp.objs.size)) kk hsz (exo_ok hget)
  have r2 : Vals (V.ref (hp.objs.size + 1) :: vs) (Value.ref (hp.objs.size + 1) :: us) := .cons rfl r1
  have hl : (Value.ref (hp.objs.size + 1) :: us).length = ps.length := by
    have e := r2.length
    rw [F1.len _ _ _ _ hq] at e
    exact e.symm
  have hus : us.length ≤ sizeLine := by
    rw [← Paired.length r1, sizeLine_eq]
    omega
  have hb1 := hb ⟨(hp.push (PySem.W.kdv_tup us)).push (PySem.HandSPX.excO C hp.objs.size), g, dr, tk, os⟩ (Value.ref (hp.objs.size + 1) :: us) I2.kIn (by rw [List.append_nil]; exact hl)
  rw [List.append_nil] at hb1
  refine wpAny_call (PySem.HandSPX.call_own F.excBase_ValueError (fun Y => PySem.HandSPX.refsVE_contains Y bm hbm) (I1.kIn _ _ hC) (PySem.W.looks_findIn I1.kIn iC) (fun self => PySem.W.bind_fn I1.kIn self tI) hus
    (codeAny_mono (F1.run _ X.stack _ _ ⟨Value.ref (hp.objs.size + 1) :: us, []⟩ (Value.ref (hp.objs.size + 1) :: us) _ _ (fun _ _ _ => False) (hr.make C us []) (I2.env0.make C us []) hb1 r2 hq) fun r s' hq' => ?_))
  cases r with
  | error er => exact hx pins σ _ _ er s' I2 hq'
  | ok fl =>
    cases fl with
    | ret u =>
      obtain ⟨v, H2, os2, bare2, un2, hok2, rv, ev, d, fs, ea, ed, hd1, q2⟩ := hq'
      subst ev
      obtain ⟨h2, g2, d2, t2, os'⟩ := s'
      obtain ⟨t0, G, J, kG, ge, hoe, na⟩ := mk_end0 (d2 := d2) (t2 := t2) I1 hsz kk un2 hok2 os2 bare2 ea ed hd1
      exact ⟨rv, _, _, _, ⟨G, g2, d2, t2, os'⟩, _, .ref C, some d, rfl, J, kG, ge, hoe, ⟨rfl, rfl, fun vs e => by cases e; rfl⟩, rfl, rfl, na, rfl, bare2, raises_own T.exC T.tyC, q2⟩
    | next => exact False.elim hq'
    | brk => exact False.elim hq'
    | cont => exact False.elim hq'
end
/-! ### calls within a try -/
section
variable {X : Cx} {CX : CXT} {k : Nat} {f C : Addr} {fd : FuncData} {ps : List Str} {sp : Sp} {E : L2.St → XK} {x m : Str} {p pos apos : Pos} {e o : Expr} {es : List Expr} {ta : TE} {t : TA}
theorem pe_methAt {pl : Sem Bool} (he : PE X o ta) (c : Cls X.K C) (hm : Meth X.K C m f) (F : FnOk X.prog X.w X.K X.mg X.base CX k f fd ps sp) (hr : Room k X.A) (hb : Binds X.K fd ps []) (hx : ∀ σ, PassesAt CX X σ (E σ)) (ha : PA X (e :: es) t)
    (hst : starEach (e :: es) X.env = (false, eval e X.env) :: starEach es X.env := by rfl) (hpl : (backTo pos (starEach es X.env)).any (·.1) = false := by rfl)
    (ht : eval (.Call (.Attribute o m apos) (e :: es) [] pos) X.env = (do
      let ov ← eval o X.env
      standAt apos.atName
      let (f, first) ← holding [ov] (getMethod ov m pl)
      callWith pos f first (backTo pos (starEach (e :: es) X.env)) (backToKw pos (keywordEach [] X.env))) := by rfl) :
    PE X (.Call (.Attribute o m apos) (e :: es) [] pos) (L2H.tMethH C m sp E ta t) := by
  refine ⟨fun pins s σ H Q I h => ?_⟩
  refine PySem.W.methodCall_KW (pl := pl) (thn (he.run pins s σ H _ I h) fun u s1 ⟨x, H1, I1, rx, a, dx, fs, ex, ea, l, q⟩ => ?_) ht
  subst ex
  obtain rfl : u = Value.ref a := rx
  refine getmeth_ok I1 ea c hm l ?_
  refine PySem.W.callWith_K (first := [.ref a]) (h₀ := X.base) I.ok.mod.kin hm.kp (thn (ha.run pos pins s1 σ H1 _ I1 q) fun us s2 ⟨vs, H2, I2, r, q2⟩ => ⟨I2.kIn, ?_⟩) hst hpl
  exact run_fnS (us := .ref a :: us) (vs := .ref a :: vs) F hr hb (hx σ) I2 (.cons rfl r) q2
theorem pe_methAt0 {pl : Sem Bool} (he : PE X o ta) (c : Cls X.K C) (hm : Meth X.K C m f) (F : FnOk X.prog X.w X.K X.mg X.base CX k f fd ps sp) (hr : Room k X.A) (hb : Binds X.K fd ps []) (hx : ∀ σ, PassesAt CX X σ (E σ))
    (ht : eval (.Call (.Attribute o m apos) [] [] pos) X.env = (do
      let ov ← eval o X.env
      standAt apos.atName
      let (f, first) ← holding [ov] (getMethod ov m pl)
      callWith pos f first (backTo pos (starEach [] X.env)) (backToKw pos (keywordEach [] X.env))) := by rfl) :
    PE X (.Call (.Attribute o m apos) [] [] pos) (L2H.tMethH C m sp E ta tNil) := by
  refine ⟨fun pins s σ H Q I h => ?_⟩
  refine PySem.W.methodCall_KW (pl := pl) (thn (he.run pins s σ H _ I h) fun u s1 ⟨x, H1, I1, rx, a, dx, fs, ex, ea, l, q⟩ => ?_) ht
  subst ex
  obtain rfl : u = Value.ref a := rx
  refine getmeth_ok I1 ea c hm l ?_
  exact PySem.W.callWith_K0 (first := [.ref a]) I1.kIn hm.kp (run_fnS (us := [.ref a]) (vs := [.ref a]) F hr hb (hx σ) I1 (.cons rfl .nil) q)
end
theorem pass0At {X : Cx} {E : L2.St → XK} : ∀ σ, PassesAt CX0 X σ (E σ) := fun _ _ _ _ _ _ _ h => h.elim
/-! ### asking the exception that is held -/
/-- what is known of a pinned exception -/
structure PinE (cls : Value) (d : Option Addr) (oe : Obj) : Prop where
  z : L2N.Zn cls d oe
  f : ∃ vs, oe.data = .fields vs
def rIsP (K : PySem.W.Frag) (a : Addr) (cls : Value) (d : Option Addr) : List V → Hp → VK → Prop := fun xs H Q => ∃ (D : Addr) (c : V) (cv : Value) (b : Bool), cls = .ref D ∧ ExK K D ∧ xs = [.ref a, c] ∧ ClsV c cv ∧ PySem.W.kitOne K (.ref D) cv = some b ∧ (∀ dd, d = some dd → ∃ fs, H dd = some (.xd fs)) ∧ Q (.bl b) H
theorem call_isP {X : Cx} {a : Addr} {oe : Obj} {cls : Value} {d : Option Addr} (hp : (a, oe) ∈ X.pn) (Z : PinE cls d oe) : CallR X (.builtin "isinstance") (rIsP X.K a cls d) := by
  intro pins s σ H xs us Q I r h
  obtain ⟨D, c, cv, b, rfl, C, rfl, hcv, e, hdd, q⟩ := h
  cases r with
  | cons rx rr =>
    cases rr with
    | cons rt rr =>
      cases rr
      cases rx
      have ec := hcv.eq rt
      subst ec
      obtain ⟨hget, _⟩ := I.pin (a, oe) (List.mem_append_left _ hp)
      obtain ⟨vs, hv⟩ := Z.f
      have hz := Z.z.zc
      obtain ⟨cdD, hcD, _⟩ := PySem.W.any_some C.hd
      cases d with
      | none =>
        have J : PySem.W.InstAt s.heap a oe D none := by
          obtain ⟨oc, od, oda, osl⟩ := oe
          obtain ⟨h1, h2⟩ := hz
          dsimp only at h1 h2 hv
          subst h1 h2 hv
          exact ⟨hget, rfl, rfl, trivial⟩
        exact PySem.W.kia_one (PySem.W.kitx_exc (by rw [hcD]; rfl) C.hg C.hk C.ox.exC C.ha C.hn C.ht C.hm) I.kIn J e (fun z => nomatch z) fun tk => ⟨.bl b, H, I.kept (t' := tk) fun _ _ z => z, rfl, q⟩
      | some dd =>
        obtain ⟨fs, hfs⟩ := hdd dd rfl
        have hx : ObjOk X.prog X.w H s.heap dd (.xd fs) := I.hok dd _ hfs
        obtain ⟨mA, hns, hr⟩ := hx
        obtain ⟨od, ho, hl⟩ := lookIn_ns hns
        have J : PySem.W.InstAt s.heap a oe D (some od) := ⟨hget, hz.1, by unfold PySem.W.notCls; rw [hv] <;> rfl, by rw [hz.2]; exact ho⟩
        exact PySem.W.kia_one (PySem.W.kitx_exc (by rw [hcD]; rfl) C.hg C.hk C.ox.exC C.ha C.hn C.ht C.hm) I.kIn J e (fun z => nomatch z) fun tk => ⟨.bl b, H, I.kept (t' := tk) fun _ _ z => z, rfl, q⟩
/-- field f of the exception held -/
def tXfP (K : PySem.W.Frag) (a : Addr) (cls : Value) (d : Option Addr) (f : Str) (te : TE) : TE := fun σ H Q => te σ H fun x H1 => x = .ref a ∧ ∃ (C dd : Addr) (fs : List (Str × V)) (v : V), cls = .ref C ∧ ExK K C ∧ PySem.W.findIn K (.ref C) f = some none ∧ d = some dd ∧ H1 dd = some (.xd fs) ∧ fs.lookup f = some v ∧ Q v H1
theorem pe_xfP {X : Cx} {a : Addr} {oe : Obj} {cls : Value} {d : Option Addr} {e : Expr} {te : TE} {pos : Pos} {n : Str} (hp : (a, oe) ∈ X.pn) (Z : PinE cls d oe) (he : PE X e te) (hb : attributeBase e n X.env (eval e X.env) = eval e X.env := by rfl) :
    PE X (.Attribute e n pos) (tXfP X.K a cls d n te) := by
  refine ⟨fun pins s σ H Q I h => ?_⟩
  refine attr_of hb (thn (he.run pins s σ H _ I h) fun u s1 hh => ?_)
  obtain ⟨x, H1, I1, rx, ex, C, dd, fs, v, ec, T, hno, ed, ea, l, q⟩ := hh
  subst ex
  obtain rfl : u = Value.ref a := rx
  subst ec
  subst ed
  have hz := Z.z.zc
  obtain ⟨ha, _⟩ := I1.pin (a, oe) (List.mem_append_left _ hp)
  obtain ⟨vs, hd⟩ := Z.f
  have hx : ObjOk X.prog X.w H1 s1.heap dd (.xd fs) := I1.hok dd _ ea
  obtain ⟨mA, hns, hr⟩ := hx
  obtain ⟨od, ho, hl⟩ := lookIn_ns hns
  obtain ⟨u, hu, ru⟩ := RelO.some_of (v := v) (o := mA n) (by rw [← l]; exact hr n)
  have J : PySem.W.InstAt s1.heap a oe C (some od) := ⟨ha, hz.1, by unfold PySem.W.notCls; rw [hd] <;> rfl, by rw [hz.2]; exact ho⟩
  exact HandSPX.exc_get I1.kIn J T.hg T.hk T.ox.exC (PySem.W.findObj_own T.hd hno rfl (by rw [hl, hu])) (handed_of ru) ⟨v, H1, I1.tok _, ru, q⟩
/-! ### defs called where an exception is handled, that may know it -/
abbrev SpP := Addr → Value → Option Addr → Sp
structure FnHP (P : Program) (w : World) (K : PySem.W.Frag) (mg : Str → Option Value) (base : Heap) (CX : CXT) (k : Nat) (f : Addr) (fd : FuncData) (ps : List Str) (sp : SpP) : Prop where
  len : ∀ a cls d vs H Q E, sp a cls d vs H Q E → vs.length = ps.length
  run : ∀ (A : Around) (outer : List Env) (s : Shared) (H : Hp) (args : Args) (us : List Value) (vs : List V) (Q : VK) (E : XK) (p : Addr × Obj) (cls : Value) (d : Option Addr), L2H.RoomH k A → L2H.Hot1 A p → PinE cls d p.2 → L2H.PinOk outer H s p → Env0 P w K mg base A outer s H → BindsTo s fd args (ps.zip us) → Vals vs us → sp p.1 cls d vs H Q E →
    codeAny (model P w) A (.call (.ref f) args) (CR CX outer P w H s Q E) s
theorem fn_ofHP {CX : CXT} {P : Program} {w : World} {K : PySem.W.Frag} {mg : Str → Option Value} {base : Heap} {k : Nat} {f : Addr} {name qual : Str} {params : Arguments} {body : List Stmt} {scope : Scope} {dV kV doc pm cdv ct oc : Value} {an od : Option Addr}
    {osl : Array (Option Value)} {N ps : List Str} {sp : SpP} (lk : K.lookup f = some ⟨oc, od, .func (PySem.W.fnOf name qual params body scope dV kV doc pm an cdv ct), osl⟩) (hcd : PySem.W.codeIn K cdv qual = true) (S : FnScope N ps scope)
    (len : ∀ a cls d vs H Q E, sp a cls d vs H Q E → vs.length = ps.length)
    (hbody : ∀ (A : Around) (outer : List Env) (s : Shared) (H : Hp) (vs : List V) (Q : VK) (E : XK) (p : Addr × Obj) (cls : Value) (d : Option Addr), L2H.Hot1 A p → PinE cls d p.2 → L2H.RoomH k (A.deeper (envOfC qual scope s.heap.objs.size f cdv)) → sp p.1 cls d vs H Q E →
      ∃ t, PSs (L2H.cxH CX P w K mg base N qual scope f cdv A outer s H E p) body t ∧ t { nx := fun _ H' => Q .non H', rt := Q } (L2.start N vs) H) :
    FnHP P w K mg base CX (k + 1) f (PySem.W.fnOf name qual params body scope dV kV doc pm an cdv ct) ps sp := by
  refine ⟨len, fun A outer s H args us vs Q E p cls d hr hot Z hpin e0 hb r hsp => ?_⟩
  have hl := len _ _ _ _ _ _ _ hsp
  have KX : K.In s.heap := e0.mod.kin.keeps fun b o e => (e0.bs b o e).1
  have lim : s.heap.NoLimit := e0.mod.nolimit.keeps fun b o e => (e0.bs b o e).1
  have hkind : ∀ y ∈ ps.zip us, scope.names.lookup y.1 = some .local ∨ (scope.names.lookup y.1 = some .cell ∧ ((cellsFrom (s.heap.objs.size + 1) scope.names []).lookup y.1).isSome = true) := fun ⟨n, v⟩ hy => by
    rcases S.par n (List.of_mem_zip hy).1 with q | q
    · exact .inl q
    · exact .inr ⟨q, PySem.W.cellsFrom_some _ _ _ (.inl q)⟩
  refine codeAny_call_function hr.depth (KX _ _ lk) rfl S.co S.gen rfl (PySem.W.codeRec_of KX hcd) (hb _ _ _ _ ?_)
  refine wpAny_newFunctionEnv_cells S.kind hkind fun env he s1 x => ?_
  subst he
  refine ⟨lim.keeps x.toInCall.keep, codeAny_func ?_⟩
  obtain ⟨t, ht, hq⟩ := hbody A outer s H vs Q E p cls d hot Z (hr.deeper _) hsp
  have I : Inv (L2H.cxH CX P w K mg base N qual scope f cdv A outer s H E p) [] (L2.start N vs) H s1 := L2H.inv_startH S hpin e0 hl r x
  refine wpAny_mono (ht.run [] s1 (L2.start N vs) H _ I hq) (fun fl s' hs => ?_) fun e s' hs => hs
  have fin : ∀ {σ' : L2.St} {H' : Hp} {v : V} {u : Value}, Inv (L2H.cxH CX P w K mg base N qual scope f cdv A outer s H E p) [] σ' H' s' → RelV v u → Q v H' → CE outer P w H s Q u s' :=
    fun {σ' H' v u} J rv q => ⟨v, H', J.os, J.bare, J.base, J.hok, rv, q⟩
  cases fl with
  | ret u =>
    obtain ⟨v, σ', H', J, rv, q⟩ := hs
    exact fin J rv q
  | next =>
    obtain ⟨σ', H', J, q⟩ := hs
    exact fin (v := V.non) (u := Value.none) J rfl q
  | brk =>
    obtain ⟨_, _, _, q⟩ := hs
    exact False.elim q
  | cont =>
    obtain ⟨_, _, _, q⟩ := hs
    exact False.elim q
theorem okHP {P : Program} {w : World} {K : PySem.W.Frag} {mg : Str → Option Value} {base : Heap} {x qual : Str} {st : Stmt} {f : Addr} {fd : FuncData} {N ps : List Str} {k : Nat} {sp : SpP} {CX : CXT} (F : Fun K x qual st f fd) (S : FnScope N ps (defScope st)) (len : ∀ a cls d vs H Q E, sp a cls d vs H Q E → vs.length = ps.length)
    (hbody : ∀ (cdv : Value) (A : Around) (outer : List Env) (s : Shared) (H : Hp) (vs : List V) (Q : VK) (E : XK) (p : Addr × Obj) (cls : Value) (d : Option Addr), L2H.Hot1 A p → PinE cls d p.2 → L2H.RoomH k (A.deeper (envOfC qual (defScope st) s.heap.objs.size f cdv)) → sp p.1 cls d vs H Q E →
      ∃ t, PSs (L2H.cxH CX P w K mg base N qual (defScope st) f cdv A outer s H E p) (defBody st) t ∧ t { nx := fun _ H' => Q .non H', rt := Q } (L2.start N vs) H) : FnHP P w K mg base CX (k + 1) f fd ps sp := by
  obtain ⟨oc, od, kV, doc, pm, an, cdv, ct, osl, rfl, lk, hcd⟩ := F.ex
  exact fn_ofHP lk hcd S len fun A outer s H vs Q E p cls d hot Z hr hsp => hbody cdv A outer s H vs Q E p cls d hot Z hr hsp
section
variable {X : Cx} {CX : CXT} {k : Nat} {f C : Addr} {fd : FuncData} {ps : List Str} {sp : SpP} {E : L2.St → XK} {x m : Str} {q pos apos : Pos} {e o : Expr} {es : List Expr} {ta : TE} {t : TA} {p : Addr × Obj} {cls : Value} {d : Option Addr}
theorem run_fnHP {pins : List (Addr × Obj)} {σ : L2.St} {H : Hp} {s : Shared} {Q : VK} {us : List Value} {vs : List V} (F : FnHP X.prog X.w X.K X.mg X.base CX k f fd ps sp) (hr : L2H.RoomH k X.A) (hot : L2H.Hot1 X.A p) (Z : PinE cls d p.2) (hp : p ∈ X.pn) (hb : Binds X.K fd ps []) (hx : PassesAt CX X σ (E σ))
    (I : Inv X pins σ H s) (r : Vals vs us) (h : sp p.1 cls d vs H Q (E σ)) : wpAny (model X.prog X.w) X.A (call (.ref f) us) (EP X pins σ Q) X.xe s := by
  have hl : us.length = ps.length := by rw [← r.length]; exact F.len _ _ _ _ _ _ _ h
  have b := hb s us I.kIn (by rw [List.append_nil]; exact hl)
  rw [List.append_nil] at b
  have P1 := I.pin p (List.mem_append_left _ hp)
  have hpin : L2H.PinOk X.stack H s p := ⟨P1.1, P1.2.1, fun hm => (List.mem_cons.mp (I.stkSub p.1 hm)).elim P1.2.2.1 P1.2.2.2.1, P1.2.2.2.2⟩
  refine wpAny_call (codeAny_mono (F.run X.A X.stack s H ⟨us, []⟩ us vs Q (E σ) p cls d hr hot Z hpin I.env0 b r h) fun r s' hq => ?_)
  cases r with
  | error e => exact hx pins H s e s' I hq
  | ok fl =>
    cases fl with
    | ret u => exact I.after hq
    | next => exact False.elim hq
    | brk => exact False.elim hq
    | cont => exact False.elim hq
theorem pe_callHP {a : Addr} {oe : Obj} (F : FnHP X.prog X.w X.K X.mg X.base CX k f fd ps sp) (hr : L2H.RoomH k X.A) (hot : L2H.Hot1 X.A (a, oe)) (Z : PinE cls d oe) (hp : (a, oe) ∈ X.pn) (hg : Gl X x) (hm : X.mg x = some (.ref f)) (hk : PySem.W.keepIn X.K (.ref f) = true) (hb : Binds X.K fd ps []) (hx : ∀ σ, PassesAt CX X σ (E σ))
    (ha : PA X (e :: es) t) (hdb : (x == ("__debug__" : Str)) = false := by decide) (he : starEach (e :: es) X.env = (false, eval e X.env) :: starEach es X.env := by rfl) (hpl : (backTo pos (starEach es X.env)).any (·.1) = false := by rfl) :
    PE X (.Call (.Name x q) (e :: es) [] pos) (tCallS (sp a cls d) E t) := by
  refine ⟨fun pins s σ H Q I h => ?_⟩
  refine wpAny_Call_Name_kw (ld_glob I hg hm ?_ hdb)
  refine PySem.W.callWith_K (h₀ := X.base) I.ok.mod.kin hk (thn (ha.run pos pins s σ H _ I h) fun us s1 ⟨vs, H1, I1, r, q⟩ => ⟨I1.kIn, ?_⟩) he hpl
  exact run_fnHP (p := (a, oe)) F hr hot Z hp hb (hx σ) I1 r q
end
theorem suite_hot {X : Cx} {a : Addr} {oe : Obj} {cls : Value} {d : Option Addr} {pn : List (Addr × Obj)} (Z : PinE cls d oe) : L2H.Hot1 (X.suite a ((a, oe) :: pn)).A (a, oe) := by
  obtain ⟨vs, hv⟩ := Z.f
  exact ⟨rfl, vs, hv, Z.z.2.2 vs hv⟩
theorem huH_of {A : Around} {k : Nat} (hr : L2H.RoomH k A) : A.units + 64 < cLine := by have := hr.un; omega
theorem hu1H_of {A : Around} {k : Nat} (hr : L2H.RoomH k A) : A.units + 1 < cLine := by have := hr.un; omega
theorem roomS {X : Cx} {k : Nat} {a : Addr} {pn : List (Addr × Obj)} (hr : Room k X.A) : L2H.RoomH k (X.suite a pn).A := ⟨hr.dp, hr.un⟩
theorem takes0N {X : Cx} : L2N.Takes X (fun _ _ _ _ => False) := fun _ _ x => by
  obtain ⟨_, _, _, _, _, _, _, _, _, _, _, _, _, _, _, _, z⟩ := x
  exact z.elim
/-! ### an own exception with one field -/
def StrOk : V → Prop
  | .int i => i.natAbs.log2 < 1920
  | .str _ => True
  | _ => False
def sp_exc1 (C : Addr) (f : Str) : Sp := fun vs H Q _ => ∃ (a : Addr) (x : V), vs = [.ref a, x] ∧ StrOk x ∧ H a = some (exo a C none) ∧ ∀ dx, H dx = none → dx ≠ a → Q .non (L2.upd (L2.upd H dx (exd dx [(f, x)])) a (exo a C (some dx)))
theorem exc1_go {x : V} {H : Hp} {Q : VK} (hx : StrOk x) (h : ∀ z, Q (.str z) H) : rStrU [x] H Q := by
  cases x with
  | int i => exact ⟨hx, h _⟩
  | str z => exact h _
  | _ => exact hx.elim
theorem exc1_mk {C : Addr} {f : Str} {x : V} {H : Hp} {Q : XK} {E : XK} (hx : StrOk x) (h : ∀ d, H d = none → Q (.ref C) (some d) (L2.upd H d (.xd [(f, x)]))) :
    [x].length ≤ 1000 ∧ ∀ a, H a = none → sp_exc1 C f (.ref a :: ([x] ++ [])) (L2.upd H a (exo a C none))
      (fun v H2 => v = .non ∧ ∃ (d : Addr) (fs : List (Str × V)), H2 a = some (exo a C (some d)) ∧ H2 d = some (exd d fs) ∧ H d = none ∧ Q (.ref C) (some d) (L2.upd (del H2 a) d (.xd fs))) E := by
  refine ⟨(by show 1 ≤ 1000; decide), fun a ha => ⟨a, x, rfl, hx, upd_same, fun dx h1 h2 => ⟨rfl, dx, _, upd_same, by rw [upd_ne h2]; exact upd_same, by rw [upd_ne h2] at h1; exact h1, ?_⟩⟩⟩
  have e : L2.upd (del (L2.upd (L2.upd (L2.upd H a (exo a C none)) dx (exd dx [(f, x)])) a (exo a C (some dx))) a) dx (.xd [(f, x)]) = L2.upd H dx (.xd [(f, x)]) := by
    funext b
    by_cases hb : b = dx
    · subst hb; rw [upd_same, upd_same]
    · rw [upd_ne hb, upd_ne hb]
      by_cases hba : b = a
      · subst hba; rw [del_same, ha]
      · rw [del_ne hba, upd_ne hba, upd_ne hb, upd_ne hba]
  rw [e]
  exact h dx (by rw [upd_ne h2] at h1; exact h1)
/-! ### rules with the law's own K, for a try's body and suite -/
section
variable {X : Cx} {K : PySem.W.Frag}
theorem pe_bmK {T name id : String} {r : V → List V → Hp → VK → Prop} {o e : Expr} {es : List Expr} {apos cpos : Pos} {to : TE} {t : TA} (eK : X.K = K) (pa : PlainAttrs T) (slot : Slot T name id) (hty : typeOf (.builtin id) = pure (.type "method_descriptor")) (hm : MtR X id r) (ho : PE X o to) (ha : PA X (e :: es) t)
    (hbase : attributeBase o name X.env (eval o X.env) = eval o X.env := by rfl)
    (hfew : ((backTo cpos (starEach (e :: es) X.env)).all (fun x => !x.1) && (backToKw cpos (keywordEach [] X.env)).all (fun x => x.1.isSome)
      && decide ((e :: es).length + ([] : List Keyword).length + (if ([] : List Keyword).isEmpty then 0 else 1) < 30)) = true := by rfl)
    (hline : (apos.endLine == cpos.line) = true := by rfl) (hs : starEach (e :: es) X.env = (false, eval e X.env) :: starEach es X.env := by rfl) (hplain : (backTo cpos (starEach es X.env)).any (·.1) = false := by rfl) :
    PE X (.Call (.Attribute o name apos) (e :: es) [] cpos) (tBM K T r to t) := by subst eK; exact pe_bm pa slot hty hm ho ha hbase hfew hline hs hplain
theorem call_isiK (eK : X.K = K) : CallR X (.builtin "isinstance") (rIsi K) := by subst eK; exact call_isi
theorem call_isPK {a : Addr} {oe : Obj} {cls : Value} {d : Option Addr} (eK : X.K = K) (hp : (a, oe) ∈ X.pn) (Z : PinE cls d oe) : CallR X (.builtin "isinstance") (rIsP K a cls d) := by subst eK; exact call_isP hp Z
theorem pe_xfPK {a : Addr} {oe : Obj} {cls : Value} {d : Option Addr} {e : Expr} {te : TE} {pos : Pos} {n : Str} (eK : X.K = K) (hp : (a, oe) ∈ X.pn) (Z : PinE cls d oe) (he : PE X e te) (hb : attributeBase e n X.env (eval e X.env) = eval e X.env := by rfl) :
    PE X (.Attribute e n pos) (tXfP K a cls d n te) := by subst eK; exact pe_xfP hp Z he hb
theorem pe_notTK {a : Expr} {ta : TE} {pos : Pos} (eK : X.K = K) (ha : PE X a ta) : PE X (.UnaryOp .Not a pos) (tNotT K ta) := by subst eK; exact pe_notT ha
end
def tTryAs (K : PySem.W.Frag) (c : Value) (i : Nat) (ts : Addr → Value → Option Addr → TS) (Wout : WX) (tb : WX → TS) : TS := fun D σ H => tb (wAs K c i ts Wout D) D σ H
theorem ps_tryAs {X : Cx} {K : PySem.W.Frag} {x n : Str} {c : Value} {i : Nat} {body suite : List Stmt} {b₀ : Stmt} {np pos pos' : Pos} {tb : WX → TS} {ts : Addr → Value → Option Addr → TS} {Wout : WX} (eK : X.K = K)
    (hs : X.stack = X.env :: X.outer) (hf : X.env.frame = some X.env.locals) (hN : X.N.Nodup) (hi : X.N[i]? = some n) (hln : X.env.kindOf n = some .local) (hc : Names X x c) (tk : L2N.Takes X Wout)
    (hb : ∀ (W : WX) (pn : List (Addr × Obj)) (xe : Value → Shared → Prop), L2N.Takes (X.tr pn xe) W → PassesOwn (model X.prog X.w) X.A X.env xe → PSs (X.tr pn xe) body (tb W))
    (hsu : ∀ (a : Addr) (oe : Obj) (cls : Value) (d : Option Addr) (pn : List (Addr × Obj)), L2N.Zn cls d oe → (∃ vs, oe.data = .fields vs) → PSs (X.suite a ((a, oe) :: pn)) (b₀ :: suite) (ts a cls d)) :
    PS X (.Try body [.ExceptHandler (some (.Name x np)) (some n) (b₀ :: suite) pos'] [] [] pos) (tTryAs K c i ts Wout tb) := by subst eK; exact L2N.ps_try_as hs hf hN hi hln hc tk hb hsu
theorem passF {X : Cx} : Passes (L2N.CX X.prog X.w) X (fun _ _ _ => False) := fun _ _ _ _ _ _ _ c => by
  obtain ⟨_, _, _, _, _, _, _, _, _, _, _, _, h⟩ := c
  exact h.elim
end LX
/-! a try with several clauses `except X as n`, clause by clause -/
namespace LX
open PySem PySem.Spec PyProof.Rows L2 NdefX
/-- the clauses hds take any exception that has landed, where wsh is kept -/
def HdlOk (X : Cx) (hds : List ExceptHandler) (wsh : Ends → WX) : Prop :=
  ∀ (pins : List (Addr × Obj)) (σ : L2.St) (H : Hp) (s0 s : Shared) (B : Heap) (x1 : Addr) (cls : Value) (d : Option Addr) (D : Ends), Inv X pins σ H s0 →
    (∀ b o, s0.heap.get? b = some o → b ∉ frs X.stack → B.get? b = some o) → s0.heap.UpToSlots s.heap → HandSPX.FlyingZ B (X.env :: X.outer) x1 (L2N.Zn cls d) s.heap → H x1 = none → s.os = s0.os → AllBare s.gens → wsh D cls d σ H →
    wpAny (model X.prog X.w) X.A (handleBy (.ref x1) X.env hds) (SP X pins D) X.xe s
section
variable {X : Cx} {Wout : WX}
theorem hdl_nil (hs : X.stack = X.env :: X.outer) (hf : X.env.frame = some X.env.locals) (tk : L2N.Takes X Wout) : HdlOk X [] fun _ => Wout := by
  intro pins σ H s0 s B x1 cls d D I nb up fl na os ag hw
  have keep := fl
  obtain ⟨_, _, _, ox, ws, T, _, _, e1, _, e2, e3, _⟩ := fl
  refine wpAny_handleBy_nil ?_
  unfold PySem.passOn
  refine wpAny_bind (wpAny_field e1 e2 e3 ?_)
  have nT : ¬ ((Value.ref T == Value.none) = true) := by simp
  rw [if_neg nT]
  have last : wpAny (model X.prog X.w) X.A (setFlight (.ref x1) X.env.frame) (fun _ u => wpAny (model X.prog X.w) X.A (throw (.ref x1) : Sem Flow) (SP X pins D) X.xe u) X.xe s := by
    rw [hf]
    refine HandSPX.setFlight_upZ keep fun g held more => wpAny_throw (tk _ _ ?_)
    refine ⟨x1, B, s0, pins, σ, H, cls, d, rfl, I, nb, up.trans more, Or.inr (Or.inr ?_), na, os, ag, hw⟩
    rw [hs]; exact held
  first
    | exact wpAny_bind (wpAny_pure (wpAny_bind last))
    | exact wpAny_bind last
theorem hdl_as {x n : Str} {c : Value} {i : Nat} {suite : List Stmt} {b₀ : Stmt} {np hpos : Pos} {hds : List ExceptHandler} {ts : Addr → Value → Option Addr → TS} {wr : Ends → WX} (hs : X.stack = X.env :: X.outer) (hf : X.env.frame = some X.env.locals)
    (hN : X.N.Nodup) (hi : X.N[i]? = some n) (hln : X.env.kindOf n = some .local) (hc : Names X x c)
    (hsu : ∀ (a : Addr) (oe : Obj) (cls : Value) (d : Option Addr) (pn : List (Addr × Obj)), L2N.Zn cls d oe → (∃ vs, oe.data = .fields vs) → PSs (X.suite a ((a, oe) :: pn)) (b₀ :: suite) (ts a cls d)) (r : HdlOk X hds wr) :
    HdlOk X (.ExceptHandler (some (.Name x np)) (some n) (b₀ :: suite) hpos :: hds) fun D => wAs X.K c i ts (wr D) D := by
  intro pins σ H s0 s B x1 cls d D I nb up fl na os ag hw
  obtain ⟨yes, hm, hy, hno⟩ := hw
  have hok := I.ok
  -- what stands where the exception has landed, in any such heap
  have stand : ∀ g : Heap, HandSPX.FlyingZ B (X.env :: X.outer) x1 (L2N.Zn cls d) g → s0.heap.UpToSlots g → ∃ ob, g.get? x1 = some ob ∧ L2N.Zn cls d ob ∧ (∃ vs, ob.data = .fields vs) ∧ Inv X pins σ H { s with heap := g } ∧ Inv (X.suite x1 ((x1, ob) :: (X.pn ++ pins))) [] σ H { s with heap := g } := fun g fg ug => by
    have Ig : Inv X pins σ H { s with heap := g } := I.landed nb fg.1 ug os ag
    obtain ⟨ob, vs, g1, g2, g3⟩ := fg.there
    have out : x1 ∉ frs (X.env :: X.outer) := fun m => by
      obtain ⟨_, o2, g4, bad⟩ := fg.2.2.1.mem m
      rw [g1] at g4
      cases g4
      exact bad _ g3
    have n1 : x1 ≠ X.env.locals := fun z => by
      refine out (List.mem_filterMap.mpr ⟨X.env, List.mem_cons_self, ?_⟩)
      rw [hf, z]
    have n2 : x1 ∉ X.fs := fun m => by
      obtain ⟨e, m1, m2⟩ := List.mem_filterMap.mp m
      exact out (List.mem_filterMap.mpr ⟨e, List.mem_cons_of_mem _ m1, m2⟩)
    exact ⟨ob, g1, g2, ⟨vs, g3⟩, Ig, Ig.suite g1 g3 na n1 n2⟩
  obtain ⟨ob, o1, o2, _, I3, S3⟩ := stand s.heap fl up
  have ty : PySem.W.Looks (model X.prog X.w) s.heap (typeOf (.ref x1)) cls := fun A' Q' E' u ku q => wpAny_typeOf_ref (ku _ _ o1) (by rw [o2.1]; exact q)
  have asks := PySem.W.exm_one (M := model X.prog X.w) I3.kIn ty hm
  have cl : ∀ {Q' : Value → Shared → Prop} {E' : Value → Shared → Prop}, Q' c s → wpAny (model X.prog X.w) (X.A.mark (some (.ref x1))) (eval (.Name x np) X.env) Q' E' s := fun {Q' E'} q => by
    obtain ⟨c1, c2, c3⟩ := hc
    rcases c3 with c3 | ⟨c3, c4, c5⟩
    · exact ld_glob (X := X.suite x1 ((x1, ob) :: (X.pn ++ pins))) S3 c1 c3 q c2
    · exact ld_blt (X := X.suite x1 ((x1, ob) :: (X.pn ++ pins))) S3 c1 c3 c4 q c5 c2
  refine wpAny_handleBy_cons (codeAny_handlers_test (cl (asks.here ?_))) (fun z => by cases z)
  by_cases hyes : yes = true
  · subst hyes
    refine codeAny_handlers_suite_as (HandSPX.lands_againZ fl fun g fg more => ?_)
    obtain ⟨o4, _, z4, f4, _, S4⟩ := stand g fg (up.trans more)
    refine store_ok (X := X.suite x1 ((x1, o4) :: (X.pn ++ pins))) (v := .ref x1) S4 hN hi (Or.inl hln) rfl (fun u U => ?_) (Or.inr hln)
    refine wpAny_mono ((hsu x1 o4 cls d (X.pn ++ pins) z4 f4).run [] u _ H _ U (hy rfl x1 na)) (fun fl' u' done => ?_) (fun _ _ z => z.elim)
    have behind : ∀ {σ' : L2.St} {H' : Hp} {R : Shared → Prop}, Inv (X.suite x1 ((x1, o4) :: (X.pn ++ pins))) [] σ' H' u' → (∀ v, Inv X pins (σ'.set i none) H' v → R v) →
        wpAny (model X.prog X.w) X.A (do bindName X.env n .none; unbindBehindTheSuite X.env n hpos) (fun _ v => R v) X.xe u' := fun U' k => gone_ok (U'.unsuite hok) hN hi hln k
    cases fl' with
    | next => obtain ⟨_, _, U', q⟩ := done; exact behind U' fun v V => ⟨_, _, V, q⟩
    | brk => obtain ⟨_, _, U', q⟩ := done; exact behind U' fun v V => ⟨_, _, V, q⟩
    | cont => obtain ⟨_, _, U', q⟩ := done; exact behind U' fun v V => ⟨_, _, V, q⟩
    | ret w => obtain ⟨_, _, _, U', rw', q⟩ := done; exact behind U' fun v V => ⟨_, _, _, V, rw', q⟩
  · have e : yes = false := by simpa using hyes
    subst e
    exact r pins σ H s0 s B x1 cls d D I nb up fl na os ag (hno rfl)
theorem ps_tryH {body : List Stmt} {h₀ : ExceptHandler} {hds : List ExceptHandler} {pos : Pos} {tb : WX → TS} {wsh : Ends → WX} (hs : X.stack = X.env :: X.outer) (hf : X.env.frame = some X.env.locals)
    (hb : ∀ (W : WX) (pn : List (Addr × Obj)) (xe : Value → Shared → Prop), L2N.Takes (X.tr pn xe) W → PassesOwn (model X.prog X.w) X.A X.env xe → PSs (X.tr pn xe) body (tb W)) (hh : HdlOk X (h₀ :: hds) wsh) :
    PS X (.Try body (h₀ :: hds) [] [] pos) (fun D σ H => tb (wsh D) D σ H) := by
  refine ⟨fun pins s σ H D I h => wpAny_Try_except ?_⟩
  have hok := I.ok
  have fr : X.A.frames = some (X.env :: X.outer) := by rw [hok.frames, hs]
  let away : Value → Shared → Prop := fun v t => wpAny (model X.prog X.w) X.A (noteFrame v X.env) (fun _ t2 => wpAny (model X.prog X.w) X.A (setFlight v none) (fun _ t3 => wpAny (model X.prog X.w) X.A (handleBy v X.env (h₀ :: hds)) (SP X pins D) X.xe t3) X.xe t2) X.xe t
  have tk : L2N.Takes (X.tr (X.pn ++ pins) away) (wsh D) := by
    rintro v t ⟨x1, B, s0, pins', σ', H', cls, d, rfl, I', nb, up, sky, na, os, ag, hw⟩
    have I0 : Inv X pins σ' H' s0 := I'.ofTry hok
    have sky : Sky B (X.env :: X.outer) x1 (L2N.Zn cls d) X.env.locals t.heap := by rw [← hs]; exact sky
    refine L2N.Sky.land L2N.Zn.steady fr hf sky fun g fg more => ?_
    exact hh pins σ' H' s0 { t with heap := g } B x1 cls d D I0 nb (up.trans more) fg na os ag hw
  refine wpAny_mono ((hb (wsh D) (X.pn ++ pins) away tk PassesOwn.looking).run [] s σ H D (I.toTry _) h) (fun f t q => ?_) (fun _ _ z => z)
  cases f with
  | next => obtain ⟨_, _, I', q⟩ := q; exact wpAny_execs_nil ⟨_, _, I'.ofTry hok, q⟩
  | brk => obtain ⟨_, _, I', q⟩ := q; exact ⟨_, _, I'.ofTry hok, q⟩
  | cont => obtain ⟨_, _, I', q⟩ := q; exact ⟨_, _, I'.ofTry hok, q⟩
  | ret v => obtain ⟨_, _, _, I', rv, q⟩ := q; exact ⟨_, _, _, I'.ofTry hok, rv, q⟩
end
/-! ### own exceptions with two fields, a text and an int -/
def sp_exc2 (C : Addr) (f g : Str) : Sp := fun vs H Q _ => ∃ (a : Addr) (z : Str) (i : Int), vs = [.ref a, .str z, .int i] ∧ z.length ≤ 1000 ∧ i.natAbs.log2 < 1920 ∧ H a = some (exo a C none) ∧
  ∀ dx, H dx = none → dx ≠ a → Q .non (L2.upd (L2.upd (L2.upd H dx (exd dx [(f, .str z)])) a (exo a C (some dx))) dx (exd dx [(g, .int i), (f, .str z)]))
theorem str_len (x y : Str) : (x ++ y).length = x.length + y.length := by
  show (x.cps ++ y.cps).size = x.cps.size + y.cps.size
  simp
theorem exc2_l1 {z : Str} (hz : z.length ≤ 1000) : z.length + (T [32]).length ≤ sizeLine := by
  have : (T [32]).length = 1 := rfl
  rw [this, sizeLine_eq]; omega
theorem exc2_l2 {z : Str} {i : Int} (hz : z.length ≤ 1000) (hi : i.natAbs.log2 < 1920) : (z ++ T [32]).length + (PySem.Str.ofString (toString i)).length ≤ sizeLine := by
  have h1 := int_text_len_1921 hi
  have h2 : (T [32]).length = 1 := rfl
  rw [str_len, h2, sizeLine_eq]; omega
theorem exc2_mk {C : Addr} {f g : Str} {z : Str} {i : Int} {H : Hp} {Q : XK} {E : XK} (hz : z.length ≤ 1000) (hi : i.natAbs.log2 < 1920) (h : ∀ d, H d = none → Q (.ref C) (some d) (L2.upd H d (.xd [(g, .int i), (f, .str z)]))) :
    [V.str z, V.int i].length ≤ 1000 ∧ ∀ a, H a = none → sp_exc2 C f g (.ref a :: ([V.str z, V.int i] ++ [])) (L2.upd H a (exo a C none))
      (fun v H2 => v = .non ∧ ∃ (d : Addr) (fs : List (Str × V)), H2 a = some (exo a C (some d)) ∧ H2 d = some (exd d fs) ∧ H d = none ∧ Q (.ref C) (some d) (L2.upd (del H2 a) d (.xd fs))) E := by
  refine ⟨(by show 2 ≤ 1000; decide), fun a ha => ⟨a, z, i, rfl, hz, hi, upd_same, fun dx h1 h2 => ⟨rfl, dx, _, by rw [upd_ne (Ne.symm h2)]; exact upd_same, upd_same, by rw [upd_ne h2] at h1; exact h1, ?_⟩⟩⟩
  have e : L2.upd (del (L2.upd (L2.upd (L2.upd (L2.upd H a (exo a C none)) dx (exd dx [(f, .str z)])) a (exo a C (some dx))) dx (exd dx [(g, .int i), (f, .str z)])) a) dx (.xd [(g, .int i), (f, .str z)]) = L2.upd H dx (.xd [(g, .int i), (f, .str z)]) := by
    funext b
    by_cases hb : b = dx
    · subst hb; rw [upd_same, upd_same]
    · rw [upd_ne hb, upd_ne hb]
      by_cases hba : b = a
      · subst hba; rw [del_same, ha]
      · rw [del_ne hba, upd_ne hb, upd_ne hba, upd_ne hb, upd_ne hba]
  rw [e]
  exact h dx (by rw [upd_ne h2] at h1; exact h1)
end LX
/-! a text of one sign times a number -/
namespace LX
open PySem PySem.Spec PyProof.Rows L2
theorem rep1 (c : Nat) : ∀ (n : Nat) (b : Array Nat), (List.replicate n #[c]).foldl (· ++ ·) b = b ++ (List.replicate n c).toArray
  | 0, b => by simp
  | n + 1, b => by
    rw [List.replicate_succ, List.foldl_cons, rep1 c n, List.replicate_succ]
    apply Array.toList_inj.mp
    simp
section
variable {X : Cx}
def rRepS : R2 := fun x y H Q => ∃ (c : Nat) (n : Int), x = .str (T [c]) ∧ y = .int n ∧ 2 ≤ n ∧ n ≤ 100000 ∧ Q (.str (T (List.replicate n.toNat c))) H
theorem op_repS : OpR X (binaryOp .Mult) rRepS := by
  intro pins s σ H x y v u Q I rx ry h
  obtain ⟨c, n, rfl, rfl, h1, h2, q⟩ := h
  obtain ⟨t, rfl⟩ := rx
  obtain ⟨t', rfl⟩ := ry
  have hlen : (T [c]).length = 1 := rfl
  refine PySem.P.mul_str ?_ ?_ ?_ ?_
  · rw [decide_eq_false (by omega), decide_eq_false (by omega)]; rfl
  · intro _ _
    rw [hlen]
    have : (2 ^ 63 - 1) / n ≥ 1 := Int.le_ediv_of_mul_le (by omega) (by omega)
    show ¬ (((1 : Nat) : Int) > (2 ^ 63 - 1) / n)
    omega
  · intro _ _
    rw [hlen]
    unfold Builtin.Str.tooLong
    exact decide_eq_false (by rw [sizeLine_eq]; omega)
  · rw [if_neg (by omega), hlen]
    have e1 : (n == 1 || (1 : Nat) == 0) = false := by
      have : (n == 1) = false := by simpa using (by omega : n ≠ 1)
      rw [this]; rfl
    rw [if_neg (by rw [e1]; exact Bool.false_ne_true)]
    have e2 : (⟨(List.replicate n.toNat (T [c]).cps).foldl (· ++ ·) #[]⟩ : Str) = T (List.replicate n.toNat c) := by
      show (⟨(List.replicate n.toNat #[c]).foldl (· ++ ·) #[]⟩ : Str) = _
      rw [rep1]
      simp
    rw [e2]
    exact ⟨by show (T (List.replicate n.toNat c)).length ≤ _; show (List.replicate n.toNat c).toArray.size ≤ _; rw [List.size_toArray, List.length_replicate, sizeLine_eq]; omega, .str (T (List.replicate n.toNat c)), H, I.tok _, ⟨_, rfl⟩, q⟩
end
end LX
/-! text.replace(..) of written texts where a written text was read before; a clause that is never reached -/
namespace LX
open PySem PySem.Spec PyProof.Rows L2 NdefX CwR
section
variable {X : Cx} {o e a : Expr} {to te ta : TE} {j j2 j3 : Nat} {c0 c1 c2 apos pos pos2 p p' cpos : Pos}
theorem pe_addRepl {q y z : Str} {l ly lz : List Nat} (eq : q = T l) (ey : y = T ly) (ez : z = T lz) (ho : PE X o to) (hyz : (T ly == T lz) = false := by decide)
    (hst : starEach [.Constant (.str (T ly)) j c0, .Constant (.str (T lz)) j2 c1] X.env = [(false, eval (.Constant (.str (T ly)) j c0) X.env), (false, eval (.Constant (.str (T lz)) j2 c1) X.env)] := by rfl)
    (hbase : attributeBase o "replace" X.env (eval o X.env) = eval o X.env := by rfl) (hline : (apos.endLine == pos.line) = true := by rfl) :
    PE X (.BinOp (.Constant (.str q) j3 c2) .Add (.Call (.Attribute o "replace" apos) [.Constant (.str y) j c0, .Constant (.str z) j2 c1] [] pos) pos2) (tOp (rAddU X.K) (tC (.str (T l))) (tReplC to (T ly) (T lz))) := by
  subst eq; subst ey; subst ez
  refine ⟨fun pins s σ H Q I h => wpAny_BinOp (Calls.Constant_str ?_)⟩
  refine thn (pet_replC (X := X) ho hyz hst hbase hline pins _ σ H _ (by show 1 ≤ s.toks + 1; omega) (I.tok _) (show tReplC to (T ly) (T lz) σ H (fun y H2 => rAddU X.K (.str (T l)) y H2 Q) from h)) fun u s2 ⟨y, H2, I2, r2, q2⟩ => ?_
  exact op_addU pins s2 σ H2 (.str (T l)) y _ u Q I2 ⟨_, rfl⟩ r2 q2
theorem pst_set {i : Nat} {x : Str} {pos' : Pos} (hN : X.N.Nodup) (hi : X.N[i]? = some x) (hx : Loc X.env.scope x) (he : PET X e te) (hs : swapsWith e (some (.Name x pos')) pos.line X.env = pure false := by rfl) (hf : X.fn x = true ∨ X.env.scope.names.lookup x = some .local := by first | exact .inl rfl | exact .inr rfl | assumption) :
    PST X (.Assign [.Name x pos'] e pos) (tAsg te (gName i)) := by
  intro pins s σ H D h0 I h
  refine wpAny_Assign_Name (thn (he pins s σ H _ h0 I h) fun v s1 ⟨y, H1, I1, r1, q1⟩ => ?_) hs
  exact store_ok I1 hN hi hx r1 (fun s2 I2 => ⟨_, H1, I2, q1⟩) hf
theorem pet_repl2 {y z : Str} {ly lz : List Nat} (ey : y = T ly) (ez : z = T lz) (ho : PE X o to) (hyz : (T ly == T lz) = false := by decide)
    (hst : starEach [.Constant (.str (T ly)) j c0, .Constant (.str (T lz)) j2 c1] X.env = [(false, eval (.Constant (.str (T ly)) j c0) X.env), (false, eval (.Constant (.str (T lz)) j2 c1) X.env)] := by rfl)
    (hbase : attributeBase o "replace" X.env (eval o X.env) = eval o X.env := by rfl) (hline : (apos.endLine == pos.line) = true := by rfl) :
    PET X (.Call (.Attribute o "replace" apos) [.Constant (.str y) j c0, .Constant (.str z) j2 c1] [] pos) (tReplC to (T ly) (T lz)) := by
  subst ey; subst ez
  exact pet_replC ho hyz hst hbase hline
theorem ps_ifT {op : CmpOp} {r : R2} {q : Str} {l : List Nat} {A B : List Stmt} {t u : TS} (ho : OpR X (compareOp op) r) (ha : PE X a ta) (eq : q = T l) (hm : behindInMarks op (.Constant (.str q) j c0) = false) (hA : PSsT X A t) (hB : PSs X B u) :
    PS X (.If (.Compare a [op] [.Constant (.str q) j c0] cpos) A B pos) (tIfS (tTest (tOp r ta (tC (.str (T l))))) t u) := by
  subst eq
  refine ⟨fun pins s σ H D I h => ?_⟩
  refine wpAny_If (wpAny_isTrue_Compare1 (thn (ha.run pins s σ H _ I h) fun v s1 ⟨x, H1, I1, r1, q1⟩ => Calls.Constant_str (wpAny_mono (PySem.wpAny_toks_of (n := 1) (by show 1 ≤ s1.toks + 1; omega)
    (ho pins _ σ H1 x (.str (T l)) v _ _ (I1.tok _) r1 ⟨_, rfl⟩ q1)) (fun c s3 q => ?_) (fun _ _ z => z.2))) hm)
  obtain ⟨hk, z, H3, I3, r3, k, e, q3⟩ := q
  subst e
  cases r3
  refine wpAny_truthy_bool ?_
  cases k with
  | true => exact hA pins s3 σ H3 D hk I3 q3
  | false => exact hB.run pins s3 σ H3 D I3 q3
def ipS : TIp := fun x y H Q => ∃ i j, x = .str i ∧ y = .str j ∧ i.length + j.length ≤ sizeLine ∧ Q (.str (i ++ j)) H
theorem ip_addS : PIp X .Add ipS := iop_add_str
theorem hdl_dead {hds : List ExceptHandler} : HdlOk X hds fun _ _ _ _ _ => False := by
  intro pins σ H s0 s B x1 cls d D I nb up fl na os ag hw
  exact hw.elim
end
section
variable {K : PySem.W.Frag} {σ : L2.St} {H : Hp} {D : Ends} {Q : VK}
def oRepl (y z : Str) (v : V) (H : Hp) (Q : VK) : Prop := ∃ x, v = .str x ∧ x.length + (x.length + 1) * z.length ≤ 16777216 ∧ Q (.str (Txt.replace x y z)) H
theorem z_repl {to : TE} {y z : Str} (h : to σ H fun v H1 => oRepl y z v H1 Q) : tReplC to y z σ H Q := h
instance i_repl {to : TE} {y z : Str} : Stp (tReplC to y z σ H Q) (to σ H fun v H1 => oRepl y z v H1 Q) := ⟨z_repl⟩
theorem T_of_list (x : Str) : x = T x.cps.toList := by cases x; rfl
theorem z_repl1 {ly lz l : List Nat} (h1 : l.length + (l.length + 1) * lz.length ≤ 16777216) (hy : 1 ≤ ly.length) (h : Q (.str (T (StrLaws.replL ly lz l))) H) : oRepl (T ly) (T lz) (.str (T l)) H Q := by
  refine ⟨_, rfl, h1, ?_⟩
  rw [T_of_list (Txt.replace (T l) (T ly) (T lz)), StrLaws.replace_list (by exact hy)]
  exact h
end
end LX
namespace LX
open PySem PySem.Spec PyProof.Rows L2 NdefX CwR
def LET : List Nat := (List.range 26).map (65 + ·) ++ (List.range 26).map (97 + ·)
def DIG : List Nat := (List.range 10).map (48 + ·)
def SGN : List Nat := [43, 45, 42, 47, 60, 62, 61, 126, 38, 44, 64]
def MRK : List Nat := [58, 94, 46, 124, 40, 41, 91, 93]
def CHA : List Nat := [48, 49, 50, 51, 52, 53, 54, 55, 56, 57, 32, 43, 45, 42, 47, 60, 62, 61, 126, 38, 44, 64, 58, 61, 94, 46, 124, 40, 41, 91, 93, 35, 39, 34, 10, 33, 36, 59, 63, 92, 95, 123, 125, 96]
def CHB : List Nat := [97, 98, 90, 48, 48, 49, 50, 58, 58, 61, 35, 35, 39, 39, 34, 45, 43, 124, 40, 32, 10]
def FIT : List Nat := [32, 10, 43, 45, 42, 47, 60, 62, 61, 126, 38, 44, 64, 58, 94, 46, 124, 40, 41, 91, 93]
theorem e_LET : PySem.Str.ofString "ABCDEFGHIJKLMNOPQRSTUVWXYZabcdefghijklmnopqrstuvwxyz" = T LET := by decide +kernel
theorem e_DIG : PySem.Str.ofString "0123456789" = T DIG := by decide +kernel
theorem e_SGN : PySem.Str.ofString "+-*/<>=~&,@" = T SGN := by decide +kernel
theorem e_MRK : PySem.Str.ofString ":^.|()[]" = T MRK := by decide +kernel
theorem e_CHA : PySem.Str.ofString "0123456789 +-*/<>=~&,@:=^.|()[]#'\"\n!$;?\\_{}`" = T CHA := by decide +kernel
theorem e_CHB : PySem.Str.ofString "abZ0012::=##''\"-+|( \n" = T CHB := by decide +kernel
theorem e_FIT : PySem.Str.ofString " \n+-*/<>=~&,@:^.|()[]" = T FIT := by decide +kernel
def top (i : Nat) : Stmt := PySem.Challenge.pw_saggar_k11_whole_texts_split_into_tokens.main.body.getD i (.Pass ⟨0, 0, 0, 0⟩)
abbrev s_Malformed___init__ : Stmt := inClass (top 2) 0
abbrev N_Malformed___init__ : List Str := ["self", "at"]
theorem ns_Malformed___init__ : NScope ["self", "at", "__class__"] ["self", "at"] ["__class__"] (defScope s_Malformed___init__) := nscope_by (by decide +kernel)
abbrev s_Oversized___init__ : Stmt := inClass (top 3) 0
abbrev N_Oversized___init__ : List Str := ["self", "limit"]
theorem ns_Oversized___init__ : NScope ["self", "limit", "__class__"] ["self", "limit"] ["__class__"] (defScope s_Oversized___init__) := nscope_by (by decide +kernel)
abbrev s_char_at : Stmt := top 12
abbrev N_char_at : List Str := ["source", "at"]
theorem sc_char_at : FnScope N_char_at ["source", "at"] (defScope s_char_at) := ⟨rfl, rfl, rfl, by decide +kernel, rfl, by decide +kernel, by decide +kernel⟩
abbrev s_is_in : Stmt := top 13
abbrev N_is_in : List Str := ["char", "chars"]
theorem sc_is_in : FnScope N_is_in ["char", "chars"] (defScope s_is_in) := ⟨rfl, rfl, rfl, by decide +kernel, rfl, by decide +kernel, by decide +kernel⟩
abbrev s_end_of : Stmt := top 14
abbrev N_end_of : List Str := ["source", "at", "chars"]
theorem sc_end_of : FnScope N_end_of ["source", "at", "chars"] (defScope s_end_of) := ⟨rfl, rfl, rfl, by decide +kernel, rfl, by decide +kernel, by decide +kernel⟩
abbrev s_is_name : Stmt := top 15
abbrev N_is_name : List Str := ["text"]
theorem sc_is_name : FnScope N_is_name ["text"] (defScope s_is_name) := ⟨rfl, rfl, rfl, by decide +kernel, rfl, by decide +kernel, by decide +kernel⟩
abbrev s_name_end : Stmt := top 16
abbrev N_name_end : List Str := ["source", "at", "stop"]
theorem sc_name_end : FnScope N_name_end ["source", "at"] (defScope s_name_end) := ⟨rfl, rfl, rfl, by decide +kernel, rfl, by decide +kernel, by decide +kernel⟩
abbrev s_is_keyword_end : Stmt := top 17
abbrev N_is_keyword_end : List Str := ["source", "at"]
theorem sc_is_keyword_end : FnScope N_is_keyword_end ["source", "at"] (defScope s_is_keyword_end) := ⟨rfl, rfl, rfl, by decide +kernel, rfl, by decide +kernel, by decide +kernel⟩
abbrev s_read_name : Stmt := top 18
abbrev N_read_name : List Str := ["source", "at", "start", "stop"]
theorem sc_read_name : FnScope N_read_name ["source", "at", "start"] (defScope s_read_name) := ⟨rfl, rfl, rfl, by decide +kernel, rfl, by decide +kernel, by decide +kernel⟩
abbrev s_read_number : Stmt := top 19
abbrev N_read_number : List Str := ["source", "at", "stop", "digits"]
theorem sc_read_number : FnScope N_read_number ["source", "at"] (defScope s_read_number) := ⟨rfl, rfl, rfl, by decide +kernel, rfl, by decide +kernel, by decide +kernel⟩
abbrev s_read_hash : Stmt := top 20
abbrev N_read_hash : List Str := ["source", "at", "token", "stop", "text", "found"]
theorem sc_read_hash : FnScope N_read_hash ["source", "at"] (defScope s_read_hash) := ⟨rfl, rfl, rfl, by decide +kernel, rfl, by decide +kernel, by decide +kernel⟩
abbrev s_read_quoted : Stmt := top 21
abbrev N_read_quoted : List Str := ["source", "at", "text", "stop", "found"]
theorem sc_read_quoted : FnScope N_read_quoted ["source", "at"] (defScope s_read_quoted) := ⟨rfl, rfl, rfl, by decide +kernel, rfl, by decide +kernel, by decide +kernel⟩
abbrev s_read_sign : Stmt := top 22
abbrev N_read_sign : List Str := ["source", "at", "stop"]
theorem sc_read_sign : FnScope N_read_sign ["source", "at"] (defScope s_read_sign) := ⟨rfl, rfl, rfl, by decide +kernel, rfl, by decide +kernel, by decide +kernel⟩
abbrev s_read_token : Stmt := top 23
abbrev N_read_token : List Str := ["source", "at", "char"]
theorem sc_read_token : FnScope N_read_token ["source", "at"] (defScope s_read_token) := ⟨rfl, rfl, rfl, by decide +kernel, rfl, by decide +kernel, by decide +kernel⟩
abbrev s_skipped : Stmt := top 24
abbrev N_skipped : List Str := ["source", "at", "found"]
theorem sc_skipped : FnScope N_skipped ["source", "at"] (defScope s_skipped) := ⟨rfl, rfl, rfl, by decide +kernel, rfl, by decide +kernel, by decide +kernel⟩
abbrev s_tokens_of : Stmt := top 25
abbrev N_tokens_of : List Str := ["source", "tokens", "at", "token"]
theorem sc_tokens_of : FnScope N_tokens_of ["source"] (defScope s_tokens_of) := ⟨rfl, rfl, rfl, by decide +kernel, rfl, by decide +kernel, by decide +kernel⟩
abbrev s__law_start : Stmt := top 27
abbrev N__law_start : List Str := ["_law_script"]
theorem sc__law_start : FnScope N__law_start ["_law_script"] (defScope s__law_start) := ⟨rfl, rfl, rfl, by decide +kernel, rfl, by decide +kernel, by decide +kernel⟩
abbrev s__law_pick : Stmt := top 28
abbrev N__law_pick : List Str := ["_law_state", "_law_limit", "_law_cell", "_law_drawn"]
theorem sc__law_pick : FnScope N__law_pick ["_law_state", "_law_limit"] (defScope s__law_pick) := ⟨rfl, rfl, rfl, by decide +kernel, rfl, by decide +kernel, by decide +kernel⟩
abbrev s__law_letters : Stmt := top 29
abbrev N__law_letters : List Str := []
theorem sc__law_letters : FnScope N__law_letters [] (defScope s__law_letters) := ⟨rfl, rfl, rfl, by decide +kernel, rfl, by decide +kernel, by decide +kernel⟩
abbrev s__law_source : Stmt := top 30
abbrev N__law_source : List Str := ["_law_state", "_law_chars", "_law_source_here", "_law_size", "_law_k"]
theorem sc__law_source : FnScope N__law_source ["_law_state"] (defScope s__law_source) := ⟨rfl, rfl, rfl, by decide +kernel, rfl, by decide +kernel, by decide +kernel⟩
abbrev s__law_run : Stmt := top 31
abbrev N__law_run : List Str := ["_law_source_here", "_law_at", "_law_chars"]
theorem sc__law_run : FnScope N__law_run ["_law_source_here", "_law_at", "_law_chars"] (defScope s__law_run) := ⟨rfl, rfl, rfl, by decide +kernel, rfl, by decide +kernel, by decide +kernel⟩
abbrev s__law_word_end : Stmt := top 32
abbrev N__law_word_end : List Str := ["_law_source_here", "_law_at"]
theorem sc__law_word_end : FnScope N__law_word_end ["_law_source_here", "_law_at"] (defScope s__law_word_end) := ⟨rfl, rfl, rfl, by decide +kernel, rfl, by decide +kernel, by decide +kernel⟩
abbrev s__law_is_letter : Stmt := top 33
abbrev N__law_is_letter : List Str := ["_law_source_here", "_law_at"]
theorem sc__law_is_letter : FnScope N__law_is_letter ["_law_source_here", "_law_at"] (defScope s__law_is_letter) := ⟨rfl, rfl, rfl, by decide +kernel, rfl, by decide +kernel, by decide +kernel⟩
abbrev s__law_name_end : Stmt := top 34
abbrev N__law_name_end : List Str := ["_law_source_here", "_law_at", "_law_end"]
theorem sc__law_name_end : FnScope N__law_name_end ["_law_source_here", "_law_at"] (defScope s__law_name_end) := ⟨rfl, rfl, rfl, by decide +kernel, rfl, by decide +kernel, by decide +kernel⟩
abbrev s__law_colon : Stmt := top 35
abbrev N__law_colon : List Str := ["_law_source_here", "_law_at"]
theorem sc__law_colon : FnScope N__law_colon ["_law_source_here", "_law_at"] (defScope s__law_colon) := ⟨rfl, rfl, rfl, by decide +kernel, rfl, by decide +kernel, by decide +kernel⟩
abbrev s__law_skip : Stmt := top 36
abbrev N__law_skip : List Str := ["_law_source_here", "_law_at", "_law_end"]
theorem sc__law_skip : FnScope N__law_skip ["_law_source_here", "_law_at"] (defScope s__law_skip) := ⟨rfl, rfl, rfl, by decide +kernel, rfl, by decide +kernel, by decide +kernel⟩
abbrev s__law_symbol_end : Stmt := top 37
abbrev N__law_symbol_end : List Str := ["_law_source_here", "_law_at", "_law_text", "_law_form", "_law_end", "_law_stop", "_law_place"]
theorem sc__law_symbol_end : FnScope N__law_symbol_end ["_law_source_here", "_law_at", "_law_text"] (defScope s__law_symbol_end) := ⟨rfl, rfl, rfl, by decide +kernel, rfl, by decide +kernel, by decide +kernel⟩
abbrev s__law_token_end : Stmt := top 38
abbrev N__law_token_end : List Str := ["_law_source_here", "_law_at", "_law_kind", "_law_value", "_law_end"]
theorem sc__law_token_end : FnScope N__law_token_end ["_law_source_here", "_law_at", "_law_kind", "_law_value"] (defScope s__law_token_end) := ⟨rfl, rfl, rfl, by decide +kernel, rfl, by decide +kernel, by decide +kernel⟩
abbrev s__law_is_token : Stmt := top 39
abbrev N__law_is_token : List Str := ["_law_token"]
theorem sc__law_is_token : FnScope N__law_is_token ["_law_token"] (defScope s__law_is_token) := ⟨rfl, rfl, rfl, by decide +kernel, rfl, by decide +kernel, by decide +kernel⟩
abbrev s__law_tiles : Stmt := top 40
abbrev N__law_tiles : List Str := ["_law_source_here", "_law_tokens", "_law_stop", "_law_at", "_law_token", "_law_end"]
theorem sc__law_tiles : FnScope N__law_tiles ["_law_source_here", "_law_tokens", "_law_stop"] (defScope s__law_tiles) := ⟨rfl, rfl, rfl, by decide +kernel, rfl, by decide +kernel, by decide +kernel⟩
abbrev s__law_misfit : Stmt := top 41
abbrev N__law_misfit : List Str := ["_law_source_here", "_law_at", "_law_char", "_law_end", "_law_rest"]
theorem sc__law_misfit : FnScope N__law_misfit ["_law_source_here", "_law_at"] (defScope s__law_misfit) := ⟨rfl, rfl, rfl, by decide +kernel, rfl, by decide +kernel, by decide +kernel⟩
abbrev s_law : Stmt := top 42
abbrev N_law : List Str := ["_law_script", "_law_state", "_law_source_here", "_law_place", "_law_limit", "_law_tokens", "e"]
theorem sc_law : FnScope N_law ["_law_script"] (defScope s_law) := ⟨rfl, rfl, rfl, by decide +kernel, rfl, by decide +kernel, by decide +kernel⟩
structure Wd (P : Program) (K : PySem.W.Frag) (mg : Str → Option Value) where
  n_abs : mg "abs" = none
  n_bool : mg "bool" = none
  n_int : mg "int" = none
  n_isinstance : mg "isinstance" = none
  n_len : mg "len" = none
  n_list : mg "list" = none
  n_min : mg "min" = none
  n_range : mg "range" = none
  n_str : mg "str" = none
  n_tuple : mg "tuple" = none
  t_MOST_SOURCE : Tok
  g_MOST_SOURCE : mg "MOST_SOURCE" = some (.int (4000) t_MOST_SOURCE)
  t_MOST_NAME : Tok
  g_MOST_NAME : mg "MOST_NAME" = some (.int (32) t_MOST_NAME)
  t_MOST_DIGITS : Tok
  g_MOST_DIGITS : mg "MOST_DIGITS" = some (.int (9) t_MOST_DIGITS)
  t_LETTERS : Tok
  g_LETTERS : mg "LETTERS" = some (.str (T LET) t_LETTERS)
  t_DIGITS : Tok
  g_DIGITS : mg "DIGITS" = some (.str (T DIG) t_DIGITS)
  t_SIGNS : Tok
  g_SIGNS : mg "SIGNS" = some (.str (T SGN) t_SIGNS)
  t_MARKS : Tok
  g_MARKS : mg "MARKS" = some (.str (T MRK) t_MARKS)
  c_SaggarError : Addr
  g_SaggarError : mg "SaggarError" = some (.ref c_SaggarError)
  c_Malformed : Addr
  g_Malformed : mg "Malformed" = some (.ref c_Malformed)
  c_Oversized : Addr
  g_Oversized : mg "Oversized" = some (.ref c_Oversized)
  f_Malformed___init__ : Addr
  fd_Malformed___init__ : FuncData
  X_Malformed : OexC K c_Malformed
  i_Malformed : PySem.W.findIn K (.ref c_Malformed) "__init__" = some (some (.ref f_Malformed___init__)) ∧ PySem.W.typeIn K (.ref f_Malformed___init__) = some (.type "function")
  cc_Malformed : Addr
  cda_Malformed : Addr
  S_Malformed : SupTxt P K mg c_Malformed cda_Malformed cc_Malformed (defScope s_Malformed___init__)
  L_Malformed : ∃ oc od kV dc pm an ct osl, K.lookup f_Malformed___init__ = some ⟨oc, od, .func fd_Malformed___init__, osl⟩ ∧ fd_Malformed___init__ = PySem.W.fnX "__init__" "Malformed.__init__" (defArgs s_Malformed___init__) (defBody s_Malformed___init__) (defScope s_Malformed___init__) [("__class__", cc_Malformed)] .none kV dc pm an (.ref cda_Malformed) ct ∧ PySem.W.codeIn K (.ref cda_Malformed) "Malformed.__init__" = true
  E_Malformed : ExK K c_Malformed
  xn_Malformed_at : PySem.W.findIn K (.ref c_Malformed) "at" = some none
  b_Malformed___init__ : Binds K fd_Malformed___init__ ["self", "at"] []
  f_Oversized___init__ : Addr
  fd_Oversized___init__ : FuncData
  X_Oversized : OexC K c_Oversized
  i_Oversized : PySem.W.findIn K (.ref c_Oversized) "__init__" = some (some (.ref f_Oversized___init__)) ∧ PySem.W.typeIn K (.ref f_Oversized___init__) = some (.type "function")
  cc_Oversized : Addr
  cda_Oversized : Addr
  S_Oversized : SupTxt P K mg c_Oversized cda_Oversized cc_Oversized (defScope s_Oversized___init__)
  L_Oversized : ∃ oc od kV dc pm an ct osl, K.lookup f_Oversized___init__ = some ⟨oc, od, .func fd_Oversized___init__, osl⟩ ∧ fd_Oversized___init__ = PySem.W.fnX "__init__" "Oversized.__init__" (defArgs s_Oversized___init__) (defBody s_Oversized___init__) (defScope s_Oversized___init__) [("__class__", cc_Oversized)] .none kV dc pm an (.ref cda_Oversized) ct ∧ PySem.W.codeIn K (.ref cda_Oversized) "Oversized.__init__" = true
  E_Oversized : ExK K c_Oversized
  xn_Oversized_limit : PySem.W.findIn K (.ref c_Oversized) "limit" = some none
  b_Oversized___init__ : Binds K fd_Oversized___init__ ["self", "limit"] []
  f_char_at : Addr
  fd_char_at : FuncData
  F_char_at : Fun K "char_at" "char_at" s_char_at f_char_at fd_char_at
  g_char_at : mg "char_at" = some (.ref f_char_at)
  b_char_at : Binds K fd_char_at ["source", "at"] []
  f_is_in : Addr
  fd_is_in : FuncData
  F_is_in : Fun K "is_in" "is_in" s_is_in f_is_in fd_is_in
  g_is_in : mg "is_in" = some (.ref f_is_in)
  b_is_in : Binds K fd_is_in ["char", "chars"] []
  f_end_of : Addr
  fd_end_of : FuncData
  F_end_of : Fun K "end_of" "end_of" s_end_of f_end_of fd_end_of
  g_end_of : mg "end_of" = some (.ref f_end_of)
  b_end_of : Binds K fd_end_of ["source", "at", "chars"] []
  f_is_name : Addr
  fd_is_name : FuncData
  F_is_name : Fun K "is_name" "is_name" s_is_name f_is_name fd_is_name
  g_is_name : mg "is_name" = some (.ref f_is_name)
  b_is_name : Binds K fd_is_name ["text"] []
  f_name_end : Addr
  fd_name_end : FuncData
  F_name_end : Fun K "name_end" "name_end" s_name_end f_name_end fd_name_end
  g_name_end : mg "name_end" = some (.ref f_name_end)
  b_name_end : Binds K fd_name_end ["source", "at"] []
  f_is_keyword_end : Addr
  fd_is_keyword_end : FuncData
  F_is_keyword_end : Fun K "is_keyword_end" "is_keyword_end" s_is_keyword_end f_is_keyword_end fd_is_keyword_end
  g_is_keyword_end : mg "is_keyword_end" = some (.ref f_is_keyword_end)
  b_is_keyword_end : Binds K fd_is_keyword_end ["source", "at"] []
  f_read_name : Addr
  fd_read_name : FuncData
  F_read_name : Fun K "read_name" "read_name" s_read_name f_read_name fd_read_name
  g_read_name : mg "read_name" = some (.ref f_read_name)
  b_read_name : Binds K fd_read_name ["source", "at", "start"] []
  f_read_number : Addr
  fd_read_number : FuncData
  F_read_number : Fun K "read_number" "read_number" s_read_number f_read_number fd_read_number
  g_read_number : mg "read_number" = some (.ref f_read_number)
  b_read_number : Binds K fd_read_number ["source", "at"] []
  f_read_hash : Addr
  fd_read_hash : FuncData
  F_read_hash : Fun K "read_hash" "read_hash" s_read_hash f_read_hash fd_read_hash
  g_read_hash : mg "read_hash" = some (.ref f_read_hash)
  b_read_hash : Binds K fd_read_hash ["source", "at"] []
  f_read_quoted : Addr
  fd_read_quoted : FuncData
  F_read_quoted : Fun K "read_quoted" "read_quoted" s_read_quoted f_read_quoted fd_read_quoted
  g_read_quoted : mg "read_quoted" = some (.ref f_read_quoted)
  b_read_quoted : Binds K fd_read_quoted ["source", "at"] []
  f_read_sign : Addr
  fd_read_sign : FuncData
  F_read_sign : Fun K "read_sign" "read_sign" s_read_sign f_read_sign fd_read_sign
  g_read_sign : mg "read_sign" = some (.ref f_read_sign)
  b_read_sign : Binds K fd_read_sign ["source", "at"] []
  f_read_token : Addr
  fd_read_token : FuncData
  F_read_token : Fun K "read_token" "read_token" s_read_token f_read_token fd_read_token
  g_read_token : mg "read_token" = some (.ref f_read_token)
  b_read_token : Binds K fd_read_token ["source", "at"] []
  f_skipped : Addr
  fd_skipped : FuncData
  F_skipped : Fun K "skipped" "skipped" s_skipped f_skipped fd_skipped
  g_skipped : mg "skipped" = some (.ref f_skipped)
  b_skipped : Binds K fd_skipped ["source", "at"] []
  f_tokens_of : Addr
  fd_tokens_of : FuncData
  F_tokens_of : Fun K "tokens_of" "tokens_of" s_tokens_of f_tokens_of fd_tokens_of
  g_tokens_of : mg "tokens_of" = some (.ref f_tokens_of)
  b_tokens_of : Binds K fd_tokens_of ["source"] []
  f__law_start : Addr
  fd__law_start : FuncData
  F__law_start : Fun K "_law_start" "_law_start" s__law_start f__law_start fd__law_start
  g__law_start : mg "_law_start" = some (.ref f__law_start)
  b__law_start : Binds K fd__law_start ["_law_script"] []
  f__law_pick : Addr
  fd__law_pick : FuncData
  F__law_pick : Fun K "_law_pick" "_law_pick" s__law_pick f__law_pick fd__law_pick
  g__law_pick : mg "_law_pick" = some (.ref f__law_pick)
  b__law_pick : Binds K fd__law_pick ["_law_state", "_law_limit"] []
  f__law_letters : Addr
  fd__law_letters : FuncData
  F__law_letters : Fun K "_law_letters" "_law_letters" s__law_letters f__law_letters fd__law_letters
  g__law_letters : mg "_law_letters" = some (.ref f__law_letters)
  b__law_letters : Binds K fd__law_letters [] []
  f__law_source : Addr
  fd__law_source : FuncData
  F__law_source : Fun K "_law_source" "_law_source" s__law_source f__law_source fd__law_source
  g__law_source : mg "_law_source" = some (.ref f__law_source)
  b__law_source : Binds K fd__law_source ["_law_state"] []
  f__law_run : Addr
  fd__law_run : FuncData
  F__law_run : Fun K "_law_run" "_law_run" s__law_run f__law_run fd__law_run
  g__law_run : mg "_law_run" = some (.ref f__law_run)
  b__law_run : Binds K fd__law_run ["_law_source_here", "_law_at", "_law_chars"] []
  f__law_word_end : Addr
  fd__law_word_end : FuncData
  F__law_word_end : Fun K "_law_word_end" "_law_word_end" s__law_word_end f__law_word_end fd__law_word_end
  g__law_word_end : mg "_law_word_end" = some (.ref f__law_word_end)
  b__law_word_end : Binds K fd__law_word_end ["_law_source_here", "_law_at"] []
  f__law_is_letter : Addr
  fd__law_is_letter : FuncData
  F__law_is_letter : Fun K "_law_is_letter" "_law_is_letter" s__law_is_letter f__law_is_letter fd__law_is_letter
  g__law_is_letter : mg "_law_is_letter" = some (.ref f__law_is_letter)
  b__law_is_letter : Binds K fd__law_is_letter ["_law_source_here", "_law_at"] []
  f__law_name_end : Addr
  fd__law_name_end : FuncData
  F__law_name_end : Fun K "_law_name_end" "_law_name_end" s__law_name_end f__law_name_end fd__law_name_end
  g__law_name_end : mg "_law_name_end" = some (.ref f__law_name_end)
  b__law_name_end : Binds K fd__law_name_end ["_law_source_here", "_law_at"] []
  f__law_colon : Addr
  fd__law_colon : FuncData
  F__law_colon : Fun K "_law_colon" "_law_colon" s__law_colon f__law_colon fd__law_colon
  g__law_colon : mg "_law_colon" = some (.ref f__law_colon)
  b__law_colon : Binds K fd__law_colon ["_law_source_here", "_law_at"] []
  f__law_skip : Addr
  fd__law_skip : FuncData
  F__law_skip : Fun K "_law_skip" "_law_skip" s__law_skip f__law_skip fd__law_skip
  g__law_skip : mg "_law_skip" = some (.ref f__law_skip)
  b__law_skip : Binds K fd__law_skip ["_law_source_here", "_law_at"] []
  f__law_symbol_end : Addr
  fd__law_symbol_end : FuncData
  F__law_symbol_end : Fun K "_law_symbol_end" "_law_symbol_end" s__law_symbol_end f__law_symbol_end fd__law_symbol_end
  g__law_symbol_end : mg "_law_symbol_end" = some (.ref f__law_symbol_end)
  b__law_symbol_end : Binds K fd__law_symbol_end ["_law_source_here", "_law_at", "_law_text"] []
  f__law_token_end : Addr
  fd__law_token_end : FuncData
  F__law_token_end : Fun K "_law_token_end" "_law_token_end" s__law_token_end f__law_token_end fd__law_token_end
  g__law_token_end : mg "_law_token_end" = some (.ref f__law_token_end)
  b__law_token_end : Binds K fd__law_token_end ["_law_source_here", "_law_at", "_law_kind", "_law_value"] []
  f__law_is_token : Addr
  fd__law_is_token : FuncData
  F__law_is_token : Fun K "_law_is_token" "_law_is_token" s__law_is_token f__law_is_token fd__law_is_token
  g__law_is_token : mg "_law_is_token" = some (.ref f__law_is_token)
  b__law_is_token : Binds K fd__law_is_token ["_law_token"] []
  f__law_tiles : Addr
  fd__law_tiles : FuncData
  F__law_tiles : Fun K "_law_tiles" "_law_tiles" s__law_tiles f__law_tiles fd__law_tiles
  g__law_tiles : mg "_law_tiles" = some (.ref f__law_tiles)
  b__law_tiles : Binds K fd__law_tiles ["_law_source_here", "_law_tokens", "_law_stop"] []
  f__law_misfit : Addr
  fd__law_misfit : FuncData
  F__law_misfit : Fun K "_law_misfit" "_law_misfit" s__law_misfit f__law_misfit fd__law_misfit
  g__law_misfit : mg "_law_misfit" = some (.ref f__law_misfit)
  b__law_misfit : Binds K fd__law_misfit ["_law_source_here", "_law_at"] []
  f_law : Addr
  fd_law : FuncData
  F_law : Fun K "law" "law" s_law f_law fd_law
  g_law : mg "law" = some (.ref f_law)
  b_law : Binds K fd_law ["_law_script"] []
  em_MM : PySem.W.exmOne K (.ref c_Malformed) (.ref c_Malformed) = some true
  em_OM : PySem.W.exmOne K (.ref c_Oversized) (.ref c_Malformed) = some false
  em_OO : PySem.W.exmOne K (.ref c_Oversized) (.ref c_Oversized) = some true
def mkW {l : PySem.W.OpenLaw} {K : PySem.W.Frag} {h : Heap} {mg : Str → Option Value} (X : K.In h) (G : h.Ns mainGlobals mg)
    {t_MOST_SOURCE : Tok}
    {t_MOST_NAME : Tok}
    {t_MOST_DIGITS : Tok}
    {t_LETTERS : Tok}
    {t_DIGITS : Tok}
    {t_SIGNS : Tok}
    {t_MARKS : Tok}
    {C_SaggarError : Addr}
    {C_Malformed : Addr}
    {C_Oversized : Addr}
    {ocMalformed___init__ kVMalformed___init__ dcMalformed___init__ pmMalformed___init__ cdMalformed___init__ ctMalformed___init__ : Value} {odMalformed___init__ anMalformed___init__ : Option Addr} {slMalformed___init__ : Array (Option Value)} {fMalformed___init__ : Addr}
    {cdaMalformed___init__ ccMalformed___init__ : Addr} {cclMalformed___init__ coMalformed___init__ : Value} {cddMalformed___init__ cldMalformed___init__ : Option Addr} {vsMalformed___init__ : Array Value} {ccsMalformed___init__ cslMalformed___init__ : Array (Option Value)} {fileMalformed___init__ : Str} {tfMalformed___init__ : Tok}
    {nmMalformed qMalformed : Str} {NMalformed : Addr} {bsMalformed bmMalformed : List Value} {snMalformed : List Str} {subMalformed : List Value} {abMalformed : Bool} {colMalformed : Option Bool} {ddMalformed : Option Addr} {m0Malformed m1Malformed m2Malformed m3Malformed m5Malformed : Option Value}
    {ocOversized___init__ kVOversized___init__ dcOversized___init__ pmOversized___init__ cdOversized___init__ ctOversized___init__ : Value} {odOversized___init__ anOversized___init__ : Option Addr} {slOversized___init__ : Array (Option Value)} {fOversized___init__ : Addr}
    {cdaOversized___init__ ccOversized___init__ : Addr} {cclOversized___init__ coOversized___init__ : Value} {cddOversized___init__ cldOversized___init__ : Option Addr} {vsOversized___init__ : Array Value} {ccsOversized___init__ cslOversized___init__ : Array (Option Value)} {fileOversized___init__ : Str} {tfOversized___init__ : Tok}
    {nmOversized qOversized : Str} {NOversized : Addr} {bsOversized bmOversized : List Value} {snOversized : List Str} {subOversized : List Value} {abOversized : Bool} {colOversized : Option Bool} {ddOversized : Option Addr} {m0Oversized m1Oversized m2Oversized m3Oversized m5Oversized : Option Value}
    {occhar_at kVchar_at dcchar_at pmchar_at cdchar_at ctchar_at : Value} {odchar_at anchar_at : Option Addr} {slchar_at : Array (Option Value)} {fchar_at : Addr}
    {ocis_in kVis_in dcis_in pmis_in cdis_in ctis_in : Value} {odis_in anis_in : Option Addr} {slis_in : Array (Option Value)} {fis_in : Addr}
    {ocend_of kVend_of dcend_of pmend_of cdend_of ctend_of : Value} {odend_of anend_of : Option Addr} {slend_of : Array (Option Value)} {fend_of : Addr}
    {ocis_name kVis_name dcis_name pmis_name cdis_name ctis_name : Value} {odis_name anis_name : Option Addr} {slis_name : Array (Option Value)} {fis_name : Addr}
    {ocname_end kVname_end dcname_end pmname_end cdname_end ctname_end : Value} {odname_end anname_end : Option Addr} {slname_end : Array (Option Value)} {fname_end : Addr}
    {ocis_keyword_end kVis_keyword_end dcis_keyword_end pmis_keyword_end cdis_keyword_end ctis_keyword_end : Value} {odis_keyword_end anis_keyword_end : Option Addr} {slis_keyword_end : Array (Option Value)} {fis_keyword_end : Addr}
    {ocread_name kVread_name dcread_name pmread_name cdread_name ctread_name : Value} {odread_name anread_name : Option Addr} {slread_name : Array (Option Value)} {fread_name : Addr}
    {ocread_number kVread_number dcread_number pmread_number cdread_number ctread_number : Value} {odread_number anread_number : Option Addr} {slread_number : Array (Option Value)} {fread_number : Addr}
    {ocread_hash kVread_hash dcread_hash pmread_hash cdread_hash ctread_hash : Value} {odread_hash anread_hash : Option Addr} {slread_hash : Array (Option Value)} {fread_hash : Addr}
    {ocread_quoted kVread_quoted dcread_quoted pmread_quoted cdread_quoted ctread_quoted : Value} {odread_quoted anread_quoted : Option Addr} {slread_quoted : Array (Option Value)} {fread_quoted : Addr}
    {ocread_sign kVread_sign dcread_sign pmread_sign cdread_sign ctread_sign : Value} {odread_sign anread_sign : Option Addr} {slread_sign : Array (Option Value)} {fread_sign : Addr}
    {ocread_token kVread_token dcread_token pmread_token cdread_token ctread_token : Value} {odread_token anread_token : Option Addr} {slread_token : Array (Option Value)} {fread_token : Addr}
    {ocskipped kVskipped dcskipped pmskipped cdskipped ctskipped : Value} {odskipped anskipped : Option Addr} {slskipped : Array (Option Value)} {fskipped : Addr}
    {octokens_of kVtokens_of dctokens_of pmtokens_of cdtokens_of cttokens_of : Value} {odtokens_of antokens_of : Option Addr} {sltokens_of : Array (Option Value)} {ftokens_of : Addr}
    {oc_law_start kV_law_start dc_law_start pm_law_start cd_law_start ct_law_start : Value} {od_law_start an_law_start : Option Addr} {sl_law_start : Array (Option Value)} {f_law_start : Addr}
    {oc_law_pick kV_law_pick dc_law_pick pm_law_pick cd_law_pick ct_law_pick : Value} {od_law_pick an_law_pick : Option Addr} {sl_law_pick : Array (Option Value)} {f_law_pick : Addr}
    {oc_law_letters kV_law_letters dc_law_letters pm_law_letters cd_law_letters ct_law_letters : Value} {od_law_letters an_law_letters : Option Addr} {sl_law_letters : Array (Option Value)} {f_law_letters : Addr}
    {oc_law_source kV_law_source dc_law_source pm_law_source cd_law_source ct_law_source : Value} {od_law_source an_law_source : Option Addr} {sl_law_source : Array (Option Value)} {f_law_source : Addr}
    {oc_law_run kV_law_run dc_law_run pm_law_run cd_law_run ct_law_run : Value} {od_law_run an_law_run : Option Addr} {sl_law_run : Array (Option Value)} {f_law_run : Addr}
    {oc_law_word_end kV_law_word_end dc_law_word_end pm_law_word_end cd_law_word_end ct_law_word_end : Value} {od_law_word_end an_law_word_end : Option Addr} {sl_law_word_end : Array (Option Value)} {f_law_word_end : Addr}
    {oc_law_is_letter kV_law_is_letter dc_law_is_letter pm_law_is_letter cd_law_is_letter ct_law_is_letter : Value} {od_law_is_letter an_law_is_letter : Option Addr} {sl_law_is_letter : Array (Option Value)} {f_law_is_letter : Addr}
    {oc_law_name_end kV_law_name_end dc_law_name_end pm_law_name_end cd_law_name_end ct_law_name_end : Value} {od_law_name_end an_law_name_end : Option Addr} {sl_law_name_end : Array (Option Value)} {f_law_name_end : Addr}
    {oc_law_colon kV_law_colon dc_law_colon pm_law_colon cd_law_colon ct_law_colon : Value} {od_law_colon an_law_colon : Option Addr} {sl_law_colon : Array (Option Value)} {f_law_colon : Addr}
    {oc_law_skip kV_law_skip dc_law_skip pm_law_skip cd_law_skip ct_law_skip : Value} {od_law_skip an_law_skip : Option Addr} {sl_law_skip : Array (Option Value)} {f_law_skip : Addr}
    {oc_law_symbol_end kV_law_symbol_end dc_law_symbol_end pm_law_symbol_end cd_law_symbol_end ct_law_symbol_end : Value} {od_law_symbol_end an_law_symbol_end : Option Addr} {sl_law_symbol_end : Array (Option Value)} {f_law_symbol_end : Addr}
    {oc_law_token_end kV_law_token_end dc_law_token_end pm_law_token_end cd_law_token_end ct_law_token_end : Value} {od_law_token_end an_law_token_end : Option Addr} {sl_law_token_end : Array (Option Value)} {f_law_token_end : Addr}
    {oc_law_is_token kV_law_is_token dc_law_is_token pm_law_is_token cd_law_is_token ct_law_is_token : Value} {od_law_is_token an_law_is_token : Option Addr} {sl_law_is_token : Array (Option Value)} {f_law_is_token : Addr}
    {oc_law_tiles kV_law_tiles dc_law_tiles pm_law_tiles cd_law_tiles ct_law_tiles : Value} {od_law_tiles an_law_tiles : Option Addr} {sl_law_tiles : Array (Option Value)} {f_law_tiles : Addr}
    {oc_law_misfit kV_law_misfit dc_law_misfit pm_law_misfit cd_law_misfit ct_law_misfit : Value} {od_law_misfit an_law_misfit : Option Addr} {sl_law_misfit : Array (Option Value)} {f_law_misfit : Addr}
    {oclaw kVlaw dclaw pmlaw cdlaw ctlaw : Value} {odlaw anlaw : Option Addr} {sllaw : Array (Option Value)} {flaw : Addr}
    (z_third : PySem.W.nsIn K cStatics "thirdparty.any" = some none) (z_super : PySem.W.nsIn K mainGlobals "super" = some none) (z_top : (l.prog.main.scope.names.lookup ("super" : Str)).isSome = false)
    (z_sg : PySem.W.specialIn K (.builtin "object.__class__") "__get__" = some (some (.builtin "getset_descriptor.__get__"))) (z_st : PySem.W.takesIn K (.builtin "object.__class__") = some true)
    (z_abs : PySem.W.nsIn K mainGlobals "abs" = some none)
    (z_bool : PySem.W.nsIn K mainGlobals "bool" = some none)
    (z_int : PySem.W.nsIn K mainGlobals "int" = some none)
    (z_isinstance : PySem.W.nsIn K mainGlobals "isinstance" = some none)
    (z_len : PySem.W.nsIn K mainGlobals "len" = some none)
    (z_list : PySem.W.nsIn K mainGlobals "list" = some none)
    (z_min : PySem.W.nsIn K mainGlobals "min" = some none)
    (z_range : PySem.W.nsIn K mainGlobals "range" = some none)
    (z_str : PySem.W.nsIn K mainGlobals "str" = some none)
    (z_tuple : PySem.W.nsIn K mainGlobals "tuple" = some none)
    (c_MOST_SOURCE : PySem.W.nsIn K mainGlobals "MOST_SOURCE" = some (some (.int (4000) t_MOST_SOURCE)))
    (c_MOST_NAME : PySem.W.nsIn K mainGlobals "MOST_NAME" = some (some (.int (32) t_MOST_NAME)))
    (c_MOST_DIGITS : PySem.W.nsIn K mainGlobals "MOST_DIGITS" = some (some (.int (9) t_MOST_DIGITS)))
    (c_LETTERS : PySem.W.nsIn K mainGlobals "LETTERS" = some (some (.str (PySem.Str.ofString "ABCDEFGHIJKLMNOPQRSTUVWXYZabcdefghijklmnopqrstuvwxyz") t_LETTERS)))
    (c_DIGITS : PySem.W.nsIn K mainGlobals "DIGITS" = some (some (.str (PySem.Str.ofString "0123456789") t_DIGITS)))
    (c_SIGNS : PySem.W.nsIn K mainGlobals "SIGNS" = some (some (.str (PySem.Str.ofString "+-*/<>=~&,@") t_SIGNS)))
    (c_MARKS : PySem.W.nsIn K mainGlobals "MARKS" = some (some (.str (PySem.Str.ofString ":^.|()[]") t_MARKS)))
    (cl_SaggarError : PySem.W.nsIn K mainGlobals "SaggarError" = some (some (.ref C_SaggarError)))
    (cl_Malformed : PySem.W.nsIn K mainGlobals "Malformed" = some (some (.ref C_Malformed)))
    (cl_Oversized : PySem.W.nsIn K mainGlobals "Oversized" = some (some (.ref C_Oversized)))
    (a_Malformed___init__ : PySem.W.findIn K (.ref C_Malformed) "__init__" = some (some (.ref fMalformed___init__)))
    (l_Malformed___init__ : K.lookup fMalformed___init__ = some ⟨ocMalformed___init__, odMalformed___init__, .func (PySem.W.fnX "__init__" "Malformed.__init__" (defArgs s_Malformed___init__) (defBody s_Malformed___init__) (defScope s_Malformed___init__) [("__class__", ccMalformed___init__)] .none kVMalformed___init__ dcMalformed___init__ pmMalformed___init__ anMalformed___init__ (.ref cdaMalformed___init__) ctMalformed___init__), slMalformed___init__⟩)
    (c_Malformed___init__ : PySem.W.codeIn K (.ref cdaMalformed___init__) "Malformed.__init__" = true)
    (k_Malformed___init__ : PySem.W.typeIn K (.ref fMalformed___init__) = some (.type "function"))
    (x1_Malformed___init__ : K.lookup cdaMalformed___init__ = some ⟨cclMalformed___init__, cddMalformed___init__, .fields vsMalformed___init__, ccsMalformed___init__⟩)
    (x2_Malformed___init__ : vsMalformed___init__[2]? = some (.str fileMalformed___init__ tfMalformed___init__))
    (x3_Malformed___init__ : ((l.prog.main.file : Str) == fileMalformed___init__) = true)
    (x4_Malformed___init__ : K.lookup ccMalformed___init__ = some ⟨coMalformed___init__, cldMalformed___init__, .cell (some (.ref C_Malformed)), cslMalformed___init__⟩)
    (xl_Malformed : K.lookup C_Malformed = some (excClassObj nmMalformed qMalformed C_Malformed NMalformed bsMalformed bmMalformed true snMalformed subMalformed abMalformed colMalformed ddMalformed m0Malformed m1Malformed m2Malformed m3Malformed m5Malformed "ValueError.__new__"))
    (xr_Malformed : PySem.HandSPX.refsVE bmMalformed = true)
    (xs_Malformed : PySem.W.findIn K (.ref C_Malformed) "__setattr__" = some (some (.builtin "object.__setattr__")))
    (xe_Malformed : PySem.W.subIn K (.ref C_Malformed) (.type "BaseException") = some true)
    (xt_Malformed : PySem.W.typeIn K (.ref C_Malformed) = some (.type "type"))
    (xk_Malformed : PySem.W.keepIn K (.ref C_Malformed) = true)
    (xm_Malformed : PySem.W.mroIn K C_Malformed (.ref C_Malformed) = some true)
    (xi_Malformed : PySem.W.ks_superIn K C_Malformed C_Malformed "__init__" = some (some (.builtin "ValueError.__init__")))
    (xb_Malformed : PySem.W.subIn K (.ref C_Malformed) (.type "ValueError") = some true)
    (eg_Malformed : PySem.W.findIn K (.ref C_Malformed) "__getattribute__" = some (some (.builtin "BaseException.__getattribute__")))
    (ek_Malformed : PySem.W.findIn K (.ref C_Malformed) "__getattr__" = some none)
    (ed_Malformed : PySem.W.hasDictIn K C_Malformed = true)
    (ea_Malformed : PySem.W.findIn K (.ref C_Malformed) "__class__" = some (some (.builtin "object.__class__")))
    (em_Malformed : PySem.W.mroIn K C_Malformed (.type "object") = some true)
    (xn_Malformed_at : PySem.W.findIn K (.ref C_Malformed) "at" = some none)
    (a_Oversized___init__ : PySem.W.findIn K (.ref C_Oversized) "__init__" = some (some (.ref fOversized___init__)))
    (l_Oversized___init__ : K.lookup fOversized___init__ = some ⟨ocOversized___init__, odOversized___init__, .func (PySem.W.fnX "__init__" "Oversized.__init__" (defArgs s_Oversized___init__) (defBody s_Oversized___init__) (defScope s_Oversized___init__) [("__class__", ccOversized___init__)] .none kVOversized___init__ dcOversized___init__ pmOversized___init__ anOversized___init__ (.ref cdaOversized___init__) ctOversized___init__), slOversized___init__⟩)
    (c_Oversized___init__ : PySem.W.codeIn K (.ref cdaOversized___init__) "Oversized.__init__" = true)
    (k_Oversized___init__ : PySem.W.typeIn K (.ref fOversized___init__) = some (.type "function"))
    (x1_Oversized___init__ : K.lookup cdaOversized___init__ = some ⟨cclOversized___init__, cddOversized___init__, .fields vsOversized___init__, ccsOversized___init__⟩)
    (x2_Oversized___init__ : vsOversized___init__[2]? = some (.str fileOversized___init__ tfOversized___init__))
    (x3_Oversized___init__ : ((l.prog.main.file : Str) == fileOversized___init__) = true)
    (x4_Oversized___init__ : K.lookup ccOversized___init__ = some ⟨coOversized___init__, cldOversized___init__, .cell (some (.ref C_Oversized)), cslOversized___init__⟩)
    (xl_Oversized : K.lookup C_Oversized = some (excClassObj nmOversized qOversized C_Oversized NOversized bsOversized bmOversized true snOversized subOversized abOversized colOversized ddOversized m0Oversized m1Oversized m2Oversized m3Oversized m5Oversized "ValueError.__new__"))
    (xr_Oversized : PySem.HandSPX.refsVE bmOversized = true)
    (xs_Oversized : PySem.W.findIn K (.ref C_Oversized) "__setattr__" = some (some (.builtin "object.__setattr__")))
    (xe_Oversized : PySem.W.subIn K (.ref C_Oversized) (.type "BaseException") = some true)
    (xt_Oversized : PySem.W.typeIn K (.ref C_Oversized) = some (.type "type"))
    (xk_Oversized : PySem.W.keepIn K (.ref C_Oversized) = true)
    (xm_Oversized : PySem.W.mroIn K C_Oversized (.ref C_Oversized) = some true)
    (xi_Oversized : PySem.W.ks_superIn K C_Oversized C_Oversized "__init__" = some (some (.builtin "ValueError.__init__")))
    (xb_Oversized : PySem.W.subIn K (.ref C_Oversized) (.type "ValueError") = some true)
    (eg_Oversized : PySem.W.findIn K (.ref C_Oversized) "__getattribute__" = some (some (.builtin "BaseException.__getattribute__")))
    (ek_Oversized : PySem.W.findIn K (.ref C_Oversized) "__getattr__" = some none)
    (ed_Oversized : PySem.W.hasDictIn K C_Oversized = true)
    (ea_Oversized : PySem.W.findIn K (.ref C_Oversized) "__class__" = some (some (.builtin "object.__class__")))
    (em_Oversized : PySem.W.mroIn K C_Oversized (.type "object") = some true)
    (xn_Oversized_limit : PySem.W.findIn K (.ref C_Oversized) "limit" = some none)
    (a_char_at : PySem.W.nsIn K mainGlobals "char_at" = some (some (.ref fchar_at)))
    (l_char_at : K.lookup fchar_at = some ⟨occhar_at, odchar_at, .func (PySem.W.fnOf "char_at" "char_at" (defArgs s_char_at) (defBody s_char_at) (defScope s_char_at) .none kVchar_at dcchar_at pmchar_at anchar_at cdchar_at ctchar_at), slchar_at⟩)
    (c_char_at : PySem.W.codeIn K cdchar_at "char_at" = true)
    (k_char_at : PySem.W.keepIn K (.ref fchar_at) = true)
    (a_is_in : PySem.W.nsIn K mainGlobals "is_in" = some (some (.ref fis_in)))
    (l_is_in : K.lookup fis_in = some ⟨ocis_in, odis_in, .func (PySem.W.fnOf "is_in" "is_in" (defArgs s_is_in) (defBody s_is_in) (defScope s_is_in) .none kVis_in dcis_in pmis_in anis_in cdis_in ctis_in), slis_in⟩)
    (c_is_in : PySem.W.codeIn K cdis_in "is_in" = true)
    (k_is_in : PySem.W.keepIn K (.ref fis_in) = true)
    (a_end_of : PySem.W.nsIn K mainGlobals "end_of" = some (some (.ref fend_of)))
    (l_end_of : K.lookup fend_of = some ⟨ocend_of, odend_of, .func (PySem.W.fnOf "end_of" "end_of" (defArgs s_end_of) (defBody s_end_of) (defScope s_end_of) .none kVend_of dcend_of pmend_of anend_of cdend_of ctend_of), slend_of⟩)
    (c_end_of : PySem.W.codeIn K cdend_of "end_of" = true)
    (k_end_of : PySem.W.keepIn K (.ref fend_of) = true)
    (a_is_name : PySem.W.nsIn K mainGlobals "is_name" = some (some (.ref fis_name)))
    (l_is_name : K.lookup fis_name = some ⟨ocis_name, odis_name, .func (PySem.W.fnOf "is_name" "is_name" (defArgs s_is_name) (defBody s_is_name) (defScope s_is_name) .none kVis_name dcis_name pmis_name anis_name cdis_name ctis_name), slis_name⟩)
    (c_is_name : PySem.W.codeIn K cdis_name "is_name" = true)
    (k_is_name : PySem.W.keepIn K (.ref fis_name) = true)
    (a_name_end : PySem.W.nsIn K mainGlobals "name_end" = some (some (.ref fname_end)))
    (l_name_end : K.lookup fname_end = some ⟨ocname_end, odname_end, .func (PySem.W.fnOf "name_end" "name_end" (defArgs s_name_end) (defBody s_name_end) (defScope s_name_end) .none kVname_end dcname_end pmname_end anname_end cdname_end ctname_end), slname_end⟩)
    (c_name_end : PySem.W.codeIn K cdname_end "name_end" = true)
    (k_name_end : PySem.W.keepIn K (.ref fname_end) = true)
    (a_is_keyword_end : PySem.W.nsIn K mainGlobals "is_keyword_end" = some (some (.ref fis_keyword_end)))
    (l_is_keyword_end : K.lookup fis_keyword_end = some ⟨ocis_keyword_end, odis_keyword_end, .func (PySem.W.fnOf "is_keyword_end" "is_keyword_end" (defArgs s_is_keyword_end) (defBody s_is_keyword_end) (defScope s_is_keyword_end) .none kVis_keyword_end dcis_keyword_end pmis_keyword_end anis_keyword_end cdis_keyword_end ctis_keyword_end), slis_keyword_end⟩)
    (c_is_keyword_end : PySem.W.codeIn K cdis_keyword_end "is_keyword_end" = true)
    (k_is_keyword_end : PySem.W.keepIn K (.ref fis_keyword_end) = true)
    (a_read_name : PySem.W.nsIn K mainGlobals "read_name" = some (some (.ref fread_name)))
    (l_read_name : K.lookup fread_name = some ⟨ocread_name, odread_name, .func (PySem.W.fnOf "read_name" "read_name" (defArgs s_read_name) (defBody s_read_name) (defScope s_read_name) .none kVread_name dcread_name pmread_name anread_name cdread_name ctread_name), slread_name⟩)
    (c_read_name : PySem.W.codeIn K cdread_name "read_name" = true)
    (k_read_name : PySem.W.keepIn K (.ref fread_name) = true)
    (a_read_number : PySem.W.nsIn K mainGlobals "read_number" = some (some (.ref fread_number)))
    (l_read_number : K.lookup fread_number = some ⟨ocread_number, odread_number, .func (PySem.W.fnOf "read_number" "read_number" (defArgs s_read_number) (defBody s_read_number) (defScope s_read_number) .none kVread_number dcread_number pmread_number anread_number cdread_number ctread_number), slread_number⟩)
    (c_read_number : PySem.W.codeIn K cdread_number "read_number" = true)
    (k_read_number : PySem.W.keepIn K (.ref fread_number) = true)
    (a_read_hash : PySem.W.nsIn K mainGlobals "read_hash" = some (some (.ref fread_hash)))
    (l_read_hash : K.lookup fread_hash = some ⟨ocread_hash, odread_hash, .func (PySem.W.fnOf "read_hash" "read_hash" (defArgs s_read_hash) (defBody s_read_hash) (defScope s_read_hash) .none kVread_hash dcread_hash pmread_hash anread_hash cdread_hash ctread_hash), slread_hash⟩)
    (c_read_hash : PySem.W.codeIn K cdread_hash "read_hash" = true)
    (k_read_hash : PySem.W.keepIn K (.ref fread_hash) = true)
    (a_read_quoted : PySem.W.nsIn K mainGlobals "read_quoted" = some (some (.ref fread_quoted)))
    (l_read_quoted : K.lookup fread_quoted = some ⟨ocread_quoted, odread_quoted, .func (PySem.W.fnOf "read_quoted" "read_quoted" (defArgs s_read_quoted) (defBody s_read_quoted) (defScope s_read_quoted) .none kVread_quoted dcread_quoted pmread_quoted anread_quoted cdread_quoted ctread_quoted), slread_quoted⟩)
    (c_read_quoted : PySem.W.codeIn K cdread_quoted "read_quoted" = true)
    (k_read_quoted : PySem.W.keepIn K (.ref fread_quoted) = true)
    (a_read_sign : PySem.W.nsIn K mainGlobals "read_sign" = some (some (.ref fread_sign)))
    (l_read_sign : K.lookup fread_sign = some ⟨ocread_sign, odread_sign, .func (PySem.W.fnOf "read_sign" "read_sign" (defArgs s_read_sign) (defBody s_read_sign) (defScope s_read_sign) .none kVread_sign dcread_sign pmread_sign anread_sign cdread_sign ctread_sign), slread_sign⟩)
    (c_read_sign : PySem.W.codeIn K cdread_sign "read_sign" = true)
    (k_read_sign : PySem.W.keepIn K (.ref fread_sign) = true)
    (a_read_token : PySem.W.nsIn K mainGlobals "read_token" = some (some (.ref fread_token)))
    (l_read_token : K.lookup fread_token = some ⟨ocread_token, odread_token, .func (PySem.W.fnOf "read_token" "read_token" (defArgs s_read_token) (defBody s_read_token) (defScope s_read_token) .none kVread_token dcread_token pmread_token anread_token cdread_token ctread_token), slread_token⟩)
    (c_read_token : PySem.W.codeIn K cdread_token "read_token" = true)
    (k_read_token : PySem.W.keepIn K (.ref fread_token) = true)
    (a_skipped : PySem.W.nsIn K mainGlobals "skipped" = some (some (.ref fskipped)))
    (l_skipped : K.lookup fskipped = some ⟨ocskipped, odskipped, .func (PySem.W.fnOf "skipped" "skipped" (defArgs s_skipped) (defBody s_skipped) (defScope s_skipped) .none kVskipped dcskipped pmskipped anskipped cdskipped ctskipped), slskipped⟩)
    (c_skipped : PySem.W.codeIn K cdskipped "skipped" = true)
    (k_skipped : PySem.W.keepIn K (.ref fskipped) = true)
    (a_tokens_of : PySem.W.nsIn K mainGlobals "tokens_of" = some (some (.ref ftokens_of)))
    (l_tokens_of : K.lookup ftokens_of = some ⟨octokens_of, odtokens_of, .func (PySem.W.fnOf "tokens_of" "tokens_of" (defArgs s_tokens_of) (defBody s_tokens_of) (defScope s_tokens_of) .none kVtokens_of dctokens_of pmtokens_of antokens_of cdtokens_of cttokens_of), sltokens_of⟩)
    (c_tokens_of : PySem.W.codeIn K cdtokens_of "tokens_of" = true)
    (k_tokens_of : PySem.W.keepIn K (.ref ftokens_of) = true)
    (a__law_start : PySem.W.nsIn K mainGlobals "_law_start" = some (some (.ref f_law_start)))
    (l__law_start : K.lookup f_law_start = some ⟨oc_law_start, od_law_start, .func (PySem.W.fnOf "_law_start" "_law_start" (defArgs s__law_start) (defBody s__law_start) (defScope s__law_start) .none kV_law_start dc_law_start pm_law_start an_law_start cd_law_start ct_law_start), sl_law_start⟩)
    (c__law_start : PySem.W.codeIn K cd_law_start "_law_start" = true)
    (k__law_start : PySem.W.keepIn K (.ref f_law_start) = true)
    (a__law_pick : PySem.W.nsIn K mainGlobals "_law_pick" = some (some (.ref f_law_pick)))
    (l__law_pick : K.lookup f_law_pick = some ⟨oc_law_pick, od_law_pick, .func (PySem.W.fnOf "_law_pick" "_law_pick" (defArgs s__law_pick) (defBody s__law_pick) (defScope s__law_pick) .none kV_law_pick dc_law_pick pm_law_pick an_law_pick cd_law_pick ct_law_pick), sl_law_pick⟩)
    (c__law_pick : PySem.W.codeIn K cd_law_pick "_law_pick" = true)
    (k__law_pick : PySem.W.keepIn K (.ref f_law_pick) = true)
    (a__law_letters : PySem.W.nsIn K mainGlobals "_law_letters" = some (some (.ref f_law_letters)))
    (l__law_letters : K.lookup f_law_letters = some ⟨oc_law_letters, od_law_letters, .func (PySem.W.fnOf "_law_letters" "_law_letters" (defArgs s__law_letters) (defBody s__law_letters) (defScope s__law_letters) .none kV_law_letters dc_law_letters pm_law_letters an_law_letters cd_law_letters ct_law_letters), sl_law_letters⟩)
    (c__law_letters : PySem.W.codeIn K cd_law_letters "_law_letters" = true)
    (k__law_letters : PySem.W.keepIn K (.ref f_law_letters) = true)
    (a__law_source : PySem.W.nsIn K mainGlobals "_law_source" = some (some (.ref f_law_source)))
    (l__law_source : K.lookup f_law_source = some ⟨oc_law_source, od_law_source, .func (PySem.W.fnOf "_law_source" "_law_source" (defArgs s__law_source) (defBody s__law_source) (defScope s__law_source) .none kV_law_source dc_law_source pm_law_source an_law_source cd_law_source ct_law_source), sl_law_source⟩)
    (c__law_source : PySem.W.codeIn K cd_law_source "_law_source" = true)
    (k__law_source : PySem.W.keepIn K (.ref f_law_source) = true)
    (a__law_run : PySem.W.nsIn K mainGlobals "_law_run" = some (some (.ref f_law_run)))
    (l__law_run : K.lookup f_law_run = some ⟨oc_law_run, od_law_run, .func (PySem.W.fnOf "_law_run" "_law_run" (defArgs s__law_run) (defBody s__law_run) (defScope s__law_run) .none kV_law_run dc_law_run pm_law_run an_law_run cd_law_run ct_law_run), sl_law_run⟩)
    (c__law_run : PySem.W.codeIn K cd_law_run "_law_run" = true)
    (k__law_run : PySem.W.keepIn K (.ref f_law_run) = true)
    (a__law_word_end : PySem.W.nsIn K mainGlobals "_law_word_end" = some (some (.ref f_law_word_end)))
    (l__law_word_end : K.lookup f_law_word_end = some ⟨oc_law_word_end, od_law_word_end, .func (PySem.W.fnOf "_law_word_end" "_law_word_end" (defArgs s__law_word_end) (defBody s__law_word_end) (defScope s__law_word_end) .none kV_law_word_end dc_law_word_end pm_law_word_end an_law_word_end cd_law_word_end ct_law_word_end), sl_law_word_end⟩)
    (c__law_word_end : PySem.W.codeIn K cd_law_word_end "_law_word_end" = true)
    (k__law_word_end : PySem.W.keepIn K (.ref f_law_word_end) = true)
    (a__law_is_letter : PySem.W.nsIn K mainGlobals "_law_is_letter" = some (some (.ref f_law_is_letter)))
    (l__law_is_letter : K.lookup f_law_is_letter = some ⟨oc_law_is_letter, od_law_is_letter, .func (PySem.W.fnOf "_law_is_letter" "_law_is_letter" (defArgs s__law_is_letter) (defBody s__law_is_letter) (defScope s__law_is_letter) .none kV_law_is_letter dc_law_is_letter pm_law_is_letter an_law_is_letter cd_law_is_letter ct_law_is_letter), sl_law_is_letter⟩)
    (c__law_is_letter : PySem.W.codeIn K cd_law_is_letter "_law_is_letter" = true)
    (k__law_is_letter : PySem.W.keepIn K (.ref f_law_is_letter) = true)
    (a__law_name_end : PySem.W.nsIn K mainGlobals "_law_name_end" = some (some (.ref f_law_name_end)))
    (l__law_name_end : K.lookup f_law_name_end = some ⟨oc_law_name_end, od_law_name_end, .func (PySem.W.fnOf "_law_name_end" "_law_name_end" (defArgs s__law_name_end) (defBody s__law_name_end) (defScope s__law_name_end) .none kV_law_name_end dc_law_name_end pm_law_name_end an_law_name_end cd_law_name_end ct_law_name_end), sl_law_name_end⟩)
    (c__law_name_end : PySem.W.codeIn K cd_law_name_end "_law_name_end" = true)
    (k__law_name_end : PySem.W.keepIn K (.ref f_law_name_end) = true)
    (a__law_colon : PySem.W.nsIn K mainGlobals "_law_colon" = some (some (.ref f_law_colon)))
    (l__law_colon : K.lookup f_law_colon = some ⟨oc_law_colon, od_law_colon, .func (PySem.W.fnOf "_law_colon" "_law_colon" (defArgs s__law_colon) (defBody s__law_colon) (defScope s__law_colon) .none kV_law_colon dc_law_colon pm_law_colon an_law_colon cd_law_colon ct_law_colon), sl_law_colon⟩)
    (c__law_colon : PySem.W.codeIn K cd_law_colon "_law_colon" = true)
    (k__law_colon : PySem.W.keepIn K (.ref f_law_colon) = true)
    (a__law_skip : PySem.W.nsIn K mainGlobals "_law_skip" = some (some (.ref f_law_skip)))
    (l__law_skip : K.lookup f_law_skip = some ⟨oc_law_skip, od_law_skip, .func (PySem.W.fnOf "_law_skip" "_law_skip" (defArgs s__law_skip) (defBody s__law_skip) (defScope s__law_skip) .none kV_law_skip dc_law_skip pm_law_skip an_law_skip cd_law_skip ct_law_skip), sl_law_skip⟩)
    (c__law_skip : PySem.W.codeIn K cd_law_skip "_law_skip" = true)
    (k__law_skip : PySem.W.keepIn K (.ref f_law_skip) = true)
    (a__law_symbol_end : PySem.W.nsIn K mainGlobals "_law_symbol_end" = some (some (.ref f_law_symbol_end)))
    (l__law_symbol_end : K.lookup f_law_symbol_end = some ⟨oc_law_symbol_end, od_law_symbol_end, .func (PySem.W.fnOf "_law_symbol_end" "_law_symbol_end" (defArgs s__law_symbol_end) (defBody s__law_symbol_end) (defScope s__law_symbol_end) .none kV_law_symbol_end dc_law_symbol_end pm_law_symbol_end an_law_symbol_end cd_law_symbol_end ct_law_symbol_end), sl_law_symbol_end⟩)
    (c__law_symbol_end : PySem.W.codeIn K cd_law_symbol_end "_law_symbol_end" = true)
    (k__law_symbol_end : PySem.W.keepIn K (.ref f_law_symbol_end) = true)
    (a__law_token_end : PySem.W.nsIn K mainGlobals "_law_token_end" = some (some (.ref f_law_token_end)))
    (l__law_token_end : K.lookup f_law_token_end = some ⟨oc_law_token_end, od_law_token_end, .func (PySem.W.fnOf "_law_token_end" "_law_token_end" (defArgs s__law_token_end) (defBody s__law_token_end) (defScope s__law_token_end) .none kV_law_token_end dc_law_token_end pm_law_token_end an_law_token_end cd_law_token_end ct_law_token_end), sl_law_token_end⟩)
    (c__law_token_end : PySem.W.codeIn K cd_law_token_end "_law_token_end" = true)
    (k__law_token_end : PySem.W.keepIn K (.ref f_law_token_end) = true)
    (a__law_is_token : PySem.W.nsIn K mainGlobals "_law_is_token" = some (some (.ref f_law_is_token)))
    (l__law_is_token : K.lookup f_law_is_token = some ⟨oc_law_is_token, od_law_is_token, .func (PySem.W.fnOf "_law_is_token" "_law_is_token" (defArgs s__law_is_token) (defBody s__law_is_token) (defScope s__law_is_token) .none kV_law_is_token dc_law_is_token pm_law_is_token an_law_is_token cd_law_is_token ct_law_is_token), sl_law_is_token⟩)
    (c__law_is_token : PySem.W.codeIn K cd_law_is_token "_law_is_token" = true)
    (k__law_is_token : PySem.W.keepIn K (.ref f_law_is_token) = true)
    (a__law_tiles : PySem.W.nsIn K mainGlobals "_law_tiles" = some (some (.ref f_law_tiles)))
    (l__law_tiles : K.lookup f_law_tiles = some ⟨oc_law_tiles, od_law_tiles, .func (PySem.W.fnOf "_law_tiles" "_law_tiles" (defArgs s__law_tiles) (defBody s__law_tiles) (defScope s__law_tiles) .none kV_law_tiles dc_law_tiles pm_law_tiles an_law_tiles cd_law_tiles ct_law_tiles), sl_law_tiles⟩)
    (c__law_tiles : PySem.W.codeIn K cd_law_tiles "_law_tiles" = true)
    (k__law_tiles : PySem.W.keepIn K (.ref f_law_tiles) = true)
    (a__law_misfit : PySem.W.nsIn K mainGlobals "_law_misfit" = some (some (.ref f_law_misfit)))
    (l__law_misfit : K.lookup f_law_misfit = some ⟨oc_law_misfit, od_law_misfit, .func (PySem.W.fnOf "_law_misfit" "_law_misfit" (defArgs s__law_misfit) (defBody s__law_misfit) (defScope s__law_misfit) .none kV_law_misfit dc_law_misfit pm_law_misfit an_law_misfit cd_law_misfit ct_law_misfit), sl_law_misfit⟩)
    (c__law_misfit : PySem.W.codeIn K cd_law_misfit "_law_misfit" = true)
    (k__law_misfit : PySem.W.keepIn K (.ref f_law_misfit) = true)
    (a_law : PySem.W.nsIn K mainGlobals "law" = some (some (.ref flaw)))
    (l_law : K.lookup flaw = some ⟨oclaw, odlaw, .func (PySem.W.fnOf "law" "law" (defArgs s_law) (defBody s_law) (defScope s_law) .none kVlaw dclaw pmlaw anlaw cdlaw ctlaw), sllaw⟩)
    (c_law : PySem.W.codeIn K cdlaw "law" = true)
    (k_law : PySem.W.keepIn K (.ref flaw) = true)
    (qem_MM : PySem.W.exmOne K (.ref C_Malformed) (.ref C_Malformed) = some true)
    (qem_OM : PySem.W.exmOne K (.ref C_Oversized) (.ref C_Malformed) = some false)
    (qem_OO : PySem.W.exmOne K (.ref C_Oversized) (.ref C_Oversized) = some true) : Wd l.prog K mg :=
  { n_abs := PySem.W.mg_none_of X G z_abs,
    n_bool := PySem.W.mg_none_of X G z_bool,
    n_int := PySem.W.mg_none_of X G z_int,
    n_isinstance := PySem.W.mg_none_of X G z_isinstance,
    n_len := PySem.W.mg_none_of X G z_len,
    n_list := PySem.W.mg_none_of X G z_list,
    n_min := PySem.W.mg_none_of X G z_min,
    n_range := PySem.W.mg_none_of X G z_range,
    n_str := PySem.W.mg_none_of X G z_str,
    n_tuple := PySem.W.mg_none_of X G z_tuple,
    t_MOST_SOURCE := t_MOST_SOURCE, g_MOST_SOURCE := PySem.W.mg_of X G c_MOST_SOURCE,
    t_MOST_NAME := t_MOST_NAME, g_MOST_NAME := PySem.W.mg_of X G c_MOST_NAME,
    t_MOST_DIGITS := t_MOST_DIGITS, g_MOST_DIGITS := PySem.W.mg_of X G c_MOST_DIGITS,
    t_LETTERS := t_LETTERS, g_LETTERS := by have z := PySem.W.mg_of X G c_LETTERS; rw [e_LET] at z; exact z,
    t_DIGITS := t_DIGITS, g_DIGITS := by have z := PySem.W.mg_of X G c_DIGITS; rw [e_DIG] at z; exact z,
    t_SIGNS := t_SIGNS, g_SIGNS := by have z := PySem.W.mg_of X G c_SIGNS; rw [e_SGN] at z; exact z,
    t_MARKS := t_MARKS, g_MARKS := by have z := PySem.W.mg_of X G c_MARKS; rw [e_MRK] at z; exact z,
    c_SaggarError := C_SaggarError, g_SaggarError := PySem.W.mg_of X G cl_SaggarError,
    c_Malformed := C_Malformed, g_Malformed := PySem.W.mg_of X G cl_Malformed,
    c_Oversized := C_Oversized, g_Oversized := PySem.W.mg_of X G cl_Oversized,
    X_Malformed := ⟨⟨_, _, _, _, _, _, _, _, _, _, _, _, _, _, _, xl_Malformed, xr_Malformed⟩, xs_Malformed, xe_Malformed, xt_Malformed, xk_Malformed⟩,
    i_Malformed := ⟨a_Malformed___init__, k_Malformed___init__⟩,
    cc_Malformed := ccMalformed___init__, cda_Malformed := cdaMalformed___init__,
    S_Malformed := { ox := ⟨⟨_, _, _, _, _, _, _, _, _, _, _, _, _, _, _, xl_Malformed, xr_Malformed⟩, xs_Malformed, xe_Malformed, xt_Malformed, xk_Malformed⟩, code := ⟨_, _, _, _, _, _, x1_Malformed___init__, x2_Malformed___init__, x3_Malformed___init__⟩, cell := ⟨_, _, _, x4_Malformed___init__⟩, cls := ⟨_, by unfold PySem.W.clsIn; rw [xl_Malformed] <;> rfl⟩, sub := xm_Malformed, init := xi_Malformed, isB := xb_Malformed, third := z_third, mgS := PySem.W.mg_none_of X G z_super, hks := by decide +kernel, hkc := by decide +kernel, htop := z_top },
    f_Malformed___init__ := fMalformed___init__, fd_Malformed___init__ := _, L_Malformed := ⟨_, _, _, _, _, _, _, _, l_Malformed___init__, rfl, c_Malformed___init__⟩,
    E_Malformed := ⟨⟨⟨_, _, _, _, _, _, _, _, _, _, _, _, _, _, _, xl_Malformed, xr_Malformed⟩, xs_Malformed, xe_Malformed, xt_Malformed, xk_Malformed⟩, eg_Malformed, ek_Malformed, ed_Malformed, ea_Malformed, z_sg, z_st, em_Malformed⟩,
    xn_Malformed_at := xn_Malformed_at,
    b_Malformed___init__ := .all fun us hl => match us, hl with | [_, _], _ => rfl,
    X_Oversized := ⟨⟨_, _, _, _, _, _, _, _, _, _, _, _, _, _, _, xl_Oversized, xr_Oversized⟩, xs_Oversized, xe_Oversized, xt_Oversized, xk_Oversized⟩,
    i_Oversized := ⟨a_Oversized___init__, k_Oversized___init__⟩,
    cc_Oversized := ccOversized___init__, cda_Oversized := cdaOversized___init__,
    S_Oversized := { ox := ⟨⟨_, _, _, _, _, _, _, _, _, _, _, _, _, _, _, xl_Oversized, xr_Oversized⟩, xs_Oversized, xe_Oversized, xt_Oversized, xk_Oversized⟩, code := ⟨_, _, _, _, _, _, x1_Oversized___init__, x2_Oversized___init__, x3_Oversized___init__⟩, cell := ⟨_, _, _, x4_Oversized___init__⟩, cls := ⟨_, by unfold PySem.W.clsIn; rw [xl_Oversized] <;> rfl⟩, sub := xm_Oversized, init := xi_Oversized, isB := xb_Oversized, third := z_third, mgS := PySem.W.mg_none_of X G z_super, hks := by decide +kernel, hkc := by decide +kernel, htop := z_top },
    f_Oversized___init__ := fOversized___init__, fd_Oversized___init__ := _, L_Oversized := ⟨_, _, _, _, _, _, _, _, l_Oversized___init__, rfl, c_Oversized___init__⟩,
    E_Oversized := ⟨⟨⟨_, _, _, _, _, _, _, _, _, _, _, _, _, _, _, xl_Oversized, xr_Oversized⟩, xs_Oversized, xe_Oversized, xt_Oversized, xk_Oversized⟩, eg_Oversized, ek_Oversized, ed_Oversized, ea_Oversized, z_sg, z_st, em_Oversized⟩,
    xn_Oversized_limit := xn_Oversized_limit,
    b_Oversized___init__ := .all fun us hl => match us, hl with | [_, _], _ => rfl,
    f_char_at := fchar_at, fd_char_at := _, F_char_at := fun_mk (st := s_char_at) l_char_at c_char_at k_char_at,
    g_char_at := PySem.W.mg_of X G a_char_at,
    b_char_at := (fun_mk (st := s_char_at) l_char_at c_char_at k_char_at).binds (ps := ["source", "at"]) fun _ _ _ _ _ _ us hl => match us, hl with | [_, _], _ => rfl,
    f_is_in := fis_in, fd_is_in := _, F_is_in := fun_mk (st := s_is_in) l_is_in c_is_in k_is_in,
    g_is_in := PySem.W.mg_of X G a_is_in,
    b_is_in := (fun_mk (st := s_is_in) l_is_in c_is_in k_is_in).binds (ps := ["char", "chars"]) fun _ _ _ _ _ _ us hl => match us, hl with | [_, _], _ => rfl,
    f_end_of := fend_of, fd_end_of := _, F_end_of := fun_mk (st := s_end_of) l_end_of c_end_of k_end_of,
    g_end_of := PySem.W.mg_of X G a_end_of,
    b_end_of := (fun_mk (st := s_end_of) l_end_of c_end_of k_end_of).binds (ps := ["source", "at", "chars"]) fun _ _ _ _ _ _ us hl => match us, hl with | [_, _, _], _ => rfl,
    f_is_name := fis_name, fd_is_name := _, F_is_name := fun_mk (st := s_is_name) l_is_name c_is_name k_is_name,
    g_is_name := PySem.W.mg_of X G a_is_name,
    b_is_name := (fun_mk (st := s_is_name) l_is_name c_is_name k_is_name).binds (ps := ["text"]) fun _ _ _ _ _ _ us hl => match us, hl with | [_], _ => rfl,
    f_name_end := fname_end, fd_name_end := _, F_name_end := fun_mk (st := s_name_end) l_name_end c_name_end k_name_end,
    g_name_end := PySem.W.mg_of X G a_name_end,
    b_name_end := (fun_mk (st := s_name_end) l_name_end c_name_end k_name_end).binds (ps := ["source", "at"]) fun _ _ _ _ _ _ us hl => match us, hl with | [_, _], _ => rfl,
    f_is_keyword_end := fis_keyword_end, fd_is_keyword_end := _, F_is_keyword_end := fun_mk (st := s_is_keyword_end) l_is_keyword_end c_is_keyword_end k_is_keyword_end,
    g_is_keyword_end := PySem.W.mg_of X G a_is_keyword_end,
    b_is_keyword_end := (fun_mk (st := s_is_keyword_end) l_is_keyword_end c_is_keyword_end k_is_keyword_end).binds (ps := ["source", "at"]) fun _ _ _ _ _ _ us hl => match us, hl with | [_, _], _ => rfl,
    f_read_name := fread_name, fd_read_name := _, F_read_name := fun_mk (st := s_read_name) l_read_name c_read_name k_read_name,
    g_read_name := PySem.W.mg_of X G a_read_name,
    b_read_name := (fun_mk (st := s_read_name) l_read_name c_read_name k_read_name).binds (ps := ["source", "at", "start"]) fun _ _ _ _ _ _ us hl => match us, hl with | [_, _, _], _ => rfl,
    f_read_number := fread_number, fd_read_number := _, F_read_number := fun_mk (st := s_read_number) l_read_number c_read_number k_read_number,
    g_read_number := PySem.W.mg_of X G a_read_number,
    b_read_number := (fun_mk (st := s_read_number) l_read_number c_read_number k_read_number).binds (ps := ["source", "at"]) fun _ _ _ _ _ _ us hl => match us, hl with | [_, _], _ => rfl,
    f_read_hash := fread_hash, fd_read_hash := _, F_read_hash := fun_mk (st := s_read_hash) l_read_hash c_read_hash k_read_hash,
    g_read_hash := PySem.W.mg_of X G a_read_hash,
    b_read_hash := (fun_mk (st := s_read_hash) l_read_hash c_read_hash k_read_hash).binds (ps := ["source", "at"]) fun _ _ _ _ _ _ us hl => match us, hl with | [_, _], _ => rfl,
    f_read_quoted := fread_quoted, fd_read_quoted := _, F_read_quoted := fun_mk (st := s_read_quoted) l_read_quoted c_read_quoted k_read_quoted,
    g_read_quoted := PySem.W.mg_of X G a_read_quoted,
    b_read_quoted := (fun_mk (st := s_read_quoted) l_read_quoted c_read_quoted k_read_quoted).binds (ps := ["source", "at"]) fun _ _ _ _ _ _ us hl => match us, hl with | [_, _], _ => rfl,
    f_read_sign := fread_sign, fd_read_sign := _, F_read_sign := fun_mk (st := s_read_sign) l_read_sign c_read_sign k_read_sign,
    g_read_sign := PySem.W.mg_of X G a_read_sign,
    b_read_sign := (fun_mk (st := s_read_sign) l_read_sign c_read_sign k_read_sign).binds (ps := ["source", "at"]) fun _ _ _ _ _ _ us hl => match us, hl with | [_, _], _ => rfl,
    f_read_token := fread_token, fd_read_token := _, F_read_token := fun_mk (st := s_read_token) l_read_token c_read_token k_read_token,
    g_read_token := PySem.W.mg_of X G a_read_token,
    b_read_token := (fun_mk (st := s_read_token) l_read_token c_read_token k_read_token).binds (ps := ["source", "at"]) fun _ _ _ _ _ _ us hl => match us, hl with | [_, _], _ => rfl,
    f_skipped := fskipped, fd_skipped := _, F_skipped := fun_mk (st := s_skipped) l_skipped c_skipped k_skipped,
    g_skipped := PySem.W.mg_of X G a_skipped,
    b_skipped := (fun_mk (st := s_skipped) l_skipped c_skipped k_skipped).binds (ps := ["source", "at"]) fun _ _ _ _ _ _ us hl => match us, hl with | [_, _], _ => rfl,
    f_tokens_of := ftokens_of, fd_tokens_of := _, F_tokens_of := fun_mk (st := s_tokens_of) l_tokens_of c_tokens_of k_tokens_of,
    g_tokens_of := PySem.W.mg_of X G a_tokens_of,
    b_tokens_of := (fun_mk (st := s_tokens_of) l_tokens_of c_tokens_of k_tokens_of).binds (ps := ["source"]) fun _ _ _ _ _ _ us hl => match us, hl with | [_], _ => rfl,
    f__law_start := f_law_start, fd__law_start := _, F__law_start := fun_mk (st := s__law_start) l__law_start c__law_start k__law_start,
    g__law_start := PySem.W.mg_of X G a__law_start,
    b__law_start := (fun_mk (st := s__law_start) l__law_start c__law_start k__law_start).binds (ps := ["_law_script"]) fun _ _ _ _ _ _ us hl => match us, hl with | [_], _ => rfl,
    f__law_pick := f_law_pick, fd__law_pick := _, F__law_pick := fun_mk (st := s__law_pick) l__law_pick c__law_pick k__law_pick,
    g__law_pick := PySem.W.mg_of X G a__law_pick,
    b__law_pick := (fun_mk (st := s__law_pick) l__law_pick c__law_pick k__law_pick).binds (ps := ["_law_state", "_law_limit"]) fun _ _ _ _ _ _ us hl => match us, hl with | [_, _], _ => rfl,
    f__law_letters := f_law_letters, fd__law_letters := _, F__law_letters := fun_mk (st := s__law_letters) l__law_letters c__law_letters k__law_letters,
    g__law_letters := PySem.W.mg_of X G a__law_letters,
    b__law_letters := (fun_mk (st := s__law_letters) l__law_letters c__law_letters k__law_letters).binds (ps := []) fun _ _ _ _ _ _ us hl => match us, hl with | [], _ => rfl,
    f__law_source := f_law_source, fd__law_source := _, F__law_source := fun_mk (st := s__law_source) l__law_source c__law_source k__law_source,
    g__law_source := PySem.W.mg_of X G a__law_source,
    b__law_source := (fun_mk (st := s__law_source) l__law_source c__law_source k__law_source).binds (ps := ["_law_state"]) fun _ _ _ _ _ _ us hl => match us, hl with | [_], _ => rfl,
    f__law_run := f_law_run, fd__law_run := _, F__law_run := fun_mk (st := s__law_run) l__law_run c__law_run k__law_run,
    g__law_run := PySem.W.mg_of X G a__law_run,
    b__law_run := (fun_mk (st := s__law_run) l__law_run c__law_run k__law_run).binds (ps := ["_law_source_here", "_law_at", "_law_chars"]) fun _ _ _ _ _ _ us hl => match us, hl with | [_, _, _], _ => rfl,
    f__law_word_end := f_law_word_end, fd__law_word_end := _, F__law_word_end := fun_mk (st := s__law_word_end) l__law_word_end c__law_word_end k__law_word_end,
    g__law_word_end := PySem.W.mg_of X G a__law_word_end,
    b__law_word_end := (fun_mk (st := s__law_word_end) l__law_word_end c__law_word_end k__law_word_end).binds (ps := ["_law_source_here", "_law_at"]) fun _ _ _ _ _ _ us hl => match us, hl with | [_, _], _ => rfl,
    f__law_is_letter := f_law_is_letter, fd__law_is_letter := _, F__law_is_letter := fun_mk (st := s__law_is_letter) l__law_is_letter c__law_is_letter k__law_is_letter,
    g__law_is_letter := PySem.W.mg_of X G a__law_is_letter,
    b__law_is_letter := (fun_mk (st := s__law_is_letter) l__law_is_letter c__law_is_letter k__law_is_letter).binds (ps := ["_law_source_here", "_law_at"]) fun _ _ _ _ _ _ us hl => match us, hl with | [_, _], _ => rfl,
    f__law_name_end := f_law_name_end, fd__law_name_end := _, F__law_name_end := fun_mk (st := s__law_name_end) l__law_name_end c__law_name_end k__law_name_end,
    g__law_name_end := PySem.W.mg_of X G a__law_name_end,
    b__law_name_end := (fun_mk (st := s__law_name_end) l__law_name_end c__law_name_end k__law_name_end).binds (ps := ["_law_source_here", "_law_at"]) fun _ _ _ _ _ _ us hl => match us, hl with | [_, _], _ => rfl,
    f__law_colon := f_law_colon, fd__law_colon := _, F__law_colon := fun_mk (st := s__law_colon) l__law_colon c__law_colon k__law_colon,
    g__law_colon := PySem.W.mg_of X G a__law_colon,
    b__law_colon := (fun_mk (st := s__law_colon) l__law_colon c__law_colon k__law_colon).binds (ps := ["_law_source_here", "_law_at"]) fun _ _ _ _ _ _ us hl => match us, hl with | [_, _], _ => rfl,
    f__law_skip := f_law_skip, fd__law_skip := _, F__law_skip := fun_mk (st := s__law_skip) l__law_skip c__law_skip k__law_skip,
    g__law_skip := PySem.W.mg_of X G a__law_skip,
    b__law_skip := (fun_mk (st := s__law_skip) l__law_skip c__law_skip k__law_skip).binds (ps := ["_law_source_here", "_law_at"]) fun _ _ _ _ _ _ us hl => match us, hl with | [_, _], _ => rfl,
    f__law_symbol_end := f_law_symbol_end, fd__law_symbol_end := _, F__law_symbol_end := fun_mk (st := s__law_symbol_end) l__law_symbol_end c__law_symbol_end k__law_symbol_end,
    g__law_symbol_end := PySem.W.mg_of X G a__law_symbol_end,
    b__law_symbol_end := (fun_mk (st := s__law_symbol_end) l__law_symbol_end c__law_symbol_end k__law_symbol_end).binds (ps := ["_law_source_here", "_law_at", "_law_text"]) fun _ _ _ _ _ _ us hl => match us, hl with | [_, _, _], _ => rfl,
    f__law_token_end := f_law_token_end, fd__law_token_end := _, F__law_token_end := fun_mk (st := s__law_token_end) l__law_token_end c__law_token_end k__law_token_end,
    g__law_token_end := PySem.W.mg_of X G a__law_token_end,
    b__law_token_end := (fun_mk (st := s__law_token_end) l__law_token_end c__law_token_end k__law_token_end).binds (ps := ["_law_source_here", "_law_at", "_law_kind", "_law_value"]) fun _ _ _ _ _ _ us hl => match us, hl with | [_, _, _, _], _ => rfl,
    f__law_is_token := f_law_is_token, fd__law_is_token := _, F__law_is_token := fun_mk (st := s__law_is_token) l__law_is_token c__law_is_token k__law_is_token,
    g__law_is_token := PySem.W.mg_of X G a__law_is_token,
    b__law_is_token := (fun_mk (st := s__law_is_token) l__law_is_token c__law_is_token k__law_is_token).binds (ps := ["_law_token"]) fun _ _ _ _ _ _ us hl => match us, hl with | [_], _ => rfl,
    f__law_tiles := f_law_tiles, fd__law_tiles := _, F__law_tiles := fun_mk (st := s__law_tiles) l__law_tiles c__law_tiles k__law_tiles,
    g__law_tiles := PySem.W.mg_of X G a__law_tiles,
    b__law_tiles := (fun_mk (st := s__law_tiles) l__law_tiles c__law_tiles k__law_tiles).binds (ps := ["_law_source_here", "_law_tokens", "_law_stop"]) fun _ _ _ _ _ _ us hl => match us, hl with | [_, _, _], _ => rfl,
    f__law_misfit := f_law_misfit, fd__law_misfit := _, F__law_misfit := fun_mk (st := s__law_misfit) l__law_misfit c__law_misfit k__law_misfit,
    g__law_misfit := PySem.W.mg_of X G a__law_misfit,
    b__law_misfit := (fun_mk (st := s__law_misfit) l__law_misfit c__law_misfit k__law_misfit).binds (ps := ["_law_source_here", "_law_at"]) fun _ _ _ _ _ _ us hl => match us, hl with | [_, _], _ => rfl,
    f_law := flaw, fd_law := _, F_law := fun_mk (st := s_law) l_law c_law k_law,
    g_law := PySem.W.mg_of X G a_law,
    b_law := (fun_mk (st := s_law) l_law c_law k_law).binds (ps := ["_law_script"]) fun _ _ _ _ _ _ us hl => match us, hl with | [_], _ => rfl,
    em_MM := qem_MM,
    em_OM := qem_OM,
    em_OO := qem_OO }
section
variable {P : Program} {w : World} {K : PySem.W.Frag} {mg : Str → Option Value} {base : Heap}
theorem ok_Malformed___init__ (W : Wd P K mg) : FnOk P w K mg base CX0 1 W.f_Malformed___init__ W.fd_Malformed___init__ ["self", "at"] (sp_exc1 W.c_Malformed "at") := by
  obtain ⟨oc, od, kV, dc, pm, an, ct, osl, lk, efd, hcd⟩ := W.L_Malformed
  rw [efd] at lk ⊢
  refine fn_sup lk hcd ns_Malformed___init__ W.S_Malformed rfl rfl (pl := fun env => plainOf _ env) (fun L => rfl) (fun env => rfl) (fun env => rfl) (fun L => rfl) (fun L => rfl) (fun vs H Q E h => ?_) (fun A outer s H vs Q E hr h => ?_)
  · obtain ⟨a, x, rfl, _⟩ := h
    rfl
  · obtain ⟨a, x, rfl, hx, ha, k⟩ := h
    refine ⟨_, _, (pa_cons (pe_callTy call_strU (by rfl) W.n_str bb_str (pa_cons (pv 1) pa_nil)) pa_nil), pss_one (ps_ost (pv 0) (pv 1)), ?_⟩
    refine ⟨a, rfl, ha, ?_⟩
    have fin : sizeLine ≥ 1 := (by show 1 ≤ sizeLine; decide)
    cases x with
    | int i => exact ⟨_, rfl, hx, fin, ha, _, rfl, _, rfl, a, _, rfl, W.X_Malformed, W.xn_Malformed_at, Or.inl ⟨ha, fun dx h1 h2 => k dx h1 h2⟩⟩
    | str z => exact ⟨_, rfl, fin, ha, _, rfl, _, rfl, a, _, rfl, W.X_Malformed, W.xn_Malformed_at, Or.inl ⟨ha, fun dx h1 h2 => k dx h1 h2⟩⟩
    | _ => exact hx.elim
theorem ok_Oversized___init__ (W : Wd P K mg) : FnOk P w K mg base CX0 1 W.f_Oversized___init__ W.fd_Oversized___init__ ["self", "limit"] (sp_exc1 W.c_Oversized "limit") := by
  obtain ⟨oc, od, kV, dc, pm, an, ct, osl, lk, efd, hcd⟩ := W.L_Oversized
  rw [efd] at lk ⊢
  refine fn_sup lk hcd ns_Oversized___init__ W.S_Oversized rfl rfl (pl := fun env => plainOf _ env) (fun L => rfl) (fun env => rfl) (fun env => rfl) (fun L => rfl) (fun L => rfl) (fun vs H Q E h => ?_) (fun A outer s H vs Q E hr h => ?_)
  · obtain ⟨a, x, rfl, _⟩ := h
    rfl
  · obtain ⟨a, x, rfl, hx, ha, k⟩ := h
    refine ⟨_, _, (pa_cons (pe_callTy call_strU (by rfl) W.n_str bb_str (pa_cons (pv 1) pa_nil)) pa_nil), pss_one (ps_ost (pv 0) (pv 1)), ?_⟩
    refine ⟨a, rfl, ha, ?_⟩
    have fin : sizeLine ≥ 1 := (by show 1 ≤ sizeLine; decide)
    cases x with
    | int i => exact ⟨_, rfl, hx, fin, ha, _, rfl, _, rfl, a, _, rfl, W.X_Oversized, W.xn_Oversized_limit, Or.inl ⟨ha, fun dx h1 h2 => k dx h1 h2⟩⟩
    | str z => exact ⟨_, rfl, fin, ha, _, rfl, _, rfl, a, _, rfl, W.X_Oversized, W.xn_Oversized_limit, Or.inl ⟨ha, fun dx h1 h2 => k dx h1 h2⟩⟩
    | _ => exact hx.elim
end

end LX
namespace LX
open PySem PySem.Spec PyProof.Rows L2 NdefX CwR
/-- the sign at a place, as a text -/
def chs (l : List Nat) (i : Nat) : List Nat := (l.drop i).take 1
theorem cut1 (l : List Nat) (i : Nat) : cutS (T l) (some (i : Int)) (some ((i : Int) + 1)) = T (chs l i) := by
  unfold cutS
  have h1 : HT.sIx (T l).length 0 (some (i : Int)) = min i l.length := HT.sIx_nat _ _ _
  have h2 : HT.sIx (T l).length (T l).length (some ((i : Int) + 1)) = min (i + 1) l.length := HT.sIx_nat _ _ (i + 1)
  rw [h1, h2]
  show T _ = T _
  congr 1
  unfold chs
  show ((l.drop (min i l.length)).take (min (i + 1) l.length - min i l.length)) = _
  by_cases h : i < l.length
  · rw [show min i l.length = i by omega, show min (i + 1) l.length - i = 1 by omega]
  · rw [List.drop_eq_nil_of_le (by omega : l.length ≤ min i l.length), List.drop_eq_nil_of_le (by omega : l.length ≤ i)]
    simp
def isIn (c m : List Nat) : Bool := c.any fun x => decide (x ∈ m)
section
variable {P : Program} {w : World} {K : PySem.W.Frag} {mg : Str → Option Value} {base : Heap}
def sp_char_at : Sp := fun vs H Q _ => ∃ (l : List Nat) (i : Nat), vs = [.str (T l), .int (i : Int)] ∧ l.length ≤ 100000 ∧ Q (.str (T (chs l i))) H
theorem ok_char_at (W : Wd P K mg) : FnOk P w K mg base CX0 1 W.f_char_at W.fd_char_at ["source", "at"] sp_char_at := by
  refine W.F_char_at.ok sc_char_at (fun vs H Q E h => ?_) (fun cdv A outer s H vs Q E hr h => ?_)
  · obtain ⟨l, i, rfl, _⟩ := h
    rfl
  · obtain ⟨l, i, rfl, hl, k⟩ := h
    have hu1 := hu_of hr
    have hu64 := hu64_of hr
    refine ⟨_, (pss_one (ps_ret (pe_slice sl_U (pv 0) (po_some (pv 1)) (po_some (pe_op op_addU (pv 1) pe_int))))), ?_⟩
    refine ⟨_, rfl, _, rfl, _, rfl, _, rfl, _, rfl, ?_⟩
    refine ⟨Nat.le_trans hl (by decide), ?_⟩
    rw [cut1]
    exact k
end
section
local macro_rules | `(tactic| walk_at "v") => `(tactic| repeat (first | refine ⟨_, rfl, ?_⟩ | refine ⟨_, _, rfl, rfl, ?_⟩))
variable {P : Program} {w : World} {K : PySem.W.Frag} {mg : Str → Option Value} {base : Heap}
theorem ne_nil (c : List Nat) : (!decide ((V.str (T c)) = V.str (T []))) = !c.isEmpty := by
  cases c with
  | nil => simp
  | cons a r => simp [T]
def sp_is_in : Sp := fun vs H Q _ => ∃ (c m : List Nat), vs = [.str (T c), .str (T m)] ∧ c.length ≤ 1 ∧ Q (.bl (isIn c m)) H
theorem ok_is_in (W : Wd P K mg) : FnOk P w K mg base CX0 1 W.f_is_in W.fd_is_in ["char", "chars"] sp_is_in := by
  refine W.F_is_in.ok sc_is_in (fun vs H Q E h => ?_) (fun cdv A outer s H vs Q E hr h => ?_)
  · obtain ⟨l, i, rfl, _⟩ := h
    rfl
  · obtain ⟨c, m, rfl, hl, k⟩ := h
    have hu1 := hu_of hr
    have hu64 := hu64_of hr
    refine ⟨_, (pss_one (ps_ret (pe_and (pe_cmpR (op_neU hu64) (pv 0) (pe_strT (show (PySem.Str.ofString "") = T [] by decide +kernel)) (by first | exact nomark _ | rfl)) (pe_one (pe_cmpR (op_inU hu1) (pv 0) (pv 1) (by first | exact nomark _ | rfl)))))), ?_⟩
    refine ⟨_, rfl, rfl, ?_⟩
    refine ⟨_, rfl, ?_⟩
    refine ite_eq (ne_nil c) ?_
    cases c with
    | nil => exact iteF k
    | cons x r =>
      cases r with
      | cons y r => simp at hl
      | nil =>
        refine iteT ?_
        walk_at "v"
        refine Or.inl ⟨x, rfl, ?_⟩
        have e : isIn [x] m = decide (x ∈ m) := by simp [isIn]
        rw [e] at k
        exact k
def run (l : List Nat) (i : Nat) (m : List Nat) : Nat := ((l.drop i).takeWhile fun x => decide (x ∈ m)).length
theorem run_lt {l m : List Nat} {i : Nat} (h : isIn (chs l i) m = true) : i < l.length ∧ run l i m = run l (i + 1) m + 1 := by
  unfold isIn chs at h
  cases e : l.drop i with
  | nil => rw [e] at h; simp at h
  | cons a r =>
    have hi : i < l.length := by
      by_cases hh : i < l.length
      · exact hh
      · rw [List.drop_eq_nil_of_le (by omega)] at e
        cases e
    have er : l.drop (i + 1) = r := by
      rw [show i + 1 = i + 1 from rfl, ← List.drop_drop, e]
      rfl
    rw [e] at h
    refine ⟨hi, ?_⟩
    unfold run
    rw [e, er, List.takeWhile_cons, if_pos (by simpa using h)]
    rfl
theorem run_no {l m : List Nat} {i : Nat} (h : isIn (chs l i) m = false) : run l i m = 0 := by
  unfold isIn chs at h
  unfold run
  cases e : l.drop i with
  | nil => rfl
  | cons a r =>
    rw [e] at h
    rw [List.takeWhile_cons, if_neg (by simpa using h)]
    rfl
def sp_end_of : Sp := fun vs H Q _ => ∃ (l : List Nat) (i : Nat) (m : List Nat), vs = [.str (T l), .int (i : Int), .str (T m)] ∧ l.length ≤ 100000 ∧ Q (.int ((i + run l i m : Nat) : Int)) H
theorem ok_end_of (W : Wd P K mg) : FnOk P w K mg base CX0 2 W.f_end_of W.fd_end_of ["source", "at", "chars"] sp_end_of := by
  refine W.F_end_of.ok sc_end_of (fun vs H Q E h => ?_) (fun cdv A outer s H vs Q E hr h => ?_)
  · obtain ⟨l, i, m, rfl, _⟩ := h
    rfl
  · obtain ⟨l, i, m, rfl, hl, k⟩ := h
    have hu1 := hu_of hr
    have hu64 := hu64_of hr
    refine ⟨_, (pss_cons (ps_while PassesOwn.never (pt_truth (pe_call (ok_is_in W) (hr.mono (by decide)) rfl W.g_is_in W.F_is_in.kp W.b_is_in .nil pass0 (pa_cons (pe_call (ok_char_at W) (hr.mono (by decide)) rfl W.g_char_at W.F_char_at.kp W.b_char_at .nil pass0 (pa_cons (pv 0) (pa_cons (pv 1) pa_nil))) (pa_cons (pv 2) pa_nil))) (by intro _; rfl)) (pss_one (ps_aug (i := 1) sc_end_of.nd rfl (by first | exact Or.inl rfl | exact Or.inr rfl) pe_int ip_add)))
      (pss_one (ps_ret (pv 1)))), ?_⟩
    refine ⟨fun n σ H' => ∃ j : Nat, σ = [some (.str (T l)), some (.int (j : Int)), some (.str (T m))] ∧ H' = H ∧ j + run l j m = i + run l i m ∧ n = run l j m, ⟨_, i, rfl, rfl, rfl, rfl⟩, ?_⟩
    rintro n σ H' ⟨j, rfl, rfl, hj, rfl⟩
    refine ⟨_, rfl, _, rfl, l, j, rfl, hl, ?_⟩
    refine ⟨_, rfl, chs l j, m, rfl, by unfold chs; rw [List.length_take]; omega, ?_⟩
    refine ⟨_, rfl, ?_⟩
    cases e : isIn (chs l j) m with
    | true =>
      obtain ⟨h1, h2⟩ := run_lt e
      refine iteT ?_
      refine ⟨_, fun _ _ z => z, ?_⟩
      refine ⟨_, rfl, _, _, rfl, rfl, ?_⟩
      exact ⟨run l (j + 1) m, by omega, j + 1, rfl, rfl, by omega, rfl⟩
    | false =>
      refine iteF ?_
      have h0 := run_no e
      refine ⟨_, rfl, ?_⟩
      rw [← hj, h0] at k
      exact k
end
section
local macro_rules | `(tactic| walk_at "v") => `(tactic| repeat (first | refine ⟨_, rfl, ?_⟩ | refine ⟨_, _, rfl, rfl, ?_⟩))
variable {P : Program} {w : World} {K : PySem.W.Frag} {mg : Str → Option Value} {base : Heap}
/-- the drawing's state at p -/
def St (K : PySem.W.Frag) (H : Hp) (p : Addr) : Prop := ∃ (a : Addr) (ns : List Int) (i : Nat) (c d : Int),
  H p = some (.lst [.ref a, .int (i : Int), .int c, .int d]) ∧ SqL K H a (ns.map V.int) ∧ ns.length ≤ 63 ∧ 0 ≤ c ∧ 0 ≤ d ∧ d < 2147483648
theorem sq_keep {H : Hp} {a b p : Addr} {ns : List Int} {r : List V} {o : HO} (h : SqL K H a (ns.map V.int)) (hp : H p = some (.lst (.ref b :: r))) : SqL K (upd H p o) a (ns.map V.int) := by
  have ne : Rd H a (.lst (ns.map V.int)) → a ≠ p := fun rd e => by
    subst e
    rcases rd with h | ⟨o, h⟩
    · rw [hp] at h
      cases ns with
      | nil => cases h
      | cons n r => cases h
    · rw [hp] at h
      cases h
  rcases h with h | h
  · have n := ne h
    rcases h with h | ⟨o, h⟩
    · exact .inl (.inl (by rw [upd_ne n]; exact h))
    · exact .inl (.inr ⟨o, by rw [upd_ne n]; exact h⟩)
  · exact .inr h
theorem St.upd {H : Hp} {a p : Addr} {ns : List Int} {x : V} {r : List V} {i : Nat} {c d : Int} (hp : H p = some (.lst (.ref x' :: r))) (h : SqL K H a (ns.map V.int)) (hl : ns.length ≤ 63) (h1 : 0 ≤ c) (h2 : 0 ≤ d) (h3 : d < 2147483648) :
    St K (upd H p (.lst [.ref a, .int (i : Int), .int c, .int d])) p := ⟨a, ns, i, c, d, upd_same, sq_keep h hp, hl, h1, h2, h3⟩
def sp_pick (K : PySem.W.Frag) : Sp := fun vs H Q _ => ∃ (p : Addr) (lim : Int), vs = [.ref p, .int lim] ∧ St K H p ∧ 0 < lim ∧ lim ≤ 100000 ∧ ∀ (r : Int) (H' : Hp), 0 ≤ r → r < lim → St K H' p → (∀ b, b ≠ p → H' b = H b) → Q (.int r) H'
theorem lim_ok {lim : Int} (h : 0 < lim) (h2 : lim ≤ 100000) : CDivW 0 lim := ⟨h, by
  have : lim.natAbs.log2 ≤ lim.natAbs := Nat.log2_le_self _
  have e : lim.natAbs ≤ 100000 := by omega
  have : lim.natAbs.log2 < 17 := by
    by_cases z : lim.natAbs = 0
    · omega
    · exact (Nat.log2_lt z).mpr (by omega)
  omega⟩
theorem ok__law_pick (W : Wd P K mg) : FnOk P w K mg base CX0 1 W.f__law_pick W.fd__law_pick ["_law_state", "_law_limit"] (sp_pick K) := by
  refine W.F__law_pick.ok sc__law_pick (fun vs H Q E h => ?_) (fun cdv A outer s H vs Q E hr h => ?_)
  · obtain ⟨p, lim, rfl, _⟩ := h
    rfl
  · obtain ⟨p, lim, rfl, hS, hl0, hl1, k⟩ := h
    have hu1 := hu_of hr
    have hu64 := hu64_of hr
    have cd := lim_ok hl0 hl1
    refine ⟨_, (Evl.pss_cut (ps_if (PW.pt (pw_and (pt_cmpR (op_eqU hu64) (pe_ix (ix_U hu1) (pv 0) pe_int (fun _ _ => rfl)) pe_int (by first | exact nomark _ | rfl)) (pw_and1 (pt_cmpR op_ltU (pe_ix (ix_U hu1) (pv 0) pe_int (fun _ _ => rfl)) (pe_callB call_lenU (by rfl) W.n_len bb_len (pa_cons (pe_ix (ix_U hu1) (pv 0) pe_int (fun _ _ => rfl)) pa_nil)) (by first | exact nomark _ | rfl))))) (pss_cons (ps_set (i := 2) sc__law_pick.nd rfl (by first | exact Or.inl rfl | exact Or.inr rfl) (pe_callB call_abs (by rfl) W.n_abs bb_abs (pa_cons (pe_ix (ix_U hu1) (pe_ix (ix_U hu1) (pv 0) pe_int (fun _ _ => rfl)) (pe_ix (ix_U hu1) (pv 0) pe_int (fun _ _ => rfl)) (fun _ _ => rfl)) pa_nil)))
      (pss_cons (ps_asg (pe_op op_addU (pe_ix (ix_U hu1) (pv 0) pe_int (fun _ _ => rfl)) pe_int) (pg_sub (pv 0) pe_int set_list))
      (pss_one (ps_if (pt_cmpR op_geU (pv 2) (pe_op op_pow pe_int pe_int) (by first | exact nomark _ | rfl)) (pss_one (ps_asg (pv 2) (pg_sub (pv 0) pe_int set_list))) (pss_one (ps_asg (pe_op op_addU (pe_op op_mod (pe_callTy call_intU (by rfl) W.n_int bb_int (pa_cons (pe_op op_addU (pe_op op_mulU (pe_ix (ix_U hu1) (pv 0) pe_int (fun _ _ => rfl)) pe_int) (pv 2)) pa_nil)) pe_int) pe_int) (pg_sub (pv 0) pe_int set_list))))))) pss_nil)
      (pss_cons (ps_if (pt_cmpR op_gtU (pe_ix (ix_U hu1) (pv 0) pe_int (fun _ _ => rfl)) pe_int (by first | exact nomark _ | rfl)) (pss_cons (ps_set (i := 3) sc__law_pick.nd rfl (by first | exact Or.inl rfl | exact Or.inr rfl) (pe_op op_mod (pe_callTy call_intU (by rfl) W.n_int bb_int (pa_cons (pe_ix (ix_U hu1) (pv 0) pe_int (fun _ _ => rfl)) pa_nil)) (pv 1)))
      (pss_cons (ps_asg (pe_op op_fdivW (pe_ix (ix_U hu1) (pv 0) pe_int (fun _ _ => rfl)) (pv 1)) (pg_sub (pv 0) pe_int set_list))
      (pss_one (ps_ret (pv 3))))) pss_nil)
      (pss_cons (ps_asg (pe_op op_mod (pe_callTy call_intU (by rfl) W.n_int bb_int (pa_cons (pe_op op_mulU (pe_ix (ix_U hu1) (pv 0) pe_int (fun _ _ => rfl)) pe_int) pa_nil)) pe_int) (pg_sub (pv 0) pe_int set_list))
      (pss_one (ps_ret (pe_op op_mod (pe_callTy call_intU (by rfl) W.n_int bb_int (pa_cons (pe_op op_addU (pe_op op_fdivW (pe_ix (ix_U hu1) (pv 0) pe_int (fun _ _ => rfl)) pe_int) (pe_op op_mod (pe_callTy call_intU (by rfl) W.n_int bb_int (pa_cons (pe_op op_mulU (pe_ix (ix_U hu1) (pv 0) pe_int (fun _ _ => rfl)) (pe_ix (ix_U hu1) (pv 0) pe_int (fun _ _ => rfl))) pa_nil)) pe_int)) pa_nil)) (pv 1))))))), ?_⟩
    refine ⟨fun σ H1 => (∃ v, σ = [some (.ref p), some (.int lim), v, none]) ∧ St K H1 p ∧ ∀ b, b ≠ p → H1 b = H b, ?_, ?_⟩
    · obtain ⟨a, ns, i, c, d, hp, hs, hl, h1, h2, h3⟩ := id hS
      have same : ∀ o, ∀ b, b ≠ p → upd H p o b = H b := fun o b hb => upd_ne hb
      -- state[2] == 0
      refine ⟨_, rfl, Or.inl ⟨_, _, _, rfl, Or.inl (SqL.of hp), rfl, ?_⟩⟩
      refine ⟨rfl, _, rfl, ?_⟩
      refine ite_eq (I_dec c 0) (iteD (fun hc => ?_) (fun hc => ?_))
      · -- state[1] < len(state[0])
        refine ⟨_, rfl, Or.inl ⟨_, _, _, rfl, Or.inl (SqL.of hp), rfl, ?_⟩⟩
        refine ⟨_, rfl, Or.inl ⟨_, _, _, rfl, Or.inl (SqL.of hp), rfl, ?_⟩⟩
        refine Or.inl ⟨_, Or.inl hs, ?_⟩
        refine ⟨_, rfl, ?_⟩
        rw [List.length_map]
        refine iteD (fun hi => ?_) (fun hi => ?_)
        · -- the cell
          have hi' : i < ns.length := by omega
          have hx : (ns.map V.int)[i]? = some (V.int ns[i]) := by rw [List.getElem?_map, List.getElem?_eq_getElem hi']; rfl
          refine ⟨_, rfl, Or.inl ⟨_, _, _, rfl, Or.inl (SqL.of hp), rfl, ?_⟩⟩
          refine ⟨_, rfl, Or.inl ⟨_, _, _, rfl, Or.inl (SqL.of hp), rfl, ?_⟩⟩
          refine Or.inl ⟨_, _, _, rfl, Or.inl hs, atI_nat hx, ?_⟩
          refine ⟨_, rfl, ?_⟩
          generalize hcell : (if ns[i] < 0 then -ns[i] else ns[i]) = cell
          have cell0 : 0 ≤ cell := by rw [← hcell]; split <;> omega
          -- state[1] = state[1] + 1
          refine ⟨_, rfl, Or.inl ⟨_, _, _, rfl, Or.inl (SqL.of hp), rfl, ?_⟩⟩
          refine ⟨_, rfl, p, _, _, _, rfl, rfl, hp, rfl, ?_⟩
          have hp1 : (L2.upd H p (.lst ([V.ref a, .int (i : Int), .int c, .int d].set 1 (.int ((i : Int) + 1))))) p = some (.lst [V.ref a, .int ((i + 1 : Nat) : Int), .int c, .int d]) := upd_same
          refine ⟨_, rfl, _, _, rfl, rfl, ⟨by decide, by decide, by decide⟩, ?_⟩
          refine ⟨_, rfl, ?_⟩
          refine iteD (fun hg => ?_) (fun hg => ?_)
          · refine ⟨_, rfl, _, rfl, p, _, _, _, rfl, rfl, hp1, rfl, ?_⟩
            rw [upd_upd]
            exact ⟨⟨_, rfl⟩, St.upd (i := i + 1) (x := .non) hp hs hl cell0 h2 h3, same _⟩
          · refine ⟨_, rfl, Or.inl ⟨_, _, _, rfl, Or.inl (SqL.of hp1), rfl, ?_⟩⟩
            refine ⟨Or.inr ⟨by decide, by decide⟩, ?_⟩
            refine ⟨_, rfl, ?_⟩
            refine ⟨_, _, rfl, rfl, (by show (0 : Int) < 2147483646; decide), ?_⟩
            refine ⟨_, rfl, p, _, _, _, rfl, rfl, hp1, rfl, ?_⟩
            rw [upd_upd]
            have e1 := Int.emod_nonneg (d * 48271 + cell) (by decide : (2147483646 : Int) ≠ 0)
            have e2 := Int.emod_lt_of_pos (d * 48271 + cell) (by decide : (0 : Int) < 2147483646)
            exact ⟨⟨_, rfl⟩, St.upd (i := i + 1) (x := .non) hp hs hl h1 (by omega) (by omega), same _⟩
        · exact ⟨⟨_, rfl⟩, hS, fun _ _ => rfl⟩
      · exact ⟨⟨_, rfl⟩, hS, fun _ _ => rfl⟩
    · rintro σ H1 ⟨⟨v, rfl⟩, hS1, same1⟩
      obtain ⟨a, ns, i, c, d, hp, hs, hl, h1, h2, h3⟩ := id hS1
      have same : ∀ o, ∀ b, b ≠ p → upd H1 p o b = H b := fun o b hb => (upd_ne hb).trans (same1 b hb)
      refine ⟨_, rfl, Or.inl ⟨_, _, _, rfl, Or.inl (SqL.of hp), rfl, ?_⟩⟩
      refine ⟨_, rfl, ?_⟩
      refine iteD (fun hc => ?_) (fun hc => ?_)
      · refine ⟨_, rfl, Or.inl ⟨_, _, _, rfl, Or.inl (SqL.of hp), rfl, ?_⟩⟩
        refine ⟨_, rfl, _, _, rfl, rfl, hl0, ?_⟩
        refine ⟨_, rfl, Or.inl ⟨_, _, _, rfl, Or.inl (SqL.of hp), rfl, ?_⟩⟩
        refine ⟨_, rfl, _, _, rfl, rfl, cd, ?_⟩
        refine ⟨_, rfl, p, _, _, _, rfl, rfl, hp, rfl, ?_⟩
        refine ⟨_, rfl, ?_⟩
        exact k _ _ (Int.emod_nonneg _ (by omega)) (Int.emod_lt_of_pos _ hl0) (St.upd (i := i) (x := .non) hp hs hl (Int.ediv_nonneg h1 (by omega)) h2 h3) (same _)
      · refine ⟨_, rfl, Or.inl ⟨_, _, _, rfl, Or.inl (SqL.of hp), rfl, ?_⟩⟩
        refine ⟨Or.inr ⟨by decide, by decide⟩, ?_⟩
        refine ⟨_, _, rfl, rfl, (by show (0 : Int) < 2147483647; decide), ?_⟩
        refine ⟨_, rfl, p, _, _, _, rfl, rfl, hp, rfl, ?_⟩
        have e1 := Int.emod_nonneg (d * 48271) (by decide : (2147483647 : Int) ≠ 0)
        have e2 := Int.emod_lt_of_pos (d * 48271) (by decide : (0 : Int) < 2147483647)
        obtain ⟨d', hd'⟩ : ∃ d', d' = d * 48271 % 2147483647 := ⟨_, rfl⟩
        rw [← hd'] at e1 e2
        have hp1 : (L2.upd H1 p (.lst ([V.ref a, .int (i : Int), .int c, .int d].set 3 (.int (d * 48271 % 2147483647))))) p = some (.lst [V.ref a, .int (i : Int), .int c, .int d']) := by rw [hd']; exact upd_same
        refine ⟨_, rfl, Or.inl ⟨_, _, _, rfl, Or.inl (SqL.of hp1), rfl, ?_⟩⟩
        refine ⟨_, _, rfl, rfl, ⟨by decide, by decide⟩, ?_⟩
        refine ⟨_, rfl, Or.inl ⟨_, _, _, rfl, Or.inl (SqL.of hp1), rfl, ?_⟩⟩
        refine ⟨_, rfl, Or.inl ⟨_, _, _, rfl, Or.inl (SqL.of hp1), rfl, ?_⟩⟩
        refine ⟨Or.inl ⟨by omega, by omega⟩, ?_⟩
        refine ⟨_, _, rfl, rfl, (by show (0 : Int) < 2147483629; decide), ?_⟩
        refine ⟨_, rfl, _, _, rfl, rfl, hl0, ?_⟩
        exact k _ _ (Int.emod_nonneg _ (by omega)) (Int.emod_lt_of_pos _ hl0) (by have z := St.upd (i := i) (x := .non) (d := d') hp hs hl h1 (by omega) (by omega); rw [hd'] at z; exact z) (same _)
end
section
variable {P : Program} {w : World} {K : PySem.W.Frag} {mg : Str → Option Value} {base : Heap}
theorem St.new {H : Hp} {p q : Addr} {o : HO} (S : St K H p) (hq : H q = none) : St K (L2.upd H q o) p := by
  obtain ⟨a, ns, i, c, d, hp, hs, r⟩ := S
  have same : Same H (L2.upd H q o) := fun b u e => by rw [upd_ne (ne_of_none e hq)]; exact e
  exact ⟨a, ns, i, c, d, same _ _ hp, same.seq hs, r⟩
/-! ### names, plainly -/
def nameB (l : List Nat) : Bool := isIn (chs l 0) LET && decide (l.length ≤ 32) && decide (run l 0 (LET ++ DIG) = l.length)
structure Nm (l : List Nat) : Prop where
  hd : ∃ a r, l = a :: r ∧ a ∈ LET
  len : l.length ≤ 32
  all : ∀ x ∈ l, x ∈ LET ++ DIG
theorem takeWhile_all {l : List Nat} {f : Nat → Bool} : (l.takeWhile f).length = l.length ↔ ∀ x ∈ l, f x = true := by
  induction l with
  | nil => simp
  | cons a r ih =>
    rw [List.takeWhile_cons]
    by_cases h : f a = true
    · rw [if_pos h]
      simp only [List.length_cons, List.mem_cons, forall_eq_or_imp]
      constructor
      · intro z; exact ⟨h, ih.mp (by omega)⟩
      · intro z; have := ih.mpr z.2; omega
    · rw [if_neg h]
      simp only [List.length_nil, List.length_cons, List.mem_cons, forall_eq_or_imp]
      constructor
      · intro z; omega
      · intro z; exact absurd z.1 h
theorem run_all {l m : List Nat} : run l 0 m = l.length ↔ ∀ x ∈ l, x ∈ m := by
  unfold run
  rw [List.drop_zero, takeWhile_all]
  simp
theorem nameB_iff (l : List Nat) : nameB l = true ↔ (∃ a r, l = a :: r ∧ a ∈ LET) ∧ l.length ≤ 32 ∧ ∀ x ∈ l, x ∈ LET ++ DIG := by
  unfold nameB
  rw [Bool.and_eq_true, Bool.and_eq_true, decide_eq_true_eq, decide_eq_true_eq, run_all]
  have : isIn (chs l 0) LET = true ↔ ∃ a r, l = a :: r ∧ a ∈ LET := by
    cases l with
    | nil => simp [isIn, chs]
    | cons a r => simp [isIn, chs]
  rw [this]
  exact ⟨fun z => ⟨z.1.1, z.1.2, z.2⟩, fun z => ⟨⟨z.1, z.2.1⟩, z.2.2⟩⟩
theorem Nm.b {l : List Nat} (h : Nm l) : nameB l = true := (nameB_iff l).mpr ⟨h.hd, h.len, h.all⟩
theorem let_sgn : ∀ a ∈ LET, a ∉ SGN := by decide +kernel
theorem ld_58 : ∀ a ∈ LET ++ DIG, a ≠ 58 := by decide +kernel
theorem ld_len : (LET ++ DIG).length = 62 := by decide +kernel
theorem let_len : LET.length = 52 := by decide +kernel
theorem sgn_len : SGN.length = 11 := by decide +kernel
theorem at_mem {l : List Nat} {n : Int} {m : Nat} (h0 : 0 ≤ n) (h1 : n < (m : Int)) (hm : l.length = m) : ∃ c, atI l n = some c ∧ c ∈ l := by
  have hi : n.toNat < l.length := by omega
  refine ⟨l[n.toNat], ?_, List.getElem_mem hi⟩
  have e : ((n.toNat : Nat) : Int) = n := by omega
  have z := atI_nat (xs := l) (j := n.toNat) (List.getElem?_eq_getElem hi)
  rw [e] at z
  exact z
def sp_is_name : Sp := fun vs H Q _ => ∃ l : List Nat, vs = [.str (T l)] ∧ l.length ≤ 100000 ∧ Q (.bl (nameB l)) H
theorem ok_is_name (W : Wd P K mg) : FnOk P w K mg base CX0 3 W.f_is_name W.fd_is_name ["text"] sp_is_name := by
  refine W.F_is_name.ok sc_is_name (fun vs H Q E h => ?_) (fun cdv A outer s H vs Q E hr h => ?_)
  · obtain ⟨l, rfl, _⟩ := h
    rfl
  · obtain ⟨l, rfl, hl, k⟩ := h
    have hu1 := hu_of hr
    have hu64 := hu64_of hr
    refine ⟨_, (pss_cons (ps_if (PW.pt (pw_or (pt_not (pt_truth (pe_call (ok_is_in W) (hr.mono (by decide)) rfl W.g_is_in W.F_is_in.kp W.b_is_in .nil pass0 (pa_cons (pe_call (ok_char_at W) (hr.mono (by decide)) rfl W.g_char_at W.F_char_at.kp W.b_char_at .nil pass0 (pa_cons (pv 0) (pa_cons pe_int pa_nil))) (pa_cons (pe_gs rfl W.g_LETTERS) pa_nil))) (by intro _; rfl))) (pw_or1 (pt_cmpR op_gtU (pe_callB call_lenU (by rfl) W.n_len bb_len (pa_cons (pv 0) pa_nil)) (pe_gi rfl W.g_MOST_NAME) (by first | exact nomark _ | rfl))))) (pss_one (ps_ret pe_bl)) pss_nil)
      (pss_one (ps_ret (pe_cmpR (op_eqU hu64) (pe_call (ok_end_of W) (hr.mono (by decide)) rfl W.g_end_of W.F_end_of.kp W.b_end_of .nil pass0 (pa_cons (pv 0) (pa_cons pe_int (pa_cons (pe_op op_addU (pe_gs rfl W.g_LETTERS) (pe_gs rfl W.g_DIGITS)) pa_nil)))) (pe_callB call_lenU (by rfl) W.n_len bb_len (pa_cons (pv 0) pa_nil)) (by first | exact nomark _ | rfl))))), ?_⟩
    refine ⟨_, rfl, l, 0, rfl, hl, ?_⟩
    refine ⟨chs l 0, LET, rfl, by unfold chs; rw [List.length_take]; omega, ?_⟩
    refine ⟨_, rfl, ?_⟩
    have k2 : ∀ b, nameB l = b → Q (.bl b) H := fun b e => by rw [← e]; exact k
    cases e : isIn (chs l 0) LET with
    | false =>
      refine iteT (iteT ?_)
      exact k2 false (by unfold nameB; rw [e]; rfl)
    | true =>
      refine iteF ?_
      refine ⟨_, rfl, Nat.le_trans hl (by decide), ?_⟩
      refine ⟨_, rfl, ?_⟩
      refine iteD (fun h => ?_) (fun h => ?_)
      · refine k2 false ?_
        have : ¬ l.length ≤ 32 := by
          have h : (32 : Int) < ((T l).length : Int) := h
          have : (T l).length = l.length := rfl
          omega
        unfold nameB
        rw [decide_eq_false this, Bool.and_false, Bool.false_and]
      · have h32 : l.length ≤ 32 := by
          have h : ¬ (32 : Int) < ((T l).length : Int) := h
          have : (T l).length = l.length := rfl
          omega
        refine ⟨_, rfl, (by show LET.length + DIG.length ≤ _; decide +kernel), ?_⟩
        refine ⟨l, 0, LET ++ DIG, by rw [T_app] <;> rfl, hl, ?_⟩
        refine ⟨_, rfl, Nat.le_trans hl (by decide), rfl, ?_⟩
        refine k2 _ ?_
        unfold nameB
        rw [e, decide_eq_true h32]
        show decide _ = decide _
        rw [I_dec]
        have : (T l).length = l.length := rfl
        simp only [this, Nat.zero_add]
        by_cases z : run l 0 (LET ++ DIG) = l.length
        · rw [decide_eq_true z, decide_eq_true (by omega)]
        · rw [decide_eq_false z, decide_eq_false (by omega)]
def sp_letters : Sp := fun vs H Q _ => vs = [] ∧ Q (.str (T LET)) H
theorem ok__law_letters (W : Wd P K mg) : FnOk P w K mg base CX0 1 W.f__law_letters W.fd__law_letters [] sp_letters := by
  refine W.F__law_letters.ok sc__law_letters (fun vs H Q E h => ?_) (fun cdv A outer s H vs Q E hr h => ?_)
  · obtain ⟨rfl, _⟩ := h
    rfl
  · obtain ⟨rfl, k⟩ := h
    refine ⟨_, (pss_one (ps_ret (pe_strT e_LET))), ?_⟩
    exact k
def sp_start (K : PySem.W.Frag) : Sp := fun vs H Q _ => ∃ (a : Addr) (ns : List Int), vs = [.ref a] ∧ SqL K H a (ns.map V.int) ∧ ns.length ≤ 63 ∧ ∀ p H', H p = none → St K H' p → Same H H' → Q (.ref p) H'
theorem ok__law_start (W : Wd P K mg) : FnOk P w K mg base CX0 1 W.f__law_start W.fd__law_start ["_law_script"] (sp_start K) := by
  refine W.F__law_start.ok sc__law_start (fun vs H Q E h => ?_) (fun cdv A outer s H vs Q E hr h => ?_)
  · obtain ⟨a, ns, rfl, _⟩ := h
    rfl
  · obtain ⟨a, ns, rfl, hs, hl, k⟩ := h
    refine ⟨_, (pss_one (ps_ret (pe_lst (pa_cons (pv 0) (pa_cons pe_int (pa_cons pe_int (pa_cons pe_int pa_nil))))))), ?_⟩
    refine ⟨_, rfl, (by show 4 ≤ sizeLine; decide), fun p hp => ?_⟩
    have same : Same H (L2.upd H p (.lst [.ref a, .int 0, .int 0, .int 7])) := fun b u e => by rw [upd_ne (ne_of_none e hp)]; exact e
    exact k p _ hp ⟨a, ns, 0, 0, 7, upd_same, same.seq hs, hl, by decide, by decide, by decide⟩ same
end

end LX
namespace LX
open PySem PySem.Spec PyProof.Rows L2 NdefX CwR
/-! ### reading, plainly -/
def sub (L : List Nat) (i j : Nat) : List Nat := (L.drop i).take (j - i)
theorem cut2 (L : List Nat) (i j : Nat) : cutS (T L) (some (i : Int)) (some (j : Int)) = T (sub L i j) := by
  unfold cutS
  rw [HT.sIx_nat, HT.sIx_nat]
  show T ((L.drop (min i L.length)).take (min j L.length - min i L.length)) = _
  unfold sub
  congr 1
  by_cases h : i < L.length
  · rw [Nat.min_eq_left (Nat.le_of_lt h)]
    by_cases h2 : j ≤ L.length
    · rw [Nat.min_eq_left h2]
    · rw [Nat.min_eq_right (by omega), List.take_of_length_le (by rw [List.length_drop]; exact Nat.le_refl _), List.take_of_length_le (by rw [List.length_drop]; omega)]
  · rw [List.drop_eq_nil_of_le (by omega : L.length ≤ min i L.length), List.drop_eq_nil_of_le (by omega : L.length ≤ i)]
    simp
theorem cut3 (L : List Nat) (i : Nat) : cutS (T L) (some (i : Int)) none = T (L.drop i) := by
  unfold cutS
  rw [HT.sIx_nat, HT.sIx_none]
  show T ((L.drop (min i L.length)).take (L.length - min i L.length)) = _
  congr 1
  rw [List.take_of_length_le (by rw [List.length_drop]; exact Nat.le_refl _)]
  by_cases h : i ≤ L.length
  · rw [Nat.min_eq_left h]
  · rw [Nat.min_eq_right (by omega), List.drop_length, List.drop_eq_nil_of_le (by omega)]
theorem cut4 (L : List Nat) (j : Nat) : cutS (T L) none (some (j : Int)) = T (L.take j) := by
  unfold cutS
  rw [HT.sIx_nat, HT.sIx_none]
  show T ((L.drop 0).take (min j L.length - 0)) = _
  congr 1
  rw [List.drop_zero, Nat.sub_zero]
  by_cases h : j ≤ L.length
  · rw [Nat.min_eq_left h]
  · rw [Nat.min_eq_right (by omega), List.take_length, List.take_of_length_le (by omega)]
theorem chs_at {L : List Nat} {i c : Nat} (h : L[i]? = some c) : chs L i = [c] := by
  have hi := (List.getElem?_eq_some_iff.mp h).1
  have e := (List.getElem?_eq_some_iff.mp h).2
  unfold chs
  rw [List.drop_eq_getElem_cons hi, e]
  rfl
theorem chs_no {L : List Nat} {i : Nat} (h : L[i]? = none) : chs L i = [] := by
  unfold chs
  rw [List.drop_eq_nil_of_le (List.getElem?_eq_none_iff.mp h)]
  rfl
theorem chs_eq {L : List Nat} {i c : Nat} : T (chs L i) = T [c] ↔ L[i]? = some c := by
  cases h : L[i]? with
  | none => rw [chs_no h]; constructor <;> intro e <;> cases e
  | some d =>
    rw [chs_at h]
    constructor
    · intro e; have := T_inj e; simp at this; rw [this]
    · intro e; cases e; rfl
theorem chs_dec {L : List Nat} {i c : Nat} : decide (T (chs L i) = T [c]) = decide (L[i]? = some c) := by
  by_cases h : L[i]? = some c
  · rw [decide_eq_true h, decide_eq_true (chs_eq.mpr h)]
  · rw [decide_eq_false h, decide_eq_false (fun e => h (chs_eq.mp e))]
theorem chs_len (L : List Nat) (i : Nat) : (chs L i).length ≤ 1 := by unfold chs; rw [List.length_take]; omega
def inAt (L : List Nat) (i : Nat) (m : List Nat) : Bool := isIn (chs L i) m
theorem inAt_some {L m : List Nat} {i c : Nat} (h : L[i]? = some c) : inAt L i m = decide (c ∈ m) := by unfold inAt; rw [chs_at h]; simp [isIn]
theorem inAt_none {L m : List Nat} {i : Nat} (h : L[i]? = none) : inAt L i m = false := by unfold inAt; rw [chs_no h]; rfl
theorem inAt_true {L m : List Nat} {i : Nat} (h : inAt L i m = true) : ∃ c, L[i]? = some c ∧ c ∈ m := by
  cases e : L[i]? with
  | none => rw [inAt_none e] at h; cases h
  | some c => rw [inAt_some e] at h; exact ⟨c, rfl, by simpa using h⟩
abbrev AN : List Nat := LET ++ DIG
/-- the place behind a name at i -/
def ne (L : List Nat) (i : Nat) : Option Nat := if inAt L i LET = true ∧ run L i AN ≤ 32 then some (i + run L i AN) else none
/-- a colon, not the beginning of := -/
def ke (L : List Nat) (i : Nat) : Bool := decide (L[i]? = some 58) && !decide (L[i + 1]? = some 61)
theorem tw_mem {α : Type} {p : α → Bool} {x : α} : ∀ {l : List α}, x ∈ l.takeWhile p → p x = true
  | [], h => by cases h
  | a :: l, h => by
    rw [List.takeWhile_cons] at h
    split at h
    · rename_i hp
      rcases List.mem_cons.mp h with e | e
      · rw [e]; exact hp
      · exact tw_mem e
    · cases h
theorem run_le (L : List Nat) (i : Nat) (m : List Nat) : i + run L i m ≤ max i L.length := by
  unfold run
  have h := (List.takeWhile_sublist (l := L.drop i) fun x => decide (x ∈ m)).length_le
  rw [List.length_drop] at h
  omega
theorem run_pos {L m : List Nat} {i : Nat} (h : inAt L i m = true) : 0 < run L i m := by
  have := (run_lt h).2
  omega
theorem run_in {L m : List Nat} {i j : Nat} (h1 : i ≤ j) (h2 : j < i + run L i m) : inAt L j m = true := by
  unfold run at h2
  have hj : j < L.length := by
    have h := (List.takeWhile_sublist (l := L.drop i) fun x => decide (x ∈ m)).length_le
    rw [List.length_drop] at h
    omega
  have e : L[j]? = some L[j] := List.getElem?_eq_getElem hj
  rw [inAt_some e]
  have hk : j - i < ((L.drop i).takeWhile fun x => decide (x ∈ m)).length := by omega
  have hm : ((L.drop i).takeWhile fun x => decide (x ∈ m))[j - i] ∈ (L.drop i).takeWhile fun x => decide (x ∈ m) := List.getElem_mem hk
  have hp := tw_mem hm
  have e2 : ((L.drop i).takeWhile fun x => decide (x ∈ m))[j - i]? = (L.drop i)[j - i]? := by
    have pre := List.takeWhile_prefix (l := L.drop i) fun x => decide (x ∈ m)
    obtain ⟨t, ht⟩ := pre
    have h5 := List.getElem?_append_left (l₂ := t) hk
    rw [ht] at h5
    exact h5.symm
  rw [List.getElem?_eq_getElem hk, List.getElem?_drop, show i + (j - i) = j by omega, e] at e2
  have e3 := Option.some.inj e2
  rw [e3] at hp
  exact hp
theorem run_stop (L : List Nat) (i : Nat) (m : List Nat) : inAt L (i + run L i m) m = false := by
  by_cases hb : inAt L (i + run L i m) m = true
  · exfalso
    obtain ⟨c, hc, hm⟩ := inAt_true hb
    have hi := (List.getElem?_eq_some_iff.mp hc).1
    have e : L.drop i = (L.drop i).takeWhile (fun x => decide (x ∈ m)) ++ (L.drop i).dropWhile (fun x => decide (x ∈ m)) := (List.takeWhile_append_dropWhile).symm
    have h2 : (L.drop i)[run L i m]? = some c := by rw [List.getElem?_drop]; exact hc
    rw [e, List.getElem?_append_right (by unfold run; exact Nat.le_refl _)] at h2
    rw [show run L i m - ((L.drop i).takeWhile fun x => decide (x ∈ m)).length = 0 by unfold run; omega] at h2
    have h3 := List.head?_dropWhile_not (fun x => decide (x ∈ m)) (L.drop i)
    rw [List.head?_eq_getElem?, h2] at h3
    simp [hm] at h3
  · simpa using hb
theorem ne_some {L : List Nat} {i e : Nat} (h : ne L i = some e) : inAt L i LET = true ∧ run L i AN ≤ 32 ∧ e = i + run L i AN := by
  unfold ne at h
  split at h
  · rename_i h'; cases h; exact ⟨h'.1, h'.2, rfl⟩
  · cases h
theorem let_an : ∀ a ∈ LET, a ∈ AN := fun a h => List.mem_append_left _ h
theorem inAt_let {L : List Nat} {i : Nat} (h : inAt L i LET = true) : inAt L i AN = true := by
  obtain ⟨c, hc, hm⟩ := inAt_true h
  rw [inAt_some hc]
  simpa using let_an c hm
theorem ne_lt {L : List Nat} {i e : Nat} (h : ne L i = some e) : i < e ∧ e ≤ L.length := by
  obtain ⟨h1, h2, rfl⟩ := ne_some h
  have := run_pos (inAt_let h1)
  have h3 := run_le L i AN
  obtain ⟨c, hc, _⟩ := inAt_true h1
  have := (List.getElem?_eq_some_iff.mp hc).1
  omega
/-- the next c from i on -/
def nx (L : List Nat) (c i : Nat) : Option Nat := ((L.drop i).findIdx? (fun x => decide (x = c))).map (i + ·)
theorem nx_some {L : List Nat} {c i f : Nat} (h : nx L c i = some f) : i ≤ f ∧ L[f]? = some c ∧ ∀ j, i ≤ j → j < f → L[j]? ≠ some c := by
  unfold nx at h
  obtain ⟨k, hk, rfl⟩ := Option.map_eq_some_iff.mp h
  rw [List.findIdx?_eq_some_iff_getElem] at hk
  obtain ⟨h1, h2, h3⟩ := hk
  rw [List.length_drop] at h1
  rw [List.getElem_drop] at h2
  refine ⟨by omega, ?_, fun j j1 j2 => ?_⟩
  · rw [List.getElem?_eq_getElem (by omega)]
    have : L[i + k] = c := by simpa using h2
    rw [this]
  · have := h3 (j - i) (by omega)
    rw [List.getElem_drop] at this
    rw [List.getElem?_eq_getElem (by omega)]
    intro e
    have e := Option.some.inj e
    simp only [show i + (j - i) = j by omega] at this
    rw [e] at this
    simp at this
theorem nx_none {L : List Nat} {c i : Nat} (h : nx L c i = none) : ∀ j, i ≤ j → L[j]? ≠ some c := by
  unfold nx at h
  rw [Option.map_eq_none_iff, List.findIdx?_eq_none_iff] at h
  intro j hj e
  have hl := (List.getElem?_eq_some_iff.mp e).1
  have : c ∈ L.drop i := by
    refine List.mem_of_getElem? (i := j - i) ?_
    rw [List.getElem?_drop, show i + (j - i) = j by omega]; exact e
  have := h c this
  simp at this
theorem nx_is {L : List Nat} {c i f : Nat} (h1 : i ≤ f) (h2 : L[f]? = some c) (h3 : ∀ j, i ≤ j → j < f → L[j]? ≠ some c) : nx L c i = some f := by
  cases e : nx L c i with
  | none => exact absurd h2 (nx_none e f h1)
  | some g =>
    obtain ⟨g1, g2, g3⟩ := nx_some e
    rcases Nat.lt_trichotomy f g with z | z | z
    · exact absurd h2 (g3 f h1 z)
    · rw [z]
    · exact absurd g2 (h3 g g1 z)
theorem nx_no {L : List Nat} {c i : Nat} (h : ∀ j, i ≤ j → L[j]? ≠ some c) : nx L c i = none := by
  cases e : nx L c i with
  | none => rfl
  | some g => obtain ⟨g1, g2, _⟩ := nx_some e; exact absurd g2 (h g g1)
def fnd (L : List Nat) (c i : Nat) : Int := match nx L c i with | none => -1 | some k => (k : Int)
theorem find_nx (L : List Nat) (c i : Nat) : Txt.find3 (T L) (T [c]) (i : Int) = fnd L c i := by
  have hT : ∀ v, v < L.length → (T L).cps.getD v 0 = L.getD v 0 := fun v hv => by simp [T]
  have hF : PySem.fromIndex (T L).length (i : Int) = i := by
    unfold PySem.fromIndex
    rw [if_neg (by omega)]
    omega
  unfold fnd
  rcases StrLaws.find3_spec (T L) c (i : Int) with ⟨e, hn⟩ | ⟨k, e, h1, h2, h3, h4⟩
  · rw [hF] at hn
    rw [show (T [c]) = ⟨#[c]⟩ from rfl, e, nx_no]
    intro j hj z
    have hl := (List.getElem?_eq_some_iff.mp z).1
    have := hn j hj hl
    rw [hT j hl] at this
    apply this
    rw [List.getD_eq_getElem?_getD, z]; rfl
  · rw [hF] at h1 h4
    have h2 : k < L.length := h2
    rw [hT k h2] at h3
    rw [show (T [c]) = ⟨#[c]⟩ from rfl, e, nx_is (f := k) h1]
    · rw [List.getElem?_eq_getElem h2]
      rw [List.getD_eq_getElem?_getD, List.getElem?_eq_getElem h2] at h3
      exact congrArg some h3
    · intro j j1 j2 z
      have := h4 j j1 j2
      rw [hT j (by omega)] at this
      apply this
      rw [List.getD_eq_getElem?_getD, z]; rfl
/-- behind spaces and comments; at an open comment, there -/
def SK (L : List Nat) (a : Nat) : Nat :=
  if h : a < L.length then
    if L[a] = 34 then (match h2 : nx L 34 (a + 1) with | none => a | some f => SK L (f + 1))
    else if L[a] = 32 ∨ L[a] = 10 then SK L (a + 1) else a
  else a
termination_by L.length - a
decreasing_by
  · have := (nx_some h2).1; have := (List.getElem?_eq_some_iff.mp (nx_some h2).2.1).1; omega
  · omega
theorem SK_end {L : List Nat} {a : Nat} (h : L.length ≤ a) : SK L a = a := by rw [SK, dif_neg (by omega)]
theorem SK_sp {L : List Nat} {a c : Nat} (h : L[a]? = some c) (hc : c = 32 ∨ c = 10) : SK L a = SK L (a + 1) := by
  obtain ⟨h1, rfl⟩ := List.getElem?_eq_some_iff.mp h
  rw [SK, dif_pos h1, if_neg (by rcases hc with z | z <;> rw [z] <;> decide), if_pos hc]
theorem SK_no {L : List Nat} {a c : Nat} (h : L[a]? = some c) (h1 : c ≠ 34) (h2 : c ≠ 32) (h3 : c ≠ 10) : SK L a = a := by
  obtain ⟨h0, rfl⟩ := List.getElem?_eq_some_iff.mp h
  rw [SK, dif_pos h0, if_neg h1, if_neg (by rintro (z | z); exact h2 z; exact h3 z)]
theorem SK_com {L : List Nat} {a f : Nat} (h : L[a]? = some 34) (hf : nx L 34 (a + 1) = some f) : SK L a = SK L (f + 1) := by
  obtain ⟨h0, e⟩ := List.getElem?_eq_some_iff.mp h
  rw [SK, dif_pos h0, if_pos e]
  split
  · rename_i z; rw [hf] at z; cases z
  · rename_i g z; rw [hf] at z; cases z; rfl
theorem SK_open {L : List Nat} {a : Nat} (h : L[a]? = some 34) (hf : nx L 34 (a + 1) = none) : SK L a = a := by
  obtain ⟨h0, e⟩ := List.getElem?_eq_some_iff.mp h
  rw [SK, dif_pos h0, if_pos e]
  split
  · rfl
  · rename_i g z; rw [hf] at z; cases z

end LX
namespace LX
open PySem PySem.Spec PyProof.Rows L2 NdefX CwR
local macro_rules | `(tactic| none_booked) => `(tactic| first | assumption | (refine Fr.g0 (by assumption) ?_; none_booked))
local macro_rules | `(tactic| one_sign) => `(tactic| repeat (first
  | refine Stp.h ?_
  | ((with_reducible refine' z_fld1 ?k0 ?k1 ?k2 ?k3 ?_); (case k0 => none_booked); (case k1 => k_ownIn); (case k2 => k_memK); (case k3 => rfl))
  | ((with_reducible refine' z_meth1 ?k0 ?k1 ?_); (case k0 => none_booked); (case k1 => rfl))
  | ((with_reducible refine' z_bmL ?k0 ?_); (case k0 => none_booked))
  | ((with_reducible refine' z_lenL ?k0 ?_); (case k0 => none_booked))
  | ((with_reducible refine' z_lenT ?k0 ?_); (case k0 => none_booked))
  | ((with_reducible refine' z_lenD ?k0 ?_); (case k0 => none_booked))
  | ((with_reducible refine' z_truL ?k0 ?_); (case k0 => none_booked))
  | ((with_reducible refine' z_truD ?k0 ?_); (case k0 => none_booked))
  | ((with_reducible refine' z_truT ?k0 ?_); (case k0 => none_booked))
  | ((with_reducible refine' z_inDIP ?k0 ?_); (case k0 => none_booked))
  | ((with_reducible refine' z_inDIN ?k0 ?_); (case k0 => none_booked))
  | ((with_reducible refine' z_inDfP ?k0 ?_); (case k0 => none_booked))
  | ((with_reducible refine' z_inDfN ?k0 ?_); (case k0 => none_booked))
  | ((with_reducible refine' z_iList1 ?k0 ?_); (case k0 => none_booked))
  | ((with_reducible refine' z_isi0 ?k0 ?k1 ?k2 ?_); (case k0 => exact (ClsV.ty _)); (case k1 => exact (TyX.base (TyOf.lst (by none_booked)))); (case k2 => first | exact kt_list_int | exact kt_list_bool | exact kt_list_str | exact kt_list_list | exact kt_list_tuple | exact kt_list_dict))
  | ((with_reducible refine' z_rI ?k0 ?_); (case k0 => first | exact (by decide : (0 : Int) < _) | exact ⟨by decide, by decide⟩ | exact ⟨by decide, by decide, by decide⟩ | (show (0 : Int) < _; omega)))
  | ((with_reducible refine' z_mulI ?k0 ?_); (case k0 => first | exact Or.inr ⟨by decide, by decide⟩ | exact Or.inl ⟨by decide, by decide⟩ | exact Or.inl ⟨by omega, by omega⟩ | exact Or.inr ⟨by omega, by omega⟩))))
local macro_rules | `(tactic| leaf_len) => `(tactic| (simp only [wipe, List.map_cons, List.map_nil, List.set_cons_zero, List.set_cons_succ]; one_sign; refine z_ok rfl ?_; one_sign))
theorem chs_sub {L : List Nat} {i j : Nat} (h : i < j) : chs (sub L i j) 0 = chs L i := by
  unfold chs sub
  rw [List.drop_zero, List.take_take, Nat.min_eq_left (by omega)]
theorem sub_run {L : List Nat} {i : Nat} {m : List Nat} (h : i + run L i m ≤ L.length) : sub L i (i + run L i m) = (L.drop i).takeWhile fun x => decide (x ∈ m) := by
  unfold sub run
  rw [show i + ((L.drop i).takeWhile fun x => decide (x ∈ m)).length - i = ((L.drop i).takeWhile fun x => decide (x ∈ m)).length by omega]
  obtain ⟨t, ht⟩ := List.takeWhile_prefix (l := L.drop i) fun x => decide (x ∈ m)
  have h5 := List.take_left (l₁ := (L.drop i).takeWhile fun x => decide (x ∈ m)) (l₂ := t)
  rw [ht] at h5
  exact h5
theorem nameB_ne (L : List Nat) (i : Nat) : nameB (sub L i (i + run L i AN)) = decide (inAt L i LET = true ∧ run L i AN ≤ 32) := by
  by_cases hi : i + run L i AN ≤ L.length
  · rw [sub_run hi]
    unfold nameB
    have e1 : run ((L.drop i).takeWhile fun x => decide (x ∈ AN)) 0 AN = ((L.drop i).takeWhile fun x => decide (x ∈ AN)).length := run_all.mpr fun x hx => by simpa using tw_mem hx
    rw [decide_eq_true e1, Bool.and_true]
    by_cases h : inAt L i LET = true
    · have h2 := run_pos (inAt_let h)
      have : isIn (chs ((L.drop i).takeWhile fun x => decide (x ∈ AN)) 0) LET = true := by
        have e := chs_sub (L := L) (i := i) (j := i + run L i AN) (by omega)
        rw [sub_run hi] at e
        rw [e]; exact h
      rw [this, Bool.true_and]
      unfold run
      simp [h]
    · have : isIn (chs ((L.drop i).takeWhile fun x => decide (x ∈ AN)) 0) LET = false := by
        cases e : isIn (chs ((L.drop i).takeWhile fun x => decide (x ∈ AN)) 0) LET with
        | false => rfl
        | true =>
          exfalso
          by_cases h2 : run L i AN = 0
          · have : ((L.drop i).takeWhile fun x => decide (x ∈ AN)) = [] := List.length_eq_zero_iff.mp h2
            rw [this] at e; cases e
          · have e3 := chs_sub (L := L) (i := i) (j := i + run L i AN) (by omega)
            rw [sub_run hi] at e3
            rw [e3] at e
            exact h e
      rw [this, Bool.false_and, decide_eq_false (fun z => h z.1)]
  · have h0 : L.length ≤ i := by have := run_le L i AN; omega
    have hn : L[i]? = none := List.getElem?_eq_none_iff.mpr h0
    rw [decide_eq_false (fun z => by rw [inAt_none hn] at z; exact absurd z.1 (by decide))]
    have : sub L i (i + run L i AN) = [] := by unfold sub; rw [List.drop_eq_nil_of_le h0, List.take_nil]
    rw [this]; rfl
theorem run_lt' (L : List Nat) (i : Nat) (m : List Nat) : run L i m ≤ L.length := by
  unfold run
  have h := (List.takeWhile_sublist (l := L.drop i) fun x => decide (x ∈ m)).length_le
  rw [List.length_drop] at h
  omega
def oV : Option Nat → V
  | none => .non
  | some k => .int (k : Int)
abbrev KEY : List Nat := [107, 101, 121, 119, 111, 114, 100]
abbrev NAM : List Nat := [110, 97, 109, 101]
abbrev NUM : List Nat := [110, 117, 109, 98, 101, 114]
abbrev SYM : List Nat := [115, 121, 109, 98, 111, 108]
abbrev SIG : List Nat := [115, 105, 103, 110]
abbrev MAR : List Nat := [109, 97, 114, 107]
inductive Tv where
  | s (z : List Nat)
  | n (k : Nat)
def tvV : Tv → V
  | .s z => .str (T z)
  | .n k => .int (k : Int)
structure Tok where
  at' : Nat
  kind : List Nat
  val : Tv
def TokAt (H : Hp) (q : Addr) (t : Tok) : Prop := H q = some (.tup [.int (t.at' : Int), .str (T t.kind), tvV t.val])
def rdName (L : List Nat) (a : Nat) : Option (Tok × Nat) := match ne L a with
  | none => none
  | some e => if ke L e = true then some (⟨a, KEY, .s (sub L a (e + 1))⟩, e + 1) else some (⟨a, NAM, .s (sub L a e)⟩, e)
theorem dig_rng : ∀ c ∈ DIG, 48 ≤ c ∧ c ≤ 57 := by decide +kernel
theorem log5 {i : Nat} (h : i ≤ 5000) : ((i : Int)).natAbs.log2 < 1920 := by
  rcases Nat.eq_zero_or_pos i with e | e
  · rw [e]; decide
  · exact Nat.lt_trans ((Nat.log2_lt (n := i) (k := 13) (by omega)).mpr (by omega)) (by decide)
theorem okI {i : Nat} (h : i ≤ 5000) : StrOk (.int (i : Int)) := log5 h
theorem iteB {b : Bool} {A B : Prop} (h1 : b = true → A) (h2 : b = false → B) : if b = true then A else B := by cases b; exact h2 rfl; exact h1 rfl
section
variable {K : PySem.W.Frag} {H : Hp} {Q : VK}
theorem z_sl2 {L : List Nat} {x y : Int} (i j : Nat) (hl : L.length ≤ 5000) (hx : x = (i : Int)) (hy : y = (j : Int)) (h : Q (.str (T (sub L i j))) H) : rSlU K (.str (T L)) (some x) (some y) H Q := by
  subst hx; subst hy
  refine z_slS (by show L.length ≤ sizeLine; rw [sizeLine_eq]; omega) ?_
  rw [cut2]; exact h
theorem z_sl3 {L : List Nat} {x : Int} (i : Nat) (hl : L.length ≤ 5000) (hx : x = (i : Int)) (h : Q (.str (T (L.drop i))) H) : rSlU K (.str (T L)) (some x) none H Q := by
  subst hx
  refine z_slS (by show L.length ≤ sizeLine; rw [sizeLine_eq]; omega) ?_
  rw [cut3]; exact h
theorem z_sl4 {L : List Nat} {y : Int} (j : Nat) (hl : L.length ≤ 5000) (hy : y = (j : Int)) (h : Q (.str (T (L.take j))) H) : rSlU K (.str (T L)) none (some y) H Q := by
  subst hy
  refine z_slS (by show L.length ≤ sizeLine; rw [sizeLine_eq]; omega) ?_
  rw [cut4]; exact h
theorem z_chr {L : List Nat} {x : Int} {i c : Nat} (hl : L.length ≤ 5000) (hx : x = (i : Int)) (hc : L[i]? = some c) (h : Q (.str (T [c])) H) : rIxU K (.str (T L)) (.int x) H Q := by
  subst hx
  exact z_ixS (by show L.length ≤ sizeLine; rw [sizeLine_eq]; omega) (atI_nat hc) h
/-- a sign in a written text -/
theorem z_inC {c : Nat} {m : List Nat} (h : Q (.bl (decide (c ∈ m))) H) : rInU K id (.str (T [c])) (.str (T m)) H Q := Or.inl ⟨c, rfl, h⟩
theorem z_ninC {c : Nat} {m : List Nat} (h : Q (.bl (!decide (c ∈ m))) H) : rInU K (!·) (.str (T [c])) (.str (T m)) H Q := Or.inl ⟨c, rfl, h⟩
instance i_inC {c : Nat} {m : List Nat} : Stp (rInU K id (.str (T [c])) (.str (T m)) H Q) (Q (.bl (decide (c ∈ m))) H) := ⟨z_inC⟩
instance i_ninC {c : Nat} {m : List Nat} : Stp (rInU K (!·) (.str (T [c])) (.str (T m)) H Q) (Q (.bl (!decide (c ∈ m))) H) := ⟨z_ninC⟩
theorem z_lenT' {L : List Nat} (hl : L.length ≤ 5000) (h : Q (.int L.length) H) : rLenU K [.str (T L)] H Q := z_lenS (by show L.length ≤ sizeLine; rw [sizeLine_eq]; omega) h
theorem sub_len (L : List Nat) (i j : Nat) : (sub L i j).length ≤ L.length := by unfold sub; rw [List.length_take, List.length_drop]; omega
end
theorem rdName_no {L : List Nat} {a : Nat} (h : ne L a = none) : rdName L a = none := by unfold rdName; rw [h]
theorem rdName_key {L : List Nat} {a e : Nat} (h : ne L a = some e) (h2 : ke L e = true) : rdName L a = some (⟨a, KEY, .s (sub L a (e + 1))⟩, e + 1) := by unfold rdName; rw [h]; exact if_pos h2
theorem rdName_nam {L : List Nat} {a e : Nat} (h : ne L a = some e) (h2 : ke L e = false) : rdName L a = some (⟨a, NAM, .s (sub L a e)⟩, e) := by unfold rdName; rw [h]; exact if_neg (by rw [h2]; exact Bool.false_ne_true)
section
variable {P : Program} {w : World} {K : PySem.W.Frag} {mg : Str → Option Value} {base : Heap}
def sp_nend : Sp := fun vs H Q _ => ∃ (L : List Nat) (i : Nat), vs = [.str (T L), .int (i : Int)] ∧ L.length ≤ 5000 ∧ Q (oV (ne L i)) H
theorem ok_name_end (W : Wd P K mg) : FnOk P w K mg base CX0 4 W.f_name_end W.fd_name_end ["source", "at"] sp_nend := by
  refine W.F_name_end.ok sc_name_end (fun vs H Q E h => by obtain ⟨L, i, rfl, hl, k⟩ := h; rfl) (fun cdv A outer s H vs Q E hr h => ?_)
  obtain ⟨L, i, rfl, hl, k⟩ := h
  have hu1 := hu_of hr
  have hu64 := hu64_of hr
  refine ⟨_, (pss_cons (ps_set (i := 2) sc_name_end.nd rfl (by first | exact Or.inl rfl | exact Or.inr rfl) (pe_call (ok_end_of W) (hr.mono (by decide)) rfl W.g_end_of W.F_end_of.kp W.b_end_of .nil pass0 (pa_cons (pv 0) (pa_cons (pv 1) (pa_cons (pe_op op_addU (pe_gs rfl W.g_LETTERS) (pe_gs rfl W.g_DIGITS)) pa_nil)))))
      (pss_one (ps_ret (pe_ifExp (pt_truth (pe_call (ok_is_name W) (hr.mono (by decide)) rfl W.g_is_name W.F_is_name.kp W.b_is_name .nil pass0 (pa_cons (pe_slice sl_U (pv 0) (po_some (pv 1)) (po_some (pv 2))) pa_nil)) (by intro _; rfl)) (pv 2) pe_non)))), ?_⟩
  refine z_start (σ := [some _, some _, none]) rfl ?_
  one_sign
  refine z_addS (by show LET.length + DIG.length ≤ _; decide +kernel) ?_
  one_sign
  refine ⟨L, i, AN, by rw [T_app] <;> rfl, by omega, ?_⟩
  one_sign
  refine z_sl2 i (i + run L i AN) hl rfl rfl ?_
  one_sign
  refine ⟨_, rfl, by have := sub_len L i (i + run L i AN); omega, ?_⟩
  rw [nameB_ne]
  one_sign
  refine iteD (fun h => ?_) (fun h => ?_)
  · unfold ne at k
    rw [if_pos h] at k
    one_sign
    exact k
  · unfold ne at k
    rw [if_neg h] at k
    one_sign
    exact k
def sp_kend : Sp := fun vs H Q _ => ∃ (L : List Nat) (i : Nat), vs = [.str (T L), .int (i : Int)] ∧ L.length ≤ 5000 ∧ Q (.bl (ke L i)) H
theorem ok_is_keyword_end (W : Wd P K mg) : FnOk P w K mg base CX0 2 W.f_is_keyword_end W.fd_is_keyword_end ["source", "at"] sp_kend := by
  refine W.F_is_keyword_end.ok sc_is_keyword_end (fun vs H Q E h => by obtain ⟨L, i, rfl, hl, k⟩ := h; rfl) (fun cdv A outer s H vs Q E hr h => ?_)
  obtain ⟨L, i, rfl, hl, k⟩ := h
  have hu1 := hu_of hr
  have hu64 := hu64_of hr
  refine ⟨_, (pss_one (ps_ret (pe_and (pe_cmpR (op_eqU hu64) (pe_call (ok_char_at W) (hr.mono (by decide)) rfl W.g_char_at W.F_char_at.kp W.b_char_at .nil pass0 (pa_cons (pv 0) (pa_cons (pv 1) pa_nil))) (pe_strT (show (PySem.Str.ofString ":") = T [58] by decide +kernel)) (by first | exact nomark _ | rfl)) (pe_one (pe_cmpR (op_neU hu64) (pe_call (ok_char_at W) (hr.mono (by decide)) rfl W.g_char_at W.F_char_at.kp W.b_char_at .nil pass0 (pa_cons (pv 0) (pa_cons (pe_op op_addU (pv 1) pe_int) pa_nil))) (pe_strT (show (PySem.Str.ofString "=") = T [61] by decide +kernel)) (by first | exact nomark _ | rfl)))))), ?_⟩
  refine z_start (σ := [some _, some _]) rfl ?_
  one_sign
  refine ⟨L, i, rfl, by omega, ?_⟩
  one_sign
  rw [chs_dec]
  unfold ke at k
  refine iteD (fun h => ?_) (fun h => ?_)
  · rw [decide_eq_true h, Bool.true_and] at k
    one_sign
    refine ⟨L, i + 1, rfl, by omega, ?_⟩
    one_sign
    rw [chs_dec]
    exact k
  · rw [decide_eq_false h, Bool.false_and] at k
    exact k
def sp_rname (cM : Addr) : Sp := fun vs H Q E => ∃ (L : List Nat) (a st : Nat), vs = [.str (T L), .int (a : Int), .int (st : Int)] ∧ L.length ≤ 5000 ∧ st ≤ 5000 ∧
  (∀ t e, rdName L a = some (t, e) → ∀ p q H', Fr [] H H' → H' p = some (.tup [.ref q, .int (e : Int)]) → TokAt H' q t → Q (.ref p) H') ∧
  (rdName L a = none → ∀ H' d, Fr [] H H' → H' d = none → E (.ref cM) (some d) (L2.upd H' d (.xd [("at", .int (st : Int))])))
theorem ok_read_name (W : Wd P K mg) : FnOk P w K mg base (L2N.CX P w) 5 W.f_read_name W.fd_read_name ["source", "at", "start"] (sp_rname W.c_Malformed) := by
  refine okN W.F_read_name sc_read_name (fun vs H Q E h => by obtain ⟨L, a, st, rfl, hl, hst, kQ, kE⟩ := h; rfl) (fun cdv A outer s H vs Q E hr h => ?_)
  obtain ⟨L, a, st, rfl, hl, hst, kQ, kE⟩ := h
  have hu1 := hu_of hr
  have hu64 := hu64_of hr
  refine ⟨_, (pss_cons (ps_set (i := 3) sc_read_name.nd rfl (by first | exact Or.inl rfl | exact Or.inr rfl) (pe_call (ok_name_end W) (hr.mono (by decide)) rfl W.g_name_end W.F_name_end.kp W.b_name_end .nil pass0 (pa_cons (pv 0) (pa_cons (pv 1) pa_nil))))
      (pss_cons (ps_if (pt_cmpR op_isU (pv 3) pe_non (by first | exact nomark _ | rfl)) (pss_one (L2N.ps_raise rfl (L2N.takes_of rfl rfl rfl rfl) (pmk_x W.X_Malformed W.i_Malformed (ok_Malformed___init__ W) (hr.mono (by decide)) W.b_Malformed___init__ pass0 rfl W.g_Malformed (pa_cons (pv 2) pa_nil)))) pss_nil)
      (pss_cons (ps_if (pt_truth (pe_call (ok_is_keyword_end W) (hr.mono (by decide)) rfl W.g_is_keyword_end W.F_is_keyword_end.kp W.b_is_keyword_end .nil pass0 (pa_cons (pv 0) (pa_cons (pv 3) pa_nil))) (by intro _; rfl)) (pss_one (ps_ret (pe_tup (pa_cons (pe_tup (pa_cons (pv 1) (pa_cons (pe_strT (show (PySem.Str.ofString "keyword") = T [107, 101, 121, 119, 111, 114, 100] by decide +kernel)) (pa_cons (pe_slice sl_U (pv 0) (po_some (pv 1)) (po_some (pe_op op_addU (pv 3) pe_int))) pa_nil)))) (pa_cons (pe_op op_addU (pv 3) pe_int) pa_nil))))) pss_nil)
      (pss_one (ps_ret (pe_tup (pa_cons (pe_tup (pa_cons (pv 1) (pa_cons (pe_strT (show (PySem.Str.ofString "name") = T [110, 97, 109, 101] by decide +kernel)) (pa_cons (pe_slice sl_U (pv 0) (po_some (pv 1)) (po_some (pv 3))) pa_nil)))) (pa_cons (pv 3) pa_nil)))))))), ?_⟩
  refine z_start (σ := [some _, some _, some _, none]) rfl ?_
  one_sign
  refine ⟨L, a, rfl, hl, ?_⟩
  cases hn : ne L a with
  | none =>
    show gName 3 V.non _ _ _
    one_sign
    refine ⟨_, rfl, exc1_mk (okI hst) fun dx hdx => ?_⟩
    exact kE (rdName_no hn) H dx Fr.rfl' hdx
  | some e =>
    have he := ne_lt hn
    show gName 3 (V.int (e : Int)) _ _ _
    one_sign
    refine ⟨L, e, rfl, hl, ?_⟩
    one_sign
    refine iteB (fun h => ?_) (fun h => ?_)
    · one_sign
      refine z_sl2 a (e + 1) hl rfl (by omega) ?_
      one_sign
      refine z_newL (by show 3 ≤ sizeLine; decide) fun q H1 hq f1 q1 => ?_
      one_sign
      refine z_newL (by show 2 ≤ sizeLine; decide) fun p H2 hp f2 p2 => ?_
      exact kQ _ _ (rdName_key hn h) p q H2 (f1.trans f2) p2 (f2.g0 q1)
    · one_sign
      refine z_sl2 a e hl rfl rfl ?_
      one_sign
      refine z_newL (by show 3 ≤ sizeLine; decide) fun q H1 hq f1 q1 => ?_
      one_sign
      refine z_newL (by show 2 ≤ sizeLine; decide) fun p H2 hp f2 p2 => ?_
      exact kQ _ _ (rdName_nam hn h) p q H2 (f1.trans f2) p2 (f2.g0 q1)
/-! ### numbers -/
def rdNum (L : List Nat) (a : Nat) : Option (Tok × Nat) :=
  if inAt L (a + run L a DIG) LET = true ∨ 9 < run L a DIG then none
  else if L[a]? = some 48 ∧ 1 < run L a DIG then none
  else some (⟨a, NUM, .n (NumText.digitsVal (sub L a (a + run L a DIG)))⟩, a + run L a DIG)
def sp_rd (cM : Addr) (pre : List Nat → Nat → Prop) (f : List Nat → Nat → Option (Tok × Nat)) : Sp := fun vs H Q E => ∃ (L : List Nat) (a : Nat), vs = [.str (T L), .int (a : Int)] ∧ L.length ≤ 5000 ∧ a ≤ 5000 ∧ pre L a ∧
  (∀ t e, f L a = some (t, e) → ∀ p q H', Fr [] H H' → H' p = some (.tup [.ref q, .int (e : Int)]) → TokAt H' q t → Q (.ref p) H') ∧
  (f L a = none → ∀ H' d, Fr [] H H' → H' d = none → E (.ref cM) (some d) (L2.upd H' d (.xd [("at", .int (a : Int))])))
theorem ok_read_number (W : Wd P K mg) : FnOk P w K mg base (L2N.CX P w) 3 W.f_read_number W.fd_read_number ["source", "at"] (sp_rd W.c_Malformed (fun L a => inAt L a DIG = true) rdNum) := by
  refine okN W.F_read_number sc_read_number (fun vs H Q E h => by obtain ⟨L, a, rfl, hl, ha, hp, kQ, kE⟩ := h; rfl) (fun cdv A outer s H vs Q E hr h => ?_)
  obtain ⟨L, a, rfl, hl, ha, hp, kQ, kE⟩ := h
  have hu1 := hu_of hr
  have hu64 := hu64_of hr
  refine ⟨_, (pss_cons (ps_set (i := 2) sc_read_number.nd rfl (by first | exact Or.inl rfl | exact Or.inr rfl) (pe_call (ok_end_of W) (hr.mono (by decide)) rfl W.g_end_of W.F_end_of.kp W.b_end_of .nil pass0 (pa_cons (pv 0) (pa_cons (pv 1) (pa_cons (pe_gs rfl W.g_DIGITS) pa_nil)))))
      (pss_cons (ps_set (i := 3) sc_read_number.nd rfl (by first | exact Or.inl rfl | exact Or.inr rfl) (pe_slice sl_U (pv 0) (po_some (pv 1)) (po_some (pv 2))))
      (pss_cons (ps_if (PW.pt (pw_or (pt_truth (pe_call (ok_is_in W) (hr.mono (by decide)) rfl W.g_is_in W.F_is_in.kp W.b_is_in .nil pass0 (pa_cons (pe_call (ok_char_at W) (hr.mono (by decide)) rfl W.g_char_at W.F_char_at.kp W.b_char_at .nil pass0 (pa_cons (pv 0) (pa_cons (pv 2) pa_nil))) (pa_cons (pe_gs rfl W.g_LETTERS) pa_nil))) (by intro _; rfl)) (pw_or1 (pt_cmpR op_gtU (pe_callB call_lenU (by rfl) W.n_len bb_len (pa_cons (pv 3) pa_nil)) (pe_gi rfl W.g_MOST_DIGITS) (by first | exact nomark _ | rfl))))) (pss_one (L2N.ps_raise rfl (L2N.takes_of rfl rfl rfl rfl) (pmk_x W.X_Malformed W.i_Malformed (ok_Malformed___init__ W) (hr.mono (by decide)) W.b_Malformed___init__ pass0 rfl W.g_Malformed (pa_cons (pv 1) pa_nil)))) pss_nil)
      (pss_cons (ps_if (PW.pt (pw_and (pt_cmpR (op_eqU hu64) (pe_ix (ix_U hu1) (pv 3) pe_int (fun _ _ => rfl)) (pe_strT (show (PySem.Str.ofString "0") = T [48] by decide +kernel)) (by first | exact nomark _ | rfl)) (pw_and1 (pt_cmpR op_gtU (pe_callB call_lenU (by rfl) W.n_len bb_len (pa_cons (pv 3) pa_nil)) pe_int (by first | exact nomark _ | rfl))))) (pss_one (L2N.ps_raise rfl (L2N.takes_of rfl rfl rfl rfl) (pmk_x W.X_Malformed W.i_Malformed (ok_Malformed___init__ W) (hr.mono (by decide)) W.b_Malformed___init__ pass0 rfl W.g_Malformed (pa_cons (pv 1) pa_nil)))) pss_nil)
      (pss_one (ps_ret (pe_tup (pa_cons (pe_tup (pa_cons (pv 1) (pa_cons (pe_strT (show (PySem.Str.ofString "number") = T [110, 117, 109, 98, 101, 114] by decide +kernel)) (pa_cons (pe_callTy call_intU (by rfl) W.n_int bb_int (pa_cons (pv 3) pa_nil)) pa_nil)))) (pa_cons (pv 2) pa_nil))))))))), ?_⟩
  refine z_start (σ := [some _, some _, none, none]) rfl ?_
  one_sign
  refine ⟨L, a, DIG, rfl, by omega, ?_⟩
  one_sign
  refine z_sl2 a (a + run L a DIG) hl rfl rfl ?_
  one_sign
  have hc := chs_len L (a + run L a DIG)
  have hr0 := run_pos hp
  have hrl := run_le L a DIG
  have hal : a < L.length := by obtain ⟨c, hc, _⟩ := inAt_true hp; exact (List.getElem?_eq_some_iff.mp hc).1
  have hsl : (sub L a (a + run L a DIG)).length = run L a DIG := by unfold sub; rw [List.length_take, List.length_drop]; omega
  have hsd : ∀ c ∈ sub L a (a + run L a DIG), c ∈ DIG := fun c hc => by
    rw [sub_run (by omega)] at hc
    simpa using tw_mem hc
  unfold rdNum at kQ kE
  refine ⟨L, a + run L a DIG, rfl, by omega, ?_⟩
  one_sign
  refine ⟨chs L (a + run L a DIG), LET, rfl, hc, ?_⟩
  one_sign
  have bad : (inAt L (a + run L a DIG) LET = true ∨ 9 < run L a DIG) → ∀ H' d, Fr [] H H' → H' d = none → E (.ref W.c_Malformed) (some d) (L2.upd H' d (.xd [("at", .int (a : Int))])) := fun h => kE (by rw [if_pos h])
  refine iteB (fun h => ?_) (fun h => ?_)
  · one_sign
    refine ⟨_, rfl, exc1_mk (okI ha) fun dx hdx => ?_⟩
    exact bad (Or.inl h) H dx Fr.rfl' hdx
  one_sign
  refine z_lenT' (by rw [hsl]; omega) ?_
  one_sign
  refine iteD (fun h9 => ?_) (fun h9 => ?_)
  · one_sign
    refine ⟨_, rfl, exc1_mk (okI ha) fun dx hdx => ?_⟩
    exact bad (Or.inr (by omega)) H dx Fr.rfl' hdx
  have nb : ¬ (inAt L (a + run L a DIG) LET = true ∨ 9 < run L a DIG) := by
    rintro (z | z)
    · unfold inAt at z; rw [h] at z; cases z
    · omega
  rw [if_neg nb] at kQ kE
  one_sign
  obtain ⟨d, hd⟩ : ∃ d, L[a]? = some d := ⟨_, List.getElem?_eq_getElem hal⟩
  have hd0 : (sub L a (a + run L a DIG))[0]? = some d := by
    unfold sub
    rw [List.getElem?_take_of_lt (by omega), List.getElem?_drop, Nat.add_zero]; exact hd
  refine z_chr (by rw [hsl]; omega) rfl hd0 ?_
  one_sign
  have fin : ¬ (L[a]? = some 48 ∧ 1 < run L a DIG) → tTup (tCons (tTup (tCons (tVar 1) (tCons (tC (V.str (T NUM))) (tCons (tCB rIntU (tCons (tVar 3) tNil)) tNil)))) (tCons (tVar 2) tNil))
      [some (V.str (T L)), some (V.int (a : Int)), some (V.int ((a + run L a DIG : Nat) : Int)), some (V.str (T (sub L a (a + run L a DIG))))] H Q := fun hz => by
    rw [if_neg hz] at kQ
    one_sign
    have had : NumText.AllDigits (sub L a (a + run L a DIG)) := fun c hc => dig_rng c (hsd c hc)
    refine ⟨_, PySem.intText_digits (x := T (sub L a (a + run L a DIG))) had (fun e => by rw [show (T (sub L a (a + run L a DIG))).cps.toList = sub L a (a + run L a DIG) from rfl] at e; rw [e] at hsl; simp at hsl; omega) (by show (sub L a (a + run L a DIG)).length ≤ 4300; omega), (by show (sub L a (a + run L a DIG)).length ≤ 640; omega), ?_⟩
    one_sign
    refine z_newL (by show 3 ≤ sizeLine; decide) fun q H1 hq f1 q1 => ?_
    one_sign
    refine z_newL (by show 2 ≤ sizeLine; decide) fun p H2 hp f2 p2 => ?_
    exact kQ _ _ rfl p q H2 (f1.trans f2) p2 (f2.g0 q1)
  have dz : L[a]? = some 48 ↔ T [d] = T [48] := by
    rw [hd]
    constructor
    · intro e; cases e; rfl
    · intro e; have := T_inj e; simp at this; rw [this]
  refine iteD (fun h0 => ?_) (fun h0 => ?_)
  · one_sign
    refine z_lenT' (by rw [hsl]; omega) ?_
    one_sign
    refine iteD (fun h1 => ?_) (fun h1 => ?_)
    · one_sign
      refine ⟨_, rfl, exc1_mk (okI ha) fun dx hdx => ?_⟩
      exact kE (by rw [if_pos ⟨dz.mpr h0, by omega⟩]) H dx Fr.rfl' hdx
    · exact fin fun z => h1 (by omega)
  · exact fin fun z => h0 (dz.mp z.1)
end

end LX
namespace LX
open PySem PySem.Spec PyProof.Rows L2 NdefX CwR
def rdSign (L : List Nat) (a : Nat) : Tok × Nat := if inAt L (a + 1) SGN = true then (⟨a, SIG, .s (sub L a (a + 2))⟩, a + 2) else (⟨a, SIG, .s (sub L a (a + 1))⟩, a + 1)
def HE (L : List Nat) (e : Nat) : Nat := match h : ne L e with
  | none => e
  | some f => if ke L f = true then HE L (f + 1) else e
termination_by L.length - e
decreasing_by have := ne_lt h; omega
theorem HE_no {L : List Nat} {e : Nat} (h : ne L e = none) : HE L e = e := by
  rw [HE]; split
  · rfl
  · rename_i z; rw [h] at z; cases z
theorem HE_st {L : List Nat} {e f : Nat} (h : ne L e = some f) (hk : ke L f = false) : HE L e = e := by
  rw [HE]; split
  · rfl
  · rename_i z; rw [h] at z; cases z; rw [hk]; rfl
theorem HE_go {L : List Nat} {e f : Nat} (h : ne L e = some f) (hk : ke L f = true) : HE L e = HE L (f + 1) := by
  conv => lhs; rw [HE]
  split
  · rename_i z; rw [h] at z; cases z
  · rename_i z; rw [h] at z; cases z; rw [if_pos hk]
def rdHash (L : List Nat) (a : Nat) : Option (Tok × Nat) := match ne L (a + 1) with
  | none => none
  | some e => if ke L e = true then some (⟨a, SYM, .s (sub L (a + 1) (HE L (e + 1)))⟩, HE L (e + 1)) else some (⟨a, SYM, .s (sub L (a + 1) e)⟩, e)
def QS (L : List Nat) (i : Nat) : Option (List Nat × Nat) := match h : nx L 39 i with
  | none => none
  | some f => if L[f + 1]? = some 39 then (QS L (f + 2)).map fun r => (sub L i f ++ 39 :: r.1, r.2) else some (sub L i f, f + 1)
termination_by L.length - i
decreasing_by have := (nx_some h).1; have := (List.getElem?_eq_some_iff.mp (nx_some h).2.1).1; omega
theorem QS_no {L : List Nat} {i : Nat} (h : nx L 39 i = none) : QS L i = none := by
  rw [QS]; split
  · rfl
  · rename_i z; rw [h] at z; cases z
theorem QS_end {L : List Nat} {i f : Nat} (h : nx L 39 i = some f) (h2 : L[f + 1]? ≠ some 39) : QS L i = some (sub L i f, f + 1) := by
  rw [QS]; split
  · rename_i z; rw [h] at z; cases z
  · rename_i z; rw [h] at z; cases z; rw [if_neg h2]
theorem QS_go {L : List Nat} {i f : Nat} (h : nx L 39 i = some f) (h2 : L[f + 1]? = some 39) : QS L i = (QS L (f + 2)).map fun r => (sub L i f ++ 39 :: r.1, r.2) := by
  conv => lhs; rw [QS]
  split
  · rename_i z; rw [h] at z; cases z
  · rename_i z; rw [h] at z; cases z; rw [if_pos h2]
def rdQuo (L : List Nat) (a : Nat) : Option (Tok × Nat) := (QS L (a + 1)).map fun r => (⟨a, SYM, .s r.1⟩, r.2)
def rdTok (L : List Nat) (a : Nat) : Option (Tok × Nat) := match L[a]? with
  | none => none
  | some c => if c ∈ LET then rdName L a else if c ∈ DIG then rdNum L a else if c = 35 then rdHash L a else if c = 39 then rdQuo L a else if c ∈ SGN then some (rdSign L a)
    else if c = 58 ∧ L[a + 1]? = some 61 then some (⟨a, MAR, .s [58, 61]⟩, a + 2) else if c ∈ MRK then some (⟨a, MAR, .s [c]⟩, a + 1) else none
theorem SK_ge (L : List Nat) (a : Nat) : a ≤ SK L a := by
  induction hn : L.length - a using Nat.strongRecOn generalizing a with
  | ind n ih =>
    cases hc : L[a]? with
    | none => rw [SK_end (List.getElem?_eq_none_iff.mp hc)]; exact Nat.le_refl _
    | some c =>
      have ha := (List.getElem?_eq_some_iff.mp hc).1
      by_cases h1 : c = 34
      · subst h1
        cases hx : nx L 34 (a + 1) with
        | none => rw [SK_open hc hx]; exact Nat.le_refl _
        | some f =>
          have h2 := (nx_some hx).1
          have h3 := (List.getElem?_eq_some_iff.mp (nx_some hx).2.1).1
          rw [SK_com hc hx]
          have := ih (L.length - (f + 1)) (by omega) (f + 1) rfl
          omega
      · by_cases h2 : c = 32 ∨ c = 10
        · rw [SK_sp hc h2]
          have := ih (L.length - (a + 1)) (by omega) (a + 1) rfl
          omega
        · rw [SK_no hc h1 (fun z => h2 (Or.inl z)) (fun z => h2 (Or.inr z))]; exact Nat.le_refl _
def lex (L : List Nat) (a : Nat) : List Tok × Option Nat :=
  if h : SK L a < L.length then match rdTok L (SK L a) with
    | none => ([], some (SK L a))
    | some (t, e) => if h2 : SK L a < e then (t :: (lex L e).1, (lex L e).2) else ([], none)
  else ([], none)
termination_by L.length - a
decreasing_by
  all_goals have := SK_ge L a; omega
theorem lex_end {L : List Nat} {a : Nat} (h : L.length ≤ SK L a) : lex L a = ([], none) := by rw [lex, dif_neg (by omega)]
theorem lex_bad {L : List Nat} {a : Nat} (h : SK L a < L.length) (h2 : rdTok L (SK L a) = none) : lex L a = ([], some (SK L a)) := by rw [lex, dif_pos h, h2]
theorem lex_go {L : List Nat} {a e : Nat} {t : Tok} (h : SK L a < L.length) (h2 : rdTok L (SK L a) = some (t, e)) (h3 : SK L a < e) : lex L a = (t :: (lex L e).1, (lex L e).2) := by
  conv => lhs; rw [lex, dif_pos h]
  simp only [h2, dif_pos h3]
theorem HE_ge (L : List Nat) (e : Nat) : e ≤ HE L e := by
  induction hn : L.length - e using Nat.strongRecOn generalizing e with
  | ind n ih =>
    cases h : ne L e with
    | none => rw [HE_no h]; exact Nat.le_refl _
    | some f =>
      have h0 := ne_lt h
      cases hk : ke L f with
      | false => rw [HE_st h hk]; exact Nat.le_refl _
      | true => rw [HE_go h hk]; have := ih (L.length - (f + 1)) (by omega) (f + 1) rfl; omega
theorem ke_lt {L : List Nat} {e : Nat} (h : ke L e = true) : L[e]? = some 58 ∧ L[e + 1]? ≠ some 61 ∧ e < L.length := by
  unfold ke at h
  rw [Bool.and_eq_true] at h
  have h1 : L[e]? = some 58 := by simpa using h.1
  exact ⟨h1, by simpa using h.2, (List.getElem?_eq_some_iff.mp h1).1⟩
theorem HE_le (L : List Nat) (e : Nat) (he : e ≤ L.length) : HE L e ≤ L.length := by
  induction hn : L.length - e using Nat.strongRecOn generalizing e with
  | ind n ih =>
    cases h : ne L e with
    | none => rw [HE_no h]; exact he
    | some f =>
      have h0 := ne_lt h
      cases hk : ke L f with
      | false => rw [HE_st h hk]; exact he
      | true => have := ke_lt hk; rw [HE_go h hk]; exact ih (L.length - (f + 1)) (by omega) (f + 1) (by omega) rfl
theorem QS_lt {L : List Nat} : ∀ {i : Nat} {r : List Nat × Nat}, QS L i = some r → i < r.2 ∧ r.2 ≤ L.length := by
  intro i
  induction hn : L.length - i using Nat.strongRecOn generalizing i with
  | ind n ih =>
    intro r h
    cases hx : nx L 39 i with
    | none => rw [QS_no hx] at h; cases h
    | some f =>
      have h1 := (nx_some hx).1
      have h2 := (List.getElem?_eq_some_iff.mp (nx_some hx).2.1).1
      by_cases hq : L[f + 1]? = some 39
      · rw [QS_go hx hq] at h
        obtain ⟨r', hr, rfl⟩ := Option.map_eq_some_iff.mp h
        have := ih (L.length - (f + 2)) (by omega) rfl hr
        show i < r'.2 ∧ r'.2 ≤ _
        omega
      · rw [QS_end hx hq] at h
        cases h
        show i < f + 1 ∧ f + 1 ≤ _
        omega
theorem rdTok_lt {L : List Nat} {a e : Nat} {t : Tok} (h : rdTok L a = some (t, e)) : a < e ∧ e ≤ L.length := by
  unfold rdTok at h
  cases hc : L[a]? with
  | none => rw [hc] at h; cases h
  | some c =>
    have ha := (List.getElem?_eq_some_iff.mp hc).1
    rw [hc] at h
    simp only at h
    split at h
    · cases hn : ne L a with
      | none => rw [rdName_no hn] at h; cases h
      | some f =>
        have := ne_lt hn
        cases hk : ke L f with
        | true => have := ke_lt hk; rw [rdName_key hn hk] at h; cases h; omega
        | false => rw [rdName_nam hn hk] at h; cases h; omega
    · split at h
      · unfold rdNum at h
        split at h
        · cases h
        · split at h
          · cases h
          · cases h
            rename_i hd _ _
            have := run_pos (L := L) (i := a) (m := DIG) (by rw [inAt_some hc]; simpa using hd)
            have := run_le L a DIG
            omega
      · split at h
        · unfold rdHash at h
          cases hn : ne L (a + 1) with
          | none => rw [hn] at h; cases h
          | some f =>
            rw [hn] at h
            have h0 := ne_lt hn
            simp only at h
            split at h
            · rename_i hk
              have h1 := ke_lt hk
              cases h
              have := HE_ge L (f + 1)
              have := HE_le L (f + 1) (by omega)
              omega
            · cases h; omega
        · split at h
          · unfold rdQuo at h
            obtain ⟨r, hr, e2⟩ := Option.map_eq_some_iff.mp h
            cases e2
            have := QS_lt hr
            omega
          · split at h
            · unfold rdSign at h
              split at h
              · rename_i hs; obtain ⟨c2, hc2, _⟩ := inAt_true hs; have := (List.getElem?_eq_some_iff.mp hc2).1; cases h; omega
              · cases h; omega
            · split at h
              · rename_i hs; have := (List.getElem?_eq_some_iff.mp hs.2).1; cases h; omega
              · split at h
                · cases h; omega
                · cases h

end LX
namespace LX
open PySem PySem.Spec PyProof.Rows L2 NdefX CwR
local macro_rules | `(tactic| none_booked) => `(tactic| first | assumption | (refine Fr.g0 (by assumption) ?_; none_booked))
local macro_rules | `(tactic| one_sign) => `(tactic| repeat (first
  | refine Stp.h ?_
  | ((with_reducible refine' z_fld1 ?k0 ?k1 ?k2 ?k3 ?_); (case k0 => none_booked); (case k1 => k_ownIn); (case k2 => k_memK); (case k3 => rfl))
  | ((with_reducible refine' z_meth1 ?k0 ?k1 ?_); (case k0 => none_booked); (case k1 => rfl))
  | ((with_reducible refine' z_bmL ?k0 ?_); (case k0 => none_booked))
  | ((with_reducible refine' z_lenL ?k0 ?_); (case k0 => none_booked))
  | ((with_reducible refine' z_lenT ?k0 ?_); (case k0 => none_booked))
  | ((with_reducible refine' z_lenD ?k0 ?_); (case k0 => none_booked))
  | ((with_reducible refine' z_truL ?k0 ?_); (case k0 => none_booked))
  | ((with_reducible refine' z_truD ?k0 ?_); (case k0 => none_booked))
  | ((with_reducible refine' z_truT ?k0 ?_); (case k0 => none_booked))
  | ((with_reducible refine' z_inDIP ?k0 ?_); (case k0 => none_booked))
  | ((with_reducible refine' z_inDIN ?k0 ?_); (case k0 => none_booked))
  | ((with_reducible refine' z_inDfP ?k0 ?_); (case k0 => none_booked))
  | ((with_reducible refine' z_inDfN ?k0 ?_); (case k0 => none_booked))
  | ((with_reducible refine' z_iList1 ?k0 ?_); (case k0 => none_booked))
  | ((with_reducible refine' z_isi0 ?k0 ?k1 ?k2 ?_); (case k0 => exact (ClsV.ty _)); (case k1 => exact (TyX.base (TyOf.lst (by none_booked)))); (case k2 => first | exact kt_list_int | exact kt_list_bool | exact kt_list_str | exact kt_list_list | exact kt_list_tuple | exact kt_list_dict))
  | ((with_reducible refine' z_rI ?k0 ?_); (case k0 => first | exact (by decide : (0 : Int) < _) | exact ⟨by decide, by decide⟩ | exact ⟨by decide, by decide, by decide⟩ | (show (0 : Int) < _; omega)))
  | ((with_reducible refine' z_mulI ?k0 ?_); (case k0 => first | exact Or.inr ⟨by decide, by decide⟩ | exact Or.inl ⟨by decide, by decide⟩ | exact Or.inl ⟨by omega, by omega⟩ | exact Or.inr ⟨by omega, by omega⟩))))
local macro_rules | `(tactic| leaf_len) => `(tactic| (simp only [wipe, List.map_cons, List.map_nil, List.set_cons_zero, List.set_cons_succ]; one_sign; refine z_ok rfl ?_; one_sign))
theorem dec1 (c d : Nat) : decide (T [c] = T [d]) = decide (c = d) := by
  by_cases h : c = d
  · rw [h]; simp
  · rw [decide_eq_false h, decide_eq_false (fun e => h (by have := T_inj e; simpa using this))]
def RowT (H : Hp) (p : Addr) (ts : List Tok) : Prop := ∃ A : List Addr, H p = some (.lst (A.map V.ref)) ∧ A.length = ts.length ∧ ∀ (i : Nat) (a : Addr) (t : Tok), A[i]? = some a → ts[i]? = some t → TokAt H a t
section
variable {P : Program} {w : World} {K : PySem.W.Frag} {mg : Str → Option Value} {base : Heap}
def sp_rsign : Sp := fun vs H Q _ => ∃ (L : List Nat) (a : Nat), vs = [.str (T L), .int (a : Int)] ∧ L.length ≤ 5000 ∧
  ∀ p q H', Fr [] H H' → H' p = some (.tup [.ref q, .int ((rdSign L a).2 : Int)]) → TokAt H' q (rdSign L a).1 → Q (.ref p) H'
theorem ok_read_sign (W : Wd P K mg) : FnOk P w K mg base CX0 2 W.f_read_sign W.fd_read_sign ["source", "at"] sp_rsign := by
  refine W.F_read_sign.ok sc_read_sign (fun vs H Q E h => by obtain ⟨L, a, rfl, hl, kQ⟩ := h; rfl) (fun cdv A outer s H vs Q E hr h => ?_)
  obtain ⟨L, a, rfl, hl, kQ⟩ := h
  have hu1 := hu_of hr
  have hu64 := hu64_of hr
  refine ⟨_, (pss_cons (ps_set (i := 2) sc_read_sign.nd rfl (by first | exact Or.inl rfl | exact Or.inr rfl) (pe_op op_addU (pv 1) pe_int))
      (pss_cons (ps_if (pt_truth (pe_call (ok_is_in W) (hr.mono (by decide)) rfl W.g_is_in W.F_is_in.kp W.b_is_in .nil pass0 (pa_cons (pe_call (ok_char_at W) (hr.mono (by decide)) rfl W.g_char_at W.F_char_at.kp W.b_char_at .nil pass0 (pa_cons (pv 0) (pa_cons (pv 2) pa_nil))) (pa_cons (pe_gs rfl W.g_SIGNS) pa_nil))) (by intro _; rfl)) (pss_one (ps_aug (i := 2) sc_read_sign.nd rfl (by first | exact Or.inl rfl | exact Or.inr rfl) pe_int ip_add)) pss_nil)
      (pss_one (ps_ret (pe_tup (pa_cons (pe_tup (pa_cons (pv 1) (pa_cons (pe_strT (show (PySem.Str.ofString "sign") = T [115, 105, 103, 110] by decide +kernel)) (pa_cons (pe_slice sl_U (pv 0) (po_some (pv 1)) (po_some (pv 2))) pa_nil)))) (pa_cons (pv 2) pa_nil))))))), ?_⟩
  refine z_start (σ := [some _, some _, none]) rfl ?_
  one_sign
  refine ⟨L, a + 1, rfl, by omega, ?_⟩
  one_sign
  refine ⟨chs L (a + 1), SGN, rfl, chs_len _ _, ?_⟩
  one_sign
  refine iteB (fun h => ?_) (fun h => ?_)
  · have e : rdSign L a = (⟨a, SIG, .s (sub L a (a + 2))⟩, a + 2) := by unfold rdSign; exact if_pos h
    rw [e] at kQ
    one_sign
    refine ⟨_, rfl, _, _, rfl, rfl, ?_⟩
    simp only [List.set_cons_zero, List.set_cons_succ]
    one_sign
    refine z_sl2 a (a + 2) hl rfl (by omega) ?_
    one_sign
    refine z_newL (by show 3 ≤ sizeLine; decide) fun q H1 hq f1 q1 => ?_
    one_sign
    refine z_newL (by show 2 ≤ sizeLine; decide) fun p H2 hp f2 p2 => ?_
    exact kQ p q H2 (f1.trans f2) (by rw [p2]; simp only [show (a : Int) + 1 + 1 = ((a + 2 : Nat) : Int) by omega]) (f2.g0 q1)
  · have e : rdSign L a = (⟨a, SIG, .s (sub L a (a + 1))⟩, a + 1) := by unfold rdSign; exact if_neg (by unfold inAt; rw [h]; exact Bool.false_ne_true)
    rw [e] at kQ
    one_sign
    refine z_sl2 a (a + 1) hl rfl (by omega) ?_
    one_sign
    refine z_newL (by show 3 ≤ sizeLine; decide) fun q H1 hq f1 q1 => ?_
    one_sign
    refine z_newL (by show 2 ≤ sizeLine; decide) fun p H2 hp f2 p2 => ?_
    exact kQ p q H2 (f1.trans f2) (by rw [p2]; simp only [show (a : Int) + 1 = ((a + 1 : Nat) : Int) by omega]) (f2.g0 q1)
theorem sub_app {L : List Nat} {i j k : Nat} (h1 : i ≤ j) (h2 : j ≤ k) : sub L i j ++ sub L j k = sub L i k := by
  unfold sub
  rw [show k - i = (j - i) + (k - j) by omega, List.take_add, List.drop_drop, show i + (j - i) = j by omega]
theorem ok_read_hash (W : Wd P K mg) : FnOk P w K mg base (L2N.CX P w) 6 W.f_read_hash W.fd_read_hash ["source", "at"] (sp_rd W.c_Malformed (fun L a => L[a]? = some 35) rdHash) := by
  refine okN W.F_read_hash sc_read_hash (fun vs H Q E h => by obtain ⟨L, a, rfl, hl, ha, hp, kQ, kE⟩ := h; rfl) (fun cdv A outer s H vs Q E hr h => ?_)
  obtain ⟨L, a, rfl, hl, ha, hp, kQ, kE⟩ := h
  have hu1 := hu_of hr
  have hu64 := hu64_of hr
  refine ⟨_, (pss_cons (ps_if (pt_not (pt_truth (pe_call (ok_is_in W) (hr.mono (by decide)) rfl W.g_is_in W.F_is_in.kp W.b_is_in .nil pass0 (pa_cons (pe_call (ok_char_at W) (hr.mono (by decide)) rfl W.g_char_at W.F_char_at.kp W.b_char_at .nil pass0 (pa_cons (pv 0) (pa_cons (pe_op op_addU (pv 1) pe_int) pa_nil))) (pa_cons (pe_gs rfl W.g_LETTERS) pa_nil))) (by intro _; rfl))) (pss_one (L2N.ps_raise rfl (L2N.takes_of rfl rfl rfl rfl) (pmk_x W.X_Malformed W.i_Malformed (ok_Malformed___init__ W) (hr.mono (by decide)) W.b_Malformed___init__ pass0 rfl W.g_Malformed (pa_cons (pv 1) pa_nil)))) pss_nil)
      (pss_cons (ps_asg (pe_call (ok_read_name W) (hr.mono (by decide)) rfl W.g_read_name W.F_read_name.kp W.b_read_name .nil (L2N.passes_call (L2N.takes_of rfl rfl rfl rfl) (fun _ _ _ _ h => h)) (pa_cons (pv 0) (pa_cons (pe_op op_addU (pv 1) pe_int) (pa_cons (pv 1) pa_nil)))) (pg_tup rfl (pgs_cons (pg_name (i := 2) sc_read_hash.nd rfl (by first | exact Or.inl rfl | exact Or.inr rfl)) (pgs_cons (pg_name (i := 3) sc_read_hash.nd rfl (by first | exact Or.inl rfl | exact Or.inr rfl)) pgs_nil))))
      (pss_cons (ps_set (i := 4) sc_read_hash.nd rfl (by first | exact Or.inl rfl | exact Or.inr rfl) (pe_ix (ix_U hu1) (pv 2) pe_int (fun _ _ => rfl)))
      (pss_cons (ps_while (passes_of rfl) (PW.pt (pw_and (pt_cmpR (op_eqU hu64) (pe_ix (ix_U hu1) (pv 2) pe_int (fun _ _ => rfl)) (pe_strT (show (PySem.Str.ofString "keyword") = T [107, 101, 121, 119, 111, 114, 100] by decide +kernel)) (by first | exact nomark _ | rfl)) (pw_and1 (pt_truth (pe_call (ok_is_in W) (hr.mono (by decide)) rfl W.g_is_in W.F_is_in.kp W.b_is_in .nil pass0 (pa_cons (pe_call (ok_char_at W) (hr.mono (by decide)) rfl W.g_char_at W.F_char_at.kp W.b_char_at .nil pass0 (pa_cons (pv 0) (pa_cons (pv 3) pa_nil))) (pa_cons (pe_gs rfl W.g_LETTERS) pa_nil))) (by intro _; rfl))))) (pss_cons (ps_set (i := 5) sc_read_hash.nd rfl (by first | exact Or.inl rfl | exact Or.inr rfl) (pe_call (ok_name_end W) (hr.mono (by decide)) rfl W.g_name_end W.F_name_end.kp W.b_name_end .nil pass0 (pa_cons (pv 0) (pa_cons (pv 3) pa_nil))))
      (pss_cons (ps_if (PW.pt (pw_or (pt_cmpR op_isU (pv 5) pe_non (by first | exact nomark _ | rfl)) (pw_or1 (pt_not (pt_truth (pe_call (ok_is_keyword_end W) (hr.mono (by decide)) rfl W.g_is_keyword_end W.F_is_keyword_end.kp W.b_is_keyword_end .nil pass0 (pa_cons (pv 0) (pa_cons (pv 5) pa_nil))) (by intro _; rfl)))))) (pss_one ps_break) pss_nil)
      (pss_cons (ps_asg (pe_call (ok_read_name W) (hr.mono (by decide)) rfl W.g_read_name W.F_read_name.kp W.b_read_name .nil (L2N.passes_call (L2N.takes_of rfl rfl rfl rfl) (fun _ _ _ _ h => h)) (pa_cons (pv 0) (pa_cons (pv 3) (pa_cons (pv 1) pa_nil)))) (pg_tup rfl (pgs_cons (pg_name (i := 2) sc_read_hash.nd rfl (by first | exact Or.inl rfl | exact Or.inr rfl)) (pgs_cons (pg_name (i := 3) sc_read_hash.nd rfl (by first | exact Or.inl rfl | exact Or.inr rfl)) pgs_nil))))
      (pss_one (ps_aug (i := 4) sc_read_hash.nd rfl (by first | exact Or.inl rfl | exact Or.inr rfl) (pe_ix (ix_U hu1) (pv 2) pe_int (fun _ _ => rfl)) ip_addS))))))
      (pss_one (ps_ret (pe_tup (pa_cons (pe_tup (pa_cons (pv 1) (pa_cons (pe_strT (show (PySem.Str.ofString "symbol") = T [115, 121, 109, 98, 111, 108] by decide +kernel)) (pa_cons (pv 4) pa_nil)))) (pa_cons (pv 3) pa_nil))))))))), ?_⟩
  refine z_start (σ := [some _, some _, none, none, none, none]) rfl ?_
  one_sign
  have hal := (List.getElem?_eq_some_iff.mp hp).1
  refine ⟨L, a + 1, rfl, by omega, ?_⟩
  one_sign
  refine ⟨chs L (a + 1), LET, rfl, chs_len _ _, ?_⟩
  one_sign
  have bad : ne L (a + 1) = none → ∀ H' d, Fr [] H H' → H' d = none → E (.ref W.c_Malformed) (some d) (L2.upd H' d (.xd [("at", .int (a : Int))])) := fun h => kE (by unfold rdHash; rw [h])
  refine iteB (fun h => ?_) (fun h => ?_)
  · refine ⟨_, rfl, exc1_mk (okI ha) fun dx hdx => ?_⟩
    have h' : inAt L (a + 1) LET = false := by unfold inAt; simpa using h
    exact bad (by unfold ne; rw [if_neg (by rw [h']; intro z; cases z.1)]) H dx Fr.rfl' hdx
  · one_sign
    refine ⟨L, a + 1, a, rfl, hl, ha, fun t e hte p q H1 f1 p1 q1 => ?_, fun hn H' d f hd => ?_⟩
    · one_sign
      refine z_gtup p1 rfl ?_
      one_sign
      refine z_ixT q1 (atI_nat (j := 2) rfl) ?_
      one_sign
      obtain ⟨e0, he0⟩ : ∃ e0, ne L (a + 1) = some e0 := by
        cases hx : ne L (a + 1) with
        | none => rw [rdName_no hx] at hte; cases hte
        | some e0 => exact ⟨e0, rfl⟩
      have hlt := ne_lt he0
      have hinit : (t.kind = KEY ∨ t.kind = NAM) ∧ t.val = .s (sub L (a + 1) e) ∧ a + 1 ≤ e ∧ e ≤ L.length ∧
          rdHash L a = some (⟨a, SYM, .s (sub L (a + 1) (if t.kind = KEY then HE L e else e))⟩, if t.kind = KEY then HE L e else e) := by
        cases hk : ke L e0 with
        | true =>
          have := ke_lt hk
          rw [rdName_key he0 hk] at hte
          cases hte
          refine ⟨Or.inl rfl, rfl, by omega, by omega, ?_⟩
          unfold rdHash
          rw [he0]
          simp [hk]
        | false =>
          rw [rdName_nam he0 hk] at hte
          cases hte
          refine ⟨Or.inr rfl, rfl, by omega, by omega, ?_⟩
          unfold rdHash
          rw [he0]
          simp [hk]
      obtain ⟨i1, i2, i3, i4, i5⟩ := hinit
      refine ⟨fun n σ H' => ∃ (tq : Addr) (t : Tok) (e : Nat) (v5 : Option V), σ = [some (.str (T L)), some (.int (a : Int)), some (.ref tq), some (.int (e : Int)), some (.str (T (sub L (a + 1) e))), v5] ∧ TokAt H' tq t ∧ Fr [] H H' ∧
        (t.kind = KEY ∨ t.kind = NAM) ∧ a + 1 ≤ e ∧ e ≤ L.length ∧ rdHash L a = some (⟨a, SYM, .s (sub L (a + 1) (if t.kind = KEY then HE L e else e))⟩, if t.kind = KEY then HE L e else e) ∧ n = L.length - e,
        ⟨_, q, t, e, _, by rw [i2]; rfl, q1, f1, i1, i3, i4, i5, rfl⟩, ?_⟩
      rintro n σ H2 ⟨tq, t, e, v5, rfl, tq2, f2, j1, j3, j4, j5, rfl⟩
      have exit : (if t.kind = KEY then HE L e else e) = e → ∀ v5 : Option V, oNew (.tup [.int (a : Int), .str (T SYM), .str (T (sub L (a + 1) e))]) [V.int (a : Int), .str (T SYM), .str (T (sub L (a + 1) e))].length H2 fun x H1 =>
          tCons (tVar 3) tNil [some (.str (T L)), some (.int (a : Int)), some (.ref tq), some (.int (e : Int)), some (.str (T (sub L (a + 1) e))), v5] H1 fun xs H3 => oNew (.tup (x :: xs)) (x :: xs).length H3 Q := fun he v5 => by
        rw [he] at j5
        refine z_newL (by show 3 ≤ sizeLine; decide) fun q3 H3 hq f3 q3' => ?_
        one_sign
        refine z_newL (by show 2 ≤ sizeLine; decide) fun p4 H4 hp f4 p4' => ?_
        exact kQ _ _ j5 p4 q3 H4 (f2.trans (f3.trans f4)) p4' (f4.g0 q3')
      have tq2' := tq2
      unfold TokAt at tq2
      one_sign
      refine z_ixT tq2 (atI_nat (j := 1) rfl) ?_
      one_sign
      refine iteD (fun hK => ?_) (fun hK => ?_)
      · have hK' : t.kind = KEY := T_inj hK
        rw [if_pos hK'] at j5
        one_sign
        refine ⟨L, e, rfl, by omega, ?_⟩
        one_sign
        refine ⟨chs L e, LET, rfl, chs_len _ _, ?_⟩
        one_sign
        refine iteB (fun hb => ?_) (fun hb => ?_)
        · refine ⟨_, fun _ _ z => z, ?_⟩
          one_sign
          refine ⟨L, e, rfl, hl, ?_⟩
          cases hx : ne L e with
          | none =>
            show gName 5 V.non _ _ _
            one_sign
            exact exit (by rw [if_pos hK', HE_no hx]) _
          | some f =>
            have hlt2 := ne_lt hx
            show gName 5 (V.int (f : Int)) _ _ _
            one_sign
            refine ⟨L, f, rfl, hl, ?_⟩
            one_sign
            refine iteB (fun hk => ?_) (fun hk => ?_)
            · have hk' : ke L f = false := by simpa using hk
              one_sign
              exact exit (by rw [if_pos hK', HE_st hx hk']) _
            · have hk' : ke L f = true := by simpa using hk
              have hf := ke_lt hk'
              one_sign
              refine ⟨L, e, a, rfl, hl, ha, fun t2 e2 hte2 p q H3 f3 p3 q3 => ?_, fun hn => ?_⟩
              · rw [rdName_key hx hk'] at hte2
                cases hte2
                one_sign
                refine z_gtup p3 rfl ?_
                one_sign
                refine ⟨_, rfl, ?_⟩
                one_sign
                refine z_ixT q3 (atI_nat (j := 2) rfl) ?_
                refine ⟨_, _, rfl, rfl, by show (sub L (a + 1) e).length + (sub L e (f + 1)).length ≤ _; have := sub_len L (a + 1) e; have := sub_len L e (f + 1); rw [sizeLine_eq]; omega, ?_⟩
                rw [HE_go hx hk'] at j5
                refine ⟨_, by omega, q, ⟨e, KEY, .s (sub L e (f + 1))⟩, f + 1, some (.int (f : Int)), ?_, q3, f2.trans f3, Or.inl rfl, by omega, by omega, by rw [if_pos rfl]; exact j5, rfl⟩
                rw [T_app, sub_app (by omega) (by omega)]
                rfl
              · rw [rdName_key hx hk'] at hn; cases hn
        · have hb' : inAt L e LET = false := hb
          one_sign
          exact exit (by rw [if_pos hK', HE_no (by unfold ne; rw [if_neg (by rw [hb']; intro z; cases z.1)])]) _
      · refine iteF ?_
        one_sign
        exact exit (if_neg fun z => hK (by rw [z])) _
    · have hn' : ne L (a + 1) = none := by
        cases hx : ne L (a + 1) with
        | none => rfl
        | some e =>
          cases hk : ke L e with
          | true => rw [rdName_key hx hk] at hn; cases hn
          | false => rw [rdName_nam hx hk] at hn; cases hn
      exact bad hn' H' d f hd
theorem ok_read_quoted (W : Wd P K mg) : FnOk P w K mg base (L2N.CX P w) 3 W.f_read_quoted W.fd_read_quoted ["source", "at"] (sp_rd W.c_Malformed (fun L a => L[a]? = some 39) rdQuo) := by
  refine okN W.F_read_quoted sc_read_quoted (fun vs H Q E h => by obtain ⟨L, a, rfl, hl, ha, hp, kQ, kE⟩ := h; rfl) (fun cdv A outer s H vs Q E hr h => ?_)
  obtain ⟨L, a, rfl, hl, ha, hp, kQ, kE⟩ := h
  have hu1 := hu_of hr
  have hu64 := hu64_of hr
  refine ⟨_, (pss_cons (ps_set (i := 2) sc_read_quoted.nd rfl (by first | exact Or.inl rfl | exact Or.inr rfl) (pe_strT (show (PySem.Str.ofString "") = T [] by decide +kernel)))
      (pss_cons (ps_set (i := 3) sc_read_quoted.nd rfl (by first | exact Or.inl rfl | exact Or.inr rfl) (pe_op op_addU (pv 1) pe_int))
      (pss_one (ps_while (passes_of rfl) (pt_truth pe_bl (by intro _; rfl)) (pss_cons (ps_set (i := 4) sc_read_quoted.nd rfl (by first | exact Or.inl rfl | exact Or.inr rfl) (pe_bm PySem.F.plainAttrs_str PySem.F.slot_str_find PySem.F.type_str_find mt_find3 (pv 0) (pa_cons (pe_strT (show (PySem.Str.ofString "'") = T [39] by decide +kernel)) (pa_cons (pv 3) pa_nil))))
      (pss_cons (ps_if (pt_cmpR op_ltU (pv 4) pe_int (by first | exact nomark _ | rfl)) (pss_one (L2N.ps_raise rfl (L2N.takes_of rfl rfl rfl rfl) (pmk_x W.X_Malformed W.i_Malformed (ok_Malformed___init__ W) (hr.mono (by decide)) W.b_Malformed___init__ pass0 rfl W.g_Malformed (pa_cons (pv 1) pa_nil)))) pss_nil)
      (pss_cons (ps_aug (i := 2) sc_read_quoted.nd rfl (by first | exact Or.inl rfl | exact Or.inr rfl) (pe_slice sl_U (pv 0) (po_some (pv 3)) (po_some (pv 4))) ip_addS)
      (pss_cons (ps_if (pt_cmpR (op_neU hu64) (pe_call (ok_char_at W) (hr.mono (by decide)) rfl W.g_char_at W.F_char_at.kp W.b_char_at .nil pass0 (pa_cons (pv 0) (pa_cons (pe_op op_addU (pv 4) pe_int) pa_nil))) (pe_strT (show (PySem.Str.ofString "'") = T [39] by decide +kernel)) (by first | exact nomark _ | rfl)) (pss_one (ps_ret (pe_tup (pa_cons (pe_tup (pa_cons (pv 1) (pa_cons (pe_strT (show (PySem.Str.ofString "symbol") = T [115, 121, 109, 98, 111, 108] by decide +kernel)) (pa_cons (pv 2) pa_nil)))) (pa_cons (pe_op op_addU (pv 4) pe_int) pa_nil))))) pss_nil)
      (pss_cons (ps_aug (i := 2) sc_read_quoted.nd rfl (by first | exact Or.inl rfl | exact Or.inr rfl) (pe_strT (show (PySem.Str.ofString "'") = T [39] by decide +kernel)) ip_addS)
      (pss_one (ps_set (i := 3) sc_read_quoted.nd rfl (by first | exact Or.inl rfl | exact Or.inr rfl) (pe_op op_addU (pv 4) pe_int)))))))))))), ?_⟩
  refine z_start (σ := [some _, some _, none, none, none]) rfl ?_
  one_sign
  have hal := (List.getElem?_eq_some_iff.mp hp).1
  one_sign
  refine ⟨fun n σ H' => ∃ (z : List Nat) (i : Nat) (v4 : Option V), σ = [some (.str (T L)), some (.int (a : Int)), some (.str (T z)), some (.int (i : Int)), v4] ∧ H' = H ∧ z.length ≤ i ∧ i ≤ 5001 ∧ a < i ∧ QS L (a + 1) = (QS L i).map (fun r => (z ++ r.1, r.2)) ∧ n = 5002 - i,
    ⟨_, [], a + 1, _, rfl, rfl, by simp, by omega, by omega, by cases QS L (a + 1) <;> rfl, rfl⟩, ?_⟩
  rintro n σ H2 ⟨z, i, v4, rfl, rfl, hz, hi, hai, hq, rfl⟩
  one_sign
  refine ⟨_, fun _ _ z => z, ?_⟩
  one_sign
  refine ⟨_, _, _, rfl, rfl, ?_⟩
  rw [find_nx]
  cases hx : nx L 39 i with
  | none =>
    have e : fnd L 39 i = -1 := by unfold fnd; rw [hx]
    rw [e]
    one_sign
    refine ⟨_, rfl, exc1_mk (okI ha) fun dx hdx => ?_⟩
    exact kE (by unfold rdQuo; rw [hq, QS_no hx]; rfl) H2 dx Fr.rfl' hdx
  | some f =>
    have e : fnd L 39 i = (f : Int) := by unfold fnd; rw [hx]
    have hf := nx_some hx
    have hfl := (List.getElem?_eq_some_iff.mp hf.2.1).1
    rw [e]
    one_sign
    refine iteD (fun z => by omega) (fun _ => ?_)
    one_sign
    refine ⟨_, rfl, ?_⟩
    one_sign
    refine z_sl2 i f hl rfl rfl ?_
    refine ⟨_, _, rfl, rfl, by show z.length + (sub L i f).length ≤ _; have := sub_len L i f; rw [sizeLine_eq]; omega, ?_⟩
    rw [T_app]
    simp only [List.set_cons_zero, List.set_cons_succ]
    one_sign
    refine ⟨L, f + 1, rfl, by omega, ?_⟩
    one_sign
    rw [chs_dec]
    refine iteB (fun hb => ?_) (fun hb => ?_)
    · have hb' : L[f + 1]? ≠ some 39 := by simpa using hb
      rw [QS_end hx hb'] at hq
      one_sign
      refine z_newL (by show 3 ≤ sizeLine; decide) fun q3 H3 hq3 f3 q3' => ?_
      one_sign
      refine z_newL (by show 2 ≤ sizeLine; decide) fun p4 H4 hp f4 p4' => ?_
      exact kQ _ _ (by unfold rdQuo; rw [hq]; rfl) p4 q3 H4 (f3.trans f4) p4' (f4.g0 q3')
    · have hb' : L[f + 1]? = some 39 := by simpa using hb
      rw [QS_go hx hb'] at hq
      have hl2 := (List.getElem?_eq_some_iff.mp hb').1
      have hsl : (sub L i f).length ≤ f - i := by unfold sub; rw [List.length_take]; omega
      one_sign
      refine ⟨_, rfl, ?_⟩
      one_sign
      refine ⟨_, _, rfl, rfl, by show (z ++ sub L i f).length + 1 ≤ _; rw [List.length_append, sizeLine_eq]; omega, ?_⟩
      rw [T_app]
      simp only [List.set_cons_zero, List.set_cons_succ]
      one_sign
      refine ⟨5002 - (f + 2), by omega, z ++ sub L i f ++ [39], f + 2, some (.int (f : Int)), ?_, rfl, ?_, by omega, by omega, ?_, rfl⟩
      · rfl
      · rw [List.length_append, List.length_append]; show _ + 1 ≤ _; omega
      · rw [hq, Option.map_map]
        congr 1
        funext r
        simp
theorem ok_read_token (W : Wd P K mg) : FnOk P w K mg base (L2N.CX P w) 7 W.f_read_token W.fd_read_token ["source", "at"] (sp_rd W.c_Malformed (fun L a => a < L.length) rdTok) := by
  refine okN W.F_read_token sc_read_token (fun vs H Q E h => by obtain ⟨L, a, rfl, hl, ha, hp, kQ, kE⟩ := h; rfl) (fun cdv A outer s H vs Q E hr h => ?_)
  obtain ⟨L, a, rfl, hl, ha, hp, kQ, kE⟩ := h
  have hu1 := hu_of hr
  have hu64 := hu64_of hr
  refine ⟨_, (pss_cons (ps_set (i := 2) sc_read_token.nd rfl (by first | exact Or.inl rfl | exact Or.inr rfl) (pe_ix (ix_U hu1) (pv 0) (pv 1) (fun _ _ => rfl)))
      (pss_cons (ps_if (pt_cmpR (op_inU hu1) (pv 2) (pe_gs rfl W.g_LETTERS) (by first | exact nomark _ | rfl)) (pss_one (ps_ret (pe_call (ok_read_name W) (hr.mono (by decide)) rfl W.g_read_name W.F_read_name.kp W.b_read_name .nil (L2N.passes_call (L2N.takes_of rfl rfl rfl rfl) (fun _ _ _ _ h => h)) (pa_cons (pv 0) (pa_cons (pv 1) (pa_cons (pv 1) pa_nil)))))) pss_nil)
      (pss_cons (ps_if (pt_cmpR (op_inU hu1) (pv 2) (pe_gs rfl W.g_DIGITS) (by first | exact nomark _ | rfl)) (pss_one (ps_ret (pe_call (ok_read_number W) (hr.mono (by decide)) rfl W.g_read_number W.F_read_number.kp W.b_read_number .nil (L2N.passes_call (L2N.takes_of rfl rfl rfl rfl) (fun _ _ _ _ h => h)) (pa_cons (pv 0) (pa_cons (pv 1) pa_nil))))) pss_nil)
      (pss_cons (ps_if (pt_cmpR (op_eqU hu64) (pv 2) (pe_strT (show (PySem.Str.ofString "#") = T [35] by decide +kernel)) (by first | exact nomark _ | rfl)) (pss_one (ps_ret (pe_call (ok_read_hash W) (hr.mono (by decide)) rfl W.g_read_hash W.F_read_hash.kp W.b_read_hash .nil (L2N.passes_call (L2N.takes_of rfl rfl rfl rfl) (fun _ _ _ _ h => h)) (pa_cons (pv 0) (pa_cons (pv 1) pa_nil))))) pss_nil)
      (pss_cons (ps_if (pt_cmpR (op_eqU hu64) (pv 2) (pe_strT (show (PySem.Str.ofString "'") = T [39] by decide +kernel)) (by first | exact nomark _ | rfl)) (pss_one (ps_ret (pe_call (ok_read_quoted W) (hr.mono (by decide)) rfl W.g_read_quoted W.F_read_quoted.kp W.b_read_quoted .nil (L2N.passes_call (L2N.takes_of rfl rfl rfl rfl) (fun _ _ _ _ h => h)) (pa_cons (pv 0) (pa_cons (pv 1) pa_nil))))) pss_nil)
      (pss_cons (ps_if (pt_cmpR (op_inU hu1) (pv 2) (pe_gs rfl W.g_SIGNS) (by first | exact nomark _ | rfl)) (pss_one (ps_ret (pe_call (ok_read_sign W) (hr.mono (by decide)) rfl W.g_read_sign W.F_read_sign.kp W.b_read_sign .nil pass0 (pa_cons (pv 0) (pa_cons (pv 1) pa_nil))))) pss_nil)
      (pss_cons (ps_if (pt_cmpR (op_eqU hu64) (pe_slice sl_U (pv 0) (po_some (pv 1)) (po_some (pe_op op_addU (pv 1) pe_int))) (pe_strT (show (PySem.Str.ofString ":=") = T [58, 61] by decide +kernel)) (by first | exact nomark _ | rfl)) (pss_one (ps_ret (pe_tup (pa_cons (pe_tup (pa_cons (pv 1) (pa_cons (pe_strT (show (PySem.Str.ofString "mark") = T [109, 97, 114, 107] by decide +kernel)) (pa_cons (pe_strT (show (PySem.Str.ofString ":=") = T [58, 61] by decide +kernel)) pa_nil)))) (pa_cons (pe_op op_addU (pv 1) pe_int) pa_nil))))) pss_nil)
      (pss_cons (ps_if (pt_cmpR (op_inU hu1) (pv 2) (pe_gs rfl W.g_MARKS) (by first | exact nomark _ | rfl)) (pss_one (ps_ret (pe_tup (pa_cons (pe_tup (pa_cons (pv 1) (pa_cons (pe_strT (show (PySem.Str.ofString "mark") = T [109, 97, 114, 107] by decide +kernel)) (pa_cons (pv 2) pa_nil)))) (pa_cons (pe_op op_addU (pv 1) pe_int) pa_nil))))) pss_nil)
      (pss_one (L2N.ps_raise rfl (L2N.takes_of rfl rfl rfl rfl) (pmk_x W.X_Malformed W.i_Malformed (ok_Malformed___init__ W) (hr.mono (by decide)) W.b_Malformed___init__ pass0 rfl W.g_Malformed (pa_cons (pv 1) pa_nil)))))))))))), ?_⟩
  refine z_start (σ := [some _, some _, none]) rfl ?_
  one_sign
  obtain ⟨c, hc⟩ : ∃ c, L[a]? = some c := ⟨_, List.getElem?_eq_getElem hp⟩
  refine z_chr hl rfl hc ?_
  one_sign
  unfold rdTok at kQ kE
  rw [hc] at kQ kE
  simp only at kQ kE
  have eT : ∀ d : Nat, decide (T [c] = T [d]) = decide (c = d) := fun d => dec1 c d
  refine iteD (fun h => ?_) (fun h => ?_)
  · rw [if_pos h] at kQ kE
    one_sign
    exact ⟨L, a, a, rfl, hl, ha, kQ, kE⟩
  rw [if_neg h] at kQ kE
  one_sign
  refine iteD (fun h => ?_) (fun h => ?_)
  · rw [if_pos h] at kQ kE
    one_sign
    exact ⟨L, a, rfl, hl, ha, show inAt L a DIG = true by rw [inAt_some hc]; simpa using h, kQ, kE⟩
  rw [if_neg h] at kQ kE
  one_sign
  rw [eT]
  refine iteD (fun h => ?_) (fun h => ?_)
  · rw [if_pos h] at kQ kE
    one_sign
    exact ⟨L, a, rfl, hl, ha, show L[a]? = some 35 by rw [hc, h], kQ, kE⟩
  rw [if_neg h] at kQ kE
  one_sign
  rw [eT]
  refine iteD (fun h => ?_) (fun h => ?_)
  · rw [if_pos h] at kQ kE
    one_sign
    exact ⟨L, a, rfl, hl, ha, show L[a]? = some 39 by rw [hc, h], kQ, kE⟩
  rw [if_neg h] at kQ kE
  one_sign
  refine iteD (fun h => ?_) (fun h => ?_)
  · rw [if_pos h] at kQ kE
    one_sign
    exact ⟨L, a, rfl, hl, fun p q H' f e1 e2 => kQ _ _ rfl p q H' f e1 e2⟩
  rw [if_neg h] at kQ kE
  one_sign
  refine z_sl2 a (a + 2) hl rfl (by omega) ?_
  one_sign
  have e2 : T (sub L a (a + 2)) = T [58, 61] ↔ (c = 58 ∧ L[a + 1]? = some 61) := by
    have e3 : sub L a (a + 2) = c :: chs L (a + 1) := by
      unfold sub chs
      rw [show a + 2 - a = 2 by omega, List.drop_eq_getElem_cons hp, (List.getElem?_eq_some_iff.mp hc).2]
      rfl
    rw [e3]
    constructor
    · intro e
      have e := T_inj e
      have h1 : c = 58 ∧ chs L (a + 1) = [61] := by simpa using e
      exact ⟨h1.1, chs_eq.mp (by rw [h1.2])⟩
    · rintro ⟨rfl, e⟩
      rw [chs_at e]
  refine iteD (fun h => ?_) (fun h => ?_)
  · rw [if_pos (e2.mp h)] at kQ
    one_sign
    refine z_newL (by show 3 ≤ sizeLine; decide) fun q H1 hq f1 q1 => ?_
    one_sign
    refine z_newL (by show 2 ≤ sizeLine; decide) fun p H2 hp f2 p2 => ?_
    exact kQ _ _ rfl p q H2 (f1.trans f2) p2 (f2.g0 q1)
  rw [if_neg (fun z => h (e2.mpr z))] at kQ kE
  one_sign
  refine iteD (fun h => ?_) (fun h => ?_)
  · rw [if_pos h] at kQ
    one_sign
    refine z_newL (by show 3 ≤ sizeLine; decide) fun q H1 hq f1 q1 => ?_
    one_sign
    refine z_newL (by show 2 ≤ sizeLine; decide) fun p H2 hp f2 p2 => ?_
    exact kQ _ _ rfl p q H2 (f1.trans f2) p2 (f2.g0 q1)
  rw [if_neg h] at kE
  one_sign
  refine ⟨_, rfl, exc1_mk (okI ha) fun dx hdx => ?_⟩
  exact kE rfl H dx Fr.rfl' hdx
def sp_skip (cM : Addr) : Sp := fun vs H Q E => ∃ (L : List Nat) (a : Nat), vs = [.str (T L), .int (a : Int)] ∧ L.length ≤ 4000 ∧ a ≤ 5000 ∧
  (L[SK L a]? ≠ some 34 → Q (.int (SK L a : Nat)) H) ∧
  (L[SK L a]? = some 34 → ∀ H' d, Fr [] H H' → H' d = none → E (.ref cM) (some d) (L2.upd H' d (.xd [("at", .int (SK L a : Nat))])))
theorem ok_skipped (W : Wd P K mg) : FnOk P w K mg base (L2N.CX P w) 3 W.f_skipped W.fd_skipped ["source", "at"] (sp_skip W.c_Malformed) := by
  refine okN W.F_skipped sc_skipped (fun vs H Q E h => by obtain ⟨L, a, rfl, hl, ha, kQ, kE⟩ := h; rfl) (fun cdv A outer s H vs Q E hr h => ?_)
  obtain ⟨L, a, rfl, hl, ha, kQ, kE⟩ := h
  have hu1 := hu_of hr
  have hu64 := hu64_of hr
  refine ⟨_, (pss_cons (ps_while (passes_of rfl) (pt_cmpR op_ltU (pv 1) (pe_callB call_lenU (by rfl) W.n_len bb_len (pa_cons (pv 0) pa_nil)) (by first | exact nomark _ | rfl)) (pss_one (ps_if (pt_cmpR (op_eqU hu64) (pe_ix (ix_U hu1) (pv 0) (pv 1) (fun _ _ => rfl)) (pe_strT (show (PySem.Str.ofString "\"") = T [34] by decide +kernel)) (by first | exact nomark _ | rfl)) (pss_cons (ps_set (i := 2) sc_skipped.nd rfl (by first | exact Or.inl rfl | exact Or.inr rfl) (pe_bm PySem.F.plainAttrs_str PySem.F.slot_str_find PySem.F.type_str_find mt_find3 (pv 0) (pa_cons (pe_strT (show (PySem.Str.ofString "\"") = T [34] by decide +kernel)) (pa_cons (pe_op op_addU (pv 1) pe_int) pa_nil))))
      (pss_cons (ps_if (pt_cmpR op_ltU (pv 2) pe_int (by first | exact nomark _ | rfl)) (pss_one (L2N.ps_raise rfl (L2N.takes_of rfl rfl rfl rfl) (pmk_x W.X_Malformed W.i_Malformed (ok_Malformed___init__ W) (hr.mono (by decide)) W.b_Malformed___init__ pass0 rfl W.g_Malformed (pa_cons (pv 1) pa_nil)))) pss_nil)
      (pss_one (ps_set (i := 1) sc_skipped.nd rfl (by first | exact Or.inl rfl | exact Or.inr rfl) (pe_op op_addU (pv 2) pe_int))))) (pss_one (ps_if (pt_cmpR (op_inU hu1) (pe_ix (ix_U hu1) (pv 0) (pv 1) (fun _ _ => rfl)) (pe_strT (show (PySem.Str.ofString " \n") = T [32, 10] by decide +kernel)) (by first | exact nomark _ | rfl)) (pss_one (ps_aug (i := 1) sc_skipped.nd rfl (by first | exact Or.inl rfl | exact Or.inr rfl) pe_int ip_add)) (pss_one (ps_ret (pv 1))))))))
      (pss_one (ps_ret (pv 1)))), ?_⟩
  refine z_start (σ := [some _, some _, none]) rfl ?_
  one_sign
  have hl5 : L.length ≤ 5000 := by omega
  refine ⟨fun n σ H' => ∃ (i : Nat) (v2 : Option V), σ = [some (.str (T L)), some (.int (i : Int)), v2] ∧ H' = H ∧ SK L i = SK L a ∧ i ≤ 5000 ∧ n = 5001 - i, ⟨_, a, _, rfl, rfl, rfl, ha, rfl⟩, ?_⟩
  rintro n σ H2 ⟨i, v2, rfl, rfl, hs, hi, rfl⟩
  rw [← hs] at kQ kE
  one_sign
  refine z_lenT' hl5 ?_
  one_sign
  refine iteD (fun h => ?_) (fun h => ?_)
  · have hil : i < L.length := by omega
    obtain ⟨c, hc⟩ : ∃ c, L[i]? = some c := ⟨_, List.getElem?_eq_getElem hil⟩
    refine ⟨_, fun _ _ z => z, ?_⟩
    one_sign
    refine z_chr hl5 rfl hc ?_
    one_sign
    rw [dec1]
    refine iteD (fun h1 => ?_) (fun h1 => ?_)
    · subst h1
      one_sign
      refine ⟨_, _, _, rfl, rfl, ?_⟩
      rw [show (i : Int) + 1 = ((i + 1 : Nat) : Int) by omega, find_nx]
      cases hx : nx L 34 (i + 1) with
      | none =>
        have e : fnd L 34 (i + 1) = -1 := by unfold fnd; rw [hx]
        rw [e]
        one_sign
        have e2 : SK L i = i := SK_open hc hx
        rw [e2] at kE
        refine ⟨_, rfl, exc1_mk (okI hi) fun dx hdx => ?_⟩
        exact kE hc H2 dx Fr.rfl' hdx
      | some f =>
        have e : fnd L 34 (i + 1) = (f : Int) := by unfold fnd; rw [hx]
        have hf := nx_some hx
        have hfl := (List.getElem?_eq_some_iff.mp hf.2.1).1
        rw [e]
        one_sign
        refine iteD (fun z => by omega) (fun _ => ?_)
        one_sign
        exact ⟨5001 - (f + 1), by omega, f + 1, some (.int (f : Int)), rfl, rfl, by rw [← SK_com hc hx]; exact hs, by omega, rfl⟩
    · one_sign
      refine z_chr hl5 rfl hc ?_
      one_sign
      refine iteD (fun h2 => ?_) (fun h2 => ?_)
      · one_sign
        refine ⟨_, rfl, _, _, rfl, rfl, ?_⟩
        exact ⟨5001 - (i + 1), by omega, i + 1, _, rfl, rfl, by rw [← SK_sp hc (by simpa using h2)]; exact hs, by omega, rfl⟩
      · one_sign
        have h3 : ¬ (c = 32 ∨ c = 10) := by simpa using h2
        have e : SK L i = i := SK_no hc h1 (fun z => h3 (Or.inl z)) (fun z => h3 (Or.inr z))
        rw [e] at kQ
        exact kQ (by rw [hc]; intro z; cases z; exact h1 rfl)
  · one_sign
    have e : SK L i = i := SK_end (by omega)
    rw [e] at kQ
    exact kQ (by rw [List.getElem?_eq_none_iff.mpr (by omega)]; intro z; cases z)
theorem RowT.keep {H H' : Hp} {p : Addr} {ts : List Tok} (h : RowT H p ts) (f : Fr [] H H') : RowT H' p ts := by
  obtain ⟨A, h1, h2, h3⟩ := h
  exact ⟨A, f.g0 h1, h2, fun i a t e1 e2 => f.g0 (h3 i a t e1 e2)⟩
theorem rdTok_quote {L : List Nat} {a : Nat} (h : L[a]? = some 34) : rdTok L a = none := by
  unfold rdTok
  rw [h]
  rfl
def sp_tokens (cM cO : Addr) : Sp := fun vs H Q E => ∃ L : List Nat, vs = [.str (T L)] ∧ L.length ≤ 5000 ∧
  (4000 < L.length → ∀ H' d, Fr [] H H' → H' d = none → E (.ref cO) (some d) (L2.upd H' d (.xd [("limit", .str (T [115, 111, 117, 114, 99, 101]))]))) ∧
  (L.length ≤ 4000 → ∀ p, (lex L 0).2 = some p → ∀ H' d, Fr [] H H' → H' d = none → E (.ref cM) (some d) (L2.upd H' d (.xd [("at", .int (p : Int))]))) ∧
  (L.length ≤ 4000 → (lex L 0).2 = none → ∀ p H', Fr [] H H' → RowT H' p (lex L 0).1 → Q (.ref p) H')
theorem ok_tokens_of (W : Wd P K mg) : FnOk P w K mg base (L2N.CX P w) 8 W.f_tokens_of W.fd_tokens_of ["source"] (sp_tokens W.c_Malformed W.c_Oversized) := by
  refine okN W.F_tokens_of sc_tokens_of (fun vs H Q E h => by obtain ⟨L, rfl, hl, kO, kM, kQ⟩ := h; rfl) (fun cdv A outer s H vs Q E hr h => ?_)
  obtain ⟨L, rfl, hl, kO, kM, kQ⟩ := h
  have hu1 := hu_of hr
  have hu64 := hu64_of hr
  refine ⟨_, (pss_cons (ps_if (pt_cmpR op_gtU (pe_callB call_lenU (by rfl) W.n_len bb_len (pa_cons (pv 0) pa_nil)) (pe_gi rfl W.g_MOST_SOURCE) (by first | exact nomark _ | rfl)) (pss_one (L2N.ps_raise rfl (L2N.takes_of rfl rfl rfl rfl) (pmk_x W.X_Oversized W.i_Oversized (ok_Oversized___init__ W) (hr.mono (by decide)) W.b_Oversized___init__ pass0 rfl W.g_Oversized (pa_cons (pe_strT (show (PySem.Str.ofString "source") = T [115, 111, 117, 114, 99, 101] by decide +kernel)) pa_nil)))) pss_nil)
      (pss_cons (ps_set (i := 1) sc_tokens_of.nd rfl (by first | exact Or.inl rfl | exact Or.inr rfl) (pe_lst pa_nil))
      (pss_cons (ps_set (i := 2) sc_tokens_of.nd rfl (by first | exact Or.inl rfl | exact Or.inr rfl) (pe_call (ok_skipped W) (hr.mono (by decide)) rfl W.g_skipped W.F_skipped.kp W.b_skipped .nil (L2N.passes_call (L2N.takes_of rfl rfl rfl rfl) (fun _ _ _ _ h => h)) (pa_cons (pv 0) (pa_cons pe_int pa_nil))))
      (pss_cons (ps_while (passes_of rfl) (pt_cmpR op_ltU (pv 2) (pe_callB call_lenU (by rfl) W.n_len bb_len (pa_cons (pv 0) pa_nil)) (by first | exact nomark _ | rfl)) (pss_cons (ps_asg (pe_call (ok_read_token W) (hr.mono (by decide)) rfl W.g_read_token W.F_read_token.kp W.b_read_token .nil (L2N.passes_call (L2N.takes_of rfl rfl rfl rfl) (fun _ _ _ _ h => h)) (pa_cons (pv 0) (pa_cons (pv 2) pa_nil))) (pg_tup rfl (pgs_cons (pg_name (i := 3) sc_tokens_of.nd rfl (by first | exact Or.inl rfl | exact Or.inr rfl)) (pgs_cons (pg_name (i := 2) sc_tokens_of.nd rfl (by first | exact Or.inl rfl | exact Or.inr rfl)) pgs_nil))))
      (pss_cons (ps_expr (pe_bm PySem.F.plainAttrs_list PySem.F.slot_list_append PySem.F.type_list_append mt_append (pv 1) (pa_cons (pv 3) pa_nil)))
      (pss_one (ps_set (i := 2) sc_tokens_of.nd rfl (by first | exact Or.inl rfl | exact Or.inr rfl) (pe_call (ok_skipped W) (hr.mono (by decide)) rfl W.g_skipped W.F_skipped.kp W.b_skipped .nil (L2N.passes_call (L2N.takes_of rfl rfl rfl rfl) (fun _ _ _ _ h => h)) (pa_cons (pv 0) (pa_cons (pv 2) pa_nil))))))))
      (pss_one (ps_ret (pv 1))))))), ?_⟩
  refine z_start (σ := [some _, none, none, none]) rfl ?_
  one_sign
  refine z_lenT' hl ?_
  one_sign
  refine iteD (fun h => ?_) (fun h => ?_)
  · refine exc1_mk True.intro fun dx hdx => ?_
    exact kO (by omega) H dx Fr.rfl' hdx
  have hl4 : L.length ≤ 4000 := by omega
  have kM := kM hl4
  have kQ := kQ hl4
  one_sign
  refine z_newL (by show 0 ≤ sizeLine; decide) fun p H1 hp f1 p1 => ?_
  one_sign
  refine ⟨L, 0, rfl, hl4, by omega, fun hq => ?_, fun hq H' d f hd => ?_⟩
  · one_sign
    refine ⟨fun n σ H' => ∃ (b : Nat) (ts : List Tok) (A : List Addr) (v3 : Option V), σ = [some (.str (T L)), some (.ref p), some (.int (SK L b : Nat)), v3] ∧ H' p = some (.lst (A.map V.ref)) ∧ A.length = ts.length ∧
      (∀ (i : Nat) (a : Addr) (t : Tok), A[i]? = some a → ts[i]? = some t → TokAt H' a t) ∧ Fr [] H H' ∧ L[SK L b]? ≠ some 34 ∧ lex L 0 = (ts ++ (lex L b).1, (lex L b).2) ∧ ts.length ≤ SK L b ∧ n = L.length + 1 - SK L b,
      ⟨_, 0, [], [], _, rfl, p1, rfl, (fun i a t z => by cases z), f1, hq, rfl, Nat.zero_le _, rfl⟩, ?_⟩
    rintro n σ H2 ⟨b, ts, A, v3, rfl, p2, hA, hT, f2, hq2, hlx, htl, rfl⟩
    one_sign
    refine z_lenT' hl ?_
    one_sign
    refine iteD (fun h => ?_) (fun h => ?_)
    · have hsl : SK L b < L.length := by omega
      refine ⟨_, fun _ _ z => z, ?_⟩
      one_sign
      refine ⟨L, SK L b, rfl, hl, by omega, hsl, fun t e hte p3 q3 H3 f3 p3' q3' => ?_, fun hn H' d f hd => ?_⟩
      · have he := rdTok_lt hte
        one_sign
        refine z_gtup p3' rfl ?_
        have p2' := f3.g0 p2
        one_sign
        refine z_append p2' (by rw [List.length_map, hA, sizeLine_eq]; omega) fun H4 f4 p4 n4 => ?_
        one_sign
        have f14 : Fr [] H H4 := (f2.trans f3).in f4 hp
        have hlx2 : lex L 0 = ((ts ++ [t]) ++ (lex L e).1, (lex L e).2) := by rw [hlx, lex_go hsl hte he.1]; simp
        refine ⟨L, e, rfl, hl4, by omega, fun hq5 => ?_, fun hq5 H' d f hd => ?_⟩
        · one_sign
          refine ⟨L.length + 1 - SK L e, by have := SK_ge L e; omega, e, ts ++ [t], A ++ [q3], some (.ref q3), rfl, by rw [p4, List.map_append]; rfl, by rw [List.length_append, List.length_append, hA]; rfl, fun i a t' e1 e2 => ?_, f14, hq5, hlx2, by rw [List.length_append]; have := SK_ge L e; show ts.length + 1 ≤ _; omega, rfl⟩
          by_cases hi : i < A.length
          · rw [List.getElem?_append_left hi] at e1
            rw [List.getElem?_append_left (by rw [← hA]; exact hi)] at e2
            have z := f3.g0 (hT i a t' e1 e2)
            exact f4.g z (nin (ne_of z p2' (by intro z; cases z)))
          · rw [List.getElem?_append_right (by omega)] at e1
            rw [List.getElem?_append_right (by rw [← hA]; omega), ← hA] at e2
            obtain ⟨j, hj⟩ : ∃ j, i - A.length = j := ⟨_, rfl⟩
            rw [hj] at e1 e2
            cases j with
            | zero => cases e1; cases e2; exact f4.g q3' (nin (ne_of q3' p2' (by intro z; cases z)))
            | succ j => cases e1
        · have h1 := (List.getElem?_eq_some_iff.mp hq5).1
          exact kM _ (by rw [hlx2, lex_bad h1 (rdTok_quote hq5)]) H' d (f14.trans f) hd
      · exact kM _ (by rw [hlx, lex_bad hsl hn]) H' d (f2.trans f) hd
    · one_sign
      have e : lex L b = ([], none) := lex_end (by omega)
      rw [e, List.append_nil] at hlx
      rw [hlx] at kQ
      exact kQ rfl p H2 f2 ⟨A, p2, hA, hT⟩
  · have h1 := (List.getElem?_eq_some_iff.mp hq).1
    exact kM _ (by rw [lex_bad h1 (rdTok_quote hq)]) H' d (f1.trans f) hd
end

end LX
namespace LX
open PySem PySem.Spec PyProof.Rows L2 NdefX CwR
local macro_rules | `(tactic| none_booked) => `(tactic| first | assumption | (refine Fr.g0 (by assumption) ?_; none_booked))
local macro_rules | `(tactic| one_sign) => `(tactic| repeat (first
  | refine Stp.h ?_
  | ((with_reducible refine' z_fld1 ?k0 ?k1 ?k2 ?k3 ?_); (case k0 => none_booked); (case k1 => k_ownIn); (case k2 => k_memK); (case k3 => rfl))
  | ((with_reducible refine' z_meth1 ?k0 ?k1 ?_); (case k0 => none_booked); (case k1 => rfl))
  | ((with_reducible refine' z_bmL ?k0 ?_); (case k0 => none_booked))
  | ((with_reducible refine' z_lenL ?k0 ?_); (case k0 => none_booked))
  | ((with_reducible refine' z_lenT ?k0 ?_); (case k0 => none_booked))
  | ((with_reducible refine' z_lenD ?k0 ?_); (case k0 => none_booked))
  | ((with_reducible refine' z_truL ?k0 ?_); (case k0 => none_booked))
  | ((with_reducible refine' z_truD ?k0 ?_); (case k0 => none_booked))
  | ((with_reducible refine' z_truT ?k0 ?_); (case k0 => none_booked))
  | ((with_reducible refine' z_inDIP ?k0 ?_); (case k0 => none_booked))
  | ((with_reducible refine' z_inDIN ?k0 ?_); (case k0 => none_booked))
  | ((with_reducible refine' z_inDfP ?k0 ?_); (case k0 => none_booked))
  | ((with_reducible refine' z_inDfN ?k0 ?_); (case k0 => none_booked))
  | ((with_reducible refine' z_iList1 ?k0 ?_); (case k0 => none_booked))
  | ((with_reducible refine' z_isi0 ?k0 ?k1 ?k2 ?_); (case k0 => exact (ClsV.ty _)); (case k1 => exact (TyX.base (TyOf.lst (by none_booked)))); (case k2 => first | exact kt_list_int | exact kt_list_bool | exact kt_list_str | exact kt_list_list | exact kt_list_tuple | exact kt_list_dict))
  | ((with_reducible refine' z_rI ?k0 ?_); (case k0 => first | exact (by decide : (0 : Int) < _) | exact ⟨by decide, by decide⟩ | exact ⟨by decide, by decide, by decide⟩ | (show (0 : Int) < _; omega)))
  | ((with_reducible refine' z_mulI ?k0 ?_); (case k0 => first | exact Or.inr ⟨by decide, by decide⟩ | exact Or.inl ⟨by decide, by decide⟩ | exact Or.inl ⟨by omega, by omega⟩ | exact Or.inr ⟨by omega, by omega⟩))))
local macro_rules | `(tactic| leaf_len) => `(tactic| (simp only [wipe, List.map_cons, List.map_nil, List.set_cons_zero, List.set_cons_succ]; one_sign; refine z_ok rfl ?_; one_sign))
section
variable {P : Program} {w : World} {K : PySem.W.Frag} {mg : Str → Option Value} {base : Heap}
theorem run_go {L m : List Nat} {i c : Nat} (h : L[i]? = some c) (hm : c ∈ m) : run L i m = run L (i + 1) m + 1 := (run_lt (show isIn (chs L i) m = true by have := inAt_some (m := m) h; unfold inAt at this; rw [this]; simpa using hm)).2
theorem run_out {L m : List Nat} {i c : Nat} (h : L[i]? = some c) (hm : c ∉ m) : run L i m = 0 := run_no (by have := inAt_some (m := m) h; unfold inAt at this; rw [this]; simpa using hm)
theorem run_nil {L m : List Nat} {i : Nat} (h : L.length ≤ i) : run L i m = 0 := run_no (by have := inAt_none (m := m) (List.getElem?_eq_none_iff.mpr h); unfold inAt at this; exact this)
def sp_lrun : Sp := fun vs H Q _ => ∃ (L : List Nat) (i : Nat) (m : List Nat), vs = [.str (T L), .int (i : Int), .str (T m)] ∧ L.length ≤ 5000 ∧ Q (.int (i + run L i m : Nat)) H
theorem ok__law_run (W : Wd P K mg) : FnOk P w K mg base CX0 1 W.f__law_run W.fd__law_run ["_law_source_here", "_law_at", "_law_chars"] sp_lrun := by
  refine W.F__law_run.ok sc__law_run (fun vs H Q E h => by obtain ⟨L, i, m, rfl, hl, k⟩ := h; rfl) (fun cdv A outer s H vs Q E hr h => ?_)
  obtain ⟨L, i, m, rfl, hl, k⟩ := h
  have hu1 := hu_of hr
  have hu64 := hu64_of hr
  refine ⟨_, (pss_cons (ps_while PassesOwn.never (PW.pt (pw_and (pt_cmpR op_ltU (pv 1) (pe_callB call_lenU (by rfl) W.n_len bb_len (pa_cons (pv 0) pa_nil)) (by first | exact nomark _ | rfl)) (pw_and1 (pt_cmpR (op_inU hu1) (pe_ix (ix_U hu1) (pv 0) (pv 1) (fun _ _ => rfl)) (pv 2) (by first | exact nomark _ | rfl))))) (pss_one (ps_set (i := 1) sc__law_run.nd rfl (by first | exact Or.inl rfl | exact Or.inr rfl) (pe_op op_addU (pv 1) pe_int))))
      (pss_one (ps_ret (pv 1)))), ?_⟩
  refine z_start (σ := [some _, some _, some _]) rfl ?_
  one_sign
  refine ⟨fun n σ H' => ∃ j : Nat, σ = [some (.str (T L)), some (.int (j : Int)), some (.str (T m))] ∧ H' = H ∧ j + run L j m = i + run L i m ∧ n = run L j m, ⟨_, i, rfl, rfl, rfl, rfl⟩, ?_⟩
  rintro n σ H2 ⟨j, rfl, rfl, hj, rfl⟩
  rw [← hj] at k
  one_sign
  refine z_lenT' hl ?_
  one_sign
  refine iteD (fun h => ?_) (fun h => ?_)
  · obtain ⟨c, hc⟩ : ∃ c, L[j]? = some c := ⟨_, List.getElem?_eq_getElem (by omega)⟩
    one_sign
    refine z_chr hl rfl hc ?_
    one_sign
    refine iteD (fun hm => ?_) (fun hm => ?_)
    · have e := run_go hc hm
      refine ⟨_, fun _ _ z => z, ?_⟩
      one_sign
      exact ⟨run L (j + 1) m, by omega, j + 1, rfl, rfl, by omega, rfl⟩
    · one_sign
      rw [run_out hc hm] at k
      exact k
  · one_sign
    rw [run_nil (by omega)] at k
    exact k
def sp_lword : Sp := fun vs H Q _ => ∃ (L : List Nat) (i : Nat), vs = [.str (T L), .int (i : Int)] ∧ L.length ≤ 5000 ∧ Q (.int (i + run L i AN : Nat)) H
theorem ok__law_word_end (W : Wd P K mg) : FnOk P w K mg base CX0 2 W.f__law_word_end W.fd__law_word_end ["_law_source_here", "_law_at"] sp_lword := by
  refine W.F__law_word_end.ok sc__law_word_end (fun vs H Q E h => by obtain ⟨L, i, rfl, hl, k⟩ := h; rfl) (fun cdv A outer s H vs Q E hr h => ?_)
  obtain ⟨L, i, rfl, hl, k⟩ := h
  have hu1 := hu_of hr
  have hu64 := hu64_of hr
  refine ⟨_, (pss_one (ps_ret (pe_call (ok__law_run W) (hr.mono (by decide)) rfl W.g__law_run W.F__law_run.kp W.b__law_run .nil pass0 (pa_cons (pv 0) (pa_cons (pv 1) (pa_cons (pe_op op_addU (pe_call0 (ok__law_letters W) (hr.mono (by decide)) rfl W.g__law_letters W.F__law_letters.kp W.b__law_letters .nil pass0 ) (pe_strT e_DIG)) pa_nil)))))), ?_⟩
  refine z_start (σ := [some _, some _]) rfl ?_
  one_sign
  refine ⟨rfl, ?_⟩
  one_sign
  refine z_addS (by show LET.length + DIG.length ≤ _; decide +kernel) ?_
  one_sign
  exact ⟨L, i, AN, by rw [T_app] <;> rfl, hl, k⟩
def sp_llet : Sp := fun vs H Q _ => ∃ (L : List Nat) (i : Nat), vs = [.str (T L), .int (i : Int)] ∧ L.length ≤ 5000 ∧ Q (.bl (inAt L i LET)) H
theorem ok__law_is_letter (W : Wd P K mg) : FnOk P w K mg base CX0 2 W.f__law_is_letter W.fd__law_is_letter ["_law_source_here", "_law_at"] sp_llet := by
  refine W.F__law_is_letter.ok sc__law_is_letter (fun vs H Q E h => by obtain ⟨L, i, rfl, hl, k⟩ := h; rfl) (fun cdv A outer s H vs Q E hr h => ?_)
  obtain ⟨L, i, rfl, hl, k⟩ := h
  have hu1 := hu_of hr
  have hu64 := hu64_of hr
  refine ⟨_, (pss_one (ps_ret (pe_and (pe_cmpR op_ltU (pv 1) (pe_callB call_lenU (by rfl) W.n_len bb_len (pa_cons (pv 0) pa_nil)) (by first | exact nomark _ | rfl)) (pe_one (pe_cmpR (op_inU hu1) (pe_ix (ix_U hu1) (pv 0) (pv 1) (fun _ _ => rfl)) (pe_call0 (ok__law_letters W) (hr.mono (by decide)) rfl W.g__law_letters W.F__law_letters.kp W.b__law_letters .nil pass0 ) (by first | exact nomark _ | rfl)))))), ?_⟩
  refine z_start (σ := [some _, some _]) rfl ?_
  one_sign
  refine z_lenT' hl ?_
  one_sign
  refine iteD (fun h => ?_) (fun h => ?_)
  · obtain ⟨c, hc⟩ : ∃ c, L[i]? = some c := ⟨_, List.getElem?_eq_getElem (by omega)⟩
    one_sign
    refine z_chr hl rfl hc ?_
    one_sign
    refine ⟨rfl, ?_⟩
    one_sign
    rw [inAt_some hc] at k
    exact k
  · one_sign
    rw [inAt_none (List.getElem?_eq_none_iff.mpr (by omega))] at k
    exact k
def lne (L : List Nat) (i : Nat) : Nat := (ne L i).getD i
def sp_lnend : Sp := fun vs H Q _ => ∃ (L : List Nat) (i : Nat), vs = [.str (T L), .int (i : Int)] ∧ L.length ≤ 5000 ∧ Q (.int (lne L i : Nat)) H
theorem ok__law_name_end (W : Wd P K mg) : FnOk P w K mg base CX0 3 W.f__law_name_end W.fd__law_name_end ["_law_source_here", "_law_at"] sp_lnend := by
  refine W.F__law_name_end.ok sc__law_name_end (fun vs H Q E h => by obtain ⟨L, i, rfl, hl, k⟩ := h; rfl) (fun cdv A outer s H vs Q E hr h => ?_)
  obtain ⟨L, i, rfl, hl, k⟩ := h
  have hu1 := hu_of hr
  have hu64 := hu64_of hr
  refine ⟨_, (pss_cons (ps_set (i := 2) sc__law_name_end.nd rfl (by first | exact Or.inl rfl | exact Or.inr rfl) (pe_call (ok__law_word_end W) (hr.mono (by decide)) rfl W.g__law_word_end W.F__law_word_end.kp W.b__law_word_end .nil pass0 (pa_cons (pv 0) (pa_cons (pv 1) pa_nil))))
      (pss_cons (ps_if (PW.pt (pw_or (pt_not (pt_truth (pe_call (ok__law_is_letter W) (hr.mono (by decide)) rfl W.g__law_is_letter W.F__law_is_letter.kp W.b__law_is_letter .nil pass0 (pa_cons (pv 0) (pa_cons (pv 1) pa_nil))) (by intro _; rfl))) (pw_or1 (pt_cmpR op_gtU (pe_op op_sub (pv 2) (pv 1)) pe_int (by first | exact nomark _ | rfl))))) (pss_one (ps_ret (pv 1))) pss_nil)
      (pss_one (ps_ret (pv 2))))), ?_⟩
  refine z_start (σ := [some _, some _, none]) rfl ?_
  one_sign
  refine ⟨L, i, rfl, hl, ?_⟩
  one_sign
  refine ⟨L, i, rfl, hl, ?_⟩
  one_sign
  unfold lne ne at k
  refine iteB (fun h => ?_) (fun h => ?_)
  · have h' : inAt L i LET = false := by simpa using h
    rw [if_neg (by rw [h']; intro z; cases z.1)] at k
    one_sign
    exact k
  · have h' : inAt L i LET = true := by simpa using h
    one_sign
    refine iteD (fun h2 => ?_) (fun h2 => ?_)
    · rw [if_neg (by intro z; omega)] at k
      one_sign
      exact k
    · rw [if_pos ⟨h', by omega⟩] at k
      one_sign
      exact k
def sp_lcol : Sp := fun vs H Q _ => ∃ (L : List Nat) (i : Nat), vs = [.str (T L), .int (i : Int)] ∧ L.length ≤ 5000 ∧ Q (.bl (ke L i)) H
theorem ok__law_colon (W : Wd P K mg) : FnOk P w K mg base CX0 1 W.f__law_colon W.fd__law_colon ["_law_source_here", "_law_at"] sp_lcol := by
  refine W.F__law_colon.ok sc__law_colon (fun vs H Q E h => by obtain ⟨L, i, rfl, hl, k⟩ := h; rfl) (fun cdv A outer s H vs Q E hr h => ?_)
  obtain ⟨L, i, rfl, hl, k⟩ := h
  have hu1 := hu_of hr
  have hu64 := hu64_of hr
  refine ⟨_, (pss_one (ps_ret (pe_and (pe_cmpR (op_eqU hu64) (pe_slice sl_U (pv 0) (po_some (pv 1)) (po_some (pe_op op_addU (pv 1) pe_int))) (pe_strT (show (PySem.Str.ofString ":") = T [58] by decide +kernel)) (by first | exact nomark _ | rfl)) (pe_one (pe_cmpR (op_neU hu64) (pe_slice sl_U (pv 0) (po_some (pe_op op_addU (pv 1) pe_int)) (po_some (pe_op op_addU (pv 1) pe_int))) (pe_strT (show (PySem.Str.ofString "=") = T [61] by decide +kernel)) (by first | exact nomark _ | rfl)))))), ?_⟩
  refine z_start (σ := [some _, some _]) rfl ?_
  one_sign
  refine z_sl2 i (i + 1) hl rfl (by omega) ?_
  one_sign
  have e1 : ∀ j, sub L j (j + 1) = chs L j := fun j => by unfold sub chs; rw [show j + 1 - j = 1 by omega]
  rw [e1, chs_dec]
  unfold ke at k
  refine iteD (fun h => ?_) (fun h => ?_)
  · rw [decide_eq_true h, Bool.true_and] at k
    one_sign
    refine z_sl2 (i + 1) (i + 2) hl (by omega) (by omega) ?_
    one_sign
    rw [e1, chs_dec]
    exact k
  · rw [decide_eq_false h, Bool.false_and] at k
    exact k
def sp_lskip : Sp := fun vs H Q _ => ∃ (L : List Nat) (a : Nat), vs = [.str (T L), .int (a : Int)] ∧ L.length ≤ 5000 ∧ a ≤ 5001 ∧ Q (.int (SK L a : Nat)) H
theorem ok__law_skip (W : Wd P K mg) : FnOk P w K mg base CX0 1 W.f__law_skip W.fd__law_skip ["_law_source_here", "_law_at"] sp_lskip := by
  refine W.F__law_skip.ok sc__law_skip (fun vs H Q E h => by obtain ⟨L, a, rfl, hl, ha, k⟩ := h; rfl) (fun cdv A outer s H vs Q E hr h => ?_)
  obtain ⟨L, a, rfl, hl, ha, k⟩ := h
  have hu1 := hu_of hr
  have hu64 := hu64_of hr
  refine ⟨_, (pss_cons (ps_while PassesOwn.never (pt_cmpR op_ltU (pv 1) (pe_callB call_lenU (by rfl) W.n_len bb_len (pa_cons (pv 0) pa_nil)) (by first | exact nomark _ | rfl)) (pss_one (ps_if (pt_cmpR (op_eqU hu64) (pe_ix (ix_U hu1) (pv 0) (pv 1) (fun _ _ => rfl)) (pe_strT (show (PySem.Str.ofString "\"") = T [34] by decide +kernel)) (by first | exact nomark _ | rfl)) (pss_cons (ps_set (i := 2) sc__law_skip.nd rfl (by first | exact Or.inl rfl | exact Or.inr rfl) (pe_bm PySem.F.plainAttrs_str PySem.F.slot_str_find PySem.F.type_str_find mt_find3 (pv 0) (pa_cons (pe_strT (show (PySem.Str.ofString "\"") = T [34] by decide +kernel)) (pa_cons (pe_op op_addU (pv 1) pe_int) pa_nil))))
      (pss_cons (ps_if (pt_cmpR op_ltU (pv 2) pe_int (by first | exact nomark _ | rfl)) (pss_one (ps_ret (pv 1))) pss_nil)
      (pss_one (ps_set (i := 1) sc__law_skip.nd rfl (by first | exact Or.inl rfl | exact Or.inr rfl) (pe_op op_addU (pv 2) pe_int))))) (pss_one (ps_if (PW.pt (pw_or (pt_cmpR (op_eqU hu64) (pe_ix (ix_U hu1) (pv 0) (pv 1) (fun _ _ => rfl)) (pe_strT (show (PySem.Str.ofString " ") = T [32] by decide +kernel)) (by first | exact nomark _ | rfl)) (pw_or1 (pt_cmpR (op_eqU hu64) (pe_ix (ix_U hu1) (pv 0) (pv 1) (fun _ _ => rfl)) (pe_strT (show (PySem.Str.ofString "\n") = T [10] by decide +kernel)) (by first | exact nomark _ | rfl))))) (pss_one (ps_set (i := 1) sc__law_skip.nd rfl (by first | exact Or.inl rfl | exact Or.inr rfl) (pe_op op_addU (pv 1) pe_int))) (pss_one (ps_ret (pv 1))))))))
      (pss_one (ps_ret (pv 1)))), ?_⟩
  refine z_start (σ := [some _, some _, none]) rfl ?_
  one_sign
  refine ⟨fun n σ H' => ∃ (i : Nat) (v2 : Option V), σ = [some (.str (T L)), some (.int (i : Int)), v2] ∧ H' = H ∧ SK L i = SK L a ∧ i ≤ 5001 ∧ n = 5002 - i, ⟨_, a, _, rfl, rfl, rfl, ha, rfl⟩, ?_⟩
  rintro n σ H2 ⟨i, v2, rfl, rfl, hs, hi, rfl⟩
  rw [← hs] at k
  one_sign
  refine z_lenT' hl ?_
  one_sign
  refine iteD (fun h => ?_) (fun h => ?_)
  · have hil : i < L.length := by omega
    obtain ⟨c, hc⟩ : ∃ c, L[i]? = some c := ⟨_, List.getElem?_eq_getElem hil⟩
    refine ⟨_, fun _ _ z => z, ?_⟩
    one_sign
    refine z_chr hl rfl hc ?_
    one_sign
    rw [dec1]
    refine iteD (fun h1 => ?_) (fun h1 => ?_)
    · subst h1
      one_sign
      refine ⟨_, _, _, rfl, rfl, ?_⟩
      rw [show (i : Int) + 1 = ((i + 1 : Nat) : Int) by omega, find_nx]
      cases hx : nx L 34 (i + 1) with
      | none =>
        have e : fnd L 34 (i + 1) = -1 := by unfold fnd; rw [hx]
        rw [e]
        one_sign
        rw [SK_open hc hx] at k
        refine iteD (fun _ => ?_) (fun z => absurd (by decide) z)
        one_sign
        exact k
      | some f =>
        have e : fnd L 34 (i + 1) = (f : Int) := by unfold fnd; rw [hx]
        have hf := nx_some hx
        have hfl := (List.getElem?_eq_some_iff.mp hf.2.1).1
        rw [e]
        one_sign
        refine iteD (fun z => by omega) (fun _ => ?_)
        one_sign
        exact ⟨5002 - (f + 1), by omega, f + 1, some (.int (f : Int)), rfl, rfl, by rw [← SK_com hc hx]; exact hs, by omega, rfl⟩
    · one_sign
      refine z_chr hl rfl hc ?_
      one_sign
      rw [dec1]
      refine iteD (fun h2 => ?_) (fun h2 => ?_)
      · one_sign
        exact ⟨5002 - (i + 1), by omega, i + 1, _, rfl, rfl, by rw [← SK_sp hc (Or.inl h2)]; exact hs, by omega, rfl⟩
      · one_sign
        refine z_chr hl rfl hc ?_
        one_sign
        rw [dec1]
        refine iteD (fun h3 => ?_) (fun h3 => ?_)
        · one_sign
          exact ⟨5002 - (i + 1), by omega, i + 1, _, rfl, rfl, by rw [← SK_sp hc (Or.inr h3)]; exact hs, by omega, rfl⟩
        · one_sign
          rw [SK_no hc h1 h2 h3] at k
          exact k
  · one_sign
    rw [SK_end (by omega)] at k
    exact k
end

end LX
namespace LX
open PySem PySem.Spec PyProof.Rows L2 NdefX CwR
local macro_rules | `(tactic| none_booked) => `(tactic| first | assumption | (refine Fr.g0 (by assumption) ?_; none_booked))
local macro_rules | `(tactic| one_sign) => `(tactic| repeat (first
  | refine Stp.h ?_
  | ((with_reducible refine' z_fld1 ?k0 ?k1 ?k2 ?k3 ?_); (case k0 => none_booked); (case k1 => k_ownIn); (case k2 => k_memK); (case k3 => rfl))
  | ((with_reducible refine' z_meth1 ?k0 ?k1 ?_); (case k0 => none_booked); (case k1 => rfl))
  | ((with_reducible refine' z_bmL ?k0 ?_); (case k0 => none_booked))
  | ((with_reducible refine' z_lenL ?k0 ?_); (case k0 => none_booked))
  | ((with_reducible refine' z_lenT ?k0 ?_); (case k0 => none_booked))
  | ((with_reducible refine' z_lenD ?k0 ?_); (case k0 => none_booked))
  | ((with_reducible refine' z_truL ?k0 ?_); (case k0 => none_booked))
  | ((with_reducible refine' z_truD ?k0 ?_); (case k0 => none_booked))
  | ((with_reducible refine' z_truT ?k0 ?_); (case k0 => none_booked))
  | ((with_reducible refine' z_inDIP ?k0 ?_); (case k0 => none_booked))
  | ((with_reducible refine' z_inDIN ?k0 ?_); (case k0 => none_booked))
  | ((with_reducible refine' z_inDfP ?k0 ?_); (case k0 => none_booked))
  | ((with_reducible refine' z_inDfN ?k0 ?_); (case k0 => none_booked))
  | ((with_reducible refine' z_iList1 ?k0 ?_); (case k0 => none_booked))
  | ((with_reducible refine' z_isi0 ?k0 ?k1 ?k2 ?_); (case k0 => exact (ClsV.ty _)); (case k1 => exact (TyX.base (TyOf.lst (by none_booked)))); (case k2 => first | exact kt_list_int | exact kt_list_bool | exact kt_list_str | exact kt_list_list | exact kt_list_tuple | exact kt_list_dict))
  | ((with_reducible refine' z_rI ?k0 ?_); (case k0 => first | exact (by decide : (0 : Int) < _) | exact ⟨by decide, by decide⟩ | exact ⟨by decide, by decide, by decide⟩ | (show (0 : Int) < _; omega)))
  | ((with_reducible refine' z_mulI ?k0 ?_); (case k0 => first | exact Or.inr ⟨by decide, by decide⟩ | exact Or.inl ⟨by decide, by decide⟩ | exact Or.inl ⟨by omega, by omega⟩ | exact Or.inr ⟨by omega, by omega⟩))))
local macro_rules | `(tactic| leaf_len) => `(tactic| (simp only [wipe, List.map_cons, List.map_nil, List.set_cons_zero, List.set_cons_succ]; one_sign; refine z_ok rfl ?_; one_sign))
open StrLaws in
theorem dbl_app : ∀ (a b : List Nat), 39 ∉ a → replL [39] [39, 39] (a ++ 39 :: b) = a ++ 39 :: 39 :: replL [39] [39, 39] b
  | [], b, _ => by
    rw [List.nil_append, replL_hit (by simp) rfl]
    rfl
  | c :: a, b, h => by
    have hc : ¬ c = 39 := fun e => h (by rw [e]; exact List.mem_cons_self)
    rw [List.cons_append, replL_miss (by intro e; exact hc (by simpa using e)), dbl_app a b (fun z => h (List.mem_cons_of_mem _ z))]
    rfl
open StrLaws in
theorem dbl_self : ∀ (a : List Nat), 39 ∉ a → replL [39] [39, 39] a = a
  | [], _ => replL_nil
  | c :: a, h => by
    have hc : ¬ c = 39 := fun e => h (by rw [e]; exact List.mem_cons_self)
    rw [replL_miss (by intro e; exact hc (by simpa using e)), dbl_self a (fun z => h (List.mem_cons_of_mem _ z))]
abbrev dbl (z : List Nat) : List Nat := StrLaws.replL [39] [39, 39] z
open StrLaws in
theorem dbl_len : ∀ z : List Nat, z.length ≤ (dbl z).length
  | [] => Nat.zero_le _
  | c :: r => by
    have ih := dbl_len r
    unfold dbl at ih ⊢
    by_cases hc : c = 39
    · rw [hc, replL_hit (by simp) rfl]
      show r.length + 1 ≤ (39 :: 39 :: replL [39] [39, 39] r).length
      rw [List.length_cons, List.length_cons]; omega
    · rw [replL_miss (by intro e; exact hc (by simpa using e)), List.length_cons, List.length_cons]; omega
theorem sub_no {L : List Nat} {i f c : Nat} (h : ∀ j, i ≤ j → j < f → L[j]? ≠ some c) : c ∉ sub L i f := by
  intro hc
  obtain ⟨k, hk, e⟩ := List.getElem_of_mem hc
  have h1 : (sub L i f)[k]? = some c := by rw [List.getElem?_eq_getElem hk, e]
  unfold sub at h1 hk
  rw [List.length_take] at hk
  rw [List.getElem?_take_of_lt (by omega), List.getElem?_drop] at h1
  exact h (i + k) (by omega) (by omega) h1
theorem sub_cons {L : List Nat} {i j c : Nat} (h : L[i]? = some c) (hj : i < j) : sub L i j = c :: sub L (i + 1) j := by
  obtain ⟨h1, rfl⟩ := List.getElem?_eq_some_iff.mp h
  unfold sub
  rw [List.drop_eq_getElem_cons h1, show j - i = (j - (i + 1)) + 1 by omega, List.take_succ_cons]
theorem sub_nil (L : List Nat) (i : Nat) : sub L i i = [] := by unfold sub; rw [Nat.sub_self, List.take_zero]
theorem QS_dbl {L : List Nat} : ∀ {i : Nat} {r : List Nat × Nat}, QS L i = some r → i < r.2 ∧ sub L i (r.2 - 1) = dbl r.1 ∧ L[r.2 - 1]? = some 39 ∧ L[r.2]? ≠ some 39 := by
  intro i
  induction hn : L.length - i using Nat.strongRecOn generalizing i with
  | ind n ih =>
    intro r h
    cases hx : nx L 39 i with
    | none => rw [QS_no hx] at h; cases h
    | some f =>
      obtain ⟨h1, h2, h3⟩ := nx_some hx
      have hfl := (List.getElem?_eq_some_iff.mp h2).1
      have hno := sub_no h3
      by_cases hq : L[f + 1]? = some 39
      · rw [QS_go hx hq] at h
        obtain ⟨r', hr, rfl⟩ := Option.map_eq_some_iff.mp h
        obtain ⟨i1, i2, i3, i4⟩ := ih (L.length - (f + 2)) (by omega) rfl hr
        refine ⟨by show i < r'.2; omega, ?_, i3, i4⟩
        show sub L i (r'.2 - 1) = dbl (sub L i f ++ 39 :: r'.1)
        unfold dbl
        rw [dbl_app _ _ hno, show StrLaws.replL [39] [39, 39] r'.1 = sub L (f + 2) (r'.2 - 1) from i2.symm, ← sub_app (i := i) (j := f) (k := r'.2 - 1) h1 (by omega), sub_cons h2 (by omega), sub_cons hq (by omega)]
      · rw [QS_end hx hq] at h
        cases h
        refine ⟨by show i < f + 1; omega, ?_, h2, hq⟩
        show sub L i (f + 1 - 1) = dbl (sub L i f)
        unfold dbl
        rw [dbl_self _ hno]
        rfl
section
variable {P : Program} {w : World} {K : PySem.W.Frag} {mg : Str → Option Value} {base : Heap}
def SymAt (L : List Nat) (a : Nat) (z : List Nat) (e : Nat) : Prop := (L[a]? = some 35 ∧ rdHash L a = some (⟨a, SYM, .s z⟩, e)) ∨ (L[a]? = some 39 ∧ rdQuo L a = some (⟨a, SYM, .s z⟩, e))
def sp_lsym : Sp := fun vs H Q _ => ∃ (L : List Nat) (a : Nat) (z : List Nat) (e : Nat), vs = [.str (T L), .int (a : Int), .str (T z)] ∧ L.length ≤ 5000 ∧ SymAt L a z e ∧ Q (.int (e : Nat)) H
theorem ok__law_symbol_end (W : Wd P K mg) : FnOk P w K mg base CX0 4 W.f__law_symbol_end W.fd__law_symbol_end ["_law_source_here", "_law_at", "_law_text"] sp_lsym := by
  refine W.F__law_symbol_end.ok sc__law_symbol_end (fun vs H Q E h => by obtain ⟨L, a, z, e, rfl, hl, hS, k⟩ := h; rfl) (fun cdv A outer s H vs Q E hr h => ?_)
  obtain ⟨L, a, z, e, rfl, hl, hS, k⟩ := h
  have hu1 := hu_of hr
  have hu64 := hu64_of hr
  refine ⟨_, (pss_cons (ps_if (pt_cmpR (op_eqU hu64) (pe_ix (ix_U hu1) (pv 0) (pv 1) (fun _ _ => rfl)) (pe_strT (show (PySem.Str.ofString "'") = T [39] by decide +kernel)) (by first | exact nomark _ | rfl)) (pss_cons (ps_set (i := 3) sc__law_symbol_end.nd rfl (by first | exact Or.inl rfl | exact Or.inr rfl) (pe_op op_addU (pe_addRepl (show (PySem.Str.ofString "'") = T [39] by decide +kernel) (show (PySem.Str.ofString "'") = T [39] by decide +kernel) (show (PySem.Str.ofString "''") = T [39, 39] by decide +kernel) (pv 2)) (pe_strT (show (PySem.Str.ofString "'") = T [39] by decide +kernel))))
      (pss_cons (ps_set (i := 4) sc__law_symbol_end.nd rfl (by first | exact Or.inl rfl | exact Or.inr rfl) (pe_op op_addU (pv 1) (pe_callB call_lenU (by rfl) W.n_len bb_len (pa_cons (pv 3) pa_nil))))
      (pss_cons (ps_if (PW.pt (pw_and (pt_cmpR (op_eqU hu64) (pe_slice sl_U (pv 0) (po_some (pv 1)) (po_some (pv 4))) (pv 3) (by first | exact nomark _ | rfl)) (pw_and1 (pt_cmpR (op_neU hu64) (pe_slice sl_U (pv 0) (po_some (pv 4)) (po_some (pe_op op_addU (pv 4) pe_int))) (pe_strT (show (PySem.Str.ofString "'") = T [39] by decide +kernel)) (by first | exact nomark _ | rfl))))) (pss_one (ps_ret (pv 4))) pss_nil)
      (pss_one (ps_ret (pv 1)))))) pss_nil)
      (pss_cons (ps_set (i := 4) sc__law_symbol_end.nd rfl (by first | exact Or.inl rfl | exact Or.inr rfl) (pe_op op_addU (pe_op op_addU (pv 1) pe_int) (pe_callB call_lenU (by rfl) W.n_len bb_len (pa_cons (pv 2) pa_nil))))
      (pss_cons (ps_if (PW.pt (pw_or (pt_cmpR (op_neU hu64) (pe_ix (ix_U hu1) (pv 0) (pv 1) (fun _ _ => rfl)) (pe_strT (show (PySem.Str.ofString "#") = T [35] by decide +kernel)) (by first | exact nomark _ | rfl)) (pw_or1 (pt_cmpR (op_neU hu64) (pe_slice sl_U (pv 0) (po_some (pe_op op_addU (pv 1) pe_int)) (po_some (pv 4))) (pv 2) (by first | exact nomark _ | rfl))))) (pss_one (ps_ret (pv 1))) pss_nil)
      (pss_cons (ps_set (i := 5) sc__law_symbol_end.nd rfl (by first | exact Or.inl rfl | exact Or.inr rfl) (pe_call (ok__law_name_end W) (hr.mono (by decide)) rfl W.g__law_name_end W.F__law_name_end.kp W.b__law_name_end .nil pass0 (pa_cons (pv 0) (pa_cons (pe_op op_addU (pv 1) pe_int) pa_nil))))
      (pss_cons (ps_if (PW.pt (pw_or (pt_cmpR (op_eqU hu64) (pv 5) (pe_op op_addU (pv 1) pe_int) (by first | exact nomark _ | rfl)) (pw_or1 (pt_not (pt_truth (pe_call (ok__law_colon W) (hr.mono (by decide)) rfl W.g__law_colon W.F__law_colon.kp W.b__law_colon .nil pass0 (pa_cons (pv 0) (pa_cons (pv 5) pa_nil))) (by intro _; rfl)))))) (pss_one (ps_ret (pe_ifExp (PW.pt (pw_and (pt_cmpR (op_eqU hu64) (pv 5) (pv 4) (by first | exact nomark _ | rfl)) (pw_and1 (pt_cmpR op_gtU (pv 5) (pe_op op_addU (pv 1) pe_int) (by first | exact nomark _ | rfl))))) (pv 5) (pv 1)))) pss_nil)
      (pss_cons (ps_while PassesOwn.never (PW.pt (pw_and (pt_cmpR op_ltU (pv 5) (pe_callB call_lenU (by rfl) W.n_len bb_len (pa_cons (pv 0) pa_nil)) (by first | exact nomark _ | rfl)) (pw_and1 (pt_truth (pe_call (ok__law_colon W) (hr.mono (by decide)) rfl W.g__law_colon W.F__law_colon.kp W.b__law_colon .nil pass0 (pa_cons (pv 0) (pa_cons (pv 5) pa_nil))) (by intro _; rfl))))) (pss_cons (ps_set (i := 6) sc__law_symbol_end.nd rfl (by first | exact Or.inl rfl | exact Or.inr rfl) (pe_op op_addU (pv 5) pe_int))
      (pss_cons (ps_set (i := 5) sc__law_symbol_end.nd rfl (by first | exact Or.inl rfl | exact Or.inr rfl) (pe_call (ok__law_name_end W) (hr.mono (by decide)) rfl W.g__law_name_end W.F__law_name_end.kp W.b__law_name_end .nil pass0 (pa_cons (pv 0) (pa_cons (pv 6) pa_nil))))
      (pss_cons (ps_if (PW.pt (pw_and (pt_cmpR (op_eqU hu64) (pv 6) (pv 4) (by first | exact nomark _ | rfl)) (pw_and1 (PW.pt (pw_or (pt_cmpR (op_eqU hu64) (pv 5) (pv 6) (by first | exact nomark _ | rfl)) (pw_or1 (pt_not (pt_truth (pe_call (ok__law_colon W) (hr.mono (by decide)) rfl W.g__law_colon W.F__law_colon.kp W.b__law_colon .nil pass0 (pa_cons (pv 0) (pa_cons (pv 5) pa_nil))) (by intro _; rfl))))))))) (pss_one (ps_ret (pv 4))) pss_nil)
      (pss_one (ps_if (pt_cmpR (op_eqU hu64) (pv 5) (pv 6) (by first | exact nomark _ | rfl)) (pss_one (ps_ret (pv 1))) pss_nil))))))
      (pss_one (ps_ret (pv 1))))))))), ?_⟩
  refine z_start (σ := [some _, some _, some _, none, none, none, none]) rfl ?_
  one_sign
  obtain ⟨c, hc, hal⟩ : ∃ c, L[a]? = some c ∧ a < L.length := by
    rcases hS with ⟨h, _⟩ | ⟨h, _⟩ <;> exact ⟨_, h, (List.getElem?_eq_some_iff.mp h).1⟩
  refine z_chr hl rfl hc ?_
  one_sign
  rw [dec1]
  refine iteD (fun h => ?_) (fun h => ?_)
  · subst h
    obtain ⟨r, hr, hre⟩ : ∃ r, QS L (a + 1) = some r ∧ r = (z, e) := by
      rcases hS with ⟨h, _⟩ | ⟨_, h⟩
      · rw [hc] at h; cases h
      · unfold rdQuo at h
        obtain ⟨r, hr, e2⟩ := Option.map_eq_some_iff.mp h
        obtain ⟨r1, r2⟩ := r
        simp at e2
        exact ⟨_, hr, by rw [e2.1, e2.2]⟩
    subst hre
    obtain ⟨d1, d2, d3, d4⟩ := QS_dbl hr
    have d1 : a + 1 < e := d1
    have d2 : sub L (a + 1) (e - 1) = dbl z := d2
    have d3 : L[e - 1]? = some 39 := d3
    have d4 : L[e]? ≠ some 39 := d4
    have he := (List.getElem?_eq_some_iff.mp d3).1
    have dl : (dbl z).length = e - 1 - (a + 1) := by rw [← d2]; unfold sub; rw [List.length_take, List.length_drop]; omega
    have hz := dbl_len z
    one_sign
    refine z_repl1 (by show z.length + (z.length + 1) * 2 ≤ _; omega) (by decide) ?_
    refine z_addS (by show 1 + (dbl z).length ≤ _; rw [sizeLine_eq]; omega) ?_
    rw [T_app]
    one_sign
    refine z_addS (by show ([39] ++ dbl z).length + 1 ≤ _; rw [sizeLine_eq]; simp; omega) ?_
    rw [T_app]
    one_sign
    have hfl : ([39] ++ dbl z ++ [39]).length = e - a := by simp; omega
    refine z_lenT' (by rw [hfl]; omega) ?_
    rw [hfl]
    one_sign
    have hse : sub L a e = [39] ++ dbl z ++ [39] := by
      rw [← sub_app (i := a) (j := e - 1) (k := e) (by omega) (by omega), sub_cons hc (by omega), d2, sub_cons d3 (by omega), show e - 1 + 1 = e by omega, sub_nil]
      rfl
    refine z_sl2 a e hl rfl (by omega) ?_
    one_sign
    rw [hse]
    refine iteD (fun _ => ?_) (fun z => absurd rfl z)
    one_sign
    refine z_sl2 e (e + 1) hl (by omega) (by omega) ?_
    one_sign
    rw [show sub L e (e + 1) = chs L e by unfold sub chs; rw [show e + 1 - e = 1 by omega], chs_dec, decide_eq_false d4]
    one_sign
    rw [show (a : Int) + ((e - a : Nat) : Int) = (e : Int) by omega]
    exact k
  · have hh : L[a]? = some 35 ∧ rdHash L a = some (⟨a, SYM, .s z⟩, e) := by
      rcases hS with h' | ⟨h', _⟩
      · exact h'
      · rw [hc] at h'; cases h'; exact absurd rfl h
    obtain ⟨h35, hrd⟩ := hh
    rw [hc] at h35
    cases h35
    unfold rdHash at hrd
    cases hx : ne L (a + 1) with
    | none => rw [hx] at hrd; cases hrd
    | some f =>
      rw [hx] at hrd
      simp only at hrd
      have hlt := ne_lt hx
      have hE : e = if ke L f = true then HE L (f + 1) else f := by
        split at hrd
        · rename_i hk; rw [if_pos hk]; cases hrd; rfl
        · rename_i hk; rw [if_neg hk]; cases hrd; rfl
      have hZ : z = sub L (a + 1) e := by
        split at hrd
        · rename_i hk; rw [if_pos hk] at hE; rw [hE]; cases hrd; rfl
        · rename_i hk; rw [if_neg hk] at hE; rw [hE]; cases hrd; rfl
      have hel : f ≤ e ∧ e ≤ L.length := by
        rw [hE]
        split
        · rename_i hk; have := ke_lt hk; have := HE_ge L (f + 1); have := HE_le L (f + 1) (by omega); omega
        · omega
      have hzl : z.length = e - (a + 1) := by rw [hZ]; unfold sub; rw [List.length_take, List.length_drop]; omega
      one_sign
      refine z_lenT' (by omega) ?_
      rw [hzl]
      one_sign
      refine z_chr hl rfl hc ?_
      one_sign
      rw [dec1, decide_eq_true rfl]
      rw [show (a : Int) + 1 + ((e - (a + 1) : Nat) : Int) = (e : Int) by omega]
      one_sign
      refine z_sl2 (a + 1) e hl (by omega) (by omega) ?_
      rw [← hZ]
      one_sign
      rw [decide_eq_true rfl]
      one_sign
      refine ⟨L, a + 1, rfl, hl, ?_⟩
      have hf1 : lne L (a + 1) = f := by unfold lne; rw [hx]; rfl
      rw [hf1]
      one_sign
      refine iteD (fun h => by omega) (fun _ => ?_)
      one_sign
      refine ⟨L, f, rfl, hl, ?_⟩
      one_sign
      refine iteB (fun hk => ?_) (fun hk => ?_)
      · have hk' : ke L f = false := by simpa using hk
        rw [hk'] at hE
        have hE : e = f := hE
        subst hE
        one_sign
        refine iteD (fun _ => ?_) (fun z => absurd rfl z)
        one_sign
        refine iteD (fun _ => ?_) (fun z => by omega)
        one_sign
        exact k
      · have hk' : ke L f = true := by simpa using hk
        rw [if_pos hk'] at hE
        one_sign
        refine ⟨fun n σ H' => ∃ (s : Nat) (v6 : Option V), σ = [some (.str (T L)), some (.int (a : Int)), some (.str (T z)), none, some (.int (e : Int)), some (.int (s : Int)), v6] ∧ H' = H ∧ ke L s = true ∧ HE L (s + 1) = e ∧ n = L.length - s, ⟨_, f, _, rfl, rfl, hk', hE.symm, rfl⟩, ?_⟩
        rintro n σ H2 ⟨s, v6, rfl, rfl, hks, hHE, rfl⟩
        have hsl := ke_lt hks
        one_sign
        refine z_lenT' hl ?_
        one_sign
        refine iteD (fun _ => ?_) (fun z => by omega)
        one_sign
        refine ⟨L, s, rfl, hl, ?_⟩
        rw [hks]
        one_sign
        refine ⟨_, fun _ _ z => z, ?_⟩
        one_sign
        refine ⟨L, s + 1, rfl, hl, ?_⟩
        have hge := HE_ge L (s + 1)
        cases hy : ne L (s + 1) with
        | none =>
          have h1 : lne L (s + 1) = s + 1 := by unfold lne; rw [hy]; rfl
          rw [HE_no hy] at hHE
          rw [h1]
          one_sign
          refine iteD (fun _ => ?_) (fun z => by omega)
          one_sign
          refine iteD (fun _ => ?_) (fun z => by omega)
          one_sign
          exact k
        | some g =>
          have h1 : lne L (s + 1) = g := by unfold lne; rw [hy]; rfl
          have hg := ne_lt hy
          rw [h1]
          one_sign
          have next : ke L g = true → HE L (g + 1) = e → ∃ m', m' < L.length - s ∧ ∃ (s_1 : Nat) (v6 : Option V), [some (V.str (T L)), some (.int (a : Int)), some (.str (T z)), none, some (.int (e : Int)), some (.int (g : Int)), some (V.int ((s : Int) + 1))] = [some (.str (T L)), some (.int (a : Int)), some (.str (T z)), none, some (.int (e : Int)), some (.int (s_1 : Int)), v6] ∧ H2 = H2 ∧ ke L s_1 = true ∧ HE L (s_1 + 1) = e ∧ m' = L.length - s_1 := fun h2 h3 => by
            have := ke_lt h2
            exact ⟨_, by omega, g, _, rfl, rfl, h2, h3, rfl⟩
          cases hkg : ke L g with
          | false =>
            rw [HE_st hy hkg] at hHE
            refine iteD (fun _ => ?_) (fun z => by omega)
            one_sign
            refine iteD (fun z => by omega) (fun _ => ?_)
            one_sign
            refine ⟨L, g, rfl, hl, ?_⟩
            rw [hkg]
            one_sign
            exact k
          | true =>
            rw [HE_go hy hkg] at hHE
            have hge2 := HE_ge L (g + 1)
            refine iteD (fun z => by omega) (fun _ => ?_)
            one_sign
            refine iteD (fun z => by omega) (fun _ => ?_)
            one_sign
            exact next hkg hHE
/-- a token's kind goes with its value -/
theorem rdTok_kinds {L : List Nat} {a e : Nat} {t : Tok} (h : rdTok L a = some (t, e)) : t.at' = a ∧
    ((t.kind = SYM ∧ ∃ z, t.val = .s z ∧ SymAt L a z e) ∨ (t.kind = NUM ∧ ∃ n, t.val = .n n ∧ inAt L a DIG = true ∧ rdNum L a = some (t, e)) ∨
     (t.kind = NAM ∧ t.val = .s (sub L a e) ∧ ne L a = some e ∧ ke L e = false) ∨ (t.kind = KEY ∧ t.val = .s (sub L a e) ∧ ∃ f, ne L a = some f ∧ e = f + 1 ∧ ke L f = true) ∨
     (t.kind = SIG ∧ t.val = .s (sub L a e) ∧ inAt L a SGN = true ∧ e = (rdSign L a).2) ∨
     (t.kind = MAR ∧ t.val = .s (sub L a e) ∧ ((e = a + 2 ∧ L[a]? = some 58 ∧ L[a + 1]? = some 61) ∨ (e = a + 1 ∧ ∃ c, L[a]? = some c ∧ c ∈ MRK ∧ ¬ (c = 58 ∧ L[a + 1]? = some 61))))) := by
  unfold rdTok at h
  cases hc : L[a]? with
  | none => rw [hc] at h; cases h
  | some c =>
    rw [hc] at h
    simp only at h
    split at h
    · cases hn : ne L a with
      | none => rw [rdName_no hn] at h; cases h
      | some f =>
        cases hk : ke L f with
        | true => rw [rdName_key hn hk] at h; cases h; exact ⟨rfl, .inr (.inr (.inr (.inl ⟨rfl, rfl, f, rfl, rfl, hk⟩)))⟩
        | false => rw [rdName_nam hn hk] at h; cases h; exact ⟨rfl, .inr (.inr (.inl ⟨rfl, rfl, rfl, hk⟩))⟩
    · split at h
      · rename_i hd
        have h0 := h
        unfold rdNum at h
        split at h
        · cases h
        · split at h
          · cases h
          · cases h
            exact ⟨rfl, .inr (.inl ⟨rfl, _, rfl, by rw [inAt_some hc]; simpa using hd, h0⟩)⟩
      · split at h
        · rename_i h35
          subst h35
          have h0 := h
          unfold rdHash at h
          cases hn : ne L (a + 1) with
          | none => rw [hn] at h; cases h
          | some f =>
            rw [hn] at h
            simp only at h
            split at h
            · cases h; exact ⟨rfl, .inl ⟨rfl, _, rfl, .inl ⟨hc, h0⟩⟩⟩
            · cases h; exact ⟨rfl, .inl ⟨rfl, _, rfl, .inl ⟨hc, h0⟩⟩⟩
        · split at h
          · rename_i h39
            subst h39
            have h0 := h
            unfold rdQuo at h
            obtain ⟨r, hr, e2⟩ := Option.map_eq_some_iff.mp h
            cases e2
            exact ⟨rfl, .inl ⟨rfl, _, rfl, .inr ⟨hc, h0⟩⟩⟩
          · split at h
            · rename_i hs
              have hs' : inAt L a SGN = true := by rw [inAt_some hc]; simpa using hs
              have e0 : (t, e) = rdSign L a := (Option.some.inj h).symm
              have e1 : t = (rdSign L a).1 := congrArg Prod.fst e0
              have e2 : e = (rdSign L a).2 := congrArg Prod.snd e0
              refine ⟨?_, .inr (.inr (.inr (.inr (.inl ⟨?_, ?_, hs', e2⟩))))⟩ <;> rw [e1] <;> try rw [e2]
              · unfold rdSign; split <;> rfl
              · unfold rdSign; split <;> rfl
              · unfold rdSign; split <;> rfl
            · split at h
              · rename_i hs
                cases h
                obtain ⟨rfl, h61⟩ := hs
                refine ⟨rfl, .inr (.inr (.inr (.inr (.inr ⟨rfl, ?_, .inl ⟨rfl, rfl, h61⟩⟩))))⟩
                rw [sub_cons hc (by omega), sub_cons h61 (by omega), sub_nil]
              · rename_i hs
                split at h
                · rename_i hm
                  cases h
                  refine ⟨rfl, .inr (.inr (.inr (.inr (.inr ⟨rfl, ?_, .inr ⟨rfl, c, rfl, hm, hs⟩⟩))))⟩
                  rw [sub_cons hc (by omega), sub_nil]
                · cases h
theorem num_back {ds : List Nat} (h : NumText.AllDigits ds) (h0 : ds ≠ []) (h1 : ds.length = 1 ∨ ∃ c r, ds = c :: r ∧ 49 ≤ c) : PySem.Str.ofString (toString ((NumText.digitsVal ds : Nat) : Int)) = T ds := by
  have e1 : (PySem.Str.ofString (toString ((NumText.digitsVal ds : Nat) : Int))).cps.toList = ds := by
    rw [PySem.W.KIN.signs_num]
    obtain ⟨n, hn⟩ : ∃ n, ds.length = n + 1 := ⟨ds.length - 1, by have := List.length_pos_iff.mpr h0; omega⟩
    rw [NumText.toDigits_digitsVal n ds hn h (by rcases h1 with z | z; exact Or.inl (by omega); exact Or.inr z), List.map_map]
    conv => rhs; rw [← List.map_id ds]
    refine List.map_congr_left fun c hc => ?_
    have hc := h c hc
    have : ∀ c, c < 58 → (Char.toNat ∘ Char.ofNat) c = id c := by decide
    exact this c (by omega)
  rw [T_of_list (PySem.Str.ofString _), e1]
theorem val_lt (ds : List Nat) (h : NumText.AllDigits ds) : NumText.digitsVal ds < 10 ^ ds.length := by
  have : ∀ (ds : List Nat) (acc : Nat), (∀ c ∈ ds, 48 ≤ c ∧ c ≤ 57) → ds.foldl (fun acc c => acc * 10 + (c - 48)) acc < (acc + 1) * 10 ^ ds.length := by
    intro ds
    induction ds with
    | nil => intro acc _; simp
    | cons c r ih =>
      intro acc hc
      rw [List.foldl_cons, List.length_cons, Nat.pow_succ]
      have h1 := ih (acc * 10 + (c - 48)) (fun d hd => hc d (List.mem_cons_of_mem _ hd))
      have h2 := hc c List.mem_cons_self
      have h3 : acc * 10 + (c - 48) + 1 ≤ (acc + 1) * 10 := by omega
      have h4 := Nat.mul_le_mul_right (10 ^ r.length) h3
      have h5 : (acc + 1) * 10 * 10 ^ r.length = (acc + 1) * (10 ^ r.length * 10) := by rw [Nat.mul_assoc, Nat.mul_comm 10]
      omega
  have := this ds 0 h
  simpa [NumText.digitsVal] using this
theorem Tt_dec (x y : List Nat) : decide (T x = T y) = decide (x = y) := by
  by_cases h : x = y
  · rw [h]; simp
  · rw [decide_eq_false h, decide_eq_false (fun e => h (T_inj e))]
theorem rdNum_some {L : List Nat} {a e : Nat} {t : Tok} (h : rdNum L a = some (t, e)) (hd : inAt L a DIG = true) : e = a + run L a DIG ∧ inAt L e LET = false ∧ run L a DIG ≤ 9 ∧ t = ⟨a, NUM, .n (NumText.digitsVal (sub L a e))⟩ ∧
    PySem.Str.ofString (toString ((NumText.digitsVal (sub L a e) : Nat) : Int)) = T (sub L a e) ∧ NumText.digitsVal (sub L a e) < 1000000000 := by
  unfold rdNum at h
  split at h
  · cases h
  · rename_i h1
    split at h
    · cases h
    · rename_i h2
      cases h
      have hr0 := run_pos hd
      have hrl := run_le L a DIG
      obtain ⟨c, hc, hcd⟩ := inAt_true hd
      have hal := (List.getElem?_eq_some_iff.mp hc).1
      have hsl : (sub L a (a + run L a DIG)).length = run L a DIG := by unfold sub; rw [List.length_take, List.length_drop]; omega
      have had : NumText.AllDigits (sub L a (a + run L a DIG)) := fun c hc => dig_rng c (by
        rw [sub_run (by omega)] at hc
        simpa using tw_mem hc)
      have h9 : run L a DIG ≤ 9 := by
        rcases Nat.lt_or_ge 9 (run L a DIG) with z | z
        · exact absurd (Or.inr z) h1
        · exact z
      refine ⟨rfl, by cases z : inAt L (a + run L a DIG) LET with | false => rfl | true => exact absurd (Or.inl z) h1, h9, rfl, num_back had (fun z => by rw [z] at hsl; simp at hsl; omega) ?_, ?_⟩
      · by_cases h3 : run L a DIG = 1
        · exact Or.inl (by omega)
        · refine Or.inr ⟨c, sub L (a + 1) (a + run L a DIG), sub_cons hc (by omega), ?_⟩
          have hc2 := dig_rng c hcd
          by_cases h4 : c = 48
          · exact absurd ⟨by rw [hc, h4], by omega⟩ h2
          · omega
      · have := val_lt _ had
        rw [hsl] at this
        have h5 : 10 ^ run L a DIG ≤ 10 ^ 9 := Nat.pow_le_pow_right (by decide) h9
        omega
theorem log9 {n : Nat} (h : n < 1000000000) : ((n : Int)).natAbs.log2 < 1920 := by
  rcases Nat.eq_zero_or_pos n with e | e
  · rw [e]; decide
  · exact Nat.lt_trans ((Nat.log2_lt (n := n) (k := 30) (by omega)).mpr (by omega)) (by decide)
def sp_ltok : Sp := fun vs H Q _ => ∃ (L : List Nat) (a e : Nat) (t : Tok), vs = [.str (T L), .int (a : Int), .str (T t.kind), tvV t.val] ∧ L.length ≤ 5000 ∧ rdTok L a = some (t, e) ∧ ∀ H', Fr [] H H' → Q (.int (e : Nat)) H'
theorem ok__law_token_end (W : Wd P K mg) : FnOk P w K mg base CX0 5 W.f__law_token_end W.fd__law_token_end ["_law_source_here", "_law_at", "_law_kind", "_law_value"] sp_ltok := by
  refine W.F__law_token_end.ok sc__law_token_end (fun vs H Q E h => by obtain ⟨L, a, e, t, rfl, hl, hT, k⟩ := h; rfl) (fun cdv A outer s H vs Q E hr h => ?_)
  obtain ⟨L, a, e, t, rfl, hl, hT, k⟩ := h
  have hu1 := hu_of hr
  have hu64 := hu64_of hr
  refine ⟨_, (pss_cons (ps_if (pt_cmpR (op_eqU hu64) (pv 2) (pe_strT (show (PySem.Str.ofString "symbol") = T [115, 121, 109, 98, 111, 108] by decide +kernel)) (by first | exact nomark _ | rfl)) (pss_one (ps_ret (pe_call (ok__law_symbol_end W) (hr.mono (by decide)) rfl W.g__law_symbol_end W.F__law_symbol_end.kp W.b__law_symbol_end .nil pass0 (pa_cons (pv 0) (pa_cons (pv 1) (pa_cons (pv 3) pa_nil)))))) pss_nil)
      (pss_cons (ps_if (pt_cmpR (op_eqU hu64) (pv 2) (pe_strT (show (PySem.Str.ofString "number") = T [110, 117, 109, 98, 101, 114] by decide +kernel)) (by first | exact nomark _ | rfl)) (pss_cons (ps_set (i := 4) sc__law_token_end.nd rfl (by first | exact Or.inl rfl | exact Or.inr rfl) (pe_call (ok__law_run W) (hr.mono (by decide)) rfl W.g__law_run W.F__law_run.kp W.b__law_run .nil pass0 (pa_cons (pv 0) (pa_cons (pv 1) (pa_cons (pe_strT e_DIG) pa_nil)))))
      (pss_cons (ps_if (PW.pt (pw_or (pt_truth (pe_call (ok__law_is_letter W) (hr.mono (by decide)) rfl W.g__law_is_letter W.F__law_is_letter.kp W.b__law_is_letter .nil pass0 (pa_cons (pv 0) (pa_cons (pv 4) pa_nil))) (by intro _; rfl)) (pw_or (pt_cmpR op_gtU (pe_op op_sub (pv 4) (pv 1)) pe_int (by first | exact nomark _ | rfl)) (pw_or1 (pt_cmpR (op_neU hu64) (pe_callTy call_strU (by rfl) W.n_str bb_str (pa_cons (pv 3) pa_nil)) (pe_slice sl_U (pv 0) (po_some (pv 1)) (po_some (pv 4))) (by first | exact nomark _ | rfl)))))) (pss_one (ps_ret (pv 1))) pss_nil)
      (pss_one (ps_ret (pv 4))))) pss_nil)
      (pss_cons (ps_set (i := 4) sc__law_token_end.nd rfl (by first | exact Or.inl rfl | exact Or.inr rfl) (pe_op op_addU (pv 1) (pe_callB call_lenU (by rfl) W.n_len bb_len (pa_cons (pv 3) pa_nil))))
      (pss_cons (ps_if (pt_cmpR (op_neU hu64) (pe_slice sl_U (pv 0) (po_some (pv 1)) (po_some (pv 4))) (pv 3) (by first | exact nomark _ | rfl)) (pss_one (ps_ret (pv 1))) pss_nil)
      (pss_cons (ps_if (pt_cmpR (op_eqU hu64) (pv 2) (pe_strT (show (PySem.Str.ofString "name") = T [110, 97, 109, 101] by decide +kernel)) (by first | exact nomark _ | rfl)) (pss_one (ps_ret (pe_ifExp (PW.pt (pw_and (pt_cmpR (op_eqU hu64) (pe_call (ok__law_name_end W) (hr.mono (by decide)) rfl W.g__law_name_end W.F__law_name_end.kp W.b__law_name_end .nil pass0 (pa_cons (pv 0) (pa_cons (pv 1) pa_nil))) (pv 4) (by first | exact nomark _ | rfl)) (pw_and1 (pt_not (pt_truth (pe_call (ok__law_colon W) (hr.mono (by decide)) rfl W.g__law_colon W.F__law_colon.kp W.b__law_colon .nil pass0 (pa_cons (pv 0) (pa_cons (pv 4) pa_nil))) (by intro _; rfl)))))) (pv 4) (pv 1)))) pss_nil)
      (pss_cons (ps_if (pt_cmpR (op_eqU hu64) (pv 2) (pe_strT (show (PySem.Str.ofString "keyword") = T [107, 101, 121, 119, 111, 114, 100] by decide +kernel)) (by first | exact nomark _ | rfl)) (pss_one (ps_ret (pe_ifExp (PW.pt (pw_and (pt_cmpR (op_eqU hu64) (pe_call (ok__law_name_end W) (hr.mono (by decide)) rfl W.g__law_name_end W.F__law_name_end.kp W.b__law_name_end .nil pass0 (pa_cons (pv 0) (pa_cons (pv 1) pa_nil))) (pe_op op_sub (pv 4) pe_int) (by first | exact nomark _ | rfl)) (pw_and1 (pt_truth (pe_call (ok__law_colon W) (hr.mono (by decide)) rfl W.g__law_colon W.F__law_colon.kp W.b__law_colon .nil pass0 (pa_cons (pv 0) (pa_cons (pe_op op_sub (pv 4) pe_int) pa_nil))) (by intro _; rfl))))) (pv 4) (pv 1)))) pss_nil)
      (pss_cons (ps_if (pt_cmpR (op_eqU hu64) (pv 2) (pe_strT (show (PySem.Str.ofString "sign") = T [115, 105, 103, 110] by decide +kernel)) (by first | exact nomark _ | rfl)) (pss_one (ps_ret (pe_ifExp (pt_cmpR (op_eqU hu64) (pe_callB (call_min2 rfl) (by rfl) W.n_min bb_min (pa_cons (pe_op op_addU (pv 1) pe_int) (pa_cons (pe_call (ok__law_run W) (hr.mono (by decide)) rfl W.g__law_run W.F__law_run.kp W.b__law_run .nil pass0 (pa_cons (pv 0) (pa_cons (pv 1) (pa_cons (pe_strT e_SGN) pa_nil)))) pa_nil))) (pv 4) (by first | exact nomark _ | rfl)) (pv 4) (pv 1)))) pss_nil)
      (pss_cons (ps_if (PW.pt (pw_or (pt_cmpR (op_neU hu64) (pv 2) (pe_strT (show (PySem.Str.ofString "mark") = T [109, 97, 114, 107] by decide +kernel)) (by first | exact nomark _ | rfl)) (pw_or1 (pt_cmpR (op_ninU hu1) (pv 3) (pe_lst (pa_cons (pe_strT (show (PySem.Str.ofString ":=") = T [58, 61] by decide +kernel)) (pa_cons (pe_strT (show (PySem.Str.ofString ":") = T [58] by decide +kernel)) (pa_cons (pe_strT (show (PySem.Str.ofString "^") = T [94] by decide +kernel)) (pa_cons (pe_strT (show (PySem.Str.ofString ".") = T [46] by decide +kernel)) (pa_cons (pe_strT (show (PySem.Str.ofString "|") = T [124] by decide +kernel)) (pa_cons (pe_strT (show (PySem.Str.ofString "(") = T [40] by decide +kernel)) (pa_cons (pe_strT (show (PySem.Str.ofString ")") = T [41] by decide +kernel)) (pa_cons (pe_strT (show (PySem.Str.ofString "[") = T [91] by decide +kernel)) (pa_cons (pe_strT (show (PySem.Str.ofString "]") = T [93] by decide +kernel)) pa_nil)))))))))) (by first | exact nomark _ | rfl))))) (pss_one (ps_ret (pv 1))) pss_nil)
      (pss_one (ps_ret (pe_ifExp (PW.pt (pw_and (pt_cmpR (op_eqU hu64) (pv 3) (pe_strT (show (PySem.Str.ofString ":") = T [58] by decide +kernel)) (by first | exact nomark _ | rfl)) (pw_and1 (pt_cmpR (op_eqU hu64) (pe_slice sl_U (pv 0) (po_some (pv 4)) (po_some (pe_op op_addU (pv 4) pe_int))) (pe_strT (show (PySem.Str.ofString "=") = T [61] by decide +kernel)) (by first | exact nomark _ | rfl))))) (pv 1) (pv 4)))))))))))), ?_⟩
  refine z_start (σ := [some _, some _, some _, some _, none]) rfl ?_
  one_sign
  obtain ⟨_, hK⟩ := rdTok_kinds hT
  have hlt := rdTok_lt hT
  rw [Tt_dec]
  refine iteD (fun h => ?_) (fun h => ?_)
  · rcases hK with ⟨_, z, hz, hS⟩ | ⟨hk, _⟩ | ⟨hk, _⟩ | ⟨hk, _⟩ | ⟨hk, _⟩ | ⟨hk, _⟩
    · rw [hz]
      one_sign
      exact ⟨L, a, z, e, rfl, hl, hS, k H Fr.rfl'⟩
    all_goals (rw [hk] at h; exact absurd h (by decide))
  one_sign
  rw [Tt_dec]
  refine iteD (fun h2 => ?_) (fun h2 => ?_)
  · rcases hK with ⟨hk, _⟩ | ⟨_, n, hz, hD, hN⟩ | ⟨hk, _⟩ | ⟨hk, _⟩ | ⟨hk, _⟩ | ⟨hk, _⟩
    · rw [hk] at h2; exact absurd h2 (by decide)
    · obtain ⟨n1, n2, n3, n4, n5, n6⟩ := rdNum_some hN hD
      have hn : n = NumText.digitsVal (sub L a e) := by rw [n4] at hz; cases hz; rfl
      rw [← hn] at n5 n6
      rw [hz]
      one_sign
      refine ⟨L, a, DIG, rfl, hl, ?_⟩
      rw [← n1]
      one_sign
      refine ⟨L, e, rfl, hl, ?_⟩
      rw [n2]
      one_sign
      refine iteD (fun z => by omega) (fun _ => ?_)
      one_sign
      show rStrU [.int (n : Int)] _ _
      refine ⟨log9 n6, ?_⟩
      one_sign
      refine z_sl2 a e hl rfl rfl ?_
      one_sign
      rw [n5, decide_eq_true rfl]
      one_sign
      exact k H Fr.rfl'
    all_goals (rw [hk] at h2; exact absurd h2 (by decide))
  have hv : t.val = .s (sub L a e) := by
    rcases hK with ⟨hk, _⟩ | ⟨hk, _⟩ | ⟨_, hv, _⟩ | ⟨_, hv, _⟩ | ⟨_, hv, _⟩ | ⟨_, hv, _⟩
    · exact absurd hk h
    · exact absurd hk h2
    all_goals exact hv
  rw [hv]
  have hsl : (sub L a e).length = e - a := by unfold sub; rw [List.length_take, List.length_drop]; omega
  show tSeq _ _ _ [_, _, _, some (.str (T (sub L a e))), _] _
  one_sign
  refine z_lenT' (by omega) ?_
  rw [hsl]
  one_sign
  rw [show (a : Int) + ((e - a : Nat) : Int) = (e : Int) by omega]
  one_sign
  refine z_sl2 a e hl rfl rfl ?_
  one_sign
  rw [decide_eq_true rfl]
  one_sign
  rw [Tt_dec]
  refine iteD (fun h3 => ?_) (fun h3 => ?_)
  · rcases hK with ⟨hk, _⟩ | ⟨hk, _⟩ | ⟨_, _, hx, hke⟩ | ⟨hk, _⟩ | ⟨hk, _⟩ | ⟨hk, _⟩
    · exact absurd hk h
    · exact absurd hk h2
    · one_sign
      refine ⟨L, a, rfl, hl, ?_⟩
      rw [show lne L a = e by unfold lne; rw [hx]; rfl]
      one_sign
      refine iteD (fun _ => ?_) (fun z => by omega)
      one_sign
      refine ⟨L, e, rfl, hl, ?_⟩
      rw [hke]
      one_sign
      exact k H Fr.rfl'
    all_goals (rw [hk] at h3; exact absurd h3 (by decide))
  one_sign
  rw [Tt_dec]
  refine iteD (fun h4 => ?_) (fun h4 => ?_)
  · rcases hK with ⟨hk, _⟩ | ⟨hk, _⟩ | ⟨hk, _⟩ | ⟨_, _, f, hx, rfl, hke⟩ | ⟨hk, _⟩ | ⟨hk, _⟩
    · exact absurd hk h
    · exact absurd hk h2
    · exact absurd hk h3
    · one_sign
      refine ⟨L, a, rfl, hl, ?_⟩
      rw [show lne L a = f by unfold lne; rw [hx]; rfl]
      one_sign
      refine iteD (fun _ => ?_) (fun z => by omega)
      one_sign
      refine ⟨L, f, by rw [show ((f + 1 : Nat) : Int) - 1 = (f : Int) by omega]; rfl, hl, ?_⟩
      rw [hke]
      one_sign
      exact k H Fr.rfl'
    all_goals (rw [hk] at h4; exact absurd h4 (by decide))
  one_sign
  rw [Tt_dec]
  refine iteD (fun h5 => ?_) (fun h5 => ?_)
  · rcases hK with ⟨hk, _⟩ | ⟨hk, _⟩ | ⟨hk, _⟩ | ⟨hk, _⟩ | ⟨_, _, hs, he⟩ | ⟨hk, _⟩
    · exact absurd hk h
    · exact absurd hk h2
    · exact absurd hk h3
    · exact absurd hk h4
    · obtain ⟨c, hc, hcs⟩ := inAt_true hs
      have hr1 := run_go hc hcs
      have hmin : e ≤ a + run L a SGN ∧ (e = a + 2 ∨ (e = a + 1 ∧ run L a SGN = 1)) := by
        unfold rdSign at he
        by_cases h6 : inAt L (a + 1) SGN = true
        · rw [if_pos h6] at he
          have := run_pos h6
          have he : e = a + 2 := he
          exact ⟨by omega, Or.inl he⟩
        · rw [if_neg h6] at he
          have h6' : isIn (chs L (a + 1)) SGN = false := by cases z : isIn (chs L (a + 1)) SGN with | false => rfl | true => exact absurd z h6
          have h7 := run_no h6'
          have he : e = a + 1 := he
          exact ⟨by omega, Or.inr ⟨he, by omega⟩⟩
      one_sign
      refine ⟨L, a, SGN, rfl, hl, ?_⟩
      one_sign
      refine ⟨_, _, rfl, ?_⟩
      one_sign
      refine iteD (fun _ => ?_) (fun z => absurd (by split <;> omega) z)
      one_sign
      exact k H Fr.rfl'
    · rw [hk] at h5; exact absurd h5 (by decide)
  have hM : t.kind = MAR ∧ ((e = a + 2 ∧ L[a]? = some 58 ∧ L[a + 1]? = some 61) ∨ (e = a + 1 ∧ ∃ c, L[a]? = some c ∧ c ∈ MRK ∧ ¬ (c = 58 ∧ L[a + 1]? = some 61))) := by
    rcases hK with ⟨hk, _⟩ | ⟨hk, _⟩ | ⟨hk, _⟩ | ⟨hk, _⟩ | ⟨hk, _⟩ | ⟨hk, _, h6⟩
    · exact absurd hk h
    · exact absurd hk h2
    · exact absurd hk h3
    · exact absurd hk h4
    · exact absurd hk h5
    · exact ⟨hk, h6⟩
  one_sign
  rw [Tt_dec, hM.1]
  one_sign
  rw [show (!decide (MAR = [109, 97, 114, 107])) = false by decide]
  one_sign
  refine z_newL (by show 9 ≤ sizeLine; decide) fun q H1 hq f1 q1 => ?_
  one_sign
  have hval : sub L a e = [58, 61] ∨ ∃ c, sub L a e = [c] ∧ c ∈ MRK ∧ ¬ (c = 58 ∧ L[e]? = some 61) := by
    rcases hM.2 with ⟨rfl, h6, h7⟩ | ⟨rfl, c, h6, h7, h8⟩
    · exact Or.inl (by rw [sub_cons h6 (by omega), sub_cons h7 (by omega), sub_nil])
    · exact Or.inr ⟨c, by rw [sub_cons h6 (by omega), sub_nil], h7, h8⟩
  have hin : inV (.str (T (sub L a e))) [.str (T [58, 61]), .str (T [58]), .str (T [94]), .str (T [46]), .str (T [124]), .str (T [40]), .str (T [41]), .str (T [91]), .str (T [93])] = true := by
    rcases hval with h | ⟨c, h, hc, _⟩
    · rw [h]; decide +kernel
    · rw [h]
      have : ∀ c ∈ MRK, inV (.str (T [c])) [.str (T [58, 61]), .str (T [58]), .str (T [94]), .str (T [46]), .str (T [124]), .str (T [40]), .str (T [41]), .str (T [91]), .str (T [93])] = true := by decide +kernel
      exact this c hc
  refine Or.inl ⟨_, Or.inl (SqL.of q1), rfl, rfl, ?_⟩
  rw [hin]
  one_sign
  rw [Tt_dec]
  refine iteD (fun h6 => ?_) (fun h6 => ?_)
  · one_sign
    refine z_sl2 e (e + 1) hl rfl (by omega) ?_
    one_sign
    rw [show sub L e (e + 1) = chs L e by unfold sub chs; rw [show e + 1 - e = 1 by omega], chs_dec]
    refine iteD (fun h7 => ?_) (fun _ => ?_)
    · exfalso
      rcases hval with h | ⟨c, h, hc, hn⟩
      · rw [h] at h6; exact absurd h6 (by decide)
      · rw [h] at h6; exact hn ⟨by simpa using h6, h7⟩
    · one_sign
      exact k H1 f1
  · one_sign
    exact k H1 f1
def TokOk (t : Tok) : Prop := (t.kind = NUM ∧ ∃ n, t.val = .n n ∧ n < 1000000000) ∨ (t.kind ≠ NUM ∧ ∃ z, t.val = .s z ∧ (t.kind = SYM ∨ z ≠ []))
theorem rdTok_ok {L : List Nat} {a e : Nat} {t : Tok} (h : rdTok L a = some (t, e)) : TokOk t := by
  have hlt := rdTok_lt h
  obtain ⟨_, hK⟩ := rdTok_kinds h
  have hsub : sub L a e ≠ [] := fun z => by
    have := congrArg List.length z
    unfold sub at this
    rw [List.length_take, List.length_drop] at this
    simp at this
    omega
  rcases hK with ⟨hk, z, hz, _⟩ | ⟨hk, n, hz, hd, hn⟩ | ⟨hk, hv, _⟩ | ⟨hk, hv, _⟩ | ⟨hk, hv, _⟩ | ⟨hk, hv, _⟩
  · exact Or.inr ⟨by rw [hk]; decide, z, hz, Or.inl hk⟩
  · obtain ⟨_, _, _, e1, _, e2⟩ := rdNum_some hn hd
    exact Or.inl ⟨hk, _, by rw [e1], e2⟩
  all_goals exact Or.inr ⟨by rw [hk]; decide, _, hv, Or.inr hsub⟩
end

end LX
namespace LX
open PySem PySem.Spec PyProof.Rows L2 NdefX CwR
local macro_rules | `(tactic| none_booked) => `(tactic| first | assumption | (refine Fr.g0 (by assumption) ?_; none_booked))
local macro_rules | `(tactic| one_sign) => `(tactic| repeat (first
  | refine Stp.h ?_
  | ((with_reducible refine' z_fld1 ?k0 ?k1 ?k2 ?k3 ?_); (case k0 => none_booked); (case k1 => k_ownIn); (case k2 => k_memK); (case k3 => rfl))
  | ((with_reducible refine' z_meth1 ?k0 ?k1 ?_); (case k0 => none_booked); (case k1 => rfl))
  | ((with_reducible refine' z_bmL ?k0 ?_); (case k0 => none_booked))
  | ((with_reducible refine' z_lenL ?k0 ?_); (case k0 => none_booked))
  | ((with_reducible refine' z_lenT ?k0 ?_); (case k0 => none_booked))
  | ((with_reducible refine' z_lenD ?k0 ?_); (case k0 => none_booked))
  | ((with_reducible refine' z_truL ?k0 ?_); (case k0 => none_booked))
  | ((with_reducible refine' z_truD ?k0 ?_); (case k0 => none_booked))
  | ((with_reducible refine' z_truT ?k0 ?_); (case k0 => none_booked))
  | ((with_reducible refine' z_inDIP ?k0 ?_); (case k0 => none_booked))
  | ((with_reducible refine' z_inDIN ?k0 ?_); (case k0 => none_booked))
  | ((with_reducible refine' z_inDfP ?k0 ?_); (case k0 => none_booked))
  | ((with_reducible refine' z_inDfN ?k0 ?_); (case k0 => none_booked))
  | ((with_reducible refine' z_iList1 ?k0 ?_); (case k0 => none_booked))
  | ((with_reducible refine' z_isi0 ?k0 ?k1 ?k2 ?_); (case k0 => exact (ClsV.ty _)); (case k1 => exact (TyX.base (TyOf.lst (by none_booked)))); (case k2 => first | exact kt_list_int | exact kt_list_bool | exact kt_list_str | exact kt_list_list | exact kt_list_tuple | exact kt_list_dict))
  | ((with_reducible refine' z_rI ?k0 ?_); (case k0 => first | exact (by decide : (0 : Int) < _) | exact ⟨by decide, by decide⟩ | exact ⟨by decide, by decide, by decide⟩ | (show (0 : Int) < _; omega)))
  | ((with_reducible refine' z_mulI ?k0 ?_); (case k0 => first | exact Or.inr ⟨by decide, by decide⟩ | exact Or.inl ⟨by decide, by decide⟩ | exact Or.inl ⟨by omega, by omega⟩ | exact Or.inr ⟨by omega, by omega⟩))))
local macro_rules | `(tactic| leaf_len) => `(tactic| (simp only [wipe, List.map_cons, List.map_nil, List.set_cons_zero, List.set_cons_succ]; one_sign; refine z_ok rfl ?_; one_sign))
section
variable {P : Program} {w : World} {K : PySem.W.Frag} {mg : Str → Option Value} {base : Heap}
def sp_ltis : Sp := fun vs H Q _ => ∃ (q : Addr) (t : Tok), vs = [.ref q] ∧ TokAt H q t ∧ TokOk t ∧ Q (.bl true) H
theorem ok__law_is_token (W : Wd P K mg) : FnOk P w K mg base CX0 1 W.f__law_is_token W.fd__law_is_token ["_law_token"] sp_ltis := by
  refine W.F__law_is_token.ok sc__law_is_token (fun vs H Q E h => by obtain ⟨q, t, rfl, hq, hO, k⟩ := h; rfl) (fun cdv A outer s H vs Q E hr h => ?_)
  obtain ⟨q, t, rfl, hq, hO, k⟩ := h
  have hu1 := hu_of hr
  have hu64 := hu64_of hr
  refine ⟨_, (pss_cons (ps_if (PW.pt (pw_or (pt_not (pt_truth (pe_callB call_isi (by rfl) W.n_isinstance bb_isinstance (pa_cons (pv 0) (pa_cons (pe_bt rfl W.n_tuple bb_tuple) pa_nil))) (by intro _; rfl))) (pw_or1 (pt_cmpR (op_neU hu64) (pe_callB call_lenU (by rfl) W.n_len bb_len (pa_cons (pv 0) pa_nil)) pe_int (by first | exact nomark _ | rfl))))) (pss_one (ps_ret pe_bl)) pss_nil)
      (pss_cons (ps_if (PW.pt (pw_or (pt_not (pt_truth (pe_callB call_isi (by rfl) W.n_isinstance bb_isinstance (pa_cons (pe_ix (ix_U hu1) (pv 0) pe_int (fun _ _ => rfl)) (pa_cons (pe_bt rfl W.n_int bb_int) pa_nil))) (by intro _; rfl))) (pw_or (pt_truth (pe_callB call_isi (by rfl) W.n_isinstance bb_isinstance (pa_cons (pe_ix (ix_U hu1) (pv 0) pe_int (fun _ _ => rfl)) (pa_cons (pe_bt rfl W.n_bool bb_bool) pa_nil))) (by intro _; rfl)) (pw_or1 (pt_not (pt_truth (pe_callB call_isi (by rfl) W.n_isinstance bb_isinstance (pa_cons (pe_ix (ix_U hu1) (pv 0) pe_int (fun _ _ => rfl)) (pa_cons (pe_bt rfl W.n_str bb_str) pa_nil))) (by intro _; rfl))))))) (pss_one (ps_ret pe_bl)) pss_nil)
      (pss_cons (ps_if (pt_cmpR (op_eqU hu64) (pe_ix (ix_U hu1) (pv 0) pe_int (fun _ _ => rfl)) (pe_strT (show (PySem.Str.ofString "number") = T [110, 117, 109, 98, 101, 114] by decide +kernel)) (by first | exact nomark _ | rfl)) (pss_one (ps_ret (pe_and (pe_callB call_isi (by rfl) W.n_isinstance bb_isinstance (pa_cons (pe_ix (ix_U hu1) (pv 0) pe_int (fun _ _ => rfl)) (pa_cons (pe_bt rfl W.n_int bb_int) pa_nil))) (pe_and (pe_notT (pe_callB call_isi (by rfl) W.n_isinstance bb_isinstance (pa_cons (pe_ix (ix_U hu1) (pv 0) pe_int (fun _ _ => rfl)) (pa_cons (pe_bt rfl W.n_bool bb_bool) pa_nil)))) (pe_one (pe_chain op_leU op_ltU pe_int (pe_ix (ix_U hu1) (pv 0) pe_int (fun _ _ => rfl)) (pe_op op_pow pe_int pe_int))))))) pss_nil)
      (pss_one (ps_ret (pe_and (pe_callB call_isi (by rfl) W.n_isinstance bb_isinstance (pa_cons (pe_ix (ix_U hu1) (pv 0) pe_int (fun _ _ => rfl)) (pa_cons (pe_bt rfl W.n_str bb_str) pa_nil))) (pe_one (pe_or (pe_cmpR (op_eqU hu64) (pe_ix (ix_U hu1) (pv 0) pe_int (fun _ _ => rfl)) (pe_strT (show (PySem.Str.ofString "symbol") = T [115, 121, 109, 98, 111, 108] by decide +kernel)) (by first | exact nomark _ | rfl)) (pe_one (pe_cmpR (op_neU hu64) (pe_ix (ix_U hu1) (pv 0) pe_int (fun _ _ => rfl)) (pe_strT (show (PySem.Str.ofString "") = T [] by decide +kernel)) (by first | exact nomark _ | rfl))))))))))), ?_⟩
  refine z_start (σ := [some _]) rfl ?_
  one_sign
  unfold TokAt at hq
  refine z_isi0 (ClsV.ty _) (TyX.base (TyOf.tup hq)) kt_tuple_tuple ?_
  one_sign
  rw [show (!decide (([V.int (t.at' : Int), V.str (T t.kind), tvV t.val].length : Int) = 3)) = false from rfl]
  one_sign
  refine z_ixT hq (atI_nat (j := 0) rfl) ?_
  one_sign
  refine z_ixT hq (atI_nat (j := 0) rfl) ?_
  one_sign
  refine z_ixT hq (atI_nat (j := 1) rfl) ?_
  one_sign
  refine z_ixT hq (atI_nat (j := 1) rfl) ?_
  one_sign
  rw [Tt_dec]
  rcases hO with ⟨hk, n, hz, hn⟩ | ⟨hk, z, hz, hkz⟩
  · refine iteD (fun _ => ?_) (fun z => absurd hk z)
    rw [hz] at hq
    have hq : H q = some (.tup [.int (t.at' : Int), .str (T t.kind), .int (n : Int)]) := hq
    one_sign
    refine z_ixT hq (atI_nat (j := 2) rfl) ?_
    one_sign
    refine z_ixT hq (atI_nat (j := 2) rfl) ?_
    one_sign
    refine z_ixT hq (atI_nat (j := 2) rfl) ?_
    one_sign
    refine iteD (fun _ => ?_) (fun z => absurd (by omega) z)
    one_sign
    rw [show decide ((n : Int) < 10 ^ (9 : Int).toNat) = true from decide_eq_true (by show (n : Int) < 10 ^ 9; omega)]
    exact k
  · refine iteD (fun z => absurd z hk) (fun _ => ?_)
    rw [hz] at hq
    have hq : H q = some (.tup [.int (t.at' : Int), .str (T t.kind), .str (T z)]) := hq
    one_sign
    refine z_ixT hq (atI_nat (j := 2) rfl) ?_
    one_sign
    refine z_ixT hq (atI_nat (j := 1) rfl) ?_
    one_sign
    rw [Tt_dec]
    refine iteD (fun _ => ?_) (fun hs => ?_)
    · exact k
    · one_sign
      refine z_ixT hq (atI_nat (j := 2) rfl) ?_
      one_sign
      rw [Tt_dec, decide_eq_false (by rcases hkz with h | h; exact absurd h hs; exact h)]
      exact k
theorem lex_cons {L : List Nat} {b : Nat} {t : Tok} {r : List Tok} (h : (lex L b).1 = t :: r) : ∃ e, SK L b < L.length ∧ rdTok L (SK L b) = some (t, e) ∧ (lex L e).1 = r ∧ (lex L e).2 = (lex L b).2 := by
  by_cases h1 : SK L b < L.length
  · cases hx : rdTok L (SK L b) with
    | none => rw [lex_bad h1 hx] at h; cases h
    | some te =>
      obtain ⟨t', e⟩ := te
      have e1 := lex_go h1 hx (rdTok_lt hx).1
      rw [e1] at h
      cases h
      exact ⟨e, h1, rfl, rfl, by rw [e1]⟩
  · rw [lex_end (by omega)] at h; cases h
theorem SK_SK (L : List Nat) (a : Nat) : SK L (SK L a) = SK L a := by
  induction hn : L.length - a using Nat.strongRecOn generalizing a with
  | ind n ih =>
    cases hc : L[a]? with
    | none => rw [SK_end (List.getElem?_eq_none_iff.mp hc), SK_end (List.getElem?_eq_none_iff.mp hc)]
    | some c =>
      have ha := (List.getElem?_eq_some_iff.mp hc).1
      by_cases h1 : c = 34
      · subst h1
        cases hx : nx L 34 (a + 1) with
        | none => rw [SK_open hc hx, SK_open hc hx]
        | some f =>
          have h2 := (nx_some hx).1
          have h3 := (List.getElem?_eq_some_iff.mp (nx_some hx).2.1).1
          rw [SK_com hc hx]
          exact ih (L.length - (f + 1)) (by omega) (f + 1) rfl
      · by_cases h2 : c = 32 ∨ c = 10
        · rw [SK_sp hc h2]
          exact ih (L.length - (a + 1)) (by omega) (a + 1) rfl
        · rw [SK_no hc h1 (fun z => h2 (Or.inl z)) (fun z => h2 (Or.inr z)), SK_no hc h1 (fun z => h2 (Or.inl z)) (fun z => h2 (Or.inr z))]
theorem lex_ge {L : List Nat} {b f : Nat} (h : (lex L b).2 = some f) : SK L b ≤ f ∧ f < L.length ∧ rdTok L f = none ∧ SK L f = f ∧ b ≤ f := by
  induction hn : L.length - b using Nat.strongRecOn generalizing b with
  | ind n ih =>
    have hb := SK_ge L b
    by_cases h1 : SK L b < L.length
    · cases hx : rdTok L (SK L b) with
      | none =>
        rw [lex_bad h1 hx] at h
        cases h
        exact ⟨Nat.le_refl _, h1, hx, SK_SK L b, hb⟩
      | some te =>
        obtain ⟨t', e⟩ := te
        have he := rdTok_lt hx
        rw [lex_go h1 hx he.1] at h
        obtain ⟨i1, i2, i3, i4, i5⟩ := ih (L.length - e) (by omega) h rfl
        exact ⟨by omega, i2, i3, i4, by omega⟩
    · rw [lex_end (by omega)] at h; cases h
theorem SK_le {L : List Nat} {b : Nat} (hb : b ≤ L.length) : SK L b ≤ L.length := by
  induction hn : L.length - b using Nat.strongRecOn generalizing b with
  | ind n ih =>
    cases hc : L[b]? with
    | none => rw [SK_end (List.getElem?_eq_none_iff.mp hc)]; exact hb
    | some c =>
      have ha := (List.getElem?_eq_some_iff.mp hc).1
      by_cases h1 : c = 34
      · subst h1
        cases hx : nx L 34 (b + 1) with
        | none => rw [SK_open hc hx]; exact hb
        | some f =>
          have h2 := (nx_some hx).1
          have h3 := (List.getElem?_eq_some_iff.mp (nx_some hx).2.1).1
          rw [SK_com hc hx]
          exact ih (L.length - (f + 1)) (by omega) (by omega) rfl
      · by_cases h2 : c = 32 ∨ c = 10
        · rw [SK_sp hc h2]
          exact ih (L.length - (b + 1)) (by omega) (by omega) rfl
        · rw [SK_no hc h1 (fun z => h2 (Or.inl z)) (fun z => h2 (Or.inr z))]; exact hb
def stopOf (L : List Nat) : Option Nat → Nat
  | none => L.length
  | some f => f
def sp_ltil : Sp := fun vs H Q _ => ∃ (L : List Nat) (p : Addr), vs = [.str (T L), .ref p, .int (stopOf L (lex L 0).2 : Nat)] ∧ L.length ≤ 5000 ∧ RowT H p (lex L 0).1 ∧ ∀ H', Fr [] H H' → Q (.bl true) H'
theorem ok__law_tiles (W : Wd P K mg) : FnOk P w K mg base CX0 6 W.f__law_tiles W.fd__law_tiles ["_law_source_here", "_law_tokens", "_law_stop"] sp_ltil := by
  refine W.F__law_tiles.ok sc__law_tiles (fun vs H Q E h => by obtain ⟨L, p, rfl, hl, ⟨A, hp, hA, hT⟩, k⟩ := h; rfl) (fun cdv A outer s H vs Q E hr h => ?_)
  obtain ⟨L, p, rfl, hl, ⟨A, hp, hA, hT⟩, k⟩ := h
  have hu1 := hu_of hr
  have hu64 := hu64_of hr
  refine ⟨_, (pss_cons (ps_if (pt_not (pt_truth (pe_callB call_isi (by rfl) W.n_isinstance bb_isinstance (pa_cons (pv 1) (pa_cons (pe_bt rfl W.n_list bb_list) pa_nil))) (by intro _; rfl))) (pss_one (ps_ret pe_bl)) pss_nil)
      (pss_cons (ps_set (i := 3) sc__law_tiles.nd rfl (by first | exact Or.inl rfl | exact Or.inr rfl) pe_int)
      (pss_cons (ps_for PassesOwn.never rfl (pi_list (pv 1)) (pg_name (i := 4) sc__law_tiles.nd rfl (by first | exact Or.inl rfl | exact Or.inr rfl)) (pss_cons (ps_if (pt_not (pt_truth (pe_call (ok__law_is_token W) (hr.mono (by decide)) rfl W.g__law_is_token W.F__law_is_token.kp W.b__law_is_token .nil pass0 (pa_cons (pv 4) pa_nil)) (by intro _; rfl))) (pss_one (ps_ret pe_bl)) pss_nil)
      (pss_cons (ps_set (i := 3) sc__law_tiles.nd rfl (by first | exact Or.inl rfl | exact Or.inr rfl) (pe_call (ok__law_skip W) (hr.mono (by decide)) rfl W.g__law_skip W.F__law_skip.kp W.b__law_skip .nil pass0 (pa_cons (pv 0) (pa_cons (pv 3) pa_nil))))
      (pss_cons (ps_if (PW.pt (pw_or (pt_cmpR (op_neU hu64) (pe_ix (ix_U hu1) (pv 4) pe_int (fun _ _ => rfl)) (pv 3) (by first | exact nomark _ | rfl)) (pw_or1 (pt_cmpR op_geU (pv 3) (pv 2) (by first | exact nomark _ | rfl))))) (pss_one (ps_ret pe_bl)) pss_nil)
      (pss_cons (ps_set (i := 5) sc__law_tiles.nd rfl (by first | exact Or.inl rfl | exact Or.inr rfl) (pe_call (ok__law_token_end W) (hr.mono (by decide)) rfl W.g__law_token_end W.F__law_token_end.kp W.b__law_token_end .nil pass0 (pa_cons (pv 0) (pa_cons (pv 3) (pa_cons (pe_ix (ix_U hu1) (pv 4) pe_int (fun _ _ => rfl)) (pa_cons (pe_ix (ix_U hu1) (pv 4) pe_int (fun _ _ => rfl)) pa_nil))))))
      (pss_cons (ps_if (pt_cmpR op_leU (pv 5) (pv 3) (by first | exact nomark _ | rfl)) (pss_one (ps_ret pe_bl)) pss_nil)
      (pss_one (ps_set (i := 3) sc__law_tiles.nd rfl (by first | exact Or.inl rfl | exact Or.inr rfl) (pv 5)))))))))
      (pss_one (ps_ret (pe_cmpR (op_eqU hu64) (pe_call (ok__law_skip W) (hr.mono (by decide)) rfl W.g__law_skip W.F__law_skip.kp W.b__law_skip .nil pass0 (pa_cons (pv 0) (pa_cons (pv 3) pa_nil))) (pv 2) (by first | exact nomark _ | rfl))))))), ?_⟩
  refine z_start (σ := [some _, some _, some _, none, none, none]) rfl ?_
  one_sign
  refine for_list (K := K) (a := p) (xs := A.map V.ref) (fun j σ H' => ∃ (b : Nat) (v4 v5 : Option V), σ = [some (.str (T L)), some (.ref p), some (.int (stopOf L (lex L 0).2 : Nat)), some (.int (b : Int)), v4, v5] ∧ Fr [] H H' ∧ b ≤ L.length ∧ (lex L b).1 = (lex L 0).1.drop j ∧ (lex L b).2 = (lex L 0).2)
    ⟨0, _, _, rfl, Fr.rfl', Nat.zero_le _, rfl, rfl⟩ (fun j σ H5 _ hI => ?_) (fun j x σ H5 hx hI => ?_) (fun σ H5 hI => ?_)
  · obtain ⟨b, v4, v5, rfl, f5, _⟩ := hI
    exact SqL.of (f5.g0 hp)
  · obtain ⟨b, v4, v5, rfl, f5, hb, hl1, hl2⟩ := hI
    rw [List.getElem?_map] at hx
    obtain ⟨q, hq, rfl⟩ := Option.map_eq_some_iff.mp hx
    have hj : j < (lex L 0).1.length := by rw [← hA]; exact (List.getElem?_eq_some_iff.mp hq).1
    obtain ⟨t, ht⟩ : ∃ t, (lex L 0).1[j]? = some t := ⟨_, List.getElem?_eq_getElem hj⟩
    rw [List.drop_eq_getElem_cons hj, (List.getElem?_eq_some_iff.mp ht).2] at hl1
    obtain ⟨e, e1, e2, e3, e4⟩ := lex_cons hl1
    have hte := rdTok_lt e2
    have hat := (rdTok_kinds e2).1
    have hq5 : TokAt H5 q t := f5.g0 (hT j q t hq ht)
    one_sign
    refine ⟨q, t, rfl, hq5, rdTok_ok e2, ?_⟩
    one_sign
    refine ⟨L, b, rfl, hl, by omega, ?_⟩
    one_sign
    have hq6 := hq5
    unfold TokAt at hq6
    refine z_ixT hq6 (atI_nat (j := 0) rfl) ?_
    one_sign
    rw [hat, decide_eq_true rfl]
    have hst : SK L b < stopOf L (lex L 0).2 := by
      rw [← hl2]
      cases hf : (lex L b).2 with
      | none => exact e1
      | some f =>
        rw [hf] at e4
        have := (lex_ge e4).2.2.2.2
        show SK L b < f
        omega
    one_sign
    refine iteD (fun z => by omega) (fun _ => ?_)
    one_sign
    refine z_ixT hq6 (atI_nat (j := 1) rfl) ?_
    one_sign
    refine z_ixT hq6 (atI_nat (j := 2) rfl) ?_
    one_sign
    refine ⟨L, SK L b, e, t, rfl, hl, e2, fun H6 f6 => ?_⟩
    one_sign
    refine iteD (fun z => by omega) (fun _ => ?_)
    one_sign
    exact ⟨e, _, _, rfl, f5.trans f6, hte.2, by rw [e3], by rw [e4]; exact hl2⟩
  · obtain ⟨b, v4, v5, rfl, f5, hb, hl1, hl2⟩ := hI
    one_sign
    refine ⟨L, b, rfl, hl, by omega, ?_⟩
    one_sign
    have hz : (SK L b : Nat) = stopOf L (lex L 0).2 := by
      rw [← hl2]
      rw [List.length_map, hA, List.drop_length] at hl1
      by_cases h1 : SK L b < L.length
      · cases hx : rdTok L (SK L b) with
        | none => rw [lex_bad h1 hx]; rfl
        | some te =>
          obtain ⟨t', e⟩ := te
          rw [lex_go h1 hx (rdTok_lt hx).1] at hl1
          cases hl1
      · rw [lex_end (by omega)]
        have := SK_le hb
        show SK L b = L.length
        omega
    rw [hz, decide_eq_true rfl]
    exact k H5 f5
open StrLaws in
theorem QS_rest {L : List Nat} : ∀ {i : Nat}, QS L i = none → 39 ∉ replL [39, 39] [] (L.drop i) := by
  intro i
  induction hn : L.length - i using Nat.strongRecOn generalizing i with
  | ind n ih =>
    intro h
    cases hx : nx L 39 i with
    | none =>
      have hno := nx_none hx
      rw [repl_none fun k hk e => by
        have h2 := congrArg (fun l => l[0]?) e
        simp at h2
        exact hno k hk (by
          cases hd : L[k]? with
          | none => simp [hd] at h2
          | some c => simp [hd] at h2; rw [h2])]
      intro hm
      obtain ⟨k, hk, e⟩ := List.getElem_of_mem hm
      rw [List.length_drop] at hk
      rw [List.getElem_drop] at e
      exact hno (i + k) (by omega) (by rw [List.getElem?_eq_getElem (by omega), e])
    | some f =>
      obtain ⟨h1, h2, h3⟩ := nx_some hx
      have hfl := (List.getElem?_eq_some_iff.mp h2).1
      by_cases hq : L[f + 1]? = some 39
      · rw [QS_go hx hq] at h
        have h' : QS L (f + 2) = none := by
          cases z : QS L (f + 2) with
          | none => rfl
          | some r => rw [z] at h; cases h
        have ih' := ih (L.length - (f + 2)) (by omega) rfl h'
        have hf2 := (List.getElem?_eq_some_iff.mp hq).1
        have ec := repl_copy (y := [39, 39]) (z := []) (L := L) (f - i) i (fun k k1 k2 e => by
          have h4 := congrArg (fun l => l[0]?) e
          simp at h4
          exact h3 k k1 (by omega) (by
            cases hd : L[k]? with
            | none => simp [hd] at h4
            | some c => simp [hd] at h4; rw [h4])) (by omega)
        rw [ec, show i + (f - i) = f by omega]
        have e39 : L.drop f = 39 :: 39 :: L.drop (f + 2) := by
          rw [List.drop_eq_getElem_cons hfl, List.drop_eq_getElem_cons hf2, (List.getElem?_eq_some_iff.mp h2).2, (List.getElem?_eq_some_iff.mp hq).2]
        rw [e39, replL_hit (by simp) rfl]
        intro hm
        rcases List.mem_append.mp hm with hm | hm
        · exact sub_no h3 (show 39 ∈ sub L i f from hm)
        · exact ih' (by simpa using hm)
      · rw [QS_end hx hq] at h; cases h
theorem fit_ok : ∀ c ∈ FIT, c = 32 ∨ c = 10 ∨ c ∈ SGN ∨ c ∈ MRK := by decide
def sp_lmis : Sp := fun vs H Q _ => ∃ (L : List Nat) (a : Nat), vs = [.str (T L), .int (a : Int)] ∧ L.length ≤ 5000 ∧ a < L.length ∧ rdTok L a = none ∧ SK L a = a ∧ Q (.bl true) H
theorem ok__law_misfit (W : Wd P K mg) : FnOk P w K mg base CX0 4 W.f__law_misfit W.fd__law_misfit ["_law_source_here", "_law_at"] sp_lmis := by
  refine W.F__law_misfit.ok sc__law_misfit (fun vs H Q E h => by obtain ⟨L, a, rfl, hl, hal, hT, hS, k⟩ := h; rfl) (fun cdv A outer s H vs Q E hr h => ?_)
  obtain ⟨L, a, rfl, hl, hal, hT, hS, k⟩ := h
  have hu1 := hu_of hr
  have hu64 := hu64_of hr
  refine ⟨_, (pss_cons (ps_if (pt_cmpR op_geU (pv 1) (pe_callB call_lenU (by rfl) W.n_len bb_len (pa_cons (pv 0) pa_nil)) (by first | exact nomark _ | rfl)) (pss_one (ps_ret pe_bl)) pss_nil)
      (pss_cons (ps_set (i := 2) sc__law_misfit.nd rfl (by first | exact Or.inl rfl | exact Or.inr rfl) (pe_ix (ix_U hu1) (pv 0) (pv 1) (fun _ _ => rfl)))
      (pss_cons (ps_if (pt_cmpR (op_inU hu1) (pv 2) (pe_call0 (ok__law_letters W) (hr.mono (by decide)) rfl W.g__law_letters W.F__law_letters.kp W.b__law_letters .nil pass0 ) (by first | exact nomark _ | rfl)) (pss_one (ps_ret (pe_cmpR op_gtU (pe_op op_sub (pe_call (ok__law_word_end W) (hr.mono (by decide)) rfl W.g__law_word_end W.F__law_word_end.kp W.b__law_word_end .nil pass0 (pa_cons (pv 0) (pa_cons (pv 1) pa_nil))) (pv 1)) pe_int (by first | exact nomark _ | rfl)))) pss_nil)
      (pss_cons (ps_if (pt_cmpR (op_inU hu1) (pv 2) (pe_strT e_DIG) (by first | exact nomark _ | rfl)) (pss_cons (ps_set (i := 3) sc__law_misfit.nd rfl (by first | exact Or.inl rfl | exact Or.inr rfl) (pe_call (ok__law_run W) (hr.mono (by decide)) rfl W.g__law_run W.F__law_run.kp W.b__law_run .nil pass0 (pa_cons (pv 0) (pa_cons (pv 1) (pa_cons (pe_strT e_DIG) pa_nil)))))
      (pss_one (ps_ret (pe_or (pe_cmpR op_gtU (pe_op op_sub (pv 3) (pv 1)) pe_int (by first | exact nomark _ | rfl)) (pe_or (pe_call (ok__law_is_letter W) (hr.mono (by decide)) rfl W.g__law_is_letter W.F__law_is_letter.kp W.b__law_is_letter .nil pass0 (pa_cons (pv 0) (pa_cons (pv 3) pa_nil))) (pe_one (pe_and (pe_cmpR (op_eqU hu64) (pv 2) (pe_strT (show (PySem.Str.ofString "0") = T [48] by decide +kernel)) (by first | exact nomark _ | rfl)) (pe_one (pe_cmpR op_gtU (pe_op op_sub (pv 3) (pv 1)) pe_int (by first | exact nomark _ | rfl)))))))))) pss_nil)
      (pss_cons (ps_if (pt_cmpR (op_eqU hu64) (pv 2) (pe_strT (show (PySem.Str.ofString "#") = T [35] by decide +kernel)) (by first | exact nomark _ | rfl)) (pss_one (ps_ret (pe_cmpR (op_eqU hu64) (pe_call (ok__law_name_end W) (hr.mono (by decide)) rfl W.g__law_name_end W.F__law_name_end.kp W.b__law_name_end .nil pass0 (pa_cons (pv 0) (pa_cons (pe_op op_addU (pv 1) pe_int) pa_nil))) (pe_op op_addU (pv 1) pe_int) (by first | exact nomark _ | rfl)))) pss_nil)
      (pss_cons (ps_if (pt_cmpR (op_eqU hu64) (pv 2) (pe_strT (show (PySem.Str.ofString "\"") = T [34] by decide +kernel)) (by first | exact nomark _ | rfl)) (pss_one (ps_ret (pe_cmpR op_ltU (pe_bm PySem.F.plainAttrs_str PySem.F.slot_str_find PySem.F.type_str_find mt_find3 (pv 0) (pa_cons (pe_strT (show (PySem.Str.ofString "\"") = T [34] by decide +kernel)) (pa_cons (pe_op op_addU (pv 1) pe_int) pa_nil))) pe_int (by first | exact nomark _ | rfl)))) pss_nil)
      (pss_cons (ps_ifT (op_eqU hu64) (pv 2) (show (PySem.Str.ofString "'") = T [39] by decide +kernel) (by first | exact nomark _ | rfl) (psst_cons (pst_set (i := 4) sc__law_misfit.nd rfl (by first | exact Or.inl rfl | exact Or.inr rfl) (pet_repl2 (show (PySem.Str.ofString "''") = T [39, 39] by decide +kernel) (show (PySem.Str.ofString "") = T [] by decide +kernel) (pe_slice sl_U (pv 0) (po_some (pe_op op_addU (pv 1) pe_int)) po_none))) (PSsT.of (pss_one (ps_ret (pe_cmpR (op_ninU hu1) (pe_strT (show (PySem.Str.ofString "'") = T [39] by decide +kernel)) (pv 4) (by first | exact nomark _ | rfl)))))) pss_nil)
      (pss_one (ps_ret (pe_cmpR (op_ninU hu1) (pv 2) (pe_strT e_FIT) (by first | exact nomark _ | rfl))))))))))), ?_⟩
  refine z_start (σ := [some _, some _, none, none, none]) rfl ?_
  one_sign
  refine z_lenT' hl ?_
  one_sign
  refine iteD (fun z => by omega) (fun _ => ?_)
  obtain ⟨c, hc⟩ : ∃ c, L[a]? = some c := ⟨_, List.getElem?_eq_getElem hal⟩
  unfold rdTok at hT
  rw [hc] at hT
  simp only at hT
  one_sign
  refine z_chr hl rfl hc ?_
  one_sign
  refine ⟨rfl, ?_⟩
  one_sign
  refine iteD (fun h => ?_) (fun h => ?_)
  · rw [if_pos h] at hT
    have hn : ne L a = none := by
      cases hx : ne L a with
      | none => rfl
      | some f =>
        cases hk : ke L f with
        | true => rw [rdName_key hx hk] at hT; cases hT
        | false => rw [rdName_nam hx hk] at hT; cases hT
    have hr : 32 < run L a AN := by
      unfold ne at hn
      split at hn
      · cases hn
      · rename_i h2
        rcases Nat.lt_or_ge 32 (run L a AN) with z | z
        · exact z
        · exact absurd ⟨by rw [inAt_some hc]; simpa using h, z⟩ h2
    one_sign
    refine ⟨L, a, rfl, hl, ?_⟩
    one_sign
    rw [decide_eq_true (by omega)]
    exact k
  rw [if_neg h] at hT
  one_sign
  refine iteD (fun h => ?_) (fun h => ?_)
  · rw [if_pos h] at hT
    one_sign
    refine ⟨L, a, DIG, rfl, hl, ?_⟩
    one_sign
    have hbad : 9 < run L a DIG ∨ inAt L (a + run L a DIG) LET = true ∨ (c = 48 ∧ 1 < run L a DIG) := by
      unfold rdNum at hT
      split at hT
      · rename_i h1
        rcases h1 with z | z
        · exact Or.inr (Or.inl z)
        · exact Or.inl z
      · split at hT
        · rename_i h1
          rw [hc] at h1
          exact Or.inr (Or.inr ⟨by have := h1.1; simpa using this, h1.2⟩)
        · cases hT
    refine iteD (fun h9 => ?_) (fun h9 => ?_)
    · exact k
    one_sign
    refine ⟨L, a + run L a DIG, rfl, hl, ?_⟩
    one_sign
    refine iteB (fun hb => ?_) (fun hb => ?_)
    · exact k
    one_sign
    have h3 : c = 48 ∧ 1 < run L a DIG := by
      rcases hbad with z | z | z
      · omega
      · rw [hb] at z; cases z
      · exact z
    rw [dec1, decide_eq_true h3.1]
    one_sign
    rw [decide_eq_true (by omega)]
    exact k
  rw [if_neg h] at hT
  one_sign
  rw [dec1]
  refine iteD (fun h => ?_) (fun h => ?_)
  · rw [if_pos h] at hT
    have hn : ne L (a + 1) = none := by
      unfold rdHash at hT
      cases hx : ne L (a + 1) with
      | none => rfl
      | some f =>
        rw [hx] at hT
        simp only at hT
        split at hT <;> cases hT
    one_sign
    refine ⟨L, a + 1, rfl, hl, ?_⟩
    rw [show lne L (a + 1) = a + 1 by unfold lne; rw [hn]; rfl]
    one_sign
    rw [decide_eq_true (by omega)]
    exact k
  rw [if_neg h] at hT
  one_sign
  rw [dec1]
  refine iteD (fun h => ?_) (fun h34 => ?_)
  · subst h
    have hn : nx L 34 (a + 1) = none := by
      cases hx : nx L 34 (a + 1) with
      | none => rfl
      | some f =>
        have h1 := (nx_some hx).1
        have := SK_ge L (f + 1)
        rw [SK_com hc hx] at hS
        omega
    one_sign
    refine ⟨_, _, _, rfl, rfl, ?_⟩
    rw [show (a : Int) + 1 = ((a + 1 : Nat) : Int) by omega, find_nx, show fnd L 34 (a + 1) = -1 by unfold fnd; rw [hn]]
    one_sign
    exact k
  one_sign
  rw [dec1]
  refine iteD (fun h => ?_) (fun h => ?_)
  · rw [if_pos h] at hT
    have hn : QS L (a + 1) = none := by
      unfold rdQuo at hT
      cases z : QS L (a + 1) with
      | none => rfl
      | some r => rw [z] at hT; cases hT
    one_sign
    refine z_sl3 (a + 1) hl (by omega) ?_
    refine z_repl1 (by rw [List.length_drop]; show _ + _ * 0 ≤ _; omega) (by decide) ?_
    one_sign
    rw [decide_eq_false (QS_rest hn)]
    exact k
  rw [if_neg h] at hT
  one_sign
  have : c ∉ FIT := by
    intro hf
    rcases fit_ok c hf with z | z | z | z
    · subst z; rw [SK_sp hc (Or.inl rfl)] at hS; have := SK_ge L (a + 1); omega
    · subst z; rw [SK_sp hc (Or.inr rfl)] at hS; have := SK_ge L (a + 1); omega
    · rw [if_pos z] at hT; cases hT
    · split at hT
      · cases hT
      · split at hT
        · cases hT
        · cases hT
  rw [decide_eq_false this]
  exact k
end

end LX
namespace LX
open PySem PySem.Spec PyProof.Rows L2 NdefX CwR
/-! ### the text before the place where it fails -/
section
variable {L : List Nat} {p : Nat}
theorem tk_lt {i : Nat} (h : i < p) : (L.take p)[i]? = L[i]? := List.getElem?_take_of_lt h
theorem tk_ge {i : Nat} (h : p ≤ i) : (L.take p)[i]? = none := by
  rw [List.getElem?_eq_none_iff, List.length_take]; omega
theorem tk_some {i c : Nat} (h : (L.take p)[i]? = some c) : i < p ∧ L[i]? = some c := by
  by_cases hi : i < p
  · rw [tk_lt hi] at h; exact ⟨hi, h⟩
  · rw [tk_ge (by omega)] at h; cases h
theorem inAt_tk {i : Nat} {m : List Nat} (h : i < p) : inAt (L.take p) i m = inAt L i m := by
  cases e : L[i]? with
  | none => rw [inAt_none e, inAt_none (by rw [tk_lt h]; exact e)]
  | some c => rw [inAt_some e, inAt_some (by rw [tk_lt h]; exact e)]
theorem inAt_tkf {i : Nat} {m : List Nat} (h : inAt L i m = false) : inAt (L.take p) i m = false := by
  by_cases hi : i < p
  · rw [inAt_tk hi]; exact h
  · exact inAt_none (tk_ge (by omega))
theorem run_is {L m : List Nat} {i n : Nat} (h1 : ∀ j, i ≤ j → j < i + n → inAt L j m = true) (h2 : inAt L (i + n) m = false) : run L i m = n := by
  rcases Nat.lt_trichotomy (run L i m) n with h | h | h
  · have e1 := run_stop L i m
    rw [h1 _ (by omega) (by omega)] at e1
    cases e1
  · exact h
  · have e1 := run_in (L := L) (m := m) (i := i) (j := i + n) (by omega) (by omega)
    rw [h2] at e1
    cases e1
theorem run_tk {i : Nat} {m : List Nat} (h : i + run L i m ≤ p) : run (L.take p) i m = run L i m :=
  run_is (fun j h1 h2 => by rw [inAt_tk (by omega)]; exact run_in h1 h2) (inAt_tkf (run_stop L i m))
theorem ne_tk {i e : Nat} (h : ne L i = some e) (he : e ≤ p) : ne (L.take p) i = some e := by
  have hlt := ne_lt h
  obtain ⟨h1, h2, rfl⟩ := ne_some h
  unfold ne
  rw [run_tk he, inAt_tk (by omega), if_pos ⟨h1, h2⟩]
theorem ke_tk {e : Nat} (h : ke L e = true) (he : e + 1 ≤ p) : ke (L.take p) e = true := by
  obtain ⟨h1, h2, h3⟩ := ke_lt h
  unfold ke
  rw [tk_lt (by omega), decide_eq_true h1, Bool.true_and]
  by_cases h4 : e + 1 < p
  · rw [tk_lt h4, decide_eq_false h2]; rfl
  · rw [tk_ge (by omega)]; rfl
def NB (L : List Nat) (p e : Nat) : Prop := e ≤ p ∧ (e < p → L[e]? = some 58 → L[e + 1]? = some 61 → e + 2 ≤ p)
theorem ke_tkf {e : Nat} (h : ke L e = false) (hb : NB L p e) : ke (L.take p) e = false := by
  unfold ke at h ⊢
  by_cases h1 : e < p
  · rw [tk_lt h1]
    by_cases h2 : L[e]? = some 58
    · rw [decide_eq_true h2, Bool.true_and] at h ⊢
      have h3 : L[e + 1]? = some 61 := by simpa using h
      have := hb.2 h1 h2 h3
      rw [tk_lt (by omega)]; exact h
    · rw [decide_eq_false h2]; rfl
  · rw [tk_ge (by omega)]; rfl
theorem nx_tk {c i f : Nat} (h : nx L c i = some f) (hf : f < p) : nx (L.take p) c i = some f := by
  obtain ⟨h1, h2, h3⟩ := nx_some h
  exact nx_is h1 (by rw [tk_lt hf]; exact h2) fun j j1 j2 z => h3 j j1 j2 (tk_some z).2
theorem sub_tk {i j : Nat} (h : j ≤ p) : sub (L.take p) i j = sub L i j := by
  unfold sub
  rw [List.drop_take, List.take_take, Nat.min_eq_left (by omega)]
theorem SK_tk {a q : Nat} (h : SK L a = q) (hq : q ≤ p) (h34 : q < p → L[q]? ≠ some 34) : SK (L.take p) a = q := by
  induction hn : L.length - a using Nat.strongRecOn generalizing a with
  | ind n ih =>
    have hge := SK_ge L a
    by_cases hap : a < p
    · cases hc : L[a]? with
      | none =>
        rw [SK_end (List.getElem?_eq_none_iff.mp hc)] at h
        rw [SK_end (List.getElem?_eq_none_iff.mp (by rw [tk_lt hap]; exact hc))]
        exact h
      | some c =>
        have ha := (List.getElem?_eq_some_iff.mp hc).1
        have hc' : (L.take p)[a]? = some c := by rw [tk_lt hap]; exact hc
        by_cases h1 : c = 34
        · subst h1
          cases hx : nx L 34 (a + 1) with
          | none =>
            rw [SK_open hc hx] at h
            subst h
            exact absurd hc (h34 hap)
          | some f =>
            have h2 := (nx_some hx).1
            rw [SK_com hc hx] at h
            have h3 := SK_ge L (f + 1)
            rw [SK_com hc' (nx_tk hx (by omega))]
            exact ih (L.length - (f + 1)) (by omega) h rfl
        · by_cases h2 : c = 32 ∨ c = 10
          · rw [SK_sp hc h2] at h
            rw [SK_sp hc' h2]
            exact ih (L.length - (a + 1)) (by omega) h rfl
          · have h3 : c ≠ 32 := fun z => h2 (Or.inl z)
            have h4 : c ≠ 10 := fun z => h2 (Or.inr z)
            rw [SK_no hc h1 h3 h4] at h
            rw [SK_no hc' h1 h3 h4]
            exact h
    · rw [SK_end (by rw [List.length_take]; omega)]
      omega
theorem rd58 {e : Nat} (h : L[e]? = some 58) (h2 : L[e + 1]? = some 61) : rdTok L e = some (⟨e, MAR, .s [58, 61]⟩, e + 2) ∧ SK L e = e := by
  refine ⟨?_, SK_no h (by decide) (by decide) (by decide)⟩
  unfold rdTok
  rw [h]
  simp only
  rw [if_neg (by decide), if_neg (by decide), if_neg (by decide), if_neg (by decide), if_neg (by decide), if_pos ⟨True.intro, h2⟩]
theorem nb1 {e : Nat} (h : (lex L e).2 = some p) : NB L p e := by
  refine ⟨(lex_ge h).2.2.2.2, fun h1 h2 h3 => ?_⟩
  obtain ⟨r1, r2⟩ := rd58 h2 h3
  have hl := (List.getElem?_eq_some_iff.mp h2).1
  rw [lex_go (by rw [r2]; exact hl) (by rw [r2]; exact r1) (by rw [r2]; omega)] at h
  exact (lex_ge h).2.2.2.2
theorem let_sp : ∀ c ∈ LET, c ≠ 34 ∧ c ≠ 32 ∧ c ≠ 10 := by decide +kernel
theorem nb2 {e : Nat} (h : (lex L e).2 = some p) (he : e < p) (hL : inAt L e LET = true) : ∃ f, ne L e = some f ∧ f ≤ p ∧ (ke L f = false → NB L p f) := by
  obtain ⟨c, hc, hcl⟩ := inAt_true hL
  have hl := (List.getElem?_eq_some_iff.mp hc).1
  obtain ⟨s1, s2, s3⟩ := let_sp c hcl
  have hs := SK_no hc s1 s2 s3
  have hr : rdTok L e = rdName L e := by unfold rdTok; rw [hc]; simp only; rw [if_pos hcl]
  cases hx : ne L e with
  | none =>
    rw [lex_bad (by rw [hs]; exact hl) (by rw [hs, hr]; exact rdName_no hx), hs] at h
    cases h
    omega
  | some f =>
    have hf := ne_lt hx
    refine ⟨f, rfl, ?_⟩
    cases hk : ke L f with
    | true =>
      rw [lex_go (by rw [hs]; exact hl) (by rw [hs, hr]; exact rdName_key hx hk) (by rw [hs]; omega)] at h
      have := (lex_ge h).2.2.2.2
      exact ⟨by omega, fun z => by cases z⟩
    | false =>
      rw [lex_go (by rw [hs]; exact hl) (by rw [hs, hr]; exact rdName_nam hx hk) (by rw [hs]; omega)] at h
      have := nb1 h
      exact ⟨this.1, fun _ => this⟩
theorem HE_tk {x e : Nat} (h : HE L x = e) (hl : (lex L e).2 = some p) : HE (L.take p) x = e := by
  have hep := (lex_ge hl).2.2.2.2
  induction hn : L.length - x using Nat.strongRecOn generalizing x with
  | ind n ih =>
    have hge := HE_ge L x
    have stop : HE L x = x → ne (L.take p) x = none ∨ (∃ f, ne (L.take p) x = some f ∧ ke (L.take p) f = false) → HE (L.take p) x = e := fun h1 h2 => by
      rw [h1] at h
      rcases h2 with h2 | ⟨f, h2, h3⟩
      · rw [HE_no h2]; exact h
      · rw [HE_st h2 h3]; exact h
    cases hx : ne L x with
    | none =>
      have h1 := HE_no hx
      refine stop h1 (Or.inl ?_)
      unfold ne
      rw [if_neg]
      rintro ⟨z, _⟩
      obtain ⟨c, hc, hm⟩ := inAt_true z
      obtain ⟨c1, c2⟩ := tk_some hc
      have hL : inAt L x LET = true := by rw [inAt_some c2]; simpa using hm
      rw [h1] at h
      subst h
      obtain ⟨f, e1, _⟩ := nb2 hl c1 hL
      rw [hx] at e1; cases e1
    | some f =>
      have hf := ne_lt hx
      cases hk : ke L f with
      | false =>
        have h1 := HE_st hx hk
        refine stop h1 ?_
        have h' := h
        rw [h1] at h'
        subst h'
        by_cases hxp : x < p
        · obtain ⟨f', e1, e2, e3⟩ := nb2 hl hxp (ne_some hx).1
          rw [hx] at e1
          cases e1
          exact Or.inr ⟨f, ne_tk hx e2, ke_tkf hk (e3 hk)⟩
        · refine Or.inl ?_
          unfold ne
          rw [inAt_none (tk_ge (by omega)), if_neg (by rintro ⟨z, _⟩; cases z)]
      | true =>
        have hkl := ke_lt hk
        rw [HE_go hx hk] at h
        have := HE_ge L (f + 1)
        rw [HE_go (ne_tk hx (by omega)) (ke_tk hk (by omega))]
        exact ih (L.length - (f + 1)) (by omega) h rfl
theorem QS_tk {i : Nat} {r : List Nat × Nat} (h : QS L i = some r) (hp : r.2 ≤ p) : QS (L.take p) i = some r := by
  induction hn : L.length - i using Nat.strongRecOn generalizing i r with
  | ind n ih =>
    cases hx : nx L 39 i with
    | none => rw [QS_no hx] at h; cases h
    | some f =>
      obtain ⟨h1, h2, h3⟩ := nx_some hx
      have hfl := (List.getElem?_eq_some_iff.mp h2).1
      by_cases hq : L[f + 1]? = some 39
      · rw [QS_go hx hq] at h
        obtain ⟨r', hr, rfl⟩ := Option.map_eq_some_iff.mp h
        have hlt := (QS_lt hr).1
        have hp' : r'.2 ≤ p := hp
        rw [QS_go (nx_tk hx (by omega)) (by rw [tk_lt (by omega)]; exact hq), ih (L.length - (f + 2)) (by omega) hr hp' rfl, sub_tk (by omega)]
        rfl
      · rw [QS_end hx hq] at h
        cases h
        have hp : f + 1 ≤ p := hp
        rw [QS_end (nx_tk hx (by omega)) (fun z => hq (tk_some z).2), sub_tk (by omega)]
theorem rdTok_tk {q e : Nat} {t : Tok} (h : rdTok L q = some (t, e)) (hl : (lex L e).2 = some p) : rdTok (L.take p) q = some (t, e) := by
  have hep := (lex_ge hl).2.2.2.2
  have hlt := rdTok_lt h
  have nb := nb1 hl
  unfold rdTok at h ⊢
  cases hc : L[q]? with
  | none => rw [hc] at h; cases h
  | some c =>
    rw [hc] at h
    rw [tk_lt (by omega), hc]
    simp only at h ⊢
    split at h
    · rename_i h1
      rw [if_pos h1]
      cases hx : ne L q with
      | none => rw [rdName_no hx] at h; cases h
      | some f =>
        have hf := ne_lt hx
        cases hk : ke L f with
        | true =>
          rw [rdName_key hx hk] at h
          cases h
          rw [rdName_key (ne_tk hx (by omega)) (ke_tk hk hep), sub_tk hep]
        | false =>
          rw [rdName_nam hx hk] at h
          cases h
          rw [rdName_nam (ne_tk hx hep) (ke_tkf hk nb), sub_tk hep]
    · rename_i h1
      rw [if_neg h1]
      split at h
      · rename_i h2
        rw [if_pos h2]
        obtain ⟨e1, e2, e3, e4, _⟩ := rdNum_some h (by rw [inAt_some hc]; simpa using h2)
        unfold rdNum at h ⊢
        have er : run (L.take p) q DIG = run L q DIG := run_tk (by omega)
        rw [er, ← e1, inAt_tkf e2, sub_tk hep, tk_lt (by omega)]
        rw [← e1, e2] at h
        exact h
      · rename_i h2
        rw [if_neg h2]
        split at h
        · rename_i h3
          rw [if_pos h3]
          unfold rdHash at h ⊢
          cases hx : ne L (q + 1) with
          | none => rw [hx] at h; cases h
          | some f =>
            rw [hx] at h
            simp only at h
            have hf := ne_lt hx
            cases hk : ke L f with
            | true =>
              rw [hk, if_pos rfl] at h
              cases h
              have hge := HE_ge L (f + 1)
              rw [ne_tk hx (by omega)]
              simp only
              rw [ke_tk hk (by omega), if_pos rfl, HE_tk rfl hl, sub_tk hep]
            | false =>
              rw [hk, if_neg Bool.false_ne_true] at h
              cases h
              rw [ne_tk hx hep]
              simp only
              rw [ke_tkf hk nb, if_neg Bool.false_ne_true, sub_tk hep]
        · rename_i h3
          rw [if_neg h3]
          split at h
          · rename_i h4
            rw [if_pos h4]
            unfold rdQuo at h ⊢
            obtain ⟨r, hr, e2⟩ := Option.map_eq_some_iff.mp h
            have e3 : r.2 = e := congrArg Prod.snd e2
            rw [QS_tk hr (by omega)]
            exact congrArg some e2
          · rename_i h4
            rw [if_neg h4]
            split at h
            · rename_i h5
              rw [if_pos h5]
              have e0 : (t, e) = rdSign L q := (Option.some.inj h).symm
              have e2 : e = (rdSign L q).2 := congrArg Prod.snd e0
              rw [← h]
              congr 1
              unfold rdSign at e2 ⊢
              by_cases h6 : inAt L (q + 1) SGN = true
              · rw [if_pos h6] at e2 ⊢
                have e2 : e = q + 2 := e2
                rw [if_pos (by rw [inAt_tk (by omega)]; exact h6), sub_tk (by omega)]
              · rw [if_neg h6] at e2 ⊢
                have e2 : e = q + 1 := e2
                have h7 : inAt L (q + 1) SGN = false := by simpa using h6
                rw [if_neg (by rw [inAt_tkf h7]; exact Bool.false_ne_true), sub_tk (by omega)]
            · rename_i h5
              rw [if_neg h5]
              split at h
              · rename_i h6
                cases h
                rw [if_pos ⟨h6.1, by rw [tk_lt (by omega)]; exact h6.2⟩]
              · rename_i h6
                rw [if_neg (fun z => h6 ⟨z.1, (tk_some z.2).2⟩)]
                exact h
theorem lex_tk {b : Nat} (h : (lex L b).2 = some p) : lex (L.take p) b = ((lex L b).1, none) := by
  induction hn : L.length - b using Nat.strongRecOn generalizing b with
  | ind n ih =>
    have hb := SK_ge L b
    by_cases h1 : SK L b < L.length
    · cases hx : rdTok L (SK L b) with
      | none =>
        rw [lex_bad h1 hx] at h ⊢
        cases h
        have e : SK (L.take (SK L b)) b = SK L b := SK_tk rfl (Nat.le_refl _) (fun z => absurd z (Nat.lt_irrefl _))
        exact lex_end (by rw [e, List.length_take]; omega)
      | some te =>
        obtain ⟨t, e⟩ := te
        have hlt := rdTok_lt hx
        rw [lex_go h1 hx hlt.1] at h ⊢
        have hep := (lex_ge h).2.2.2.2
        have es : SK (L.take p) b = SK L b := SK_tk rfl (by omega) (fun _ z => by rw [rdTok_quote z] at hx; cases hx)
        have hr := rdTok_tk hx h
        have hl' : SK L b < (L.take p).length := by rw [List.length_take]; omega
        rw [lex_go (by rw [es]; exact hl') (by rw [es]; exact hr) (by rw [es]; exact hlt.1), ih (L.length - e) (by omega) h rfl]
    · rw [lex_end (by omega)] at h; cases h
end

end LX
namespace LX
open PySem PySem.Spec PyProof.Rows L2 NdefX CwR
local macro_rules | `(tactic| none_booked) => `(tactic| first | assumption | (refine Fr.g0 (by assumption) ?_; none_booked))
local macro_rules | `(tactic| one_sign) => `(tactic| repeat (first
  | refine Stp.h ?_
  | ((with_reducible refine' z_fld1 ?k0 ?k1 ?k2 ?k3 ?_); (case k0 => none_booked); (case k1 => k_ownIn); (case k2 => k_memK); (case k3 => rfl))
  | ((with_reducible refine' z_meth1 ?k0 ?k1 ?_); (case k0 => none_booked); (case k1 => rfl))
  | ((with_reducible refine' z_bmL ?k0 ?_); (case k0 => none_booked))
  | ((with_reducible refine' z_lenL ?k0 ?_); (case k0 => none_booked))
  | ((with_reducible refine' z_lenT ?k0 ?_); (case k0 => none_booked))
  | ((with_reducible refine' z_lenD ?k0 ?_); (case k0 => none_booked))
  | ((with_reducible refine' z_truL ?k0 ?_); (case k0 => none_booked))
  | ((with_reducible refine' z_truD ?k0 ?_); (case k0 => none_booked))
  | ((with_reducible refine' z_truT ?k0 ?_); (case k0 => none_booked))
  | ((with_reducible refine' z_inDIP ?k0 ?_); (case k0 => none_booked))
  | ((with_reducible refine' z_inDIN ?k0 ?_); (case k0 => none_booked))
  | ((with_reducible refine' z_inDfP ?k0 ?_); (case k0 => none_booked))
  | ((with_reducible refine' z_inDfN ?k0 ?_); (case k0 => none_booked))
  | ((with_reducible refine' z_iList1 ?k0 ?_); (case k0 => none_booked))
  | ((with_reducible refine' z_isi0 ?k0 ?k1 ?k2 ?_); (case k0 => exact (ClsV.ty _)); (case k1 => exact (TyX.base (TyOf.lst (by none_booked)))); (case k2 => first | exact kt_list_int | exact kt_list_bool | exact kt_list_str | exact kt_list_list | exact kt_list_tuple | exact kt_list_dict))
  | ((with_reducible refine' z_rI ?k0 ?_); (case k0 => first | exact (by decide : (0 : Int) < _) | exact ⟨by decide, by decide⟩ | exact ⟨by decide, by decide, by decide⟩ | (show (0 : Int) < _; omega)))
  | ((with_reducible refine' z_mulI ?k0 ?_); (case k0 => first | exact Or.inr ⟨by decide, by decide⟩ | exact Or.inl ⟨by decide, by decide⟩ | exact Or.inl ⟨by omega, by omega⟩ | exact Or.inr ⟨by omega, by omega⟩))))
local macro_rules | `(tactic| leaf_len) => `(tactic| (simp only [wipe, List.map_cons, List.map_nil, List.set_cons_zero, List.set_cons_succ]; one_sign; refine z_ok rfl ?_; one_sign))
section
variable {P : Program} {w : World} {K : PySem.W.Frag} {mg : Str → Option Value} {base : Heap}
def sp_lsrc (K : PySem.W.Frag) : Sp := fun vs H Q _ => ∃ p : Addr, vs = [.ref p] ∧ St K H p ∧ ∀ l H', l.length ≤ 5000 → St K H' p → (∀ b, b ≠ p → H' b = H b) → Q (.str (T l)) H'
theorem cha_len : (LET ++ CHA).length ≤ 150 ∧ 0 < (LET ++ CHA).length := by decide +kernel
theorem chb_len : CHB.length ≤ 150 ∧ 0 < CHB.length := by decide +kernel
theorem ok__law_source (W : Wd P K mg) : FnOk P w K mg base CX0 2 W.f__law_source W.fd__law_source ["_law_state"] (sp_lsrc K) := by
  refine W.F__law_source.ok sc__law_source (fun vs H Q E h => by obtain ⟨p, rfl, hS, k⟩ := h; rfl) (fun cdv A outer s H vs Q E hr h => ?_)
  obtain ⟨p, rfl, hS, k⟩ := h
  have hu1 := hu_of hr
  have hu64 := hu64_of hr
  refine ⟨_, (pss_cons (ps_set (i := 1) sc__law_source.nd rfl (by first | exact Or.inl rfl | exact Or.inr rfl) (pe_op op_addU (pe_call0 (ok__law_letters W) (hr.mono (by decide)) rfl W.g__law_letters W.F__law_letters.kp W.b__law_letters .nil pass0 ) (pe_strT e_CHA)))
      (Evl.pss_cut (ps_if (pt_cmpR (op_eqU hu64) (pe_call (ok__law_pick W) (hr.mono (by decide)) rfl W.g__law_pick W.F__law_pick.kp W.b__law_pick .nil pass0 (pa_cons (pv 0) (pa_cons pe_int pa_nil))) pe_int (by first | exact nomark _ | rfl)) (pss_one (ps_set (i := 1) sc__law_source.nd rfl (by first | exact Or.inl rfl | exact Or.inr rfl) (pe_strT e_CHB))) pss_nil)
      (pss_cons (ps_set (i := 2) sc__law_source.nd rfl (by first | exact Or.inl rfl | exact Or.inr rfl) (pe_strT (show (PySem.Str.ofString "") = T [] by decide +kernel)))
      (pss_cons (ps_set (i := 3) sc__law_source.nd rfl (by first | exact Or.inl rfl | exact Or.inr rfl) (pe_call (ok__law_pick W) (hr.mono (by decide)) rfl W.g__law_pick W.F__law_pick.kp W.b__law_pick .nil pass0 (pa_cons (pv 0) (pa_cons pe_int pa_nil))))
      (Evl.pss_cut (ps_if (pt_cmpR (op_eqU hu64) (pe_call (ok__law_pick W) (hr.mono (by decide)) rfl W.g__law_pick W.F__law_pick.kp W.b__law_pick .nil pass0 (pa_cons (pv 0) (pa_cons pe_int pa_nil))) pe_int (by first | exact nomark _ | rfl)) (pss_one (ps_set (i := 3) sc__law_source.nd rfl (by first | exact Or.inl rfl | exact Or.inr rfl) (pe_call (ok__law_pick W) (hr.mono (by decide)) rfl W.g__law_pick W.F__law_pick.kp W.b__law_pick .nil pass0 (pa_cons (pv 0) (pa_cons pe_int pa_nil))))) pss_nil)
      (Evl.pss_cut (ps_for PassesOwn.never rfl (pi_range1 (by rfl) W.n_range (pa_cons (pv 3) pa_nil)) (pg_name (i := 4) sc__law_source.nd rfl (by first | exact Or.inl rfl | exact Or.inr rfl)) (pss_one (ps_set (i := 2) sc__law_source.nd rfl (by first | exact Or.inl rfl | exact Or.inr rfl) (pe_op op_addU (pv 2) (pe_ix (ix_U hu1) (pv 1) (pe_call (ok__law_pick W) (hr.mono (by decide)) rfl W.g__law_pick W.F__law_pick.kp W.b__law_pick .nil pass0 (pa_cons (pv 0) (pa_cons (pe_callB call_lenU (by rfl) W.n_len bb_len (pa_cons (pv 1) pa_nil)) pa_nil))) (fun _ _ => rfl))))))
      (Evl.pss_cut (ps_if (pt_cmpR (op_eqU hu64) (pe_call (ok__law_pick W) (hr.mono (by decide)) rfl W.g__law_pick W.F__law_pick.kp W.b__law_pick .nil pass0 (pa_cons (pv 0) (pa_cons pe_int pa_nil))) pe_int (by first | exact nomark _ | rfl)) (pss_one (ps_set (i := 2) sc__law_source.nd rfl (by first | exact Or.inl rfl | exact Or.inr rfl) (pe_op op_addU (pv 2) (pe_op op_repS (pe_strT (show (PySem.Str.ofString "a") = T [97] by decide +kernel)) (pe_op op_addU pe_int (pe_call (ok__law_pick W) (hr.mono (by decide)) rfl W.g__law_pick W.F__law_pick.kp W.b__law_pick .nil pass0 (pa_cons (pv 0) (pa_cons pe_int pa_nil)))))))) pss_nil)
      (Evl.pss_cut (ps_if (pt_cmpR (op_eqU hu64) (pe_call (ok__law_pick W) (hr.mono (by decide)) rfl W.g__law_pick W.F__law_pick.kp W.b__law_pick .nil pass0 (pa_cons (pv 0) (pa_cons pe_int pa_nil))) pe_int (by first | exact nomark _ | rfl)) (pss_one (ps_set (i := 2) sc__law_source.nd rfl (by first | exact Or.inl rfl | exact Or.inr rfl) (pe_op op_addU (pv 2) (pe_op op_repS (pe_strT (show (PySem.Str.ofString "7") = T [55] by decide +kernel)) (pe_op op_addU pe_int (pe_call (ok__law_pick W) (hr.mono (by decide)) rfl W.g__law_pick W.F__law_pick.kp W.b__law_pick .nil pass0 (pa_cons (pv 0) (pa_cons pe_int pa_nil)))))))) pss_nil)
      (Evl.pss_cut (ps_if (pt_cmpR (op_eqU hu64) (pe_call (ok__law_pick W) (hr.mono (by decide)) rfl W.g__law_pick W.F__law_pick.kp W.b__law_pick .nil pass0 (pa_cons (pv 0) (pa_cons pe_int pa_nil))) pe_int (by first | exact nomark _ | rfl)) (pss_one (ps_set (i := 2) sc__law_source.nd rfl (by first | exact Or.inl rfl | exact Or.inr rfl) (pe_op op_addU (pv 2) (pe_op op_repS (pe_strT (show (PySem.Str.ofString " ") = T [32] by decide +kernel)) (pe_op op_sub (pe_op op_addU pe_int (pe_call (ok__law_pick W) (hr.mono (by decide)) rfl W.g__law_pick W.F__law_pick.kp W.b__law_pick .nil pass0 (pa_cons (pv 0) (pa_cons pe_int pa_nil)))) (pe_callB call_lenU (by rfl) W.n_len bb_len (pa_cons (pv 2) pa_nil))))))) pss_nil)
      (pss_one (ps_ret (pv 2)))))))))))), ?_⟩
  refine z_start (σ := [some _, none, none, none, none]) rfl ?_
  one_sign
  refine ⟨rfl, ?_⟩
  one_sign
  refine z_addS (by show LET.length + CHA.length ≤ _; decide +kernel) ?_
  rw [T_app]
  one_sign
  refine Evl.q_cut (M := fun σ H' => ∃ cs : List Nat, σ = [some (.ref p), some (.str (T cs)), none, none, none] ∧ cs.length ≤ 150 ∧ 0 < cs.length ∧ St K H' p ∧ ∀ b, b ≠ p → H' b = H b) ?_ ?_
  · one_sign
    refine ⟨p, 2, rfl, hS, by decide, by decide, fun r H1 r1 r2 S1 s1 => ?_⟩
    one_sign
    refine iteD (fun h => ?_) (fun h => ?_)
    · one_sign
      exact ⟨CHB, rfl, chb_len.1, chb_len.2, S1, s1⟩
    · one_sign
      exact ⟨LET ++ CHA, rfl, cha_len.1, cha_len.2, S1, s1⟩
  rintro σ H1 ⟨cs, rfl, hc1, hc2, S1, s1⟩
  one_sign
  refine ⟨p, 8, rfl, S1, by decide, by decide, fun r H2 r1 r2 S2 s2 => ?_⟩
  have s2 : ∀ b, b ≠ p → H2 b = H b := fun b hb => (s2 b hb).trans (s1 b hb)
  one_sign
  refine Evl.q_cut (M := fun σ H' => ∃ n : Int, σ = [some (.ref p), some (.str (T cs)), some (.str (T [])), some (.int n), none] ∧ 0 ≤ n ∧ n ≤ 40 ∧ St K H' p ∧ ∀ b, b ≠ p → H' b = H b) ?_ ?_
  · one_sign
    refine ⟨p, 2, rfl, S2, by decide, by decide, fun r3 H3 r31 r32 S3 s3 => ?_⟩
    have s3 : ∀ b, b ≠ p → H3 b = H b := fun b hb => (s3 b hb).trans (s2 b hb)
    one_sign
    refine iteD (fun h => ?_) (fun h => ?_)
    · one_sign
      refine ⟨p, 41, rfl, S3, by decide, by decide, fun r4 H4 r41 r42 S4 s4 => ?_⟩
      one_sign
      exact ⟨r4, rfl, r41, by omega, S4, fun b hb => (s4 b hb).trans (s3 b hb)⟩
    · one_sign
      exact ⟨r, rfl, r1, by omega, S3, s3⟩
  rintro σ H3 ⟨n, rfl, n0, n1, S3, s3⟩
  refine Evl.q_cut (M := fun σ H' => ∃ (l : List Nat) (v4 : Option V), σ = [some (.ref p), some (.str (T cs)), some (.str (T l)), some (.int n), v4] ∧ l.length ≤ 40 ∧ St K H' p ∧ ∀ b, b ≠ p → H' b = H b) ?_ ?_
  · one_sign
    obtain ⟨m, rfl⟩ : ∃ m : Nat, n = (m : Int) := ⟨n.toNat, by omega⟩
    refine z_rng1 m rfl (by omega) ?_
    refine for_range (lo := 0) (n := m) (fun i σ H' => ∃ (l : List Nat) (v4 : Option V), σ = [some (.ref p), some (.str (T cs)), some (.str (T l)), some (.int (m : Int)), v4] ∧ l.length = i ∧ St K H' p ∧ ∀ b, b ≠ p → H' b = H b)
      ⟨[], _, rfl, rfl, S3, s3⟩ (fun i σ H5 hi hI => ?_) (fun σ H5 hI => ?_)
    · obtain ⟨l, v4, rfl, hl, S5, s5⟩ := hI
      one_sign
      refine z_lenT' (by omega) ?_
      one_sign
      refine ⟨p, cs.length, rfl, S5, by omega, by omega, fun r H6 r1 r2 S6 s6 => ?_⟩
      obtain ⟨c, hc, _⟩ := at_mem (l := cs) r1 r2 rfl
      one_sign
      refine z_ixS (by show cs.length ≤ sizeLine; rw [sizeLine_eq]; omega) hc ?_
      refine z_addS (by show l.length + 1 ≤ _; rw [sizeLine_eq]; omega) ?_
      rw [show (⟨#[c]⟩ : Str) = T [c] from rfl, T_app]
      one_sign
      exact ⟨l ++ [c], _, rfl, by rw [List.length_append, hl]; rfl, S6, fun b hb => (s6 b hb).trans (s5 b hb)⟩
    · obtain ⟨l, v4, rfl, hl, S5, s5⟩ := hI
      exact ⟨l, _, rfl, by omega, S5, s5⟩
  rintro σ H4 ⟨l, v4, rfl, hl, S4, s4⟩
  refine Evl.q_cut (M := fun σ H' => ∃ (l : List Nat) (v4 : Option V), σ = [some (.ref p), some (.str (T cs)), some (.str (T l)), some (.int n), v4] ∧ l.length ≤ 80 ∧ St K H' p ∧ ∀ b, b ≠ p → H' b = H b) ?_ ?_
  · one_sign
    refine ⟨p, 10, rfl, S4, by decide, by decide, fun r5 H5 r51 r52 S5 s5 => ?_⟩
    have s5 : ∀ b, b ≠ p → H5 b = H b := fun b hb => (s5 b hb).trans (s4 b hb)
    one_sign
    refine iteD (fun h => ?_) (fun h => ?_)
    · one_sign
      refine ⟨p, 5, rfl, S5, by decide, by decide, fun r6 H6 r61 r62 S6 s6 => ?_⟩
      have s6 : ∀ b, b ≠ p → H6 b = H b := fun b hb => (s6 b hb).trans (s5 b hb)
      one_sign
      refine ⟨97, 30 + r6, rfl, rfl, by omega, by omega, ?_⟩
      one_sign
      refine z_addS (by show l.length + (List.replicate (30 + r6).toNat 97).length ≤ _; rw [List.length_replicate, sizeLine_eq]; omega) ?_
      rw [T_app]
      one_sign
      exact ⟨_, _, rfl, by rw [List.length_append, List.length_replicate]; omega, S6, s6⟩
    · one_sign
      exact ⟨l, _, rfl, by omega, S5, s5⟩
  rintro σ H5 ⟨l, v4, rfl, hl, S5, s5⟩
  refine Evl.q_cut (M := fun σ H' => ∃ (l : List Nat) (v4 : Option V), σ = [some (.ref p), some (.str (T cs)), some (.str (T l)), some (.int n), v4] ∧ l.length ≤ 120 ∧ St K H' p ∧ ∀ b, b ≠ p → H' b = H b) ?_ ?_
  · one_sign
    refine ⟨p, 10, rfl, S5, by decide, by decide, fun r6 H6 r61 r62 S6 s6 => ?_⟩
    have s6 : ∀ b, b ≠ p → H6 b = H b := fun b hb => (s6 b hb).trans (s5 b hb)
    one_sign
    refine iteD (fun h => ?_) (fun h => ?_)
    · one_sign
      refine ⟨p, 5, rfl, S6, by decide, by decide, fun r7 H7 r71 r72 S7 s7 => ?_⟩
      have s7 : ∀ b, b ≠ p → H7 b = H b := fun b hb => (s7 b hb).trans (s6 b hb)
      one_sign
      refine ⟨55, 7 + r7, rfl, rfl, by omega, by omega, ?_⟩
      one_sign
      refine z_addS (by show l.length + (List.replicate (7 + r7).toNat 55).length ≤ _; rw [List.length_replicate, sizeLine_eq]; omega) ?_
      rw [T_app]
      one_sign
      exact ⟨_, _, rfl, by rw [List.length_append, List.length_replicate]; omega, S7, s7⟩
    · one_sign
      exact ⟨l, _, rfl, by omega, S6, s6⟩
  rintro σ H6 ⟨l, v4, rfl, hl, S6, s6⟩
  refine Evl.q_cut (M := fun σ H' => ∃ (l : List Nat) (v4 : Option V), σ = [some (.ref p), some (.str (T cs)), some (.str (T l)), some (.int n), v4] ∧ l.length ≤ 5000 ∧ St K H' p ∧ ∀ b, b ≠ p → H' b = H b) ?_ ?_
  · one_sign
    refine ⟨p, 8, rfl, S6, by decide, by decide, fun r7 H7 r71 r72 S7 s7 => ?_⟩
    have s7 : ∀ b, b ≠ p → H7 b = H b := fun b hb => (s7 b hb).trans (s6 b hb)
    one_sign
    refine iteD (fun h => ?_) (fun h => ?_)
    · one_sign
      refine ⟨p, 5, rfl, S7, by decide, by decide, fun r8 H8 r81 r82 S8 s8 => ?_⟩
      have s8 : ∀ b, b ≠ p → H8 b = H b := fun b hb => (s8 b hb).trans (s7 b hb)
      one_sign
      refine z_lenT' (by omega) ?_
      one_sign
      refine ⟨32, 3998 + r8 - (l.length : Int), rfl, rfl, by omega, by omega, ?_⟩
      one_sign
      refine z_addS (by show l.length + (List.replicate (3998 + r8 - (l.length : Int)).toNat 32).length ≤ _; rw [List.length_replicate, sizeLine_eq]; omega) ?_
      rw [T_app]
      one_sign
      exact ⟨_, _, rfl, by rw [List.length_append, List.length_replicate]; omega, S8, s8⟩
    · one_sign
      exact ⟨l, _, rfl, by omega, S7, s7⟩
  rintro σ H7 ⟨l, v4, rfl, hl, S7, s7⟩
  one_sign
  exact k l H7 hl S7 s7
def sp_law (K : PySem.W.Frag) : Sp := fun vs H Q _ => ∃ (a : Addr) (ns : List Int), vs = [.ref a] ∧ SqL K H a (ns.map V.int) ∧ ns.length ≤ 63 ∧ ∀ H', Q (.bl true) H'
theorem ok_law (W : Wd P K mg) : FnOk P w K mg base CX0 9 W.f_law W.fd_law ["_law_script"] (sp_law K) := by
  refine W.F_law.ok sc_law (fun vs H Q E h => by obtain ⟨a, ns, rfl, hs, hn, k⟩ := h; rfl) (fun cdv A outer s H vs Q E hr h => ?_)
  obtain ⟨a, ns, rfl, hs, hn, k⟩ := h
  have hu1 := hu_of hr
  have hu64 := hu64_of hr
  refine ⟨_, (pss_cons (ps_set (i := 1) sc_law.nd rfl (by first | exact Or.inl rfl | exact Or.inr rfl) (pe_call (ok__law_start W) (hr.mono (by decide)) rfl W.g__law_start W.F__law_start.kp W.b__law_start .nil pass0 (pa_cons (pv 0) pa_nil)))
      (pss_cons (ps_set (i := 2) sc_law.nd rfl (by first | exact Or.inl rfl | exact Or.inr rfl) (pe_call (ok__law_source W) (hr.mono (by decide)) rfl W.g__law_source W.F__law_source.kp W.b__law_source .nil pass0 (pa_cons (pv 1) pa_nil)))
      (pss_cons (ps_set (i := 3) sc_law.nd rfl (by first | exact Or.inl rfl | exact Or.inr rfl) (pe_un un_neg pe_int))
      (pss_cons (ps_set (i := 4) sc_law.nd rfl (by first | exact Or.inl rfl | exact Or.inr rfl) (pe_strT (show (PySem.Str.ofString "") = T [] by decide +kernel)))
      (pss_cons (ps_set (i := 5) sc_law.nd rfl (by first | exact Or.inl rfl | exact Or.inr rfl) (pe_lst pa_nil))
      (Evl.pss_cut (ps_tryH rfl rfl (fun _ pn xe tk _ => (pss_one (ps_set (i := 5) sc_law.nd rfl (by first | exact Or.inl rfl | exact Or.inr rfl) (pe_callS (ok_tokens_of W) (hr.mono (by decide)) rfl W.g_tokens_of W.F_tokens_of.kp W.b_tokens_of (fun σ => L2N.passAt tk σ) (pa_cons (pv 2) pa_nil))))) (hdl_as (i := 6) rfl rfl sc_law.nd rfl rfl ⟨rfl, by decide, .inl W.g_Malformed⟩ (fun a oe cls d pn hz hf => (pss_one (ps_set (i := 3) sc_law.nd rfl (by first | exact Or.inl rfl | exact Or.inr rfl) (pe_xfPK (K := K) rfl List.mem_cons_self (show PinE cls d oe from ⟨hz, hf⟩) (pv 6))))) (hdl_as (i := 6) rfl rfl sc_law.nd rfl rfl ⟨rfl, by decide, .inl W.g_Oversized⟩ (fun a oe cls d pn hz hf => (pss_one (ps_set (i := 4) sc_law.nd rfl (by first | exact Or.inl rfl | exact Or.inr rfl) (pe_xfPK (K := K) rfl List.mem_cons_self (show PinE cls d oe from ⟨hz, hf⟩) (pv 6))))) hdl_dead)))
      (pss_cons (ps_if (PW.pt (pw_or (pt_cmpR op_gtU (pe_callB call_lenU (by rfl) W.n_len bb_len (pa_cons (pv 2) pa_nil)) pe_int (by first | exact nomark _ | rfl)) (pw_or1 (pt_cmpR (op_neU hu64) (pv 4) (pe_strT (show (PySem.Str.ofString "") = T [] by decide +kernel)) (by first | exact nomark _ | rfl))))) (pss_one (ps_ret (pe_and (pe_cmpR op_gtU (pe_callB call_lenU (by rfl) W.n_len bb_len (pa_cons (pv 2) pa_nil)) pe_int (by first | exact nomark _ | rfl)) (pe_one (pe_cmpR (op_eqU hu64) (pv 4) (pe_strT (show (PySem.Str.ofString "source") = T [115, 111, 117, 114, 99, 101] by decide +kernel)) (by first | exact nomark _ | rfl)))))) pss_nil)
      (pss_cons (ps_if (pt_cmpR (op_eqU hu64) (pv 3) (pe_un un_neg pe_int) (by first | exact nomark _ | rfl)) (pss_one (ps_ret (pe_call (ok__law_tiles W) (hr.mono (by decide)) rfl W.g__law_tiles W.F__law_tiles.kp W.b__law_tiles .nil pass0 (pa_cons (pv 2) (pa_cons (pv 5) (pa_cons (pe_callB call_lenU (by rfl) W.n_len bb_len (pa_cons (pv 2) pa_nil)) pa_nil)))))) pss_nil)
      (pss_cons (ps_if (PW.pt (pw_or (pt_not (pt_truth (pe_callB call_isi (by rfl) W.n_isinstance bb_isinstance (pa_cons (pv 3) (pa_cons (pe_bt rfl W.n_int bb_int) pa_nil))) (by intro _; rfl))) (pw_or (pt_truth (pe_callB call_isi (by rfl) W.n_isinstance bb_isinstance (pa_cons (pv 3) (pa_cons (pe_bt rfl W.n_bool bb_bool) pa_nil))) (by intro _; rfl)) (pw_or (pt_cmpR op_ltU (pv 3) pe_int (by first | exact nomark _ | rfl)) (pw_or1 (pt_not (pt_truth (pe_call (ok__law_misfit W) (hr.mono (by decide)) rfl W.g__law_misfit W.F__law_misfit.kp W.b__law_misfit .nil pass0 (pa_cons (pv 2) (pa_cons (pv 3) pa_nil))) (by intro _; rfl)))))))) (pss_one (ps_ret pe_bl)) pss_nil)
      (pss_one (ps_ret (pe_call (ok__law_tiles W) (hr.mono (by decide)) rfl W.g__law_tiles W.F__law_tiles.kp W.b__law_tiles .nil pass0 (pa_cons (pv 2) (pa_cons (pe_call (ok_tokens_of W) (hr.mono (by decide)) rfl W.g_tokens_of W.F_tokens_of.kp W.b_tokens_of .nil passF (pa_cons (pe_slice sl_U (pv 2) po_none (po_some (pv 3))) pa_nil)) (pa_cons (pv 3) pa_nil))))))))))))))), ?_⟩
  refine z_start (σ := [some _, none, none, none, none, none, none]) rfl ?_
  one_sign
  refine ⟨a, ns, rfl, hs, hn, fun p H1 hp S1 same1 => ?_⟩
  one_sign
  refine ⟨p, rfl, S1, fun L H2 hl S2 s2 => ?_⟩
  one_sign
  refine z_newL (by show 0 ≤ sizeLine; decide) fun tk H3 htk f3 t3 => ?_
  one_sign
  refine ⟨fun σ H' => ∃ (pl : Int) (lm : List Nat) (tk : Addr), σ = [some (.ref a), some (.ref p), some (.str (T L)), some (.int pl), some (.str (T lm)), some (.ref tk), none] ∧
      ((4000 < L.length ∧ lm = [115, 111, 117, 114, 99, 101]) ∨ (L.length ≤ 4000 ∧ pl = -1 ∧ lm = [] ∧ (lex L 0).2 = none ∧ RowT H' tk (lex L 0).1) ∨ (L.length ≤ 4000 ∧ lm = [] ∧ ∃ f : Nat, pl = (f : Int) ∧ (lex L 0).2 = some f)), ?_, ?_⟩
  · unfold tCallS
    one_sign
    refine ⟨L, rfl, hl, fun h H' d f hd => ?_, fun h q hq H' d f hd => ?_, fun h hq q H' f hr => ?_⟩
    · refine ⟨false, W.em_OM, (fun z => by cases z), fun _ => ⟨true, W.em_OO, fun _ a' ha => ?_, (fun z => by cases z)⟩⟩
      one_sign
      refine ⟨_, rfl, rfl, _, _, _, _, rfl, W.E_Oversized, W.xn_Oversized_limit, rfl, upd_same, rfl, ?_⟩
      exact ⟨-1, _, tk, rfl, Or.inl ⟨h, rfl⟩⟩
    · refine ⟨true, W.em_MM, fun _ a' ha => ?_, (fun z => by cases z)⟩
      one_sign
      refine ⟨_, rfl, rfl, _, _, _, _, rfl, W.E_Malformed, W.xn_Malformed_at, rfl, upd_same, rfl, ?_⟩
      exact ⟨(q : Int), [], tk, rfl, Or.inr (Or.inr ⟨h, rfl, q, rfl, hq⟩)⟩
    · exact ⟨-1, [], q, rfl, Or.inr (Or.inl ⟨h, rfl, rfl, hq, hr⟩)⟩
  rintro σ H4 ⟨pl, lm, tk2, rfl, hO⟩
  one_sign
  refine z_lenT' hl ?_
  one_sign
  rcases hO with ⟨h4, rfl⟩ | ⟨h4, rfl, rfl, hF, hR⟩ | ⟨h4, rfl, f, rfl, hF⟩
  · refine iteD (fun _ => ?_) (fun z => by omega)
    refine iteT ?_
    one_sign
    refine z_lenT' hl ?_
    one_sign
    refine iteD (fun _ => ?_) (fun z => by omega)
    one_sign
    exact k _
  · refine iteD (fun z => by omega) (fun _ => ?_)
    one_sign
    rw [show (!decide (T [] = T [])) = false by simp]
    one_sign
    refine iteD (fun _ => ?_) (fun z => absurd rfl z)
    one_sign
    refine z_lenT' hl ?_
    one_sign
    refine ⟨L, tk2, by rw [hF]; rfl, hl, hR, fun H' f => k _⟩
  · refine iteD (fun z => by omega) (fun _ => ?_)
    one_sign
    rw [show (!decide (T [] = T [])) = false by simp]
    one_sign
    refine iteD (fun z => by omega) (fun _ => ?_)
    obtain ⟨g1, g2, g3, g4, g5⟩ := lex_ge hF
    one_sign
    refine iteD (fun z => by omega) (fun _ => ?_)
    one_sign
    refine ⟨L, f, rfl, hl, g2, g3, g4, ?_⟩
    one_sign
    refine z_sl4 f hl rfl ?_
    one_sign
    have ht := lex_tk hF
    have hle : (L.take f).length ≤ L.length := by rw [List.length_take]; omega
    refine ⟨L.take f, rfl, by omega, fun z => by omega, fun _ q hq => (by rw [ht] at hq; cases hq), fun _ _ q H' f5 hR => ?_⟩
    rw [ht] at hR
    one_sign
    exact ⟨L, q, by rw [hF]; rfl, hl, hR, fun H' f => k _⟩
end

end LX
namespace LX
open PySem PySem.Spec PyProof.Rows L2 NdefX

theorem all_mk {l : PySem.W.OpenLaw} {w : World} {K : PySem.W.Frag} {mg : Str → Option Value} {fa : Addr} (W : Wd l.prog K mg) (hfa : mg "law" = some (.ref fa)) :
    ∃ fd : FuncData, (∀ (s : Shared) (v : Value), BindsTo s fd ⟨[v], []⟩ [("_law_script", v)]) ∧ ∀ base : Heap, K.In base → base.Ns mainGlobals mg → FnOk l.prog w K mg base CX0 9 fa fd ["_law_script"] (sp_law K) := by
  have e := hfa.symm.trans W.g_law
  cases e
  obtain ⟨oc, od, kV, doc, pm, an, cdv, ct, osl, e, _, _⟩ := W.F_law.ex
  exact ⟨W.fd_law, fun s v => by rw [e]; exact .of_eq rfl, fun base _ _ => ok_law W⟩
theorem walk {l : PySem.W.OpenLaw} {q : Program} {loose : List Str} {XP : (Str → Option Value) → Heap → Prop} {YP : World → Heap → Prop} {d : DefRec} {K : Params → PySem.W.Frag} (hn : l.most = some 63) (hdf : d.params.defaults = [])
    (hY : ∀ (w : World) (h : Heap), YP w h → (K w.params).In h)
    (F : ∀ (w : World) (mg : Str → Option Value) (fa : Addr) (h : Heap), (K w.params).In h → h.Ns mainGlobals mg → mg d.name = some (.ref fa) →
      ∃ fd : FuncData, (∀ (s : Shared) (u : Value), BindsTo s fd ⟨[u], []⟩ [("_law_script", u)]) ∧ ∀ base : Heap, (K w.params).In base → base.Ns mainGlobals mg → FnOk l.prog w (K w.params) mg base CX0 9 fa fd ["_law_script"] (sp_law (K w.params))) :
    PySem.W.WalkO q loose XP YP l.row.toRowW d [] (fun f vs => PySem.call f vs) :=
  L2.walk_of (n := 63) (k := 9) (x := "_law_script") (CX := fun _ => CX0) (sp := fun w => sp_law (K w.params)) hn (by decide) hdf ⟨rfl, by decide, by decide⟩ hY F (fun _ _ a ns hl _ hS => ⟨a, ns, rfl, hS, hl, fun _ => rfl⟩) fun _ _ _ _ _ z => z

end LX

open PySem PySem.W PyProof.Rows
set_option maxRecDepth 100000 in
set_option maxHeartbeats 0 in
theorem PySem.Challenge.cw_saggar_k11_whole_texts_split_into_tokens_holds : PySem.Challenge.rw_saggar_k11_whole_texts_split_into_tokens.Holds := by
  w_on; o_law; k_head; (case hw => w_witness2)
  k_fill
  refine LX.walk (l := PySem.Challenge.rw_saggar_k11_whole_texts_split_into_tokens) rfl rfl (fun w h Y => PySem.W.kIn_of Y) ?F
  case F =>
    intro w mg fa h KX G hmg
    refine' LX.all_mk (l := PySem.Challenge.rw_saggar_k11_whole_texts_split_into_tokens) (LX.mkW KX G ?z_third ?z_super ?z_top ?z_sg ?z_st ?z_abs ?z_bool ?z_int ?z_isinstance ?z_len ?z_list ?z_min ?z_range ?z_str ?z_tuple ?c_MOST_SOURCE ?c_MOST_NAME ?c_MOST_DIGITS ?c_LETTERS ?c_DIGITS ?c_SIGNS ?c_MARKS ?cl_SaggarError ?cl_Malformed ?cl_Oversized ?a_Malformed___init__ ?l_Malformed___init__ ?c_Malformed___init__ ?k_Malformed___init__ ?x1_Malformed___init__ ?x2_Malformed___init__ ?x3_Malformed___init__ ?x4_Malformed___init__ ?xl_Malformed ?xr_Malformed ?xs_Malformed ?xe_Malformed ?xt_Malformed ?xk_Malformed ?xm_Malformed ?xi_Malformed ?xb_Malformed ?eg_Malformed ?ek_Malformed ?ed_Malformed ?ea_Malformed ?em_Malformed ?xn_Malformed_at ?a_Oversized___init__ ?l_Oversized___init__ ?c_Oversized___init__ ?k_Oversized___init__ ?x1_Oversized___init__ ?x2_Oversized___init__ ?x3_Oversized___init__ ?x4_Oversized___init__ ?xl_Oversized ?xr_Oversized ?xs_Oversized ?xe_Oversized ?xt_Oversized ?xk_Oversized ?xm_Oversized ?xi_Oversized ?xb_Oversized ?eg_Oversized ?ek_Oversized ?ed_Oversized ?ea_Oversized ?em_Oversized ?xn_Oversized_limit ?a_char_at ?l_char_at ?c_char_at ?k_char_at ?a_is_in ?l_is_in ?c_is_in ?k_is_in ?a_end_of ?l_end_of ?c_end_of ?k_end_of ?a_is_name ?l_is_name ?c_is_name ?k_is_name ?a_name_end ?l_name_end ?c_name_end ?k_name_end ?a_is_keyword_end ?l_is_keyword_end ?c_is_keyword_end ?k_is_keyword_end ?a_read_name ?l_read_name ?c_read_name ?k_read_name ?a_read_number ?l_read_number ?c_read_number ?k_read_number ?a_read_hash ?l_read_hash ?c_read_hash ?k_read_hash ?a_read_quoted ?l_read_quoted ?c_read_quoted ?k_read_quoted ?a_read_sign ?l_read_sign ?c_read_sign ?k_read_sign ?a_read_token ?l_read_token ?c_read_token ?k_read_token ?a_skipped ?l_skipped ?c_skipped ?k_skipped ?a_tokens_of ?l_tokens_of ?c_tokens_of ?k_tokens_of ?a__law_start ?l__law_start ?c__law_start ?k__law_start ?a__law_pick ?l__law_pick ?c__law_pick ?k__law_pick ?a__law_letters ?l__law_letters ?c__law_letters ?k__law_letters ?a__law_source ?l__law_source ?c__law_source ?k__law_source ?a__law_run ?l__law_run ?c__law_run ?k__law_run ?a__law_word_end ?l__law_word_end ?c__law_word_end ?k__law_word_end ?a__law_is_letter ?l__law_is_letter ?c__law_is_letter ?k__law_is_letter ?a__law_name_end ?l__law_name_end ?c__law_name_end ?k__law_name_end ?a__law_colon ?l__law_colon ?c__law_colon ?k__law_colon ?a__law_skip ?l__law_skip ?c__law_skip ?k__law_skip ?a__law_symbol_end ?l__law_symbol_end ?c__law_symbol_end ?k__law_symbol_end ?a__law_token_end ?l__law_token_end ?c__law_token_end ?k__law_token_end ?a__law_is_token ?l__law_is_token ?c__law_is_token ?k__law_is_token ?a__law_tiles ?l__law_tiles ?c__law_tiles ?k__law_tiles ?a__law_misfit ?l__law_misfit ?c__law_misfit ?k__law_misfit ?a_law ?l_law ?c_law ?k_law ?qem_MM ?qem_OM ?qem_OO) hmg
    (case z_third => first | k_is | ks_is | rfl | decide +kernel)
    (case z_super => first | k_is | ks_is | rfl | decide +kernel)
    (case z_top => first | k_is | ks_is | rfl | decide +kernel)
    (case z_sg => first | k_is | ks_is | rfl | decide +kernel)
    (case z_st => first | k_is | ks_is | rfl | decide +kernel)
    (case z_abs => first | k_is | ks_is | rfl | decide +kernel)
    (case z_bool => first | k_is | ks_is | rfl | decide +kernel)
    (case z_int => first | k_is | ks_is | rfl | decide +kernel)
    (case z_isinstance => first | k_is | ks_is | rfl | decide +kernel)
    (case z_len => first | k_is | ks_is | rfl | decide +kernel)
    (case z_list => first | k_is | ks_is | rfl | decide +kernel)
    (case z_min => first | k_is | ks_is | rfl | decide +kernel)
    (case z_range => first | k_is | ks_is | rfl | decide +kernel)
    (case z_str => first | k_is | ks_is | rfl | decide +kernel)
    (case z_tuple => first | k_is | ks_is | rfl | decide +kernel)
    (case c_MOST_SOURCE => first | k_is | ks_is | rfl | decide +kernel)
    (case c_MOST_NAME => first | k_is | ks_is | rfl | decide +kernel)
    (case c_MOST_DIGITS => first | k_is | ks_is | rfl | decide +kernel)
    (case c_LETTERS => first | k_is | ks_is | rfl | decide +kernel)
    (case c_DIGITS => first | k_is | ks_is | rfl | decide +kernel)
    (case c_SIGNS => first | k_is | ks_is | rfl | decide +kernel)
    (case c_MARKS => first | k_is | ks_is | rfl | decide +kernel)
    (case cl_SaggarError => first | k_is | ks_is | rfl | decide +kernel)
    (case cl_Malformed => first | k_is | ks_is | rfl | decide +kernel)
    (case cl_Oversized => first | k_is | ks_is | rfl | decide +kernel)
    (case a_Malformed___init__ => first | k_is | ks_is | rfl | decide +kernel)
    (case l_Malformed___init__ => first | k_is | ks_is | rfl | decide +kernel)
    (case c_Malformed___init__ => first | k_is | ks_is | rfl | decide +kernel)
    (case k_Malformed___init__ => first | k_is | ks_is | rfl | decide +kernel)
    (case x1_Malformed___init__ => first | k_is | ks_is | rfl | decide +kernel)
    (case x2_Malformed___init__ => first | k_is | ks_is | rfl | decide +kernel)
    (case x3_Malformed___init__ => first | k_is | ks_is | rfl | decide +kernel)
    (case x4_Malformed___init__ => first | k_is | ks_is | rfl | decide +kernel)
    (case xl_Malformed => first | k_is | ks_is | rfl | decide +kernel)
    (case xr_Malformed => first | k_is | ks_is | rfl | decide +kernel)
    (case xs_Malformed => first | k_is | ks_is | rfl | decide +kernel)
    (case xe_Malformed => first | k_is | ks_is | rfl | decide +kernel)
    (case xt_Malformed => first | k_is | ks_is | rfl | decide +kernel)
    (case xk_Malformed => first | k_is | ks_is | rfl | decide +kernel)
    (case xm_Malformed => first | k_is | ks_is | rfl | decide +kernel)
    (case xi_Malformed => first | k_is | ks_is | rfl | decide +kernel)
    (case xb_Malformed => first | k_is | ks_is | rfl | decide +kernel)
    (case eg_Malformed => first | k_is | ks_is | rfl | decide +kernel)
    (case ek_Malformed => first | k_is | ks_is | rfl | decide +kernel)
    (case ed_Malformed => first | k_is | ks_is | rfl | decide +kernel)
    (case ea_Malformed => first | k_is | ks_is | rfl | decide +kernel)
    (case em_Malformed => first | k_is | ks_is | rfl | decide +kernel)
    (case xn_Malformed_at => first | k_is | ks_is | rfl | decide +kernel)
    (case a_Oversized___init__ => first | k_is | ks_is | rfl | decide +kernel)
    (case l_Oversized___init__ => first | k_is | ks_is | rfl | decide +kernel)
    (case c_Oversized___init__ => first | k_is | ks_is | rfl | decide +kernel)
    (case k_Oversized___init__ => first | k_is | ks_is | rfl | decide +kernel)
    (case x1_Oversized___init__ => first | k_is | ks_is | rfl | decide +kernel)
    (case x2_Oversized___init__ => first | k_is | ks_is | rfl | decide +kernel)
    (case x3_Oversized___init__ => first | k_is | ks_is | rfl | decide +kernel)
    (case x4_Oversized___init__ => first | k_is | ks_is | rfl | decide +kernel)
    (case xl_Oversized => first | k_is | ks_is | rfl | decide +kernel)
    (case xr_Oversized => first | k_is | ks_is | rfl | decide +kernel)
    (case xs_Oversized => first | k_is | ks_is | rfl | decide +kernel)
    (case xe_Oversized => first | k_is | ks_is | rfl | decide +kernel)
    (case xt_Oversized => first | k_is | ks_is | rfl | decide +kernel)
    (case xk_Oversized => first | k_is | ks_is | rfl | decide +kernel)
    (case xm_Oversized => first | k_is | ks_is | rfl | decide +kernel)
    (case xi_Oversized => first | k_is | ks_is | rfl | decide +kernel)
    (case xb_Oversized => first | k_is | ks_is | rfl | decide +kernel)
    (case eg_Oversized => first | k_is | ks_is | rfl | decide +kernel)
    (case ek_Oversized => first | k_is | ks_is | rfl | decide +kernel)
    (case ed_Oversized => first | k_is | ks_is | rfl | decide +kernel)
    (case ea_Oversized => first | k_is | ks_is | rfl | decide +kernel)
    (case em_Oversized => first | k_is | ks_is | rfl | decide +kernel)
    (case xn_Oversized_limit => first | k_is | ks_is | rfl | decide +kernel)
    (case a_char_at => first | k_is | ks_is | rfl | decide +kernel)
    (case l_char_at => first | k_is | ks_is | rfl | decide +kernel)
    (case c_char_at => first | k_is | ks_is | rfl | decide +kernel)
    (case k_char_at => first | k_is | ks_is | rfl | decide +kernel)
    (case a_is_in => first | k_is | ks_is | rfl | decide +kernel)
    (case l_is_in => first | k_is | ks_is | rfl | decide +kernel)
    (case c_is_in => first | k_is | ks_is | rfl | decide +kernel)
    (case k_is_in => first | k_is | ks_is | rfl | decide +kernel)
    (case a_end_of => first | k_is | ks_is | rfl | decide +kernel)
    (case l_end_of => first | k_is | ks_is | rfl | decide +kernel)
    (case c_end_of => first | k_is | ks_is | rfl | decide +kernel)
    (case k_end_of => first | k_is | ks_is | rfl | decide +kernel)
    (case a_is_name => first | k_is | ks_is | rfl | decide +kernel)
    (case l_is_name => first | k_is | ks_is | rfl | decide +kernel)
    (case c_is_name => first | k_is | ks_is | rfl | decide +kernel)
    (case k_is_name => first | k_is | ks_is | rfl | decide +kernel)
    (case a_name_end => first | k_is | ks_is | rfl | decide +kernel)
    (case l_name_end => first | k_is | ks_is | rfl | decide +kernel)
    (case c_name_end => first | k_is | ks_is | rfl | decide +kernel)
    (case k_name_end => first | k_is | ks_is | rfl | decide +kernel)
    (case a_is_keyword_end => first | k_is | ks_is | rfl | decide +kernel)
    (case l_is_keyword_end => first | k_is | ks_is | rfl | decide +kernel)
    (case c_is_keyword_end => first | k_is | ks_is | rfl | decide +kernel)
    (case k_is_keyword_end => first | k_is | ks_is | rfl | decide +kernel)
    (case a_read_name => first | k_is | ks_is | rfl | decide +kernel)
    (case l_read_name => first | k_is | ks_is | rfl | decide +kernel)
    (case c_read_name => first | k_is | ks_is | rfl | decide +kernel)
    (case k_read_name => first | k_is | ks_is | rfl | decide +kernel)
    (case a_read_number => first | k_is | ks_is | rfl | decide +kernel)
    (case l_read_number => first | k_is | ks_is | rfl | decide +kernel)
    (case c_read_number => first | k_is | ks_is | rfl | decide +kernel)
    (case k_read_number => first | k_is | ks_is | rfl | decide +kernel)
    (case a_read_hash => first | k_is | ks_is | rfl | decide +kernel)
    (case l_read_hash => first | k_is | ks_is | rfl | decide +kernel)
    (case c_read_hash => first | k_is | ks_is | rfl | decide +kernel)
    (case k_read_hash => first | k_is | ks_is | rfl | decide +kernel)
    (case a_read_quoted => first | k_is | ks_is | rfl | decide +kernel)
    (case l_read_quoted => first | k_is | ks_is | rfl | decide +kernel)
    (case c_read_quoted => first | k_is | ks_is | rfl | decide +kernel)
    (case k_read_quoted => first | k_is | ks_is | rfl | decide +kernel)
    (case a_read_sign => first | k_is | ks_is | rfl | decide +kernel)
    (case l_read_sign => first | k_is | ks_is | rfl | decide +kernel)
    (case c_read_sign => first | k_is | ks_is | rfl | decide +kernel)
    (case k_read_sign => first | k_is | ks_is | rfl | decide +kernel)
    (case a_read_token => first | k_is | ks_is | rfl | decide +kernel)
    (case l_read_token => first | k_is | ks_is | rfl | decide +kernel)
    (case c_read_token => first | k_is | ks_is | rfl | decide +kernel)
    (case k_read_token => first | k_is | ks_is | rfl | decide +kernel)
    (case a_skipped => first | k_is | ks_is | rfl | decide +kernel)
    (case l_skipped => first | k_is | ks_is | rfl | decide +kernel)
    (case c_skipped => first | k_is | ks_is | rfl | decide +kernel)
    (case k_skipped => first | k_is | ks_is | rfl | decide +kernel)
    (case a_tokens_of => first | k_is | ks_is | rfl | decide +kernel)
    (case l_tokens_of => first | k_is | ks_is | rfl | decide +kernel)
    (case c_tokens_of => first | k_is | ks_is | rfl | decide +kernel)
    (case k_tokens_of => first | k_is | ks_is | rfl | decide +kernel)
    (case a__law_start => first | k_is | ks_is | rfl | decide +kernel)
    (case l__law_start => first | k_is | ks_is | rfl | decide +kernel)
    (case c__law_start => first | k_is | ks_is | rfl | decide +kernel)
    (case k__law_start => first | k_is | ks_is | rfl | decide +kernel)
    (case a__law_pick => first | k_is | ks_is | rfl | decide +kernel)
    (case l__law_pick => first | k_is | ks_is | rfl | decide +kernel)
    (case c__law_pick => first | k_is | ks_is | rfl | decide +kernel)
    (case k__law_pick => first | k_is | ks_is | rfl | decide +kernel)
    (case a__law_letters => first | k_is | ks_is | rfl | decide +kernel)
    (case l__law_letters => first | k_is | ks_is | rfl | decide +kernel)
    (case c__law_letters => first | k_is | ks_is | rfl | decide +kernel)
    (case k__law_letters => first | k_is | ks_is | rfl | decide +kernel)
    (case a__law_source => first | k_is | ks_is | rfl | decide +kernel)
    (case l__law_source => first | k_is | ks_is | rfl | decide +kernel)
    (case c__law_source => first | k_is | ks_is | rfl | decide +kernel)
    (case k__law_source => first | k_is | ks_is | rfl | decide +kernel)
    (case a__law_run => first | k_is | ks_is | rfl | decide +kernel)
    (case l__law_run => first | k_is | ks_is | rfl | decide +kernel)
    (case c__law_run => first | k_is | ks_is | rfl | decide +kernel)
    (case k__law_run => first | k_is | ks_is | rfl | decide +kernel)
    (case a__law_word_end => first | k_is | ks_is | rfl | decide +kernel)
    (case l__law_word_end => first | k_is | ks_is | rfl | decide +kernel)
    (case c__law_word_end => first | k_is | ks_is | rfl | decide +kernel)
    (case k__law_word_end => first | k_is | ks_is | rfl | decide +kernel)
    (case a__law_is_letter => first | k_is | ks_is | rfl | decide +kernel)
    (case l__law_is_letter => first | k_is | ks_is | rfl | decide +kernel)
    (case c__law_is_letter => first | k_is | ks_is | rfl | decide +kernel)
    (case k__law_is_letter => first | k_is | ks_is | rfl | decide +kernel)
    (case a__law_name_end => first | k_is | ks_is | rfl | decide +kernel)
    (case l__law_name_end => first | k_is | ks_is | rfl | decide +kernel)
    (case c__law_name_end => first | k_is | ks_is | rfl | decide +kernel)
    (case k__law_name_end => first | k_is | ks_is | rfl | decide +kernel)
    (case a__law_colon => first | k_is | ks_is | rfl | decide +kernel)
    (case l__law_colon => first | k_is | ks_is | rfl | decide +kernel)
    (case c__law_colon => first | k_is | ks_is | rfl | decide +kernel)
    (case k__law_colon => first | k_is | ks_is | rfl | decide +kernel)
    (case a__law_skip => first | k_is | ks_is | rfl | decide +kernel)
    (case l__law_skip => first | k_is | ks_is | rfl | decide +kernel)
    (case c__law_skip => first | k_is | ks_is | rfl | decide +kernel)
    (case k__law_skip => first | k_is | ks_is | rfl | decide +kernel)
    (case a__law_symbol_end => first | k_is | ks_is | rfl | decide +kernel)
    (case l__law_symbol_end => first | k_is | ks_is | rfl | decide +kernel)
    (case c__law_symbol_end => first | k_is | ks_is | rfl | decide +kernel)
    (case k__law_symbol_end => first | k_is | ks_is | rfl | decide +kernel)
    (case a__law_token_end => first | k_is | ks_is | rfl | decide +kernel)
    (case l__law_token_end => first | k_is | ks_is | rfl | decide +kernel)
    (case c__law_token_end => first | k_is | ks_is | rfl | decide +kernel)
    (case k__law_token_end => first | k_is | ks_is | rfl | decide +kernel)
    (case a__law_is_token => first | k_is | ks_is | rfl | decide +kernel)
    (case l__law_is_token => first | k_is | ks_is | rfl | decide +kernel)
    (case c__law_is_token => first | k_is | ks_is | rfl | decide +kernel)
    (case k__law_is_token => first | k_is | ks_is | rfl | decide +kernel)
    (case a__law_tiles => first | k_is | ks_is | rfl | decide +kernel)
    (case l__law_tiles => first | k_is | ks_is | rfl | decide +kernel)
    (case c__law_tiles => first | k_is | ks_is | rfl | decide +kernel)
    (case k__law_tiles => first | k_is | ks_is | rfl | decide +kernel)
    (case a__law_misfit => first | k_is | ks_is | rfl | decide +kernel)
    (case l__law_misfit => first | k_is | ks_is | rfl | decide +kernel)
    (case c__law_misfit => first | k_is | ks_is | rfl | decide +kernel)
    (case k__law_misfit => first | k_is | ks_is | rfl | decide +kernel)
    (case a_law => first | k_is | ks_is | rfl | decide +kernel)
    (case l_law => first | k_is | ks_is | rfl | decide +kernel)
    (case c_law => first | k_is | ks_is | rfl | decide +kernel)
    (case k_law => first | k_is | ks_is | rfl | decide +kernel)
    (case qem_MM => first | k_is | ks_is | rfl | decide +kernel)
    (case qem_OM => first | k_is | ks_is | rfl | decide +kernel)
    (case qem_OO => first | k_is | ks_is | rfl | decide +kernel)
    all_goals first | exact PySem.Value.none | exact none | exact (0 : PySem.Addr)

import PyProof.Rows.All
import Wide.All
import OpenK.AllK
import Wide.FinOn
import HandS.ForMost
import HandS.Flow
import HandS.Wide
import HandS.IsInst
import HandS.TupAny
import HandS.StrMore
import HandS.SortInts
import HandS.Walk
import HandS.Defaults
import HandS.Head0
import HandS.Head1
import HandS.Head2
import HandS.HeadEnd
import HandS.HeadHook1
import HandS.HeadHook2
import PySem.Challenge.RW_escheat_k29_captured_variables
set_option Elab.async false
set_option linter.all false
set_option maxRecDepth 100000
set_option maxHeartbeats 4000000
/-! U: operators by value, as functions of the values' shapes (so that a reading computes), and the steps of a reading. -/
namespace U
open PySem PySem.Spec PyProof.Rows L2

/-! ### operators by value -/
section
variable {X : Cx}
def uAdd (K : PySem.W.Frag) : R2 := fun x y H Q => match x, y with
  | .int i, .int j => Q (.int (i + j)) H
  | .str a, .str b => a.length + b.length ≤ sizeLine ∧ Q (.str (a ++ b)) H
  | .ref a, .ref b => (∃ xs ys, H a = some (.lst xs) ∧ H b = some (.lst ys) ∧ xs.length + ys.length ≤ sizeLine ∧ ∀ p, H p = none → Q (.ref p) (upd H p (.lst (xs ++ ys)))) ∨ rCatA K x y H Q
  | _, _ => False
theorem o_add : OpR X (binaryOp .Add) (uAdd X.K) := by
  intro pins s σ H x y v u Q I rx ry h
  cases x <;> cases y <;> first | exact (show False from h).elim | skip
  · exact op_add pins s σ H _ _ v u Q I rx ry ⟨_, _, rfl, rfl, h⟩
  · exact op_add_str pins s σ H _ _ v u Q I rx ry ⟨_, _, rfl, rfl, h.1, h.2⟩
  · rcases h with h | h
    · obtain ⟨xs, ys, h1, h2, h3, h4⟩ := h
      exact op_cat pins s σ H _ _ v u Q I rx ry ⟨_, _, xs, ys, rfl, rfl, h1, h2, h3, h4⟩
    · exact op_catA pins s σ H _ _ v u Q I rx ry h
def uSub : R2 := fun x y H Q => match x, y with
  | .int i, .int j => Q (.int (i - j)) H
  | _, _ => False
theorem o_sub : OpR X (binaryOp .Sub) uSub := by
  intro pins s σ H x y v u Q I rx ry h
  cases x <;> cases y <;> first | exact (show False from h).elim | skip
  exact op_sub pins s σ H _ _ v u Q I rx ry ⟨_, _, rfl, rfl, h⟩
def uMul : R2 := fun x y H Q => match x, y with
  | .int i, .int j => (CMul i j ∨ CMulW i j) ∧ Q (.int (i * j)) H
  | .str z, .int k => z.length * k.toNat ≤ 1000000 ∧ k ≤ 1000000 ∧ -(2 ^ 63) ≤ k ∧ Q (.str (Txt.mul z k)) H
  | .ref a, .int k => ∃ xs, H a = some (.lst xs) ∧ -(2 ^ 63) ≤ k ∧ k < 2 ^ 63 ∧ xs.length * k.toNat ≤ sizeLine ∧ ∀ p, H p = none → Q (.ref p) (upd H p (.lst (List.replicate k.toNat xs).flatten))
  | _, _ => False
theorem o_mul : OpR X (binaryOp .Mult) uMul := by
  intro pins s σ H x y v u Q I rx ry h
  cases x <;> cases y <;> first | exact (show False from h).elim | skip
  · rcases h.1 with c | c
    · exact op_mul pins s σ H _ _ v u Q I rx ry ⟨_, _, rfl, rfl, c, h.2⟩
    · exact op_mulW pins s σ H _ _ v u Q I rx ry ⟨_, _, rfl, rfl, c, h.2⟩
  · rename_i z k
    obtain ⟨h1, h2, h3, q⟩ := h
    obtain ⟨t, rfl⟩ := rx
    obtain ⟨t', rfl⟩ := ry
    have hok : PySem.MulOk z k := by
      refine ⟨?_, fun h _ => ?_, fun h _ => ?_⟩
      · have a1 : ¬ k < -(2 ^ 63 : Int) := by omega
        have a2 : ¬ k ≥ (2 ^ 63 : Int) := by omega
        rw [decide_eq_false a1, decide_eq_false a2]; rfl
      · have hpos : 0 < k := by omega
        have e : ((z.length * k.toNat : Nat) : Int) = (z.length : Int) * k := by
          rw [Int.natCast_mul, Int.toNat_of_nonneg (by omega)]
        have h3 : (z.length : Int) * k ≤ 2 ^ 63 - 1 := by rw [← e]; omega
        have h4 : (z.length : Int) ≤ (2 ^ 63 - 1) / k := (Int.le_ediv_iff_mul_le hpos).mpr h3
        omega
      · exact PyProof.Rows.short24 (by omega)
    exact SB.mul hok fun t' n => ⟨.str _, H, I.tok _, ⟨_, rfl⟩, q⟩
  · obtain ⟨xs, h1, h2, h3, h4, h5⟩ := h
    exact op_rep pins s σ H _ _ v u Q I rx ry ⟨_, _, xs, rfl, rfl, h1, h2, h3, h4, h5⟩
def uFdiv : R2 := fun x y H Q => match x, y with
  | .int i, .int j => CDivW i j ∧ Q (.int (i / j)) H
  | _, _ => False
theorem o_fdiv : OpR X (binaryOp .FloorDiv) uFdiv := by
  intro pins s σ H x y v u Q I rx ry h
  cases x <;> cases y <;> first | exact (show False from h).elim | skip
  exact op_fdivW pins s σ H _ _ v u Q I rx ry ⟨_, _, rfl, rfl, h.1, h.2⟩
def uMod : R2 := fun x y H Q => match x, y with
  | .int i, .int j => 0 < j ∧ Q (.int (i % j)) H
  | _, _ => False
theorem o_mod : OpR X (binaryOp .Mod) uMod := by
  intro pins s σ H x y v u Q I rx ry h
  cases x <;> cases y <;> first | exact (show False from h).elim | skip
  exact op_mod pins s σ H _ _ v u Q I rx ry ⟨_, _, rfl, rfl, h.1, h.2⟩
def uPow : R2 := fun x y H Q => match x, y with
  | .int i, .int j => CPow i j ∧ Q (.int (i ^ j.toNat)) H
  | _, _ => False
theorem o_pow : OpR X (binaryOp .Pow) uPow := by
  intro pins s σ H x y v u Q I rx ry h
  cases x <;> cases y <;> first | exact (show False from h).elim | skip
  exact op_pow pins s σ H _ _ v u Q I rx ry ⟨_, _, rfl, rfl, h.1, h.2⟩
def uNeg : V → Hp → VK → Prop := fun x H Q => match x with
  | .int i => Q (.int (-i)) H
  | _ => False
theorem u_neg : UnR X (unaryOp .USub) uNeg := by
  intro pins s σ H x v Q I rx h
  cases x <;> first | exact (show False from h).elim | skip
  exact un_neg pins s σ H _ v Q I rx ⟨_, rfl, h⟩
/-! comparisons -/
def uEq (K : PySem.W.Frag) : R2 := fun x y H Q => (scal x y = true ∧ Q (.bl (decide (x = y))) H) ∨ rEqD K x y H Q
theorem o_eq (hu : X.A.units + 64 < cLine) : OpR X (compareOp .Eq) (uEq X.K) := op_eq.or (op_eqD hu)
def uNe (K : PySem.W.Frag) : R2 := fun x y H Q => (scal x y = true ∧ Q (.bl (!decide (x = y))) H) ∨ rNeD K x y H Q
theorem o_ne (hu : X.A.units + 64 < cLine) : OpR X (compareOp .NotEq) (uNe X.K) := op_ne.or (op_neD hu)
def uCmpI (p : Int → Int → Bool) : R2 := fun x y H Q => match x, y with
  | .int i, .int j => Q (.bl (p i j)) H
  | _, _ => False
abbrev uLt : R2 := uCmpI fun i j => decide (i < j)
abbrev uLe : R2 := uCmpI fun i j => decide (i ≤ j)
abbrev uGt : R2 := uCmpI fun i j => decide (j < i)
abbrev uGe : R2 := uCmpI fun i j => decide (j ≤ i)
theorem o_lt : OpR X (compareOp .Lt) uLt := by
  intro pins s σ H x y v u Q I rx ry h
  cases x <;> cases y <;> first | exact (show False from h).elim | skip
  exact op_lt pins s σ H _ _ v u Q I rx ry ⟨_, _, rfl, rfl, h⟩
theorem o_le : OpR X (compareOp .LtE) uLe := by
  intro pins s σ H x y v u Q I rx ry h
  cases x <;> cases y <;> first | exact (show False from h).elim | skip
  exact op_le pins s σ H _ _ v u Q I rx ry ⟨_, _, rfl, rfl, h⟩
theorem o_gt : OpR X (compareOp .Gt) uGt := by
  intro pins s σ H x y v u Q I rx ry h
  cases x <;> cases y <;> first | exact (show False from h).elim | skip
  exact op_gt pins s σ H _ _ v u Q I rx ry ⟨_, _, rfl, rfl, h⟩
theorem o_ge : OpR X (compareOp .GtE) uGe := by
  intro pins s σ H x y v u Q I rx ry h
  cases x <;> cases y <;> first | exact (show False from h).elim | skip
  exact op_ge pins s σ H _ _ v u Q I rx ry ⟨_, _, rfl, rfl, h⟩
/-- one sign in a text | a flat thing in a list, a tuple -/
def uIn (K : PySem.W.Frag) (f : Bool → Bool) : R2 := fun x y H Q => match y with
  | .str z => ∃ c : Nat, x = .str ⟨#[c]⟩ ∧ Q (.bl (f (decide (c ∈ z.cps.toList)))) H
  | .ref p => ∃ xs, (SqL K H p xs ∨ SqT K H p xs) ∧ flatV x = true ∧ xs.all flatV = true ∧ Q (.bl (f (inV x xs))) H
  | _ => False
theorem o_in : OpR X (compareOp .In) (uIn X.K id) := by
  intro pins s σ H x y v u Q I rx ry h
  cases y <;> first | exact (show False from h).elim | skip
  · obtain ⟨c, e, q⟩ := h
    exact op_in_sign pins s σ H _ _ v u Q I rx ry ⟨c, _, e, rfl, q⟩
  · obtain ⟨xs, h1, h2, h3, q⟩ := h
    exact op_in_seq pins s σ H _ _ v u Q I rx ry ⟨_, xs, rfl, h1, h2, h3, q⟩
theorem o_notIn : OpR X (compareOp .NotIn) (uIn X.K not) := by
  intro pins s σ H x y v u Q I rx ry h
  cases y <;> first | exact (show False from h).elim | skip
  · obtain ⟨c, e, q⟩ := h
    exact op_notIn_sign pins s σ H _ _ v u Q I rx ry ⟨c, _, e, rfl, q⟩
  · obtain ⟨xs, h1, h2, h3, q⟩ := h
    exact op_notIn_seq pins s σ H _ _ v u Q I rx ry ⟨_, xs, rfl, h1, h2, h3, q⟩
/-- is None (the right one), by the left one's shape -/
def isNonV : V → Bool
  | .non => true
  | _ => false
theorem isNonV_eq (x : V) : isNonV x = decide (x = .non) := by cases x <;> simp [isNonV]
def uIsN (f : Bool → Bool) : R2 := fun x y H Q => match y with
  | .non => Q (.bl (f (isNonV x))) H
  | _ => False
theorem o_is : OpR X (compareOp .Is) (uIsN id) := by
  intro pins s σ H x y v u Q I rx ry h
  cases y <;> first | exact (show False from h).elim | skip
  exact op_isN pins s σ H _ _ v u Q I rx ry ⟨rfl, by rw [← isNonV_eq]; exact h⟩
theorem o_isNot : OpR X (compareOp .IsNot) (uIsN not) := by
  intro pins s σ H x y v u Q I rx ry h
  cases y <;> first | exact (show False from h).elim | skip
  exact op_notN pins s σ H _ _ v u Q I rx ry ⟨rfl, by rw [← isNonV_eq]; exact h⟩
/-! subscripts -/
def uIx (K : PySem.W.Frag) : R2 := fun x y H Q => match x, y with
  | .ref a, .int i => ∃ xs v, (SqL K H a xs ∨ SqT K H a xs) ∧ atI xs i = some v ∧ Q v H
  | .str z, .int i => ∃ c, z.length ≤ sizeLine ∧ atI z.cps.toList i = some c ∧ Q (.str ⟨#[c]⟩) H
  | _, _ => False
theorem i_x : IxR X (uIx X.K) := by
  intro value slice pins s σ H x y v u Q I rx ry h hs
  cases x <;> cases y <;> first | exact (show False from h).elim | skip
  · obtain ⟨c, h1, h2, q⟩ := h
    exact ix_str value slice pins s σ H _ _ v u Q I rx ry ⟨_, _, c, rfl, rfl, h1, h2, q⟩ hs
  · obtain ⟨xs, w, h1, h2, q⟩ := h
    rcases h1 with h1 | h1
    · exact ix_list value slice pins s σ H _ _ v u Q I rx ry ⟨_, xs, _, w, rfl, rfl, h1, h2, q⟩ hs
    · exact ix_tup value slice pins s σ H _ _ v u Q I rx ry ⟨_, xs, _, w, rfl, rfl, h1, h2, q⟩ hs
def uSl (K : PySem.W.Frag) : V → Option Int → Option Int → Hp → VK → Prop := fun x lo hi H Q => match x with
  | .str z => z.length ≤ sizeLine ∧ Q (.str (cutS z lo hi)) H
  | .ref _ => rSlL K x lo hi H Q ∨ rSlA K x lo hi H Q
  | _ => False
theorem s_l : SlR X (uSl X.K) := by
  intro pins s σ H x v vl vu lo hi sl Q I rx hs pl pu q
  cases x <;> first | exact (show False from q).elim | skip
  · exact sl_str pins s σ H _ v vl vu lo hi sl Q I rx hs pl pu ⟨_, rfl, q.1, q.2⟩
  · rcases q with q | q
    · exact sl_list pins s σ H _ v vl vu lo hi sl Q I rx hs pl pu q
    · exact sl_tupA pins s σ H _ v vl vu lo hi sl Q I rx hs pl pu q
/-! calls of built-ins -/
abbrev RC : Type := List V → Hp → VK → Prop
def uLen (K : PySem.W.Frag) : RC := fun xs H Q => match xs with
  | [.str z] => z.length ≤ sizeLine ∧ Q (.int (z.length : Int)) H
  | [.ref a] => ∃ ys, (SqL K H a ys ∨ SqT K H a ys) ∧ Q (.int (ys.length : Int)) H
  | _ => False
theorem c_len : CallR X (.builtin "len") (uLen X.K) := by
  intro pins s σ H xs us Q I r h
  unfold uLen at h
  split at h
  · exact call_len_str pins s σ H _ us Q I r ⟨_, rfl, h.1, h.2⟩
  · obtain ⟨ys, h1, q⟩ := h
    exact call_len_seq pins s σ H _ us Q I r ⟨_, ys, rfl, h1, q⟩
  · exact h.elim
def uAbs : RC := fun xs H Q => match xs with
  | [.int i] => Q (.int (i.natAbs : Int)) H
  | _ => False
theorem abs_ite (i : Int) : (if i < 0 then -i else i) = (i.natAbs : Int) := by split <;> omega
theorem c_abs : CallR X (.builtin "abs") uAbs := by
  intro pins s σ H xs us Q I r h
  unfold uAbs at h
  split at h
  · exact call_abs pins s σ H _ us Q I r ⟨_, rfl, by rw [abs_ite]; exact h⟩
  · exact h.elim
def uInt : RC := fun xs H Q => match xs with
  | [.int i] => Q (.int i) H
  | [.bl k] => Q (.int (if k then 1 else 0)) H
  | [.str a] => a.length ≤ 640 ∧ ∃ n, PySem.intText? a = some n ∧ Q (.int n) H
  | _ => False
theorem c_int : CallR X (.type "int") uInt := by
  intro pins s σ H xs us Q I r h
  unfold uInt at h
  split at h
  · exact call_int1 pins s σ H _ us Q I r (.inl ⟨_, rfl, h⟩)
  · exact call_int1 pins s σ H _ us Q I r (.inr ⟨_, rfl, h⟩)
  · obtain ⟨h1, n, h2, q⟩ := h
    exact call_int_str pins s σ H _ us Q I r ⟨_, n, rfl, h2, h1, q⟩
  · exact h.elim
def uStr : RC := fun xs H Q => match xs with
  | [.int i] => i.natAbs.log2 < 1920 ∧ Q (.str (toString i)) H
  | _ => False
theorem c_str : CallR X (.type "str") uStr := by
  intro pins s σ H xs us Q I r h
  unfold uStr at h
  split at h
  · exact call_str_int pins s σ H _ us Q I r ⟨_, rfl, h.1, h.2⟩
  · exact h.elim
def uList (K : PySem.W.Frag) : RC := fun xs H Q => match xs with
  | [.ref p] => ∃ ys, (SqL K H p ys ∨ SqT K H p ys) ∧ ∀ l, H l = none → Q (.ref l) (upd H l (.lst ys))
  | _ => False
theorem c_list : CallR X (.type "list") (uList X.K) := by
  intro pins s σ H xs us Q I r h
  unfold uList at h
  split at h
  · obtain ⟨ys, h1, q⟩ := h
    exact call_list_of pins s σ H _ us Q I r ⟨_, ys, rfl, h1, q⟩
  · exact h.elim
def uTuple (K : PySem.W.Frag) : RC := fun xs H Q => match xs with
  | [.ref p] => ∃ ys, (SqL K H p ys ∧ ∀ l, H l = none → Q (.ref l) (upd H l (.tup ys))) ∨ (SqT K H p ys ∧ Q (.ref p) H)
  | _ => False
theorem c_tuple : CallR X (.type "tuple") (uTuple X.K) := by
  intro pins s σ H xs us Q I r h
  unfold uTuple at h
  split at h
  · obtain ⟨ys, h⟩ := h
    exact call_tuple_of pins s σ H _ us Q I r ⟨_, ys, rfl, h⟩
  · exact h.elim
def uAll (K : PySem.W.Frag) : RC := fun xs H Q => match xs with
  | [.ref a] => ∃ bs : List Bool, SqL K H a (bs.map V.bl) ∧ Q (.bl (bs.all id)) H
  | _ => False
theorem c_all (hc : X.calm = true) : CallR X (.builtin "all") (uAll X.K) := by
  intro pins s σ H xs us Q I r h
  unfold uAll at h
  split at h
  · obtain ⟨bs, h1, q⟩ := h
    exact cr_all hc pins s σ H _ us Q I r ⟨_, bs, rfl, h1, q⟩
  · exact h.elim
def uAny (K : PySem.W.Frag) : RC := fun xs H Q => match xs with
  | [.ref a] => ∃ bs : List Bool, SqL K H a (bs.map V.bl) ∧ Q (.bl (bs.any id)) H
  | _ => False
theorem c_any (hc : X.calm = true) : CallR X (.builtin "any") (uAny X.K) := by
  intro pins s σ H xs us Q I r h
  unfold uAny at h
  split at h
  · obtain ⟨bs, h1, q⟩ := h
    exact cr_any hc pins s σ H _ us Q I r ⟨_, bs, rfl, h1, q⟩
  · exact h.elim
def uSum (K : PySem.W.Frag) : RC := fun xs H Q => match xs with
  | [.ref a] => ∃ ns : List Int, SqL K H a (ns.map V.int) ∧ Q (.int ns.sum) H
  | _ => False
theorem c_sum (hc : X.calm = true) : CallR X (.builtin "sum") (uSum X.K) := by
  intro pins s σ H xs us Q I r h
  unfold uSum at h
  split at h
  · obtain ⟨bs, h1, q⟩ := h
    exact cr_sum hc pins s σ H _ us Q I r ⟨_, bs, rfl, h1, q⟩
  · exact h.elim
def uMax : RC := fun xs H Q => match xs with
  | [.int i, .int j] => Q (.int (max i j)) H
  | _ => False
theorem c_max (hc : X.calm = true) : CallR X (.builtin "max") uMax := by
  intro pins s σ H xs us Q I r h
  unfold uMax at h
  split at h
  · rename_i i j
    refine call_max2 hc pins s σ H _ us Q I r ⟨_, _, rfl, ?_⟩
    have e : (if j > i then j else i) = max i j := by
      rw [Int.max_def]; split <;> split <;> omega
    rw [e]; exact h
  · exact h.elim
def uMin : RC := fun xs H Q => match xs with
  | [.int i, .int j] => Q (.int (min i j)) H
  | _ => False
theorem c_min (hc : X.calm = true) : CallR X (.builtin "min") uMin := by
  intro pins s σ H xs us Q I r h
  unfold uMin at h
  split at h
  · rename_i i j
    refine call_min2 hc pins s σ H _ us Q I r ⟨_, _, rfl, ?_⟩
    have e : (if j < i then j else i) = min i j := by
      rw [Int.min_def]; split <;> split <;> omega
    rw [e]; exact h
  · exact h.elim
/-- isinstance(x, T), T a built-in type: by the value's shape; an object's type is told -/
def tyName : V → Option String
  | .non => some "NoneType"
  | .bl _ => some "bool"
  | .int _ => some "int"
  | .str _ => some "str"
  | _ => none
def uIsi (K : PySem.W.Frag) : RC := fun xs H Q => match xs with
  | [x, .ty T] => ∃ t b, (match tyName x with | some n => t = n | none => TyX K H x (.type t)) ∧ kitB t T = some b ∧ Q (.bl b) H
  | [x, .ref C] => ∃ t b, TyX K H x t ∧ PySem.W.kitOne K t (.ref C) = some b ∧ Q (.bl b) H
  | _ => False
theorem c_isi : CallR X (.builtin "isinstance") (uIsi X.K) := by
  intro pins s σ H xs us Q I r h
  unfold uIsi at h
  split at h
  · rename_i x T
    obtain ⟨t, b, h1, h2, q⟩ := h
    have ty : TyX X.K H x (.type t) := by
      cases x with
      | non => have e : t = "NoneType" := h1; subst e; exact .base .non
      | bl b => have e : t = "bool" := h1; subst e; exact .base (.bl b)
      | int i => have e : t = "int" := h1; subst e; exact .base (.int i)
      | str z => have e : t = "str" := h1; subst e; exact .base (.str z)
      | _ => exact h1
    exact call_isi pins s σ H _ us Q I r ⟨x, _, _, _, b, rfl, .ty T, ty, kit_ty h2, q⟩
  · obtain ⟨t, b, h1, h2, q⟩ := h
    exact call_isi pins s σ H _ us Q I r ⟨_, _, t, _, b, rfl, .own _, h1, h2, q⟩
  · exact h.elim
/-! methods of built-in types -/
abbrev RM : Type := V → List V → Hp → VK → Prop
def uStarts : RM := fun x xs H Q => match x, xs with
  | .str a, [.str b] => Q (.bl (Txt.startswith a b)) H
  | _, _ => False
theorem m_starts : MtR X "str.startswith" uStarts := by
  intro pins s σ H x xs v us Q I rx rs h
  unfold uStarts at h
  split at h
  · exact mt_startswith pins s σ H _ _ v us Q I rx rs ⟨_, _, rfl, rfl, h⟩
  · exact h.elim
def uJoin (K : PySem.W.Frag) : RM := fun x xs H Q => match x, xs with
  | .str a, [.ref p] => ∃ ys : List Str, (SqL K H p (ys.map V.str) ∨ SqT K H p (ys.map V.str)) ∧ (ys.map (·.length)).sum + ys.length * a.length ≤ 16777216 ∧ Q (.str (Txt.join a ys)) H
  | _, _ => False
theorem m_join : MtR X "str.join" (uJoin X.K) := by
  intro pins s σ H x xs v us Q I rx rs h
  unfold uJoin at h
  split at h
  · obtain ⟨ys, h1, h2, q⟩ := h
    exact mt_join pins s σ H _ _ v us Q I rx rs ⟨_, _, ys, rfl, rfl, h1, h2, q⟩
  · exact h.elim
def uAppend : RM := fun x vs H Q => match x, vs with
  | .ref l, [y] => ∃ xs, H l = some (.lst xs) ∧ xs.length < sizeLine ∧ Q .non (upd H l (.lst (xs ++ [y])))
  | _, _ => False
theorem m_append : MtM X "list.append" uAppend := by
  intro pins s σ H x xs v us Q I rx rs h
  unfold uAppend at h
  split at h
  · obtain ⟨ys, h1, h2, q⟩ := h
    exact mt_append pins s σ H _ _ v us Q I rx rs ⟨_, ys, _, rfl, rfl, h1, h2, q⟩
  · exact h.elim
end
end U
/-! R: the steps of a reading (each a row that holds by what its left side means). -/
namespace U
open PySem PySem.Spec L2
section
variable {σ : St} {H : Hp} {Q : VK} {D : Ends} {v x y : V} {ta tb tc te tv : TE} {K : PySem.W.Frag} {t u : TT} {QB : Bool → Hp → Prop}
theorem szl {n : Nat} (h : n ≤ 16777216) : n ≤ sizeLine := by rw [sizeLine_eq]; exact h
theorem szt {n : Nat} (h : n < 16777216) : n < sizeLine := by rw [sizeLine_eq]; exact h
/-! statements -/
theorem r_seq {s1 s2 : TS} (h : s1 { D with nx := s2 D } σ H) : tSeq s1 s2 D σ H := h
theorem r_next (h : D.nx σ H) : tNext D σ H := h
theorem r_brk (h : D.bk σ H) : tBreak D σ H := h
theorem r_cont (h : D.ct σ H) : tCont D σ H := h
theorem r_drop (h : te σ H fun _ H1 => D.nx σ H1) : tDrop te D σ H := h
theorem r_ret (h : te σ H D.rt) : tRet te D σ H := h
theorem r_retN (h : D.rt .non H) : tRetN D σ H := h
theorem r_ifS {c : TT} {s1 s2 : TS} (h : c σ H fun b H1 => if b = true then s1 D σ H1 else s2 D σ H1) : tIfS c s1 s2 D σ H := h
theorem r_asg {g : TG} (h : te σ H fun x H1 => g x σ H1 D.nx) : tAsg te g D σ H := h
theorem r_gname {i : Nat} {R : St → Hp → Prop} (h : R (σ.set i (some v)) H) : gName i v σ H R := h
theorem r_aug {i : Nat} {ti : TIp} (hx : σ[i]? = some (some x)) (h : te σ H fun y H1 => ti x y H1 fun z H2 => D.nx (σ.set i (some z)) H2) : tAug i te ti D σ H := ⟨x, hx, h⟩
theorem r_nx {a : St → Hp → Prop} {b : VK} {c d : St → Hp → Prop} (h : a σ H) : (Ends.mk a b c d).nx σ H := h
theorem r_rt {a : St → Hp → Prop} {b : VK} {c d : St → Hp → Prop} (h : b v H) : (Ends.mk a b c d).rt v H := h
/-! expressions -/
theorem r_var {i : Nat} (hx : σ[i]? = some (some v)) (h : Q v H) : tVar i σ H Q := ⟨v, hx, h⟩
theorem r_c (h : Q v H) : tC v σ H Q := h
theorem r_op {r : R2} (h : ta σ H fun x H1 => tb σ H1 fun y H2 => r x y H2 Q) : tOp r ta tb σ H Q := h
theorem r_un {r : V → Hp → VK → Prop} (h : ta σ H fun x H1 => r x H1 Q) : tUn r ta σ H Q := h
theorem r_cons {tr : TA} {QA : List V → Hp → Prop} (h : ta σ H fun x H1 => tr σ H1 fun xs H2 => QA (x :: xs) H2) : tCons ta tr σ H QA := h
theorem r_nil {QA : List V → Hp → Prop} (h : QA [] H) : tNil σ H QA := h
theorem r_cb {r : RC} {t : TA} (h : t σ H fun vs H1 => r vs H1 Q) : tCB r t σ H Q := h
theorem r_bm {T : String} {r : RM} {t : TA} (h : ta σ H fun x H1 => tyV K T x H1 ∧ t σ H1 fun xs H2 => r x xs H2 Q) : tBM K T r ta t σ H Q := h
theorem r_bm0 {T : String} {r : RM} (h : ta σ H fun x H1 => tyV K T x H1 ∧ r x [] H1 Q) : tBM0 K T r ta σ H Q := h
theorem r_sl {r : V → Option Int → Option Int → Hp → VK → Prop} {tl th : TO} (h : te σ H fun x H1 => tl σ H1 fun l H2 => th σ H2 fun u H3 => r x l u H3 Q) : tSl r te tl th σ H Q := h
theorem r_nop {QO : Option Int → Hp → Prop} (h : QO none H) : tNoPart σ H QO := h
theorem r_part {QO : Option Int → Hp → Prop} (h : te σ H fun x H1 => ∃ i, x = .int i ∧ QO (some i) H1) : tPart te σ H QO := h
theorem r_partI {i : Int} {P : Int → Prop} (h : P i) : ∃ j, V.int i = .int j ∧ P j := ⟨i, rfl, h⟩
theorem r_tup {ta : TA} (h : ta σ H fun xs H1 => xs.length ≤ sizeLine ∧ ∀ p, H1 p = none → Q (.ref p) (upd H1 p (.tup xs))) : tTup ta σ H Q := h
theorem r_lst {ta : TA} (h : ta σ H fun xs H1 => xs.length ≤ sizeLine ∧ ∀ p, H1 p = none → Q (.ref p) (upd H1 p (.lst xs))) : tLst ta σ H Q := h
theorem r_if {c : TT} (h : c σ H fun b H1 => if b = true then ta σ H1 Q else tb σ H1 Q) : tIf c ta tb σ H Q := h
theorem r_call {sp : Sp} {E : XK} {t : TA} (h : t σ H fun vs H1 => sp vs H1 Q E) : tCall sp [] E t σ H Q := by
  have e : (fun vs H1 => sp (vs ++ []) H1 Q E) = fun vs H1 => sp vs H1 Q E := by
    funext vs H1
    rw [List.append_nil]
  show t σ H fun vs H1 => sp (vs ++ []) H1 Q E
  rw [e]
  exact h
theorem r_andV (h : ta σ H fun x H1 => ∃ c, x = .bl c ∧ if c = true then tb σ H1 Q else Q (.bl false) H1) : tAndV ta tb σ H Q := h
theorem r_orV (h : ta σ H fun x H1 => ∃ c, x = .bl c ∧ if c = true then Q (.bl true) H1 else tb σ H1 Q) : tOrV ta tb σ H Q := h
theorem r_notV (h : ta σ H fun x H1 => ∃ c, x = .bl c ∧ Q (.bl (!c)) H1) : tNotV ta σ H Q := h
theorem r_bl {c : Bool} {P : Bool → Prop} (h : P c) : ∃ k, V.bl c = .bl k ∧ P k := ⟨c, rfl, h⟩
theorem r_chain {r r' : R2} (h : ta σ H fun x H1 => tb σ H1 fun y H2 => r x y H2 fun z H3 => ∃ k, z = .bl k ∧ (if k = true then tc σ H3 fun w' H4 => r' y w' H4 Q else Q (.bl false) H3)) : tChain r r' ta tb tc σ H Q := h
/-! tests -/
theorem r_test (h : te σ H fun x H' => ∃ k, x = .bl k ∧ QB k H') : tTest te σ H QB := h
theorem r_tb (h : te σ H fun x H' => ∃ k, x = .bl k ∧ QB k H') : tB te σ H QB := h
theorem r_and (h : t σ H fun c H1 => if c = true then u σ H1 QB else QB false H1) : tAnd t u σ H QB := h
theorem r_or (h : t σ H fun c H1 => if c = true then QB true H1 else u σ H1 QB) : tOr t u σ H QB := h
theorem r_not (h : t σ H fun c H1 => QB (!c) H1) : tNot t σ H QB := h
/-! truth of a value -/
def uTru (K : PySem.W.Frag) (te : TE) : TT := fun σ H Q => te σ H fun x H' => ∃ k, TruV K x H' k ∧ Q k H'
theorem pt_tru {X : Cx} {a : Expr} {ta : TE} (ha : PE X a ta) (he : ∀ whole, isTrue a X.env whole = (do let v ← whole; standAt a.pos; holding [v] (truthy v)) := by intro _; rfl) : PT X a (uTru X.K ta) := pt_truth ha he
theorem r_tru (h : te σ H fun x H' => ∃ k, TruV K x H' k ∧ QB k H') : uTru K te σ H QB := h
theorem r_truBl {c : Bool} {P : Bool → Prop} (h : P c) : ∃ k, TruV K (.bl c) H k ∧ P k := ⟨c, rfl, h⟩
theorem r_truInt {i : Int} {P : Bool → Prop} (h : P (decide (i ≠ 0))) : ∃ k, TruV K (.int i) H k ∧ P k := ⟨_, by simp [TruV, bne, Bool.beq_eq_decide_eq], h⟩
theorem r_truNon {P : Bool → Prop} (h : P false) : ∃ k, TruV K .non H k ∧ P k := ⟨_, rfl, h⟩
/-! operators -/
variable {i j : Int} {a b : Str}
theorem r_addI (h : Q (.int (i + j)) H) : uAdd K (.int i) (.int j) H Q := h
theorem r_addS (hl : a.length + b.length ≤ sizeLine) (h : Q (.str (a ++ b)) H) : uAdd K (.str a) (.str b) H Q := ⟨hl, h⟩
theorem r_sub (h : Q (.int (i - j)) H) : uSub (.int i) (.int j) H Q := h
theorem r_mul (hc : CMul i j ∨ CMulW i j) (h : Q (.int (i * j)) H) : uMul (.int i) (.int j) H Q := ⟨hc, h⟩
theorem r_fdiv (hc : CDivW i j) (h : Q (.int (i / j)) H) : uFdiv (.int i) (.int j) H Q := ⟨hc, h⟩
theorem r_mod (hc : 0 < j) (h : Q (.int (i % j)) H) : uMod (.int i) (.int j) H Q := ⟨hc, h⟩
theorem r_neg (h : Q (.int (-i)) H) : uNeg (.int i) H Q := h
theorem r_cmpI {p : Int → Int → Bool} (h : Q (.bl (p i j)) H) : uCmpI p (.int i) (.int j) H Q := h
theorem dec_int : decide (V.int i = .int j) = decide (i = j) := by simp
theorem dec_str : decide (V.str a = .str b) = decide (a = b) := by simp
theorem dec_bl {c d : Bool} : decide (V.bl c = .bl d) = decide (c = d) := by simp
theorem r_eqI (h : Q (.bl (decide (i = j))) H) : uEq K (.int i) (.int j) H Q := .inl ⟨rfl, by rw [dec_int]; exact h⟩
theorem r_eqS (h : Q (.bl (decide (a = b))) H) : uEq K (.str a) (.str b) H Q := .inl ⟨rfl, by rw [dec_str]; exact h⟩
theorem r_eqB {c d : Bool} (h : Q (.bl (decide (c = d))) H) : uEq K (.bl c) (.bl d) H Q := .inl ⟨rfl, by rw [dec_bl]; exact h⟩
theorem r_neI (h : Q (.bl (!decide (i = j))) H) : uNe K (.int i) (.int j) H Q := .inl ⟨rfl, by rw [dec_int]; exact h⟩
theorem r_neS (h : Q (.bl (!decide (a = b))) H) : uNe K (.str a) (.str b) H Q := .inl ⟨rfl, by rw [dec_str]; exact h⟩
theorem r_neB {c d : Bool} (h : Q (.bl (!decide (c = d))) H) : uNe K (.bl c) (.bl d) H Q := .inl ⟨rfl, by rw [dec_bl]; exact h⟩
theorem r_isNN (h : Q (.bl true) H) : uIsN id .non .non H Q := h
theorem r_isNI (h : Q (.bl false) H) : uIsN id (.int i) .non H Q := h
theorem r_isNB {c : Bool} (h : Q (.bl false) H) : uIsN id (.bl c) .non H Q := h
theorem r_isNS (h : Q (.bl false) H) : uIsN id (.str a) .non H Q := h
theorem r_isNR {p : Addr} (h : Q (.bl false) H) : uIsN id (.ref p) .non H Q := h
theorem r_notNN (h : Q (.bl false) H) : uIsN not .non .non H Q := h
theorem r_notNI (h : Q (.bl true) H) : uIsN not (.int i) .non H Q := h
theorem r_notNB {c : Bool} (h : Q (.bl true) H) : uIsN not (.bl c) .non H Q := h
theorem r_notNS (h : Q (.bl true) H) : uIsN not (.str a) .non H Q := h
theorem r_notNR {p : Addr} (h : Q (.bl true) H) : uIsN not (.ref p) .non H Q := h
theorem r_inC {c : Nat} (h : Q (.bl (decide (c ∈ a.cps.toList))) H) : uIn K id (.str ⟨#[c]⟩) (.str a) H Q := ⟨c, rfl, h⟩
theorem r_notInC {c : Nat} (h : Q (.bl (!decide (c ∈ a.cps.toList))) H) : uIn K not (.str ⟨#[c]⟩) (.str a) H Q := ⟨c, rfl, h⟩
theorem r_mulS {k : Int} (h1 : a.length * k.toNat ≤ 1000000) (h2 : k ≤ 1000000) (h3 : -(2 ^ 63) ≤ k) (h : Q (.str (Txt.mul a k)) H) : uMul (.str a) (.int k) H Q := ⟨h1, h2, h3, h⟩
theorem r_ixS {c : Nat} (h1 : a.length ≤ sizeLine) (h2 : atI a.cps.toList i = some c) (h : Q (.str ⟨#[c]⟩) H) : uIx K (.str a) (.int i) H Q := ⟨c, h1, h2, h⟩
theorem r_ixL {p : Addr} {xs : List V} (h1 : SqL K H p xs) (h2 : atI xs i = some v) (h : Q v H) : uIx K (.ref p) (.int i) H Q := ⟨xs, v, .inl h1, h2, h⟩
theorem r_ixT {p : Addr} {xs : List V} (h1 : SqT K H p xs) (h2 : atI xs i = some v) (h : Q v H) : uIx K (.ref p) (.int i) H Q := ⟨xs, v, .inr h1, h2, h⟩
theorem r_slS {lo hi : Option Int} (hl : a.length ≤ sizeLine) (h : Q (.str (cutS a lo hi)) H) : uSl K (.str a) lo hi H Q := ⟨hl, h⟩
theorem r_lenL {p : Addr} {xs : List V} (h1 : SqL K H p xs) (h : Q (.int (xs.length : Int)) H) : uLen K [.ref p] H Q := ⟨xs, .inl h1, h⟩
theorem r_lenT {p : Addr} {xs : List V} (h1 : SqT K H p xs) (h : Q (.int (xs.length : Int)) H) : uLen K [.ref p] H Q := ⟨xs, .inr h1, h⟩
theorem r_allL {p : Addr} {bs : List Bool} (h1 : SqL K H p (bs.map V.bl)) (h : Q (.bl (bs.all id)) H) : uAll K [.ref p] H Q := ⟨bs, h1, h⟩
theorem r_listL {p : Addr} {xs : List V} (h1 : SqL K H p xs) (h : ∀ l, H l = none → Q (.ref l) (upd H l (.lst xs))) : uList K [.ref p] H Q := ⟨xs, .inl h1, h⟩
theorem r_listT {p : Addr} {xs : List V} (h1 : SqT K H p xs) (h : ∀ l, H l = none → Q (.ref l) (upd H l (.lst xs))) : uList K [.ref p] H Q := ⟨xs, .inr h1, h⟩
theorem r_tupleL {p : Addr} {xs : List V} (h1 : SqL K H p xs) (h : ∀ l, H l = none → Q (.ref l) (upd H l (.tup xs))) : uTuple K [.ref p] H Q := ⟨xs, .inl ⟨h1, h⟩⟩
theorem r_append {p : Addr} {xs : List V} (h1 : H p = some (.lst xs)) (h2 : xs.length < sizeLine) (h : Q .non (upd H p (.lst (xs ++ [v])))) : uAppend (.ref p) [v] H Q := ⟨xs, h1, h2, h⟩
theorem r_tyStr {A : Prop} (h : A) : tyV K "str" (.str a) H ∧ A := ⟨rfl, h⟩
theorem r_tyLst {p : Addr} {xs : List V} {A : Prop} (h1 : H p = some (.lst xs)) (h : A) : tyV K "list" (.ref p) H ∧ A := ⟨.inl ⟨rfl, _, SqL.of h1⟩, h⟩
theorem r_lenS (hl : a.length ≤ sizeLine) (h : Q (.int (a.length : Int)) H) : uLen K [.str a] H Q := ⟨hl, h⟩
theorem r_abs (h : Q (.int (i.natAbs : Int)) H) : uAbs [.int i] H Q := h
theorem r_intI (h : Q (.int i) H) : uInt [.int i] H Q := h
theorem r_intB {c : Bool} (h : Q (.int (if c then 1 else 0)) H) : uInt [.bl c] H Q := h
theorem r_strI (hl : i.natAbs.log2 < 1920) (h : Q (.str (toString i)) H) : uStr [.int i] H Q := ⟨hl, h⟩
theorem r_maxI (h : Q (.int (max i j)) H) : uMax [.int i, .int j] H Q := h
theorem r_minI (h : Q (.int (min i j)) H) : uMin [.int i, .int j] H Q := h
theorem r_starts (h : Q (.bl (Txt.startswith a b)) H) : uStarts (.str a) [.str b] H Q := h
theorem r_iI_int (h : Q (.bl true) H) : uIsi K [(.int i), .ty "int"] H Q := ⟨"int", true, rfl, by decide +kernel, h⟩
theorem r_iI_bool (h : Q (.bl false) H) : uIsi K [(.int i), .ty "bool"] H Q := ⟨"int", false, rfl, by decide +kernel, h⟩
theorem r_iI_str (h : Q (.bl false) H) : uIsi K [(.int i), .ty "str"] H Q := ⟨"int", false, rfl, by decide +kernel, h⟩
theorem r_iI_tuple (h : Q (.bl false) H) : uIsi K [(.int i), .ty "tuple"] H Q := ⟨"int", false, rfl, by decide +kernel, h⟩
theorem r_iI_list (h : Q (.bl false) H) : uIsi K [(.int i), .ty "list"] H Q := ⟨"int", false, rfl, by decide +kernel, h⟩
theorem r_iB_int {d : Bool} (h : Q (.bl true) H) : uIsi K [(.bl d), .ty "int"] H Q := ⟨"bool", true, rfl, by decide +kernel, h⟩
theorem r_iB_bool {d : Bool} (h : Q (.bl true) H) : uIsi K [(.bl d), .ty "bool"] H Q := ⟨"bool", true, rfl, by decide +kernel, h⟩
theorem r_iB_str {d : Bool} (h : Q (.bl false) H) : uIsi K [(.bl d), .ty "str"] H Q := ⟨"bool", false, rfl, by decide +kernel, h⟩
theorem r_iB_tuple {d : Bool} (h : Q (.bl false) H) : uIsi K [(.bl d), .ty "tuple"] H Q := ⟨"bool", false, rfl, by decide +kernel, h⟩
theorem r_iB_list {d : Bool} (h : Q (.bl false) H) : uIsi K [(.bl d), .ty "list"] H Q := ⟨"bool", false, rfl, by decide +kernel, h⟩
theorem r_iS_int (h : Q (.bl false) H) : uIsi K [(.str a), .ty "int"] H Q := ⟨"str", false, rfl, by decide +kernel, h⟩
theorem r_iS_bool (h : Q (.bl false) H) : uIsi K [(.str a), .ty "bool"] H Q := ⟨"str", false, rfl, by decide +kernel, h⟩
theorem r_iS_str (h : Q (.bl true) H) : uIsi K [(.str a), .ty "str"] H Q := ⟨"str", true, rfl, by decide +kernel, h⟩
theorem r_iS_tuple (h : Q (.bl false) H) : uIsi K [(.str a), .ty "tuple"] H Q := ⟨"str", false, rfl, by decide +kernel, h⟩
theorem r_iS_list (h : Q (.bl false) H) : uIsi K [(.str a), .ty "list"] H Q := ⟨"str", false, rfl, by decide +kernel, h⟩
theorem r_iN_int (h : Q (.bl false) H) : uIsi K [.non, .ty "int"] H Q := ⟨"NoneType", false, rfl, by decide +kernel, h⟩
theorem r_iN_bool (h : Q (.bl false) H) : uIsi K [.non, .ty "bool"] H Q := ⟨"NoneType", false, rfl, by decide +kernel, h⟩
theorem r_iN_str (h : Q (.bl false) H) : uIsi K [.non, .ty "str"] H Q := ⟨"NoneType", false, rfl, by decide +kernel, h⟩
theorem r_iN_tuple (h : Q (.bl false) H) : uIsi K [.non, .ty "tuple"] H Q := ⟨"NoneType", false, rfl, by decide +kernel, h⟩
theorem r_iN_list (h : Q (.bl false) H) : uIsi K [.non, .ty "list"] H Q := ⟨"NoneType", false, rfl, by decide +kernel, h⟩
theorem r_iT_int {p : Addr} {xs : List V} (hp : H p = some (.tup xs)) (h : Q (.bl false) H) : uIsi K [.ref p, .ty "int"] H Q := ⟨"tuple", false, .base (.tup hp), by decide +kernel, h⟩
theorem r_iL_int {p : Addr} {xs : List V} (hp : H p = some (.lst xs)) (h : Q (.bl false) H) : uIsi K [.ref p, .ty "int"] H Q := ⟨"list", false, .base (.lst hp), by decide +kernel, h⟩
theorem r_iT_bool {p : Addr} {xs : List V} (hp : H p = some (.tup xs)) (h : Q (.bl false) H) : uIsi K [.ref p, .ty "bool"] H Q := ⟨"tuple", false, .base (.tup hp), by decide +kernel, h⟩
theorem r_iL_bool {p : Addr} {xs : List V} (hp : H p = some (.lst xs)) (h : Q (.bl false) H) : uIsi K [.ref p, .ty "bool"] H Q := ⟨"list", false, .base (.lst hp), by decide +kernel, h⟩
theorem r_iT_str {p : Addr} {xs : List V} (hp : H p = some (.tup xs)) (h : Q (.bl false) H) : uIsi K [.ref p, .ty "str"] H Q := ⟨"tuple", false, .base (.tup hp), by decide +kernel, h⟩
theorem r_iL_str {p : Addr} {xs : List V} (hp : H p = some (.lst xs)) (h : Q (.bl false) H) : uIsi K [.ref p, .ty "str"] H Q := ⟨"list", false, .base (.lst hp), by decide +kernel, h⟩
theorem r_iT_tuple {p : Addr} {xs : List V} (hp : H p = some (.tup xs)) (h : Q (.bl true) H) : uIsi K [.ref p, .ty "tuple"] H Q := ⟨"tuple", true, .base (.tup hp), by decide +kernel, h⟩
theorem r_iL_tuple {p : Addr} {xs : List V} (hp : H p = some (.lst xs)) (h : Q (.bl false) H) : uIsi K [.ref p, .ty "tuple"] H Q := ⟨"list", false, .base (.lst hp), by decide +kernel, h⟩
theorem r_iT_list {p : Addr} {xs : List V} (hp : H p = some (.tup xs)) (h : Q (.bl false) H) : uIsi K [.ref p, .ty "list"] H Q := ⟨"tuple", false, .base (.tup hp), by decide +kernel, h⟩
theorem r_iL_list {p : Addr} {xs : List V} (hp : H p = some (.lst xs)) (h : Q (.bl true) H) : uIsi K [.ref p, .ty "list"] H Q := ⟨"list", true, .base (.lst hp), by decide +kernel, h⟩
/-! branches -/
theorem br_t {A B : Prop} (h : A) : if true = true then A else B := by rw [if_pos rfl]; exact h
theorem br_f {A B : Prop} (h : B) : if false = true then A else B := by rw [if_neg Bool.false_ne_true]; exact h
theorem br {c : Bool} {A B : Prop} (h1 : c = true → A) (h2 : c = false → B) : if c = true then A else B := by
  cases c with
  | true => exact br_t (h1 rfl)
  | false => exact br_f (h2 rfl)
theorem br_y {p : Prop} [Decidable p] {A B : Prop} (hp : p) (h : A) : if decide p = true then A else B := by rw [decide_eq_true hp]; exact br_t h
theorem br_n {p : Prop} [Decidable p] {A B : Prop} (hp : ¬ p) (h : B) : if decide p = true then A else B := by rw [decide_eq_false hp]; exact br_f h
theorem br_ny {p : Prop} [Decidable p] {A B : Prop} (hp : p) (h : B) : if (!decide p) = true then A else B := by rw [decide_eq_true hp]; exact br_f h
theorem br_nn {p : Prop} [Decidable p] {A B : Prop} (hp : ¬ p) (h : A) : if (!decide p) = true then A else B := by rw [decide_eq_false hp]; exact br_t h
theorem br_nt {A B : Prop} (h : B) : if (!true) = true then A else B := br_f h
theorem br_nf {A B : Prop} (h : A) : if (!false) = true then A else B := br_t h
/-- a bool by its two ways (an open test) -/
theorem br_d {p : Prop} [Decidable p] {A B : Prop} (h1 : p → A) (h2 : ¬ p → B) : if decide p = true then A else B := by
  by_cases h : p
  · rw [decide_eq_true h]; exact br_t (h1 h)
  · rw [decide_eq_false h]; exact br_f (h2 h)
theorem br_nd {p : Prop} [Decidable p] {A B : Prop} (h1 : ¬ p → A) (h2 : p → B) : if (!decide p) = true then A else B := by
  by_cases h : p
  · rw [decide_eq_true h]; exact br_f (h2 h)
  · rw [decide_eq_false h]; exact br_t (h1 h)
end
end U
/-! U2: a def taken by name; constants; stores; loops and comprehensions over what yields one thing after another. -/
namespace U
open PySem PySem.Spec L2
section
variable {X : Cx} {x : Str} {p pos : Pos} {e : Expr} {es : List Expr} {t : TA}
/-- a def of the module's, by its name: where it stands, that it keeps its promise -/
structure OkF (P : Program) (w : World) (K : PySem.W.Frag) (mg : Str → Option Value) (base : Heap) (k : Nat) (x : Str) (ps : List Str) (sp : Sp) : Prop where
  ex : ∃ (f : Addr) (fd : FuncData), mg x = some (.ref f) ∧ FnOk P w K mg base CX0 k f fd ps sp ∧ Binds K fd ps [] ∧ PySem.W.keepIn K (.ref f) = true
theorem pe_fn {k : Nat} {ps : List Str} {sp : Sp} (O : OkF X.prog X.w X.K X.mg X.base k x ps sp) (hr : Room k X.A) (hg : Gl X x) (ha : PA X (e :: es) t) (hdb : (x == ("__debug__" : Str)) = false := by decide)
    (he : starEach (e :: es) X.env = (false, eval e X.env) :: starEach es X.env := by rfl) (hpl : (backTo pos (starEach es X.env)).any (·.1) = false := by rfl) : PE X (.Call (.Name x p) (e :: es) [] pos) (tCall sp [] E0 t) := by
  obtain ⟨f, fd, hm, F, hb, hk⟩ := O.ex
  exact pe_call F hr hg hm hk hb .nil pass0 ha hdb he hpl
theorem pe_fn0 {k : Nat} {ps : List Str} {sp : Sp} (O : OkF X.prog X.w X.K X.mg X.base k x ps sp) (hr : Room k X.A) (hg : Gl X x) (hdb : (x == ("__debug__" : Str)) = false := by decide) : PE X (.Call (.Name x p) [] [] pos) (tCall sp [] E0 tNil) := by
  obtain ⟨f, fd, hm, F, hb, hk⟩ := O.ex
  exact pe_call0 F hr hg hm hk hb .nil pass0 hdb
theorem pe_gint {i : Int} (hg : Gl X x) (h : ∃ t, X.mg x = some (.int i t)) (hd : (x == ("__debug__" : Str)) = false := by decide) : PE X (.Name x pos) (tC (.int i)) := by
  obtain ⟨t, h⟩ := h
  exact pe_glob hg h ⟨_, rfl⟩ hd
theorem pe_gstr {z : Str} (hg : Gl X x) (h : ∃ t, X.mg x = some (.str z t)) (hd : (x == ("__debug__" : Str)) = false := by decide) : PE X (.Name x pos) (tC (.str z)) := by
  obtain ⟨t, h⟩ := h
  exact pe_glob hg h ⟨_, rfl⟩ hd
theorem pe_gref {a : Addr} (hg : Gl X x) (h : X.mg x = some (.ref a)) (hd : (x == ("__debug__" : Str)) = false := by decide) : PE X (.Name x pos) (tC (.ref a)) := pe_glob hg h rfl hd
theorem pe_ty {T : String} (hg : Gl X x) (hm : X.mg x = none) (hv : bootBuiltins x = some (.type T)) (hn : x ≠ "__name__" := by decide) (hd : (x == ("__debug__" : Str)) = false := by decide) : PE X (.Name x pos) (tC (.ty T)) := pe_bltn hg hm hv rfl hn hd
/-- a block: what holds between its first statement and the rest -/
def tSq (t u : TS) : TS := fun D σ H => ∃ M : St → Hp → Prop, t { D with nx := M } σ H ∧ ∀ σ' H', M σ' H' → u D σ' H'
theorem pss_c {st : Stmt} {rest : List Stmt} {t u : TS} (h1 : PS X st t) (h2 : PSs X rest u) : PSs X (st :: rest) (tSq t u) := by
  refine ⟨fun pins s σ H D I h => ?_⟩
  obtain ⟨M, hm, hu⟩ := h
  refine wpAny_execs_cons (thn (h1.run pins s σ H { D with nx := M } I hm) fun f s1 q => ?_)
  cases f with
  | next =>
    obtain ⟨σ', H', I', q⟩ := q
    exact h2.run pins s1 σ' H' D I' (hu σ' H' q)
  | ret v => exact q
  | brk => exact q
  | cont => exact q
/-- what is walked: a list, a tuple, a text -/
def uIt (K : PySem.W.Frag) (te : TE) : TI := fun σ H R => iList K te σ H R ∨ iTup K te σ H R ∨ iStr te σ H R
theorem pi_any {tg : Expr} {te : TE} (he : PE X e te) : PI X tg e (uIt X.K te) := ⟨fun pins s σ H R I h => by
  rcases h with h | h | h
  · exact (pi_list he).run pins s σ H R I h
  · exact (pi_tup he).run pins s σ H R I h
  · exact (pi_str he).run pins s σ H R I h⟩
/-- isinstance(x, (T1, T2, ..)), built-in types -/
def kitL (t : String) : List String → Option Bool
  | [] => some false
  | T :: Ts => match kitB t T with
    | some true => some true
    | some false => kitL t Ts
    | none => none
theorem kitL_any {K : PySem.W.Frag} {t : String} : ∀ {Ts : List String} {b : Bool}, kitL t Ts = some b → PySem.W.kitAny K (.type t) (Ts.map Value.type) = some b
  | [], b, h => by cases h; rfl
  | T :: Ts, b, h => by
    unfold kitL at h
    cases e : kitB t T with
    | none => rw [e] at h; cases h
    | some c =>
      rw [e] at h
      cases c with
      | true => cases h; exact kitAny_cons (b := true) (kit_ty e) (fun z => by cases z) (fun _ => rfl)
      | false => exact kitAny_cons (b := false) (kit_ty e) (fun _ => kitL_any h) (fun z => by cases z)
theorem clsL : ∀ Ts : List String, Paired ClsV (Ts.map V.ty) (Ts.map Value.type)
  | [] => .nil
  | T :: Ts => .cons (.ty T) (clsL Ts)
def uIsiT (K : PySem.W.Frag) : RC := fun xs H Q => match xs with
  | [x, .ref p] => ∃ (t : String) (Ts : List String) (b : Bool), H p = some (.tup (Ts.map V.ty)) ∧ (match tyName x with | some n => t = n | none => TyX K H x (.type t)) ∧ kitL t Ts = some b ∧ Q (.bl b) H
  | _ => False
theorem c_isiT : CallR X (.builtin "isinstance") (uIsiT X.K) := by
  intro pins s σ H xs us Q I r h
  unfold uIsiT at h
  split at h
  · rename_i x p
    obtain ⟨t, Ts, b, h0, h1, h2, q⟩ := h
    have ty : TyX X.K H x (.type t) := by
      cases x with
      | non => have e : t = "NoneType" := h1; subst e; exact .base .non
      | bl b => have e : t = "bool" := h1; subst e; exact .base (.bl b)
      | int i => have e : t = "int" := h1; subst e; exact .base (.int i)
      | str z => have e : t = "str" := h1; subst e; exact .base (.str z)
      | _ => exact h1
    exact call_isiT pins s σ H _ us Q I r ⟨x, p, _, _, _, b, rfl, h0, clsL Ts, ty, kitL_any h2, q⟩
  · exact h.elim
/-! stores -/
def uGetL (K : PySem.W.Frag) (o i : V) (H : Hp) (Q : VK) : Prop := match o, i with
  | .ref a, .int k => ∃ xs v, SqL K H a xs ∧ 0 ≤ k ∧ xs[k.toNat]? = some v ∧ Q v H
  | _, _ => False
theorem g_list : PGet X (uGetL X.K) := by
  intro pins s σ H o i ov iv Q I r1 r2 h
  cases o <;> cases i <;> first | exact (show False from h).elim | skip
  obtain ⟨xs, v, h1, h2, h3, q⟩ := h
  cases r1
  obtain ⟨t, rfl⟩ := r2
  obtain ⟨its, r, pl, hz⟩ := I.list h1
  obtain ⟨w, ew, rw'⟩ := r.get h3
  have hl := line63
  have hj := (List.getElem?_eq_some_iff.mp h3).1
  exact wpAny_getItem_list pl.isList h2 (by omega) (by simpa using ew) ⟨v, H, I, rw', q⟩
def uSetL (o i v : V) (H : Hp) (Q : Hp → Prop) : Prop := match o, i with
  | .ref a, .int k => ∃ xs j, H a = some (.lst xs) ∧ ixN xs.length k = some j ∧ Q (upd H a (.lst (xs.set j v)))
  | _, _ => False
theorem p_list : PSet X uSetL := by
  intro pins s σ H o i v ov iv u Q I r1 r2 r3 h
  cases o <;> cases i <;> first | exact (show False from h).elim | skip
  obtain ⟨xs, j, h1, h2, q⟩ := h
  exact set_list pins s σ H _ _ v ov iv u Q I r1 r2 r3 ⟨_, xs, _, j, rfl, rfl, h1, h2, q⟩
def uIpI (f : Int → Int → Int) (x y : V) (H : Hp) (Q : VK) : Prop := match x, y with
  | .int i, .int j => Q (.int (f i j)) H
  | _, _ => False
theorem a_add : PIp X .Add (uIpI fun i j => i + j) := by
  intro pins s σ H x y v u Q I r1 r2 h
  cases x <;> cases y <;> first | exact (show False from h).elim | skip
  exact ip_add pins s σ H _ _ v u Q I r1 r2 ⟨_, _, rfl, rfl, h⟩
theorem a_sub : PIp X .Sub (uIpI fun i j => i - j) := by
  intro pins s σ H x y v u Q I r1 r2 h
  cases x <;> cases y <;> first | exact (show False from h).elim | skip
  exact ip_sub pins s σ H _ _ v u Q I r1 r2 ⟨_, _, rfl, rfl, h⟩
end
section
variable {σ : St} {H : Hp} {Q : VK} {D : Ends} {K : PySem.W.Frag} {i j : Int}
theorem r_sq {t u : TS} (h : t { D with nx := u D } σ H) : tSq t u D σ H := ⟨u D, h, fun _ _ x => x⟩
theorem r_cut {t u : TS} (M : St → Hp → Prop) (h : t { D with nx := M } σ H) (k : ∀ σ' H', M σ' H' → u D σ' H') : tSq t u D σ H := ⟨M, h, k⟩
theorem r_sqA {te : TE} {g : TG} {u : TS} (h : te σ H fun x H1 => g x σ H1 (u D)) : tSq (tAsg te g) u D σ H := r_sq h
theorem r_sqD {te : TE} {u : TS} (h : te σ H fun _ H1 => u D σ H1) : tSq (tDrop te) u D σ H := r_sq h
theorem r_sqG {x : V} {i : Nat} {te : TE} {ti : TIp} {u : TS} (hx : σ[i]? = some (some x)) (h : te σ H fun y H1 => ti x y H1 fun z H2 => u D (σ.set i (some z)) H2) : tSq (tAug i te ti) u D σ H := r_sq ⟨x, hx, h⟩
theorem r_sqS {to ti te : TE} {tg : V → V → Hp → VK → Prop} {tp : TIp} {ts : TSet} {u : TS} (h : to σ H fun o H1 => ti σ H1 fun k H2 => tg o k H2 fun x H3 => te σ H3 fun y H4 => tp x y H4 fun z H5 => ts o k z H5 fun H6 => u D σ H6) : tSq (tAugS to ti te tg tp ts) u D σ H := r_sq h
theorem r_yes {QB : Bool → Hp → Prop} (h : QB true H) : tYes σ H QB := h
theorem same_new {p : Addr} {o : HO} (h : H p = none) : Same H (upd H p o) := fun b x e => by
  rw [upd_ne (ne_of_none e h)]
  exact e
theorem same_mut {H' : Hp} {p : Addr} {o : HO} (e : Same H H') (h : H p = none) : Same H (upd H' p o) := fun b x eb => by
  rw [upd_ne (ne_of_none eb h)]
  exact e b x eb
theorem r_sub3 {to ti : TE} {ts : TSet} {v : V} {R : St → Hp → Prop} (h : to σ H fun o H1 => ti σ H1 fun k H2 => ts o k v H2 fun H3 => R σ H3) : gSub to ti ts v σ H R := h
theorem r_augS {to ti te : TE} {tg : V → V → Hp → VK → Prop} {tp : TIp} {ts : TSet} (h : to σ H fun o H1 => ti σ H1 fun k H2 => tg o k H2 fun x H3 => te σ H3 fun y H4 => tp x y H4 fun z H5 => ts o k z H5 fun H6 => D.nx σ H6) : tAugS to ti te tg tp ts D σ H := h
theorem r_ipI {f : Int → Int → Int} (h : Q (.int (f i j)) H) : uIpI f (.int i) (.int j) H Q := h
theorem r_getL {a : Addr} {k : Int} {xs : List V} {v : V} (h1 : SqL K H a xs) (h2 : 0 ≤ k) (h3 : xs[k.toNat]? = some v) (h : Q v H) : uGetL K (.ref a) (.int k) H Q := ⟨xs, v, h1, h2, h3, h⟩
theorem r_setL {a : Addr} {k : Int} {xs : List V} {m : Nat} {v : V} {R : Hp → Prop} (h1 : H a = some (.lst xs)) (h2 : ixN xs.length k = some m) (h : R (upd H a (.lst (xs.set m v)))) : uSetL (.ref a) (.int k) v H R := ⟨xs, m, h1, h2, h⟩
/-! loops -/
/-- a loop over n things: P holds ahead of each turn -/
theorem l_for {J : It} {n : Nat} {g : TG} {tb : TS} (P : Nat → St → Hp → Prop) (h0 : P 0 σ H) (go : ∀ i σ H, i < n → P i σ H → J.go i H) (stop : ∀ σ H, P n σ H → J.stop n H)
    (step : ∀ i σ H, i < n → P i σ H → ∀ x H', J.yld i H x H' → g x σ H' fun σ2 H2 => tb { D with nx := P (i + 1), ct := P (i + 1), bk := D.nx } σ2 H2) (done : ∀ σ H, P n σ H → D.nx σ H) :
    ∃ W : Nat → Nat → St → Hp → Prop, (∃ m, W 0 m σ H) ∧ ∀ i m σ H, W i m σ H →
      (J.stop i H ∧ D.nx σ H) ∨ (J.go i H ∧ ∃ N : St → Hp → Prop, (∀ σ' H', N σ' H' → ∃ m', m' < m ∧ W (i + 1) m' σ' H') ∧ ∀ x H', J.yld i H x H' → g x σ H' fun σ2 H2 => tb { D with nx := N, ct := N, bk := D.nx } σ2 H2) := by
  refine ⟨fun i m σ H => m = n - i ∧ i ≤ n ∧ P i σ H, ⟨n, by simp, Nat.zero_le _, h0⟩, ?_⟩
  rintro i m σ H ⟨rfl, hi, p⟩
  by_cases hlt : i < n
  · exact .inr ⟨go i σ H hlt p, P (i + 1), fun σ' H' p' => ⟨n - (i + 1), by omega, rfl, hlt, p'⟩, fun x H' y => step i σ H hlt p x H' y⟩
  · have e : i = n := by omega
    subst e
    exact .inl ⟨stop σ H p, done σ H p⟩
theorem r_for {wi : TI} {g : TG} {tb : TS} (h : wi σ H fun J H1 => ∃ W : Nat → Nat → St → Hp → Prop, (∃ m, W 0 m σ H1) ∧ ∀ i m σ H, W i m σ H →
  (J.stop i H ∧ D.nx σ H) ∨ (J.go i H ∧ ∃ N : St → Hp → Prop, (∀ σ' H', N σ' H' → ∃ m', m' < m ∧ W (i + 1) m' σ' H') ∧ ∀ x H', J.yld i H x H' → g x σ H' fun σ2 H2 => tb { D with nx := N, ct := N, bk := D.nx } σ2 H2)) : tFor wi g tb D σ H := h
theorem it_list {te : TE} {R : It → Hp → Prop} (h : te σ H fun x H1 => ∃ a, x = .ref a ∧ (∃ xs, SqL K H1 a xs) ∧ R (Itl K a) H1) : uIt K te σ H R := .inl h
theorem it_tup {te : TE} {R : It → Hp → Prop} (h : te σ H fun x H1 => ∃ a, x = .ref a ∧ (∃ xs, SqT K H1 a xs) ∧ R (Itt K a) H1) : uIt K te σ H R := .inr (.inl h)
theorem it_str {te : TE} {R : It → Hp → Prop} (h : te σ H fun v H1 => ∃ x, v = .str x ∧ R (Its x) H1) : uIt K te σ H R := .inr (.inr h)
theorem r_rng1 {ta : TA} {R : It → Hp → Prop} (h : ta σ H fun vs H1 => ∃ j : Int, vs = [.int j] ∧ -(2 ^ 62) ≤ j ∧ j < 2 ^ 62 ∧ R (Itr 0 j.toNat) H1) : iRng1 ta σ H R := h
theorem r_rng1v {k : Int} {P : Int → Prop} (h : P k) : ∃ j : Int, [V.int k] = [V.int j] ∧ P j := ⟨k, rfl, h⟩
theorem r_rng2 {ta : TA} {R : It → Hp → Prop} (h : ta σ H fun vs H1 => ∃ i j : Int, vs = [.int i, .int j] ∧ (-(2 ^ 62) ≤ i ∧ i < 2 ^ 62 ∧ -(2 ^ 62) ≤ j ∧ j < 2 ^ 62) ∧ R (Itr i (j - i).toNat) H1) : iRng2 ta σ H R := h
theorem r_rng2v {a b : Int} {P : Int → Int → Prop} (h : P a b) : ∃ i j : Int, [V.int a, V.int b] = [V.int i, V.int j] ∧ P i j := ⟨a, b, rfl, h⟩
/-- over a range that is told by its number of turns -/
theorem f_range {lo : Int} {n : Nat} {g : TG} {tb : TS} (P : Nat → St → Hp → Prop) (h0 : P 0 σ H)
    (step : ∀ i σ H, i < n → P i σ H → g (.int (lo + i)) σ H fun σ2 H2 => tb { D with nx := P (i + 1), ct := P (i + 1), bk := D.nx } σ2 H2) (done : ∀ σ H, P n σ H → D.nx σ H) :
    ∃ W : Nat → Nat → St → Hp → Prop, (∃ m, W 0 m σ H) ∧ ∀ i m σ H, W i m σ H →
      ((Itr lo n).stop i H ∧ D.nx σ H) ∨ ((Itr lo n).go i H ∧ ∃ N : St → Hp → Prop, (∀ σ' H', N σ' H' → ∃ m', m' < m ∧ W (i + 1) m' σ' H') ∧ ∀ x H', (Itr lo n).yld i H x H' → g x σ H' fun σ2 H2 => tb { D with nx := N, ct := N, bk := D.nx } σ2 H2) :=
  l_for P h0 (fun i σ H h _ => h) (fun _ _ _ => Nat.le_refl _) (fun i σ H h p x H' y => by
    obtain ⟨e1, e2⟩ := y
    subst e1 e2
    exact step i σ H' h p) done
/-- over a text, sign by sign -/
theorem f_str {z : Str} {g : TG} {tb : TS} (P : Nat → St → Hp → Prop) (h0 : P 0 σ H)
    (step : ∀ i (c : Nat) σ H, z.cps.toList[i]? = some c → P i σ H → g (.str ⟨#[c]⟩) σ H fun σ2 H2 => tb { D with nx := P (i + 1), ct := P (i + 1), bk := D.nx } σ2 H2) (done : ∀ σ H, P z.cps.toList.length σ H → D.nx σ H) :
    ∃ W : Nat → Nat → St → Hp → Prop, (∃ m, W 0 m σ H) ∧ ∀ i m σ H, W i m σ H →
      ((Its z).stop i H ∧ D.nx σ H) ∨ ((Its z).go i H ∧ ∃ N : St → Hp → Prop, (∀ σ' H', N σ' H' → ∃ m', m' < m ∧ W (i + 1) m' σ' H') ∧ ∀ x H', (Its z).yld i H x H' → g x σ H' fun σ2 H2 => tb { D with nx := N, ct := N, bk := D.nx } σ2 H2) :=
  l_for P h0 (fun i σ H h _ => by show i < z.cps.size; simpa using h) (fun _ _ _ => by show z.cps.size ≤ _; simp) (fun i σ H h p x H' y => by
    obtain ⟨e1, c, e, e2⟩ := y
    subst e1 e2
    exact step i c σ H' (by simpa using e) p) done
/-- over a list that stays -/
theorem f_list {a : Addr} {xs : List V} {g : TG} {tb : TS} (P : Nat → St → Hp → Prop) (h0 : P 0 σ H) (hl : ∀ i σ H, P i σ H → SqL K H a xs)
    (step : ∀ i x σ H, xs[i]? = some x → P i σ H → g x σ H fun σ2 H2 => tb { D with nx := P (i + 1), ct := P (i + 1), bk := D.nx } σ2 H2) (done : ∀ σ H, P xs.length σ H → D.nx σ H) :
    ∃ W : Nat → Nat → St → Hp → Prop, (∃ m, W 0 m σ H) ∧ ∀ i m σ H, W i m σ H →
      ((Itl K a).stop i H ∧ D.nx σ H) ∨ ((Itl K a).go i H ∧ ∃ N : St → Hp → Prop, (∀ σ' H', N σ' H' → ∃ m', m' < m ∧ W (i + 1) m' σ' H') ∧ ∀ x H', (Itl K a).yld i H x H' → g x σ H' fun σ2 H2 => tb { D with nx := N, ct := N, bk := D.nx } σ2 H2) :=
  for_list P h0 (fun i σ H _ p => hl i σ H p) step done
theorem f_tup {a : Addr} {xs : List V} {g : TG} {tb : TS} (P : Nat → St → Hp → Prop) (h0 : P 0 σ H) (hl : ∀ i σ H, P i σ H → SqT K H a xs)
    (step : ∀ i x σ H, xs[i]? = some x → P i σ H → g x σ H fun σ2 H2 => tb { D with nx := P (i + 1), ct := P (i + 1), bk := D.nx } σ2 H2) (done : ∀ σ H, P xs.length σ H → D.nx σ H) :
    ∃ W : Nat → Nat → St → Hp → Prop, (∃ m, W 0 m σ H) ∧ ∀ i m σ H, W i m σ H →
      ((Itt K a).stop i H ∧ D.nx σ H) ∨ ((Itt K a).go i H ∧ ∃ N : St → Hp → Prop, (∀ σ' H', N σ' H' → ∃ m', m' < m ∧ W (i + 1) m' σ' H') ∧ ∀ x H', (Itt K a).yld i H x H' → g x σ H' fun σ2 H2 => tb { D with nx := N, ct := N, bk := D.nx } σ2 H2) :=
  for_tup P h0 (fun i σ H _ p => hl i σ H p) step done
/-! comprehensions: P by the turn and what the new list holds so far -/
/-- what is wanted behind an element -/
abbrev LcEnd (D : Addr) (N : Hp → Prop) (y : V) (H4 : Hp) : Prop := ∃ acc, H4 D = some (.lst acc) ∧ acc.length < sizeLine ∧ N (upd H4 D (.lst (acc ++ [y])))
theorem l_lc {J : It} {n : Nat} {g : TG} {tt : TT} {te : TE} {vs : List Nat} {D : Addr} {H1 : Hp} {Qd : Hp → Prop} (P : Nat → Hp → Prop) (h0 : P 0 (upd H1 D (.lst [])))
    (go : ∀ i H, i < n → P i H → J.go i H) (stop : ∀ H, P n H → J.stop n H)
    (step : ∀ i H, i < n → P i H → ∀ x H', J.yld i H x H' → g x (wipe σ vs) H' fun σ2 H2 => wipe σ2 vs = wipe σ vs ∧ tt σ2 H2 fun b H3 => if b = true then te σ2 H3 (LcEnd D (P (i + 1))) else P (i + 1) H3) (done : ∀ H, P n H → Qd H) :
    ∃ W : Nat → Nat → Hp → Prop, (∃ m, W 0 m (upd H1 D (.lst []))) ∧ ∀ i m H, W i m H →
      (J.stop i H ∧ Qd H) ∨ (J.go i H ∧ ∃ Nx : Hp → Prop, (∀ H', Nx H' → ∃ m', m' < m ∧ W (i + 1) m' H') ∧ ∀ x H', J.yld i H x H' → g x (wipe σ vs) H' fun σ2 H2 => wipe σ2 vs = wipe σ vs ∧ tt σ2 H2 fun b H3 =>
        if b = true then te σ2 H3 fun y H4 => ∃ acc, H4 D = some (.lst acc) ∧ acc.length < sizeLine ∧ Nx (upd H4 D (.lst (acc ++ [y]))) else Nx H3) := by
  refine ⟨fun i m H => m = n - i ∧ i ≤ n ∧ P i H, ⟨n, by simp, Nat.zero_le _, h0⟩, ?_⟩
  rintro i m H ⟨rfl, hi, p⟩
  by_cases hlt : i < n
  · exact .inr ⟨go i H hlt p, P (i + 1), fun H' p' => ⟨n - (i + 1), by omega, rfl, hlt, p'⟩, fun x H' y => step i H hlt p x H' y⟩
  · have e : i = n := by omega
    subst e
    exact .inl ⟨stop H p, done H p⟩
theorem r_lc {wi : TI} {g : TG} {tt : TT} {te : TE} {vs : List Nat} (h : wi σ H fun J H1 => ∀ D, H1 D = none → ∃ W : Nat → Nat → Hp → Prop, (∃ m, W 0 m (upd H1 D (.lst []))) ∧ ∀ i m H, W i m H →
  (J.stop i H ∧ Q (.ref D) H) ∨ (J.go i H ∧ ∃ Nx : Hp → Prop, (∀ H', Nx H' → ∃ m', m' < m ∧ W (i + 1) m' H') ∧ ∀ x H', J.yld i H x H' → g x (wipe σ vs) H' fun σ2 H2 => wipe σ2 vs = wipe σ vs ∧ tt σ2 H2 fun b H3 =>
    if b = true then te σ2 H3 fun y H4 => ∃ acc, H4 D = some (.lst acc) ∧ acc.length < sizeLine ∧ Nx (upd H4 D (.lst (acc ++ [y]))) else Nx H3)) : tLc wi g tt te vs σ H Q := h
/-- a comprehension over a range of n turns -/
theorem c_range {lo : Int} {n : Nat} {g : TG} {tt : TT} {te : TE} {vs : List Nat} {D : Addr} {H1 : Hp} {Qd : Hp → Prop} (P : Nat → Hp → Prop) (h0 : P 0 (upd H1 D (.lst [])))
    (step : ∀ i H, i < n → P i H → g (.int (lo + i)) (wipe σ vs) H fun σ2 H2 => wipe σ2 vs = wipe σ vs ∧ tt σ2 H2 fun b H3 => if b = true then te σ2 H3 (LcEnd D (P (i + 1))) else P (i + 1) H3) (done : ∀ H, P n H → Qd H) :
    ∃ W : Nat → Nat → Hp → Prop, (∃ m, W 0 m (upd H1 D (.lst []))) ∧ ∀ i m H, W i m H →
      ((Itr lo n).stop i H ∧ Qd H) ∨ ((Itr lo n).go i H ∧ ∃ Nx : Hp → Prop, (∀ H', Nx H' → ∃ m', m' < m ∧ W (i + 1) m' H') ∧ ∀ x H', (Itr lo n).yld i H x H' → g x (wipe σ vs) H' fun σ2 H2 => wipe σ2 vs = wipe σ vs ∧ tt σ2 H2 fun b H3 =>
        if b = true then te σ2 H3 fun y H4 => ∃ acc, H4 D = some (.lst acc) ∧ acc.length < sizeLine ∧ Nx (upd H4 D (.lst (acc ++ [y]))) else Nx H3) :=
  l_lc P h0 (fun i H h _ => h) (fun _ _ => Nat.le_refl _) (fun i H h p x H' y => by
    obtain ⟨e1, e2⟩ := y
    subst e1 e2
    exact step i H' h p) done
theorem c_strs {z : Str} {g : TG} {tt : TT} {te : TE} {vs : List Nat} {D : Addr} {H1 : Hp} {Qd : Hp → Prop} (P : Nat → Hp → Prop) (h0 : P 0 (upd H1 D (.lst [])))
    (step : ∀ i (c : Nat) H, z.cps.toList[i]? = some c → P i H → g (.str ⟨#[c]⟩) (wipe σ vs) H fun σ2 H2 => wipe σ2 vs = wipe σ vs ∧ tt σ2 H2 fun b H3 => if b = true then te σ2 H3 (LcEnd D (P (i + 1))) else P (i + 1) H3) (done : ∀ H, P z.cps.toList.length H → Qd H) :
    ∃ W : Nat → Nat → Hp → Prop, (∃ m, W 0 m (upd H1 D (.lst []))) ∧ ∀ i m H, W i m H →
      ((Its z).stop i H ∧ Qd H) ∨ ((Its z).go i H ∧ ∃ Nx : Hp → Prop, (∀ H', Nx H' → ∃ m', m' < m ∧ W (i + 1) m' H') ∧ ∀ x H', (Its z).yld i H x H' → g x (wipe σ vs) H' fun σ2 H2 => wipe σ2 vs = wipe σ vs ∧ tt σ2 H2 fun b H3 =>
        if b = true then te σ2 H3 fun y H4 => ∃ acc, H4 D = some (.lst acc) ∧ acc.length < sizeLine ∧ Nx (upd H4 D (.lst (acc ++ [y]))) else Nx H3) :=
  l_lc P h0 (fun i H h _ => by show i < z.cps.size; simpa using h) (fun _ _ => by show z.cps.size ≤ _; simp) (fun i H h p x H' y => by
    obtain ⟨e1, c, e, e2⟩ := y
    subst e1 e2
    exact step i c H' (by simpa using e) p) done
theorem c_lists {a : Addr} {xs : List V} {g : TG} {tt : TT} {te : TE} {vs : List Nat} {D : Addr} {H1 : Hp} {Qd : Hp → Prop} (P : Nat → Hp → Prop) (h0 : P 0 (upd H1 D (.lst []))) (hl : ∀ i H, P i H → SqL K H a xs)
    (step : ∀ i x H, xs[i]? = some x → P i H → g x (wipe σ vs) H fun σ2 H2 => wipe σ2 vs = wipe σ vs ∧ tt σ2 H2 fun b H3 => if b = true then te σ2 H3 (LcEnd D (P (i + 1))) else P (i + 1) H3) (done : ∀ H, P xs.length H → Qd H) :
    ∃ W : Nat → Nat → Hp → Prop, (∃ m, W 0 m (upd H1 D (.lst []))) ∧ ∀ i m H, W i m H →
      ((Itl K a).stop i H ∧ Qd H) ∨ ((Itl K a).go i H ∧ ∃ Nx : Hp → Prop, (∀ H', Nx H' → ∃ m', m' < m ∧ W (i + 1) m' H') ∧ ∀ x H', (Itl K a).yld i H x H' → g x (wipe σ vs) H' fun σ2 H2 => wipe σ2 vs = wipe σ vs ∧ tt σ2 H2 fun b H3 =>
        if b = true then te σ2 H3 fun y H4 => ∃ acc, H4 D = some (.lst acc) ∧ acc.length < sizeLine ∧ Nx (upd H4 D (.lst (acc ++ [y]))) else Nx H3) :=
  l_lc P h0 (fun i H h p => ⟨xs, xs[i], hl i H p, by simp [h]⟩) (fun H p => ⟨xs, hl _ H p, Nat.le_refl _⟩) (fun i H h p x H' y => by
    obtain ⟨e1, e2⟩ := y
    subst e1
    exact step i x H' (e2 xs (hl i _ p)) p) done
theorem c_tups {a : Addr} {xs : List V} {g : TG} {tt : TT} {te : TE} {vs : List Nat} {D : Addr} {H1 : Hp} {Qd : Hp → Prop} (P : Nat → Hp → Prop) (h0 : P 0 (upd H1 D (.lst []))) (hl : ∀ i H, P i H → SqT K H a xs)
    (step : ∀ i x H, xs[i]? = some x → P i H → g x (wipe σ vs) H fun σ2 H2 => wipe σ2 vs = wipe σ vs ∧ tt σ2 H2 fun b H3 => if b = true then te σ2 H3 (LcEnd D (P (i + 1))) else P (i + 1) H3) (done : ∀ H, P xs.length H → Qd H) :
    ∃ W : Nat → Nat → Hp → Prop, (∃ m, W 0 m (upd H1 D (.lst []))) ∧ ∀ i m H, W i m H →
      ((Itt K a).stop i H ∧ Qd H) ∨ ((Itt K a).go i H ∧ ∃ Nx : Hp → Prop, (∀ H', Nx H' → ∃ m', m' < m ∧ W (i + 1) m' H') ∧ ∀ x H', (Itt K a).yld i H x H' → g x (wipe σ vs) H' fun σ2 H2 => wipe σ2 vs = wipe σ vs ∧ tt σ2 H2 fun b H3 =>
        if b = true then te σ2 H3 fun y H4 => ∃ acc, H4 D = some (.lst acc) ∧ acc.length < sizeLine ∧ Nx (upd H4 D (.lst (acc ++ [y]))) else Nx H3) :=
  l_lc P h0 (fun i H h p => ⟨xs, xs[i], hl i H p, by simp [h]⟩) (fun H p => ⟨xs, hl _ H p, Nat.le_refl _⟩) (fun i H h p x H' y => by
    obtain ⟨e1, e2⟩ := y
    subst e1
    exact step i x H' (e2 xs (hl i _ p)) p) done
end
end U
/-! U3: data of tuples, and how a heap bears them. -/
namespace U
open PySem PySem.Spec L2
/-- data of tuples -/
inductive D where
  | non | bl (b : Bool) | int (i : Int) | str (x : Str) | tup (ds : List D)
mutual
def D.py : D → PyData
  | .non => .none
  | .bl b => .bool b
  | .int i => .int i
  | .str x => .str x
  | .tup ds => .tuple (D.pyL ds)
def D.pyL : List D → List PyData
  | [] => []
  | d :: ds => D.py d :: D.pyL ds
end
theorem D.pyL_map : ∀ ds : List D, D.pyL ds = ds.map D.py
  | [] => rfl
  | d :: ds => by rw [D.pyL, D.pyL_map ds]; rfl
mutual
inductive Td (K : PySem.W.Frag) (H : Hp) : V → D → Prop
  | non : Td K H .non .non
  | bl (b : Bool) : Td K H (.bl b) (.bl b)
  | int (i : Int) : Td K H (.int i) (.int i)
  | str (x : Str) : Td K H (.str x) (.str x)
  | tup {a : Addr} {vs : List V} {ds : List D} : SqT K H a vs → TdL K H vs ds → Td K H (.ref a) (.tup ds)
inductive TdL (K : PySem.W.Frag) (H : Hp) : List V → List D → Prop
  | nil : TdL K H [] []
  | cons {v : V} {vs : List V} {d : D} {ds : List D} : Td K H v d → TdL K H vs ds → TdL K H (v :: vs) (d :: ds)
end
/-- the tuples stay -/
def Tk (K : PySem.W.Frag) (H H' : Hp) : Prop := ∀ a xs, SqT K H a xs → SqT K H' a xs
section
variable {K : PySem.W.Frag} {H H' H2 : Hp}
theorem Tk.refl : Tk K H H := fun _ _ h => h
theorem Tk.trans (a : Tk K H H') (b : Tk K H' H2) : Tk K H H2 := fun x xs h => b x xs (a x xs h)
theorem Same.tk (e : Same H H') : Tk K H H' := fun a xs h => by
  rcases h with (h | ⟨o, h⟩) | h
  · exact .inl (.inl (e _ _ h))
  · exact .inl (.inr ⟨o, e _ _ h⟩)
  · exact .inr h
/-- what is no tuple may change -/
theorem Tk.mut {p : Addr} {o : HO} (h1 : ∀ xs, H p ≠ some (.tup xs)) (h2 : ∀ ob xs, H p ≠ some (.frz ob (.tup xs))) : Tk K H (upd H p o) := fun a xs h => by
  rcases h with (h | ⟨ob, h⟩) | h
  · have n : a ≠ p := fun e => h1 xs (e ▸ h)
    exact .inl (.inl (by rw [upd_ne n]; exact h))
  · have n : a ≠ p := fun e => h2 ob xs (e ▸ h)
    exact .inl (.inr ⟨ob, by rw [upd_ne n]; exact h⟩)
  · exact .inr h
theorem Tk.new {p : Addr} {o : HO} (h : H p = none) : Tk K H (upd H p o) := Tk.mut (fun xs e => by rw [h] at e; cases e) (fun _ xs e => by rw [h] at e; cases e)
theorem Tk.lst {p : Addr} {xs : List V} {o : HO} (h : H p = some (.lst xs)) : Tk K H (upd H p o) := Tk.mut (fun ys e => by rw [h] at e; cases e) (fun _ ys e => by rw [h] at e; cases e)
theorem Tk.dK {p : Addr} {xs : List (Key × V)} {o : HO} (h : H p = some (.dK xs)) : Tk K H (upd H p o) := Tk.mut (fun ys e => by rw [h] at e; cases e) (fun _ ys e => by rw [h] at e; cases e)
theorem Tk.ins {p C dx : Addr} {fs : List (Str × V)} {o : HO} (h : H p = some (.ins C dx fs)) : Tk K H (upd H p o) := Tk.mut (fun ys e => by rw [h] at e; cases e) (fun _ ys e => by rw [h] at e; cases e)
mutual
theorem Td.mono (e : Tk K H H') : ∀ (d : D) (v : V), Td K H v d → Td K H' v d
  | .non, _, h => by cases h; exact .non
  | .bl _, _, h => by cases h; exact .bl _
  | .int _, _, h => by cases h; exact .int _
  | .str _, _, h => by cases h; exact .str _
  | .tup ds, _, h => by
    cases h with
    | tup h1 h2 => exact .tup (e _ _ h1) (TdL.mono e ds _ h2)
theorem TdL.mono (e : Tk K H H') : ∀ (ds : List D) (vs : List V), TdL K H vs ds → TdL K H' vs ds
  | [], _, h => by cases h; exact .nil
  | d :: ds, _, h => by
    cases h with
    | cons h1 h2 => exact .cons (Td.mono e d _ h1) (TdL.mono e ds _ h2)
end
theorem Td.k {d : D} {v : V} (h : Td K H v d) (e : Tk K H H') : Td K H' v d := Td.mono e d v h
theorem TdL.k {ds : List D} {vs : List V} (h : TdL K H vs ds) (e : Tk K H H') : TdL K H' vs ds := TdL.mono e ds vs h
mutual
theorem Td.dp : ∀ (d : D) (v : V), Td K H v d → Dp K H v d.py
  | .non, _, h => by cases h; exact .non
  | .bl _, _, h => by cases h; exact .bl _
  | .int _, _, h => by cases h; exact .int _
  | .str _, _, h => by cases h; exact .str _
  | .tup ds, _, h => by
    cases h with
    | tup h1 h2 => rw [D.py]; exact .tup h1 (TdL.dp ds _ h2)
theorem TdL.dp : ∀ (ds : List D) (vs : List V), TdL K H vs ds → DpAll K H vs (D.pyL ds)
  | [], _, h => by cases h; exact .nil
  | d :: ds, _, h => by
    cases h with
    | cons h1 h2 => rw [D.pyL]; exact .cons (Td.dp d _ h1) (TdL.dp ds _ h2)
end
theorem TdL.len : ∀ {vs : List V} {ds : List D}, TdL K H vs ds → vs.length = ds.length
  | _, _, .nil => rfl
  | _, _, .cons _ t => by rw [List.length_cons, List.length_cons, TdL.len t]
theorem TdL.get : ∀ {vs : List V} {ds : List D} {i : Nat} {d : D}, TdL K H vs ds → ds[i]? = some d → ∃ v, vs[i]? = some v ∧ Td K H v d
  | _, _, i, _, .nil, h => by simp at h
  | _, _, 0, _, .cons h t, e => by simp at e; subst e; exact ⟨_, rfl, h⟩
  | _, _, i + 1, _, .cons h t, e => by
    obtain ⟨v, h1, h2⟩ := TdL.get (i := i) t (by simpa using e)
    exact ⟨v, by simpa using h1, h2⟩
theorem TdL.append : ∀ {vs ws : List V} {ds es : List D}, TdL K H vs ds → TdL K H ws es → TdL K H (vs ++ ws) (ds ++ es)
  | _, _, _, _, .nil, s => s
  | _, _, _, _, .cons h t, s => .cons h (TdL.append t s)
theorem TdL.take : ∀ {vs : List V} {ds : List D} (n : Nat), TdL K H vs ds → TdL K H (vs.take n) (ds.take n)
  | _, _, 0, _ => .nil
  | _, _, _ + 1, .nil => .nil
  | _, _, n + 1, .cons h t => .cons h (TdL.take n t)
theorem TdL.drop : ∀ {vs : List V} {ds : List D} (n : Nat), TdL K H vs ds → TdL K H (vs.drop n) (ds.drop n)
  | _, _, 0, r => r
  | _, _, _ + 1, .nil => .nil
  | _, _, n + 1, .cons _ t => TdL.drop n t
theorem TdL.one {v : V} {d : D} (h : Td K H v d) : TdL K H [v] [d] := .cons h .nil
/-- a tuple that was just made -/
theorem Td.made {p : Addr} {vs : List V} {ds : List D} (h : TdL K H vs ds) (hp : H p = some (.tup vs)) : Td K H (.ref p) (.tup ds) := .tup (SqT.of hp) h
theorem Td.newT {p : Addr} {vs : List V} {ds : List D} (h : TdL K H vs ds) (hp : H p = none) : Td K (upd H p (.tup vs)) (.ref p) (.tup ds) := .tup (SqT.of upd_same) (h.k (Tk.new hp))
end
/-! equality -/
mutual
def D.eqb : D → D → Bool
  | .non, .non => true
  | .bl a, .bl b => a == b
  | .bl a, .int j => (if a then 1 else 0) == j
  | .int i, .bl b => i == (if b then 1 else 0)
  | .int i, .int j => i == j
  | .str x, .str y => x == y
  | .tup xs, .tup ys => D.eqL xs ys
  | _, _ => false
def D.eqL : List D → List D → Bool
  | [], [] => true
  | x :: xs, y :: ys => D.eqb x y && D.eqL xs ys
  | _, _ => false
end
mutual
theorem D.eqb_py : ∀ a b : D, PyData.eqv a.py b.py = D.eqb a b
  | .non, b => by cases b <;> simp [D.py, PyData.eqv, D.eqb]
  | .bl _, b => by cases b <;> simp [D.py, PyData.eqv, D.eqb]
  | .int _, b => by cases b <;> simp [D.py, PyData.eqv, D.eqb]
  | .str _, b => by cases b <;> simp [D.py, PyData.eqv, D.eqb]
  | .tup xs, b => by
    cases b with
    | tup ys => rw [D.py, D.py, PyData.eqv, D.eqb, D.eqL_py xs ys]
    | _ => simp [D.py, PyData.eqv, D.eqb]
theorem D.eqL_py : ∀ xs ys : List D, PyData.eqvAll (D.pyL xs) (D.pyL ys) = D.eqL xs ys
  | [], [] => by simp [D.pyL, PyData.eqvAll, D.eqL]
  | [], _ :: _ => by simp [D.pyL, PyData.eqvAll, D.eqL]
  | _ :: _, [] => by simp [D.pyL, PyData.eqvAll, D.eqL]
  | x :: xs, y :: ys => by rw [D.pyL, D.pyL, PyData.eqvAll, D.eqL, D.eqb_py x y, D.eqL_py xs ys]
end
/-! fit to be compared: sound texts, no deeper than n, no wider than 60000 -/
mutual
def D.fit : Nat → D → Bool
  | _, .str x => PyData.strOk x && decide (x.length ≤ 60000)
  | 0, .tup _ => false
  | n + 1, .tup ds => decide (ds.length ≤ 60000) && D.fitL n ds
  | _, _ => true
def D.fitL : Nat → List D → Bool
  | _, [] => true
  | n, d :: ds => D.fit n d && D.fitL n ds
end
theorem D.fitL_iff {n : Nat} : ∀ {ds : List D}, D.fitL n ds = true ↔ ∀ d ∈ ds, D.fit n d = true
  | [] => by simp [D.fitL]
  | d :: ds => by rw [D.fitL, Bool.and_eq_true, D.fitL_iff (ds := ds)]; simp
theorem D.fit_tup {n : Nat} {ds : List D} : D.fit (n + 1) (.tup ds) = true ↔ ds.length ≤ 60000 ∧ ∀ d ∈ ds, D.fit n d = true := by
  rw [D.fit, Bool.and_eq_true, decide_eq_true_eq, D.fitL_iff]
theorem D.fit_str {n : Nat} {x : Str} : D.fit n (.str x) = true ↔ PyData.strOk x = true ∧ x.length ≤ 60000 := by
  cases n <;> rw [D.fit, Bool.and_eq_true, decide_eq_true_eq]
theorem D.fit_int {n : Nat} {i : Int} : D.fit n (.int i) = true := by cases n <;> rfl
theorem D.fit_bl {n : Nat} {b : Bool} : D.fit n (.bl b) = true := by cases n <;> rfl
theorem D.fit_non {n : Nat} : D.fit n .non = true := by cases n <;> rfl
mutual
theorem D.fit_lay : ∀ (d : D) (n : Nat), D.fit n d = true → d.py.canLay0 = true ∧ d.py.depth ≤ n + 1
  | .non, n, _ => by simp [D.py, PyData.canLay0, PyData.depth]
  | .bl _, n, _ => by simp [D.py, PyData.canLay0, PyData.depth]
  | .int _, n, _ => by simp [D.py, PyData.canLay0, PyData.depth]
  | .str x, n, h => by
    have h' : PyData.strOk x = true := (D.fit_str.mp h).1
    simp [D.py, PyData.canLay0, PyData.depth, h']
  | .tup ds, 0, h => by simp [D.fit] at h
  | .tup ds, n + 1, h => by
    have h' : D.fitL n ds = true := by
      rw [D.fit, Bool.and_eq_true] at h
      exact h.2
    obtain ⟨h1, h2⟩ := D.fitL_lay ds n h'
    simp only [D.py, PyData.canLay0, PyData.depth]
    exact ⟨h1, by omega⟩
theorem D.fitL_lay : ∀ (ds : List D) (n : Nat), D.fitL n ds = true → PyData.canLayAll0 (D.pyL ds) = true ∧ PyData.depthAll (D.pyL ds) ≤ n + 1
  | [], n, _ => by simp [D.pyL, PyData.canLayAll0, PyData.depthAll]
  | d :: ds, n, h => by
    have h' : (D.fit n d && D.fitL n ds) = true := by simpa [D.fitL] using h
    obtain ⟨a, b⟩ := Bool.and_eq_true_iff.mp h'
    obtain ⟨a1, a2⟩ := D.fit_lay d n a
    obtain ⟨b1, b2⟩ := D.fitL_lay ds n b
    simp only [D.pyL, PyData.canLayAll0, PyData.depthAll, a1, b1]
    exact ⟨rfl, by omega⟩
end
theorem D.shaped {d : D} {n : Nat} (h : D.fit n d = true) (hn : n ≤ 63) : SeqAt.shaped d.py = true := by
  obtain ⟨a, b⟩ := D.fit_lay d n h
  exact Bool.and_eq_true_iff.mpr ⟨a, decide_eq_true (by omega)⟩
mutual
theorem D.fit_mono : ∀ (d : D) {n m : Nat}, n ≤ m → D.fit n d = true → D.fit m d = true
  | .non, _, _, _, _ => D.fit_non
  | .bl _, _, _, _, _ => D.fit_bl
  | .int _, _, _, _, _ => D.fit_int
  | .str x, _, _, _, h => D.fit_str.mpr (D.fit_str.mp h)
  | .tup ds, 0, _, _, h => by simp [D.fit] at h
  | .tup ds, n + 1, 0, l, h => by omega
  | .tup ds, n + 1, m + 1, l, h => by
    rw [D.fit, Bool.and_eq_true] at h ⊢
    exact ⟨h.1, D.fitL_mono ds (by omega) h.2⟩
theorem D.fitL_mono : ∀ (ds : List D) {n m : Nat}, n ≤ m → D.fitL n ds = true → D.fitL m ds = true
  | [], _, _, _, _ => by simp [D.fitL]
  | d :: ds, n, m, l, h => by
    rw [D.fitL, Bool.and_eq_true] at h ⊢
    exact ⟨D.fit_mono d l h.1, D.fitL_mono ds l h.2⟩
end
/-! kinds of data -/
def D.isI : D → Bool
  | .bl _ => true
  | .int _ => true
  | _ => false
def D.isB : D → Bool
  | .bl _ => true
  | _ => false
def D.isS : D → Bool
  | .str _ => true
  | _ => false
def D.isT : D → Bool
  | .tup _ => true
  | _ => false
def D.isN : D → Bool
  | .non => true
  | _ => false
theorem sqT_ty {K : PySem.W.Frag} {H : Hp} {a : Addr} {vs : List V} (h : SqT K H a vs) : TyX K H (.ref a) (.type "tuple") := by
  rcases h with (h | ⟨o, h⟩) | ⟨o, its, n, h1, h2, _⟩
  · exact .base (.tup h)
  · exact .fTuple h
  · exact .kTuple h1 h2
section
variable {K : PySem.W.Frag} {H : Hp} {Q : VK} {v w : V} {a b d : D}
theorem r_isD0_int (h : Td K H v d) (q : Q (.bl d.isI) H) : uIsi K [v, .ty "int"] H Q := by
  cases h with
  | tup h1 h2 => exact ⟨"tuple", false, sqT_ty h1, by decide +kernel, q⟩
  | non => exact ⟨"NoneType", false, rfl, by decide +kernel, q⟩
  | bl b => exact ⟨"bool", true, rfl, by decide +kernel, q⟩
  | int b => exact ⟨"int", true, rfl, by decide +kernel, q⟩
  | str b => exact ⟨"str", false, rfl, by decide +kernel, q⟩
theorem r_isD0_bool (h : Td K H v d) (q : Q (.bl d.isB) H) : uIsi K [v, .ty "bool"] H Q := by
  cases h with
  | tup h1 h2 => exact ⟨"tuple", false, sqT_ty h1, by decide +kernel, q⟩
  | non => exact ⟨"NoneType", false, rfl, by decide +kernel, q⟩
  | bl b => exact ⟨"bool", true, rfl, by decide +kernel, q⟩
  | int b => exact ⟨"int", false, rfl, by decide +kernel, q⟩
  | str b => exact ⟨"str", false, rfl, by decide +kernel, q⟩
theorem r_isD0_str (h : Td K H v d) (q : Q (.bl d.isS) H) : uIsi K [v, .ty "str"] H Q := by
  cases h with
  | tup h1 h2 => exact ⟨"tuple", false, sqT_ty h1, by decide +kernel, q⟩
  | non => exact ⟨"NoneType", false, rfl, by decide +kernel, q⟩
  | bl b => exact ⟨"bool", false, rfl, by decide +kernel, q⟩
  | int b => exact ⟨"int", false, rfl, by decide +kernel, q⟩
  | str b => exact ⟨"str", true, rfl, by decide +kernel, q⟩
theorem r_isD0_tuple (h : Td K H v d) (q : Q (.bl d.isT) H) : uIsi K [v, .ty "tuple"] H Q := by
  cases h with
  | tup h1 h2 => exact ⟨"tuple", true, sqT_ty h1, by decide +kernel, q⟩
  | non => exact ⟨"NoneType", false, rfl, by decide +kernel, q⟩
  | bl b => exact ⟨"bool", false, rfl, by decide +kernel, q⟩
  | int b => exact ⟨"int", false, rfl, by decide +kernel, q⟩
  | str b => exact ⟨"str", false, rfl, by decide +kernel, q⟩
theorem r_isD_list (h : Td K H v d) (q : Q (.bl false) H) : uIsi K [v, .ty "list"] H Q := by
  cases h with
  | tup h1 h2 => exact ⟨"tuple", false, sqT_ty h1, by decide +kernel, q⟩
  | non => exact ⟨"NoneType", false, rfl, by decide +kernel, q⟩
  | bl b => exact ⟨"bool", false, rfl, by decide +kernel, q⟩
  | int b => exact ⟨"int", false, rfl, by decide +kernel, q⟩
  | str b => exact ⟨"str", false, rfl, by decide +kernel, q⟩
theorem r_isD_int (b : Bool) (h : Td K H v d) (e : d.isI = b) (q : Q (.bl b) H) : uIsi K [v, .ty "int"] H Q := r_isD0_int h (e ▸ q)
theorem r_isD_bool (b : Bool) (h : Td K H v d) (e : d.isB = b) (q : Q (.bl b) H) : uIsi K [v, .ty "bool"] H Q := r_isD0_bool h (e ▸ q)
theorem r_isD_str (b : Bool) (h : Td K H v d) (e : d.isS = b) (q : Q (.bl b) H) : uIsi K [v, .ty "str"] H Q := r_isD0_str h (e ▸ q)
theorem r_isD_tuple (b : Bool) (h : Td K H v d) (e : d.isT = b) (q : Q (.bl b) H) : uIsi K [v, .ty "tuple"] H Q := r_isD0_tuple h (e ▸ q)
/-- isinstance(x, (int, str)) -/
theorem r_isD_intstr {p : Addr} (hp : H p = some (.tup [.ty "int", .ty "str"])) (h : Td K H v d) (q : Q (.bl (d.isI || d.isS)) H) : uIsiT K [v, .ref p] H Q := by
  cases h with
  | tup h1 h2 => exact ⟨"tuple", ["int", "str"], false, hp, sqT_ty h1, by decide +kernel, q⟩
  | non => exact ⟨"NoneType", ["int", "str"], false, hp, rfl, by decide +kernel, q⟩
  | bl b => exact ⟨"bool", ["int", "str"], true, hp, rfl, by decide +kernel, q⟩
  | int b => exact ⟨"int", ["int", "str"], true, hp, rfl, by decide +kernel, q⟩
  | str b => exact ⟨"str", ["int", "str"], true, hp, rfl, by decide +kernel, q⟩
theorem Td.inv {ds : List D} (h : Td K H v (.tup ds)) : ∃ a vs, v = .ref a ∧ SqT K H a vs ∧ TdL K H vs ds := by
  cases h with
  | tup h1 h2 => exact ⟨_, _, rfl, h1, h2⟩
theorem Td.invI {i : Int} (h : Td K H v (.int i)) : v = .int i := by cases h; rfl
theorem Td.invB {i : Bool} (h : Td K H v (.bl i)) : v = .bl i := by cases h; rfl
theorem Td.invS {i : Str} (h : Td K H v (.str i)) : v = .str i := by cases h; rfl
theorem Td.invN (h : Td K H v .non) : v = .non := by cases h; rfl
theorem r_ixD {ds : List D} {k : Nat} (h : Td K H v (.tup ds)) (e : ds[k]? = some d) (q : ∀ u, Td K H u d → Q u H) : uIx K v (.int (k : Int)) H Q := by
  obtain ⟨a, vs, rfl, h1, h2⟩ := h.inv
  obtain ⟨u, h3, h4⟩ := h2.get e
  exact ⟨vs, u, .inr h1, atI_nat h3, q u h4⟩
theorem r_lenD {ds : List D} (h : Td K H v (.tup ds)) (q : Q (.int (ds.length : Int)) H) : uLen K [v] H Q := by
  obtain ⟨a, vs, rfl, h1, h2⟩ := h.inv
  exact ⟨vs, .inr h1, by rw [h2.len]; exact q⟩
theorem r_eqD {n : Nat} (h1 : Td K H v a) (h2 : Td K H w b) (f1 : a.fit n = true) (f2 : b.fit n = true) (hn : n ≤ 63) (h : Q (.bl (D.eqb a b)) H) : uEq K v w H Q :=
  .inr ⟨_, _, Td.dp _ _ h1, Td.dp _ _ h2, D.shaped f1 hn, D.shaped f2 hn, by rw [D.eqb_py]; exact h⟩
theorem r_neD {n : Nat} (h1 : Td K H v a) (h2 : Td K H w b) (f1 : a.fit n = true) (f2 : b.fit n = true) (hn : n ≤ 63) (h : Q (.bl (!D.eqb a b)) H) : uNe K v w H Q :=
  .inr ⟨_, _, Td.dp _ _ h1, Td.dp _ _ h2, D.shaped f1 hn, D.shaped f2 hn, by rw [D.eqb_py]; exact h⟩
/-- a tuple laid: what stands stays -/
theorem r_tupA {vs : List V} {R : Addr → Hp → Prop} (q : ∀ p H', H p = none → Same H H' → H' p = some (.tup vs) → R p H') : ∀ p, H p = none → R p (upd H p (.tup vs)) :=
  fun p hp => q p _ hp (same_new hp) upd_same
theorem r_lstA {vs : List V} {R : Addr → Hp → Prop} (q : ∀ p H', H p = none → Same H H' → H' p = some (.lst vs) → R p H') : ∀ p, H p = none → R p (upd H p (.lst vs)) :=
  fun p hp => q p _ hp (same_new hp) upd_same
/-- a tuple of data laid -/
theorem r_tupD {vs : List V} {ds : List D} {R : V → Hp → Prop} (hd : TdL K H vs ds) (q : ∀ u H', Same H H' → Td K H' u (.tup ds) → R u H') : ∀ p, H p = none → R (.ref p) (upd H p (.tup vs)) :=
  fun p hp => q _ _ (same_new hp) (Td.newT hd hp)
theorem r_tupleD {p : Addr} {vs : List V} {ds : List D} (hp : SqL K H p vs) (hd : TdL K H vs ds) (q : ∀ u H', Same H H' → Td K H' u (.tup ds) → Q u H') : uTuple K [.ref p] H Q :=
  ⟨vs, .inl ⟨hp, fun l hl => q _ _ (same_new hl) (Td.newT hd hl)⟩⟩
theorem r_catD {ds es : List D} (h1 : Td K H v (.tup ds)) (h2 : Td K H w (.tup es)) (hl : ds.length + es.length ≤ sizeLine) (q : ∀ u H', Same H H' → Td K H' u (.tup (ds ++ es)) → Q u H') : uAdd K v w H Q := by
  obtain ⟨x, vs, rfl, s1, t1⟩ := h1.inv
  obtain ⟨y, ws, rfl, s2, t2⟩ := h2.inv
  have nil : ∀ {us : List V} {fs : List D}, TdL K H us fs → us = [] → fs = [] := fun t e => by
    have := t.len
    rw [e] at this
    exact List.eq_nil_of_length_eq_zero this.symm
  refine .inr ⟨x, y, vs, ws, rfl, rfl, s1, s2, by rw [t1.len, t2.len]; exact hl, fun e => ?_, fun _ e => ?_, fun _ _ p hp => ?_⟩
  · have := nil t1 e
    subst this
    exact q _ _ (Same.refl _) h2
  · have := nil t2 e
    subst this
    refine q _ _ (Same.refl _) ?_
    rw [List.append_nil]
    exact h1
  · exact q _ _ (same_new hp) (Td.newT (t1.append t2) hp)
def cutD (ds : List D) (lo hi : Option Int) : List D := (ds.drop (HT.sIx ds.length 0 lo)).take (HT.sIx ds.length ds.length hi - HT.sIx ds.length 0 lo)
theorem r_slD {ds : List D} {lo hi : Option Int} (h1 : Td K H v (.tup ds)) (q : ∀ u H', Same H H' → Td K H' u (.tup (cutD ds lo hi)) → Q u H') : uSl K v lo hi H Q := by
  obtain ⟨x, vs, rfl, s1, t1⟩ := h1.inv
  refine .inr ⟨x, vs, rfl, s1, fun e => ?_, fun _ p hp => ?_⟩
  · have e2 : cutD ds lo hi = ds := by
      unfold cutD
      rw [← t1.len, e.1, e.2, List.drop_zero, Nat.sub_zero, t1.len, List.take_length]
    refine q _ _ (Same.refl _) ?_
    rw [e2]
    exact h1
  · refine q _ _ (same_new hp) (Td.newT ?_ hp)
    unfold cutD cutV
    rw [← t1.len]
    exact (t1.drop _).take _
/-- a text in a written tuple of texts -/
theorem inV_str {z : Str} : ∀ {ss : List Str}, inV (.str z) (ss.map V.str) = decide (z ∈ ss)
  | [] => rfl
  | s :: ss => by
    have ih := inV_str (z := z) (ss := ss)
    unfold inV at ih ⊢
    rw [List.map_cons, List.any_cons, ih]
    show ((s == z) || decide (z ∈ ss)) = _
    by_cases e : z = s
    · subst e
      rw [decide_eq_true (List.mem_cons_self ..)]
      rw [show (z == z) = true from beq_self_eq_true z]
      rfl
    · rw [show (s == z) = false from beq_eq_false_iff_ne.mpr (fun c => e c.symm), Bool.false_or]
      exact decide_eq_decide.mpr ⟨fun h => List.mem_cons_of_mem _ h, fun h => (List.mem_cons.mp h).resolve_left e⟩
theorem flat_strs {ss : List Str} : (ss.map V.str).all flatV = true := by
  induction ss with
  | nil => rfl
  | cons s r ih => rw [List.map_cons, List.all_cons, ih]; rfl
theorem r_inS {p : Addr} {z : Str} {ss : List Str} (hp : SqT K H p (ss.map V.str)) (q : Q (.bl (decide (z ∈ ss))) H) : uIn K id (.str z) (.ref p) H Q := ⟨_, .inr hp, rfl, flat_strs, by rw [inV_str]; exact q⟩
theorem r_niS {p : Addr} {z : Str} {ss : List Str} (hp : SqT K H p (ss.map V.str)) (q : Q (.bl (!decide (z ∈ ss))) H) : uIn K not (.str z) (.ref p) H Q := ⟨_, .inr hp, rfl, flat_strs, by rw [inV_str]; exact q⟩
end
end U
/-! U4: what stays around one cell; texts; data built up in a comprehension; the state of the draws. -/
namespace U
open PySem PySem.Spec L2
/-- all but p stays -/
def Fr (p : Addr) (H H' : Hp) : Prop := ∀ b x, b ≠ p → H b = some x → H' b = some x
section
variable {K : PySem.W.Frag} {H H' H2 : Hp} {p l x : Addr} {o : HO}
theorem Fr.refl : Fr p H H := fun _ _ _ h => h
theorem Fr.trans (a : Fr p H H') (b : Fr p H' H2) : Fr p H H2 := fun c o h e => b c o h (a c o h e)
theorem Fr.of (h : ∀ b, b ≠ p → H' b = H b) : Fr p H H' := fun b x hb e => by rw [h b hb]; exact e
theorem Fr.same (h : Same H H') : Fr p H H' := fun b x _ e => h b x e
theorem Fr.new (h : H x = none) : Fr p H (upd H x o) := .same (same_new h)
theorem Fr.mut (f : Fr p H H') (h : H x = none) : Fr p H (upd H' x o) := fun b y hb e => by
  rw [upd_ne (ne_of_none e h)]
  exact f b y hb e
theorem Fr.self (f : Fr p H H') : Fr p H (upd H' p o) := fun b y hb e => by
  rw [upd_ne hb]
  exact f b y hb e
theorem Fr.tk {xs : List V} (f : Fr p H H') (hp : H p = some (.lst xs)) : Tk K H H' := fun a ys h => by
  rcases h with (h | ⟨ob, h⟩) | h
  · exact .inl (.inl (f _ _ (fun e => by rw [e, hp] at h; cases h) h))
  · exact .inl (.inr ⟨ob, f _ _ (fun e => by rw [e, hp] at h; cases h) h⟩)
  · exact .inr h
theorem Fr.tkD {xs : List (Key × V)} (f : Fr p H H') (hp : H p = some (.dK xs)) : Tk K H H' := fun a ys h => by
  rcases h with (h | ⟨ob, h⟩) | h
  · exact .inl (.inl (f _ _ (fun e => by rw [e, hp] at h; cases h) h))
  · exact .inl (.inr ⟨ob, f _ _ (fun e => by rw [e, hp] at h; cases h) h⟩)
  · exact .inr h
end
/-! texts -/
theorem str_len (w : Str) : w.length = w.cps.toList.length := Array.length_toList.symm
theorem str_eq {a b : Str} : a = b ↔ a.cps.toList = b.cps.toList := by
  constructor
  · intro e; rw [e]
  · intro e
    cases a; cases b
    simp only at e
    congr 1
    exact Array.toList_inj.mp e
theorem str_cat (a b : Str) : (a ++ b).length = a.length + b.length := by
  show (a.cps ++ b.cps).size = _
  rw [Array.size_append]; rfl
theorem str_catL (a b : Str) : (a ++ b).cps.toList = a.cps.toList ++ b.cps.toList := by
  show (a.cps ++ b.cps).toList = _
  rw [Array.toList_append]
theorem str_num_len {i : Int} (h : i.natAbs < 10 ^ 11) : 0 < (Str.ofString (toString i)).length ∧ (Str.ofString (toString i)).length ≤ 12 := by
  have nat : ∀ n : Nat, n < 10 ^ 11 → 0 < (Str.ofString (toString (n : Int))).length ∧ (Str.ofString (toString (n : Int))).length ≤ 11 := fun n hn => by
    refine ⟨?_, PyProof.Rows.toString_length_le (by omega) (by decide) (by omega)⟩
    rw [str_len]
    show 0 < (TL.tl (Str.ofString (toString (n : Int)))).length
    rw [TL.tl_num]
    exact Nat.pos_of_ne_zero (fun e => TL.numL_ne n (List.eq_nil_of_length_eq_zero e))
  cases i with
  | ofNat n =>
    have := nat n (by simpa using h)
    exact ⟨this.1, by have := this.2; show (Str.ofString (toString (n : Int))).length ≤ 12; omega⟩
  | negSucc n =>
    have h1 := nat (n + 1) (by simpa using h)
    have e : toString (Int.negSucc n) = "-" ++ toString ((n + 1 : Nat) : Int) := rfl
    rw [e]
    have e2 : (Str.ofString ("-" ++ toString ((n + 1 : Nat) : Int))).length = 1 + (Str.ofString (toString ((n + 1 : Nat) : Int))).length := by
      rw [PyProof.Rows.ofString_length, PyProof.Rows.ofString_length]
      simp [Nat.add_comm]
    rw [e2]
    omega
theorem log_ok {i : Int} (h : i.natAbs < 10 ^ 11) : i.natAbs.log2 < 1920 := Nat.lt_of_lt_of_le (PySem.Flt.log2_lt_of (k := 64) (by decide) (by omega)) (by decide)
/-! the state of the draws as a list: at p, its script at l -/
def Dr (H : Hp) (p l : Addr) : Prop := ∃ (ns : List Int) (cur seed : Int) (at_ : Nat), H p = some (.lst [.ref l, .int cur, .int at_, .int seed]) ∧ H l = some (.lst (ns.map V.int)) ∧ l ≠ p ∧ 0 ≤ cur
section
variable {K : PySem.W.Frag} {H H' : Hp} {p l x : Addr} {o : HO}
theorem Dr.upd (h : Dr H p l) (h1 : x ≠ p) (h2 : x ≠ l) : Dr (upd H x o) p l := by
  obtain ⟨ns, cur, seed, at_, hp, hl, hne, h0⟩ := h
  exact ⟨ns, cur, seed, at_, by rw [upd_ne h1.symm]; exact hp, by rw [upd_ne h2.symm]; exact hl, hne, h0⟩
theorem Dr.nep (h : Dr H p l) (hx : H x = none) : x ≠ p := by
  obtain ⟨ns, cur, seed, at_, hp, hl, hne, h0⟩ := h
  exact (ne_of_none hp hx).symm
theorem Dr.nel (h : Dr H p l) (hx : H x = none) : x ≠ l := by
  obtain ⟨ns, cur, seed, at_, hp, hl, hne, h0⟩ := h
  exact (ne_of_none hl hx).symm
theorem Dr.new (h : Dr H p l) (hx : H x = none) : Dr (L2.upd H x o) p l := h.upd (h.nep hx) (h.nel hx)
theorem Dr.same (h : Dr H p l) (s : Same H H') : Dr H' p l := by
  obtain ⟨ns, cur, seed, at_, hp, hl, hne, h0⟩ := h
  exact ⟨ns, cur, seed, at_, s _ _ hp, s _ _ hl, hne, h0⟩
theorem Dr.tk (h : Dr H p l) (f : Fr p H H') : Tk K H H' := by
  obtain ⟨ns, cur, seed, at_, hp, hl, hne, h0⟩ := h
  exact f.tk hp
end
abbrev spStartL (K : PySem.W.Frag) : Sp := fun vs H Q _ => ∃ (a : Addr) (ns : List Int), vs = [.ref a] ∧ SqL K H a (ns.map V.int) ∧ ns.length ≤ 63 ∧ ∀ p l H', Same H H' → H p = none → Dr H' p l → Q (.ref p) H'
abbrev spDrawL (K : PySem.W.Frag) : Sp := fun vs H Q _ => ∃ (p l : Addr) (m : Int), vs = [.ref p, .int m] ∧ 0 < m ∧ m < 2 ^ 64 ∧ Dr H p l ∧ ∀ (n : Int) H', 0 ≤ n → n < m → Dr H' p l → (∀ b, b ≠ p → H' b = H b) → Q (.int n) H'
abbrev spLaw (K : PySem.W.Frag) : Sp := fun vs H Q _ => ∃ (a : Addr) (ns : List Int), vs = [.ref a] ∧ SqL K H a (ns.map V.int) ∧ ns.length ≤ 63 ∧ ∀ H', Q (.bl true) H'
/-! data built up in a comprehension at A, beside a state S at p -/
def CD (K : PySem.W.Frag) (S : Hp → Prop) (p A : Addr) (H0 : Hp) (G : D → Prop) (i : Nat) (H : Hp) : Prop :=
  S H ∧ Fr p H0 H ∧ ∃ vs ds, H A = some (.lst vs) ∧ TdL K H vs ds ∧ ds.length = i ∧ ∀ d ∈ ds, G d
theorem CD.start {K : PySem.W.Frag} {S : Hp → Prop} {p A : Addr} {H0 : Hp} {G : D → Prop} (s : S (upd H0 A (.lst []))) (h : H0 A = none) : CD K S p A H0 G 0 (upd H0 A (.lst [])) :=
  ⟨s, Fr.new h, [], [], upd_same, .nil, rfl, fun _ h => nomatch h⟩
theorem CD.step {K : PySem.W.Frag} {S : Hp → Prop} {p A : Addr} {H0 H H' : Hp} {G : D → Prop} {i : Nat} {y : V} {d : D} (c : CD K S p A H0 G i H) (h0 : H0 A = none) (hA : A ≠ p) (hi : i < 60000)
    (s : S (upd H' A (.lst ((H' A).elim [] (fun o => match o with | .lst vs => vs ++ [y] | _ => []))))) (f : Fr p H H') (tk : Tk K H H') (t : Td K H' y d) (g : G d) : LcEnd A (CD K S p A H0 G (i + 1)) y H' := by
  obtain ⟨s0, f0, vs, ds, e, td, l, gs⟩ := c
  have e' : H' A = some (.lst vs) := f _ _ hA e
  rw [e'] at s
  refine ⟨vs, e', szt (by rw [td.len]; omega), s, Fr.mut (f0.trans f) h0, vs ++ [y], ds ++ [d], upd_same, ?_, by simp [l], ?_⟩
  · exact ((td.k tk).append (.one t)).k (Tk.lst e')
  · intro x hx
    rcases List.mem_append.mp hx with h | h
    · exact gs x h
    · rw [List.mem_singleton.mp h]; exact g
/-- the same with the draws' list -/
theorem CD.stepL {K : PySem.W.Frag} {l p A : Addr} {H0 H H' : Hp} {G : D → Prop} {i : Nat} {y : V} {d : D} (c : CD K (fun H => Dr H p l) p A H0 G i H) (h0 : H0 A = none) (hA : A ≠ p) (hl : A ≠ l) (hi : i < 60000)
    (s : Dr H' p l) (f : Fr p H H') (t : Td K H' y d) (g : G d) : LcEnd A (CD K (fun H => Dr H p l) p A H0 G (i + 1)) y H' :=
  c.step h0 hA hi (s.upd hA hl) f (c.1.tk f) t g
/-! the list of given things, built up at A, all else stays -/
def CF (A : Addr) (H0 : Hp) (ys : List V) (i : Nat) (H : Hp) : Prop := Same H0 H ∧ H A = some (.lst (ys.take i))
theorem CF.start {A : Addr} {H0 : Hp} {ys : List V} (h : H0 A = none) : CF A H0 ys 0 (upd H0 A (.lst [])) := ⟨same_new h, upd_same⟩
theorem CF.step {A : Addr} {H0 H H' : Hp} {ys : List V} {i : Nat} {y : V} (c : CF A H0 ys i H) (h0 : H0 A = none) (s : Same H H') (hy : ys[i]? = some y) (hi : i < 16000000) : LcEnd A (CF A H0 ys (i + 1)) y H' := by
  obtain ⟨s0, e⟩ := c
  refine ⟨_, s _ _ e, szt (by rw [List.length_take]; omega), same_mut (s0.trans s) h0, ?_⟩
  rw [upd_same, List.take_add_one, hy]
  rfl
theorem CF.done {A : Addr} {H0 H : Hp} {ys : List V} (c : CF A H0 ys ys.length H) : H A = some (.lst ys) := by
  have := c.2
  rw [List.take_length] at this
  exact this
theorem TdL.getV {K : PySem.W.Frag} {H : Hp} : ∀ {vs : List V} {ds : List D} {i : Nat} {v : V}, TdL K H vs ds → vs[i]? = some v → ∃ d, ds[i]? = some d ∧ Td K H v d
  | _, _, i, _, .nil, h => by simp at h
  | _, _, 0, _, .cons h t, e => by simp at e; subst e; exact ⟨_, rfl, h⟩
  | _, _, i + 1, _, .cons h t, e => by
    obtain ⟨d, h1, h2⟩ := TdL.getV (i := i) t (by simpa using e)
    exact ⟨d, by simpa using h1, h2⟩
/-- a new cell, its heap under one name -/
theorem Td.lay {K : PySem.W.Frag} {H : Hp} {a : Addr} {vs : List V} {ds : List D} (ha : H a = none) (hd : TdL K H vs ds) : ∃ H', upd H a (.tup vs) = H' ∧ Same H H' ∧ Td K H' (.ref a) (.tup ds) := ⟨_, rfl, same_new ha, Td.newT hd ha⟩
theorem lay_new {H : Hp} {a : Addr} {o : HO} (ha : H a = none) : ∃ H', upd H a o = H' ∧ Same H H' ∧ H' a = some o := ⟨_, rfl, same_new ha, upd_same⟩
/-! unpacking data -/
section
variable {K : PySem.W.Frag} {H : Hp} {σ : St} {v : V} {a b c : D} {i j k : Nat} {R : St → Hp → Prop}
theorem r_gT3 (h : Td K H v (.tup [a, b, c])) (q : ∀ x y z, Td K H x a → Td K H y b → Td K H z c → R (((σ.set i (some x)).set j (some y)).set k (some z)) H) :
    gTup K 3 (gCons (gName i) (gCons (gName j) (gCons (gName k) gNil))) v σ H R := by
  obtain ⟨p, vs, rfl, s, t⟩ := h.inv
  cases t with
  | cons h1 t => cases t with
    | cons h2 t => cases t with
      | cons h3 t => cases t; exact ⟨p, _, rfl, s, rfl, _, _, rfl, _, _, rfl, _, _, rfl, rfl, q _ _ _ h1 h2 h3⟩
theorem r_gT2 (h : Td K H v (.tup [a, b])) (q : ∀ x y, Td K H x a → Td K H y b → R ((σ.set i (some x)).set j (some y)) H) :
    gTup K 2 (gCons (gName i) (gCons (gName j) gNil)) v σ H R := by
  obtain ⟨p, vs, rfl, s, t⟩ := h.inv
  cases t with
  | cons h1 t => cases t with
    | cons h2 t => cases t; exact ⟨p, _, rfl, s, rfl, _, _, rfl, _, _, rfl, rfl, q _ _ h1 h2⟩
end
end U
/-! U5: sorted, slices of lists, dicts as sets of numbers, dicts locked while walked, the state of the draws as a dict. -/
namespace U
open PySem PySem.Spec L2
def uSortI (K : PySem.W.Frag) : RC := rSortedI K
theorem c_sortI {X : Cx} : CallR X (.builtin "sorted") (uSortI X.K) := cr_sortedI
section
variable {K : PySem.W.Frag} {H H' : Hp} {Q : VK} {p a d : Addr}
theorem r_sortI {ns : List Int} (h : SqL K H a (ns.map V.int)) (q : ∀ (ns' : List Int) (p : Addr), ns'.Perm ns → ns'.Pairwise (· ≤ ·) → H p = none → Q (.ref p) (upd H p (.lst (ns'.map V.int)))) : uSortI K [.ref a] H Q := ⟨a, ns, rfl, h, q⟩
theorem r_slL {xs : List V} {lo hi : Option Int} (h : SqL K H a xs) (q : ∀ p, H p = none → Q (.ref p) (upd H p (.lst (cutV xs lo hi)))) : uSl K (.ref a) lo hi H Q := .inl ⟨a, xs, rfl, h, q⟩
theorem cutV_all {xs : List V} {k : Nat} (h : xs.length ≤ k) : cutV xs none (some (k : Int)) = xs := by
  unfold cutV
  rw [HT.sIx_none, HT.sIx_nat, List.drop_zero, Nat.sub_zero, List.take_of_length_le (by omega)]
theorem cutV_63 {xs : List V} (h : xs.length ≤ 63) : cutV xs none (some 63) = xs := cutV_all (k := 63) h
theorem lock_put {u : HO} {od : Obj} (h : H d = some u) : upd (upd H d (.frz od u)) d u = H := by
  funext b
  by_cases e : b = d
  · subst e; rw [upd_same, h]
  · rw [upd_ne e, upd_ne e]
end
/-! steps for dicts -/
section
variable {σ : St} {H : Hp} {Q : VK} {D : Ends} {K : PySem.W.Frag} {td ty tv : TE}
theorem r_dget (h : td σ H fun x H1 => ty σ H1 fun y H2 => ∃ a v, x = .ref a ∧ DGet H2 a y (some v) ∧ Q v H2) : tDGet td ty σ H Q := h
theorem r_din (h : ty σ H fun y H1 => td σ H1 fun x H2 => ∃ a o, x = .ref a ∧ DGet H2 a y o ∧ Q (.bl o.isSome) H2) : tDIn ty td σ H Q := h
theorem r_dnotin (h : ty σ H fun y H1 => td σ H1 fun x H2 => ∃ a o, x = .ref a ∧ DGet H2 a y o ∧ Q (.bl (!o.isSome)) H2) : tDNotIn ty td σ H Q := h
theorem r_dput (h : tv σ H fun v H1 => td σ H1 fun x H2 => ty σ H2 fun y H3 => ∃ a H4, x = .ref a ∧ DPut H3 a y v H4 ∧ D.nx σ H4) : sDPut td ty tv D σ H := h
theorem r_sqP {u : TS} (h : tv σ H fun v H1 => td σ H1 fun x H2 => ty σ H2 fun y H3 => ∃ a H4, x = .ref a ∧ DPut H3 a y v H4 ∧ u D σ H4) : tSq (sDPut td ty tv) u D σ H := r_sq h
theorem r_keys {R : It → Hp → Prop} (h : td σ H fun x H1 => ∃ d o, x = .ref d ∧ ((∃ kvs, H1 d = some (.frz o (.dK kvs)) ∧ R (Itk d o kvs) H1) ∨ ∃ kvs, H1 d = some (.frz o (.dT kvs)) ∧ R (Itkt d o kvs) H1)) : iKeys td σ H R := h
theorem r_dnew (h : ∀ p, H p = none → Q (.ref p) (upd H p (.dK []))) : tDNewK σ H Q := h
end
theorem r_ifCI {σ : St} {H : Hp} {Q : VK} {p : Prop} [Decidable p] {a b : Int} (h : Q (.int (if p then a else b)) H) : if decide p = true then tC (.int a) σ H Q else tC (.int b) σ H Q := by
  by_cases e : p
  · rw [if_pos (decide_eq_true e)]; rw [if_pos e] at h; exact h
  · rw [if_neg (by simp [e])]; rw [if_neg e] at h; exact h
theorem SqL.k {K : PySem.W.Frag} {H H' : Hp} {a : Addr} {xs : List V} (h : SqL K H a xs) (s : Same H H') : SqL K H' a xs := by
  rcases h with (h | ⟨o, h⟩) | h
  · exact .inl (.inl (s _ _ h))
  · exact .inl (.inr ⟨o, s _ _ h⟩)
  · exact .inr h
/-! a dict whose keys are numbers and whose values are True -/
def dkS (us : List Int) : List (Key × V) := us.map fun i => (.inl i, .bl true)
theorem dkS_len (us : List Int) : (dkS us).length = us.length := List.length_map ..
theorem dkS_val (us : List Int) (i : Int) : valV (dkS us) (.inl i) = if i ∈ us then some (.bl true) else none := by
  induction us with
  | nil => rfl
  | cons u r ih =>
    show valV ((.inl u, .bl true) :: dkS r) (.inl i) = _
    by_cases e : i = u
    · subst e
      rw [valV_pos rfl, if_pos (List.mem_cons_self ..)]
    · rw [valV_neg (fun c => e (by cases c; rfl)), ih]
      by_cases h : i ∈ r
      · rw [if_pos h, if_pos (List.mem_cons_of_mem _ h)]
      · rw [if_neg h, if_neg (fun c => (List.mem_cons.mp c).elim e h)]
def insS (us : List Int) (i : Int) : List Int := if i ∈ us then us else us ++ [i]
theorem dkS_put (us : List Int) (i : Int) : putK (dkS us) (.inl i) (.bl true) = dkS (insS us i) := by
  have any : (dkS us).any (fun kv => decide (kv.1 = .inl i)) = decide (i ∈ us) := by
    rw [valV_any, dkS_val]
    by_cases h : i ∈ us
    · rw [if_pos h, decide_eq_true h]; rfl
    · rw [if_neg h, decide_eq_false h]; rfl
  unfold putK insS
  rw [any]
  by_cases h : i ∈ us
  · rw [if_pos (decide_eq_true h), if_pos h]
    refine (List.map_congr_left (g := id) fun x hx => ?_).trans (List.map_id _)
    obtain ⟨k, hk, rfl⟩ := List.mem_map.mp hx
    by_cases e : (Sum.inl k : Key) = .inl i
    · rw [if_pos e]; rfl
    · rw [if_neg e]; rfl
  · rw [if_neg (by rw [decide_eq_false h]; exact Bool.false_ne_true), if_neg h]
    unfold dkS
    rw [List.map_append]; rfl
theorem insS_mem {us : List Int} {i x : Int} : x ∈ insS us i ↔ x ∈ us ∨ x = i := by
  unfold insS
  by_cases h : i ∈ us
  · rw [if_pos h]
    exact ⟨.inl, fun c => c.elim id fun e => e ▸ h⟩
  · rw [if_neg h, List.mem_append, List.mem_singleton]
theorem insS_nodup {us : List Int} {i : Int} (h : us.Nodup) : (insS us i).Nodup := by
  unfold insS
  by_cases e : i ∈ us
  · rw [if_pos e]; exact h
  · rw [if_neg e]
    exact List.nodup_append.mpr ⟨h, by simp, fun a ha b hb c => e (by rw [List.mem_singleton.mp hb] at c; exact c ▸ ha)⟩
theorem nodup_small : ∀ {n : Nat} {us : List Int}, us.Nodup → (∀ x ∈ us, 0 ≤ x ∧ x < n) → us.length ≤ n
  | 0, us, _, hb => by
    cases us with
    | nil => exact Nat.le_refl _
    | cons a r => have := hb a (List.mem_cons_self ..); omega
  | n + 1, us, h, hb => by
    have := nodup_small (n := n) (us := us.erase (n : Int)) (h.erase _) (fun x hx => by
      obtain ⟨h1, h2⟩ := h.mem_erase_iff.mp hx
      have := hb x h2
      omega)
    have e := List.length_erase (a := (n : Int)) (l := us)
    split at e <;> omega
/-! the state of the draws as a dict at m, its numbers at l -/
def Dm (H : Hp) (m l : Addr) : Prop := ∃ (xs : List Int) (at_ : Nat), H m = some (.dK [(.inr "draws", .ref l), (.inr "at", .int at_)]) ∧ H l = some (.lst (xs.map V.int))
section
variable {K : PySem.W.Frag} {H H' : Hp} {m l x : Addr} {o : HO}
theorem Dm.ne (h : Dm H m l) : l ≠ m := by
  obtain ⟨xs, at_, hm, hl⟩ := h
  intro e
  rw [e, hm] at hl
  cases hl
theorem Dm.upd (h : Dm H m l) (h1 : x ≠ m) (h2 : x ≠ l) : Dm (upd H x o) m l := by
  obtain ⟨xs, at_, hm, hl⟩ := h
  exact ⟨xs, at_, by rw [upd_ne h1.symm]; exact hm, by rw [upd_ne h2.symm]; exact hl⟩
theorem Dm.nep (h : Dm H m l) (hx : H x = none) : x ≠ m := by
  obtain ⟨xs, at_, hm, hl⟩ := h
  exact (ne_of_none hm hx).symm
theorem Dm.nel (h : Dm H m l) (hx : H x = none) : x ≠ l := by
  obtain ⟨xs, at_, hm, hl⟩ := h
  exact (ne_of_none hl hx).symm
theorem Dm.new (h : Dm H m l) (hx : H x = none) : Dm (L2.upd H x o) m l := h.upd (h.nep hx) (h.nel hx)
theorem Dm.same (h : Dm H m l) (s : Same H H') : Dm H' m l := by
  obtain ⟨xs, at_, hm, hl⟩ := h
  exact ⟨xs, at_, s _ _ hm, s _ _ hl⟩
theorem Dm.tk (h : Dm H m l) (f : Fr m H H') : Tk K H H' := by
  obtain ⟨xs, at_, hm, hl⟩ := h
  exact f.tkD hm
theorem CD.stepM {A : Addr} {H0 H H' : Hp} {G : D → Prop} {i : Nat} {y : V} {d : D} (c : CD K (fun H => Dm H m l) m A H0 G i H) (h0 : H0 A = none) (hA : A ≠ m) (hl : A ≠ l) (hi : i < 60000)
    (s : Dm H' m l) (f : Fr m H H') (t : Td K H' y d) (g : G d) : LcEnd A (CD K (fun H => Dm H m l) m A H0 G (i + 1)) y H' :=
  c.step h0 hA hi (s.upd hA hl) f (c.1.tk f) t g
end
theorem CD.appM {K : PySem.W.Frag} {m l A : Addr} {H0 H H' : Hp} {G : D → Prop} {i : Nat} {y : V} {d : D} {Q : VK} (c : CD K (fun H => Dm H m l) m A H0 G i H) (h0 : H0 A = none) (hA : A ≠ m) (hl : A ≠ l) (hi : i < 60000)
    (s : Dm H' m l) (f : Fr m H H') (t : Td K H' y d) (g : G d) (q : ∀ H'', CD K (fun H => Dm H m l) m A H0 G (i + 1) H'' → Q .non H'') : uAppend (.ref A) [y] H' Q := by
  obtain ⟨acc, h1, h2, h3⟩ := c.stepM h0 hA hl hi s f t g
  exact ⟨acc, h1, h2, q _ h3⟩
theorem ints_of {P : Int → Prop} : ∀ {ds : List D}, (∀ d ∈ ds, ∃ i, d = .int i ∧ P i) → ∃ is : List Int, ds = is.map D.int ∧ ∀ i ∈ is, P i
  | [], _ => ⟨[], rfl, fun _ h => nomatch h⟩
  | d :: r, h => by
    obtain ⟨i, e, p⟩ := h d (List.mem_cons_self ..)
    obtain ⟨is, e2, p2⟩ := ints_of (ds := r) (fun x hx => h x (List.mem_cons_of_mem _ hx))
    refine ⟨i :: is, by rw [e, e2]; rfl, fun x hx => ?_⟩
    rcases List.mem_cons.mp hx with rfl | hx
    · exact p
    · exact p2 x hx
theorem TdL.ints {K : PySem.W.Frag} {H : Hp} : ∀ {is : List Int}, TdL K H (is.map V.int) (is.map D.int)
  | [] => .nil
  | i :: r => .cons (.int i) TdL.ints
theorem TdL.ints_inv {K : PySem.W.Frag} {H : Hp} : ∀ {is : List Int} {vs : List V}, TdL K H vs (is.map D.int) → vs = is.map V.int
  | [], _, h => by cases h; rfl
  | i :: r, _, h => by
    cases h with
    | cons h1 h2 => cases h1; rw [TdL.ints_inv h2]; rfl
theorem inV_int {z : Int} : ∀ {ss : List Int}, inV (.int z) (ss.map V.int) = decide (z ∈ ss)
  | [] => rfl
  | s :: ss => by
    have ih := inV_int (z := z) (ss := ss)
    unfold inV at ih ⊢
    rw [List.map_cons, List.any_cons, ih]
    show ((s == z) || decide (z ∈ ss)) = _
    by_cases e : z = s
    · subst e
      rw [decide_eq_true (List.mem_cons_self ..)]
      rw [show (z == z) = true from beq_self_eq_true z]
      rfl
    · rw [show (s == z) = false from beq_eq_false_iff_ne.mpr (fun c => e c.symm), Bool.false_or]
      exact decide_eq_decide.mpr ⟨fun h => List.mem_cons_of_mem _ h, fun h => (List.mem_cons.mp h).resolve_left e⟩
theorem flat_ints {ss : List Int} : (ss.map V.int).all flatV = true := by
  induction ss with
  | nil => rfl
  | cons s r ih => rw [List.map_cons, List.all_cons, ih]; rfl
theorem r_inI {K : PySem.W.Frag} {H : Hp} {Q : VK} {p : Addr} {z : Int} {ss : List Int} (hp : SqL K H p (ss.map V.int)) (q : Q (.bl (decide (z ∈ ss))) H) : uIn K id (.int z) (.ref p) H Q := ⟨_, .inl hp, rfl, flat_ints, by rw [inV_int]; exact q⟩
theorem r_niI {K : PySem.W.Frag} {H : Hp} {Q : VK} {p : Addr} {z : Int} {ss : List Int} (hp : SqL K H p (ss.map V.int)) (q : Q (.bl (!decide (z ∈ ss))) H) : uIn K not (.int z) (.ref p) H Q := ⟨_, .inl hp, rfl, flat_ints, by rw [inV_int]; exact q⟩
/-- two rising lists with the same members -/
theorem rise_eq : ∀ {xs ys : List Int}, xs.Pairwise (· < ·) → ys.Pairwise (· < ·) → (∀ x, x ∈ xs ↔ x ∈ ys) → xs = ys
  | [], [], _, _, _ => rfl
  | [], y :: ys, _, _, h => by have := (h y).mpr (List.mem_cons_self ..); cases this
  | x :: xs, [], _, _, h => by have := (h x).mp (List.mem_cons_self ..); cases this
  | x :: xs, y :: ys, h1, h2, h => by
    obtain ⟨a1, a2⟩ := List.pairwise_cons.mp h1
    obtain ⟨b1, b2⟩ := List.pairwise_cons.mp h2
    have e : x = y := by
      rcases List.mem_cons.mp ((h x).mp (List.mem_cons_self ..)) with e | e
      · exact e
      rcases List.mem_cons.mp ((h y).mpr (List.mem_cons_self ..)) with e2 | e2
      · exact e2.symm
      have := b1 x e
      have := a1 y e2
      omega
    subst e
    rw [rise_eq (xs := xs) (ys := ys) a2 b2 fun z => ⟨fun hz => ?_, fun hz => ?_⟩]
    · rcases List.mem_cons.mp ((h z).mp (List.mem_cons_of_mem _ hz)) with e | e
      · have := a1 z hz; omega
      · exact e
    · rcases List.mem_cons.mp ((h z).mpr (List.mem_cons_of_mem _ hz)) with e | e
      · have := b1 z hz; omega
      · exact e
theorem rise_of {xs : List Int} (h1 : xs.Pairwise (· ≤ ·)) (h2 : xs.Nodup) : xs.Pairwise (· < ·) := by
  refine List.Pairwise.imp₂ (R := (· ≤ ·)) (S := (· ≠ ·)) (T := (· < ·)) (fun a b h h' => ?_) h1 h2
  omega
/-- all but two cells stays -/
def Fr2 (u b : Addr) (H H' : Hp) : Prop := ∀ c x, c ≠ u → c ≠ b → H c = some x → H' c = some x
/-- no tuple -/
def Nt (H : Hp) (u : Addr) : Prop := (∀ xs, H u ≠ some (.tup xs)) ∧ ∀ ob xs, H u ≠ some (.frz ob (.tup xs))
section
variable {K : PySem.W.Frag} {H H' H2 : Hp} {u b x : Addr} {o : HO}
theorem Fr2.refl : Fr2 u b H H := fun _ _ _ _ h => h
theorem Fr2.trans (f : Fr2 u b H H') (g : Fr2 u b H' H2) : Fr2 u b H H2 := fun c x h1 h2 e => g c x h1 h2 (f c x h1 h2 e)
theorem Fr2.same (s : Same H H') : Fr2 u b H H' := fun c x _ _ e => s c x e
theorem Fr2.mu (f : Fr2 u b H H') : Fr2 u b H (upd H' u o) := fun c x h1 h2 e => by rw [upd_ne h1]; exact f c x h1 h2 e
theorem Fr2.mb (f : Fr2 u b H H') : Fr2 u b H (upd H' b o) := fun c x h1 h2 e => by rw [upd_ne h2]; exact f c x h1 h2 e
theorem Nt.lst {xs : List V} (h : H u = some (.lst xs)) : Nt H u := ⟨fun xs e => by rw [h] at e; (cases e), fun ob xs e => by rw [h] at e; (cases e)⟩
theorem Nt.dK {xs : List (Key × V)} (h : H u = some (.dK xs)) : Nt H u := ⟨fun xs e => by rw [h] at e; (cases e), fun ob xs e => by rw [h] at e; (cases e)⟩
theorem Fr2.tk (f : Fr2 u b H H') (h1 : Nt H u) (h2 : Nt H b) : Tk K H H' := fun a ys h => by
  rcases h with (h | ⟨ob, h⟩) | h
  · exact .inl (.inl (f _ _ (fun e => h1.1 _ (e ▸ h)) (fun e => h2.1 _ (e ▸ h)) h))
  · exact .inl (.inr ⟨ob, f _ _ (fun e => h1.2 _ _ (e ▸ h)) (fun e => h2.2 _ _ (e ▸ h)) h⟩)
  · exact .inr h
end
abbrev spDraws (K : PySem.W.Frag) : Sp := fun vs H Q _ => ∃ (a : Addr) (ns : List Int), vs = [.ref a] ∧ SqL K H a (ns.map V.int) ∧ ns.length ≤ 63 ∧ ∀ l (xs : List Int) H', Same H H' → H l = none → H' l = some (.lst (xs.map V.int)) → Q (.ref l) H'
abbrev spTakeM (K : PySem.W.Frag) : Sp := fun vs H Q _ => ∃ (m l : Addr) (k : Int), vs = [.ref m, .int k] ∧ 0 < k ∧ Dm H m l ∧ ∀ (n : Int) H', 0 ≤ n → n < k → Dm H' m l → (∀ b, b ≠ m → H' b = H b) → Q (.int n) H'
end U
/-! ### what the defs of k29 promise -/
namespace U
open PySem PySem.Spec L2
def nth (d : D) (i : Nat) : D := match d with
  | .tup ds => ds.getD i .non
  | _ => .non
def toI : D → Int
  | .int i => i
  | _ => 0
def items : D → List D
  | .tup ds => ds
  | _ => []
/-- what a step uses, binds; g by the inner blocks -/
def stUsed (g : D → List Int) (s : D) : List Int := (items (nth s 3)).map toI ++ (items (nth s 7)).flatMap g
def stBound (g : D → List Int) (s : D) : List Int := toI (nth s 1) :: (items (nth s 7)).flatMap g
def usedF : Nat → D → List Int
  | 0, _ => []
  | n + 1, d => (items (nth d 1)).flatMap (stUsed (usedF n)) ++ [toI (nth d 2)]
def boundF : Nat → D → List Int
  | 0, _ => []
  | n + 1, d => (items (nth d 0)).map toI ++ (items (nth d 1)).flatMap (stBound (boundF n))
def StepD (G : D → Prop) (s : D) : Prop := ∃ op kd x y z bl, ∃ (out : Int) (ins : List Int), s = .tup [op, .int out, kd, .tup (ins.map .int), x, y, z, .tup bl] ∧ -1 ≤ out ∧ out < 31 ∧ ins.length ≤ 3 ∧ (∀ i ∈ ins, 0 ≤ i ∧ i < 31) ∧ bl.length ≤ 3 ∧ ∀ b ∈ bl, G b
def BD : Nat → D → Prop
  | 0, _ => False
  | n + 1, d => ∃ (bs : List Int) (ss : List D) (o : Int), d = .tup [.tup (bs.map .int), .tup ss, .int o] ∧ bs.length ≤ 3 ∧ (∀ b ∈ bs, 0 ≤ b ∧ b < 31) ∧ 0 ≤ o ∧ o < 31 ∧ ss.length ≤ 12 ∧ ∀ s ∈ ss, StepD (BD n) s
def szU : Nat → Nat
  | 0 => 0
  | n + 1 => 12 * (4 + 3 * szU n) + 3
theorem flat_len {f : D → List Int} {k : Nat} : ∀ {ds : List D}, (∀ d ∈ ds, (f d).length ≤ k) → (ds.flatMap f).length ≤ ds.length * k
  | [], _ => by simp
  | d :: r, h => by
    have h1 := h d (List.mem_cons_self ..)
    have h2 := flat_len (f := f) (k := k) (ds := r) (fun x hx => h x (List.mem_cons_of_mem _ hx))
    rw [List.flatMap_cons, List.length_append, List.length_cons, Nat.succ_mul]
    omega
theorem mul_le {a b k : Nat} (h : a ≤ b) : a * k ≤ b * k := Nat.mul_le_mul_right k h
theorem map_toI (is : List Int) : (is.map D.int).map toI = is := by
  rw [List.map_map]
  exact List.map_id _
theorem used_len : ∀ {n : Nat} {d : D}, BD n d → (usedF n d).length ≤ szU n
  | 0, _, h => h.elim
  | n + 1, d, h => by
    obtain ⟨bs, ss, o, rfl, _, _, _, _, hl, hs⟩ := h
    have e : (ss.flatMap (stUsed (usedF n))).length ≤ ss.length * (4 + 3 * szU n) := flat_len fun s h => by
      obtain ⟨op, kd, x, y, z, bl, out, ins, rfl, _, _, hi, _, hb, hg⟩ := hs s h
      have e2 := flat_len (f := usedF n) (k := szU n) (ds := bl) (fun b hb => used_len (hg b hb))
      have e3 := mul_le (k := szU n) hb
      show (((ins.map D.int).map toI) ++ bl.flatMap (usedF n)).length ≤ _
      rw [map_toI, List.length_append]
      omega
    have e3 := mul_le (k := 4 + 3 * szU n) hl
    show (ss.flatMap (stUsed (usedF n)) ++ [o]).length ≤ 12 * (4 + 3 * szU n) + 3
    rw [List.length_append]
    simp only [List.length_cons, List.length_nil]
    omega
theorem bound_len : ∀ {n : Nat} {d : D}, BD n d → (boundF n d).length ≤ szU n
  | 0, _, h => h.elim
  | n + 1, d, h => by
    obtain ⟨bs, ss, o, rfl, h3, _, _, _, hl, hs⟩ := h
    have e : (ss.flatMap (stBound (boundF n))).length ≤ ss.length * (4 + 3 * szU n) := flat_len fun s h => by
      obtain ⟨op, kd, x, y, z, bl, out, ins, rfl, _, _, hi, _, hb, hg⟩ := hs s h
      have e2 := flat_len (f := boundF n) (k := szU n) (ds := bl) (fun b hb => bound_len (hg b hb))
      have e3 := mul_le (k := szU n) hb
      show (out :: bl.flatMap (boundF n)).length ≤ _
      rw [List.length_cons]
      omega
    have e3 := mul_le (k := 4 + 3 * szU n) hl
    show (((bs.map D.int).map toI) ++ ss.flatMap (stBound (boundF n))).length ≤ 12 * (4 + 3 * szU n) + 3
    rw [map_toI, List.length_append]
    omega
theorem szU_mono : ∀ {n : Nat}, n ≤ 4 → szU n ≤ 3000000
  | 0, _ => by decide
  | 1, _ => by decide
  | 2, _ => by decide
  | 3, _ => by decide
  | 4, _ => by decide
  | n + 5, h => by omega
theorem used_rng : ∀ {n : Nat} {d : D}, BD n d → ∀ x ∈ usedF n d, 0 ≤ x ∧ x < 31
  | 0, _, h => h.elim
  | n + 1, d, h => by
    obtain ⟨bs, ss, o, rfl, h3, hb, o1, o2, hl, hs⟩ := h
    intro x hx
    rcases List.mem_append.mp hx with hx | hx
    · obtain ⟨s, hs', hx⟩ := List.mem_flatMap.mp hx
      obtain ⟨op, kd, x1, y, z, bl, out, ins, rfl, _, _, hi, hir, hb, hg⟩ := hs s hs'
      rcases List.mem_append.mp (show x ∈ (ins.map D.int).map toI ++ bl.flatMap (usedF n) from hx) with hx | hx
      · rw [map_toI] at hx; exact hir x hx
      · obtain ⟨b, hb', hx⟩ := List.mem_flatMap.mp hx
        exact used_rng (hg b hb') x hx
    · rw [List.mem_singleton.mp hx]; exact ⟨o1, o2⟩
/-- the set of the numbers of L that are not below 0, as a dict at u -/
def SetL (H : Hp) (u : Addr) (L : List Int) : Prop := ∃ us : List Int, H u = some (.dK (dkS us)) ∧ us.Nodup ∧ (∀ x ∈ us, 0 ≤ x ∧ x < 31) ∧ ∀ x, x ∈ us ↔ x ∈ L ∧ 0 ≤ x
theorem SetL.put {H : Hp} {u : Addr} {L : List Int} {i : Int} (h : SetL H u L) (h0 : 0 ≤ i) (h1 : i < 31) : ∃ H', DPut H u (.int i) (.bl true) H' ∧ (∃ o, H' = upd H u o) ∧ SetL H' u (L ++ [i]) := by
  obtain ⟨us, e, nd, r, m⟩ := h
  have hl := nodup_small nd (n := 31) r
  refine ⟨_, DPut.k (k := .inl i) e (szt (by rw [dkS_len]; omega)), ⟨_, rfl⟩, insS us i, by rw [upd_same, dkS_put], insS_nodup nd, fun x hx => ?_, fun x => ?_⟩
  · rcases insS_mem.mp hx with hx | hx
    · exact r x hx
    · subst hx; exact ⟨h0, h1⟩
  · rw [insS_mem, m, List.mem_append, List.mem_singleton]
    constructor
    · rintro (⟨a, b⟩ | c)
      · exact ⟨.inl a, b⟩
      · subst c; exact ⟨.inr rfl, h0⟩
    · rintro ⟨a | a, b⟩
      · exact .inl ⟨a, b⟩
      · exact .inr a
theorem SetL.skip {H : Hp} {u : Addr} {L : List Int} {i : Int} (h : SetL H u L) (h0 : i < 0) : SetL H u (L ++ [i]) := by
  obtain ⟨us, e, nd, r, m⟩ := h
  refine ⟨us, e, nd, r, fun x => ?_⟩
  rw [m, List.mem_append, List.mem_singleton]
  constructor
  · rintro ⟨a, b⟩; exact ⟨.inl a, b⟩
  · rintro ⟨a | a, b⟩
    · exact ⟨a, b⟩
    · omega
theorem SetL.nt {H : Hp} {u : Addr} {L : List Int} (h : SetL H u L) : Nt H u := by
  obtain ⟨us, e, _⟩ := h
  exact Nt.dK e
theorem SetL.off {H : Hp} {u b : Addr} {L : List Int} {o : HO} (h : SetL H u L) (ne : u ≠ b) : SetL (upd H b o) u L := by
  obtain ⟨us, e, r⟩ := h
  exact ⟨us, by rw [upd_ne ne]; exact e, r⟩
def LstL (H : Hp) (u : Addr) (L : List Int) : Prop := H u = some (.lst (L.map V.int))
theorem LstL.off {H : Hp} {u b : Addr} {L : List Int} {o : HO} (h : LstL H u L) (ne : u ≠ b) : LstL (upd H b o) u L := (upd_ne ne).trans h
theorem LstL.app {H : Hp} {u : Addr} {L : List Int} {i : Int} : LstL (upd H u (.lst (L.map V.int ++ [.int i]))) u (L ++ [i]) := by
  show upd H u _ u = _
  rw [upd_same, List.map_append]; rfl
def spr_gather (n : Nat) (K : PySem.W.Frag) : Sp := fun vs H Q _ => ∃ v d u b, ∃ (L M : List Int), vs = [v, .ref u, .ref b] ∧ Td K H v d ∧ BD n d ∧ u ≠ b ∧ SetL H u L ∧ SetL H b M ∧ ∀ H', Fr2 u b H H' → SetL H' u (L ++ usedF n d) → SetL H' b (M ++ boundF n d) → Q .non H'
def sp_gather (K : PySem.W.Frag) : Sp := spr_gather 4 K
theorem no_gather {K : PySem.W.Frag} {vs : List V} {H : Hp} {Q : VK} {E : XK} (h : spr_gather 0 K vs H Q E) : False := by
  obtain ⟨_, _, _, _, _, _, _, _, h, _⟩ := h
  exact h
def sp_names_captured (K : PySem.W.Frag) : Sp := fun vs H Q _ => ∃ v d, vs = [v] ∧ Td K H v d ∧ BD 4 d ∧ ∀ p (ns : List Int) H', Same H H' → H' p = some (.tup (ns.map V.int)) → ns.Pairwise (· < ·) → (∀ x, x ∈ ns ↔ x ∈ usedF 4 d ∧ x ∉ boundF 4 d) → Q (.ref p) H'
def sp_captured (K : PySem.W.Frag) : Sp := sp_names_captured K
def sp_l_draws (K : PySem.W.Frag) : Sp := spDraws K
def sp_l_take (K : PySem.W.Frag) : Sp := spTakeM K
def sp_l_number (K : PySem.W.Frag) : Sp := fun vs H Q _ => ∃ (m l : Addr), vs = [.ref m] ∧ Dm H m l ∧ ∀ (n : Int) H', -2147483648 ≤ n → n ≤ 2147483647 → Dm H' m l → Fr m H H' → Q (.int n) H'
def spr_l_block (n : Nat) (K : PySem.W.Frag) : Sp := fun vs H Q _ => ∃ (m l : Addr) (k : Nat), vs = [.ref m, .int k] ∧ k + n = 4 ∧ 0 < n ∧ Dm H m l ∧ ∀ v d H', BD n d → Td K H' v d → Dm H' m l → Fr m H H' → Q v H'
def sp_l_block (K : PySem.W.Frag) : Sp := spr_l_block 4 K
theorem no_l_block {K : PySem.W.Frag} {vs : List V} {H : Hp} {Q : VK} {E : XK} (h : spr_l_block 0 K vs H Q E) : False := by
  obtain ⟨_, _, _, _, _, h, _⟩ := h
  omega
def spr_l_walk (n : Nat) (K : PySem.W.Frag) : Sp := fun vs H Q _ => ∃ v d u b, ∃ (L M : List Int), vs = [v, .ref u, .ref b] ∧ Td K H v d ∧ BD n d ∧ u ≠ b ∧ LstL H u L ∧ LstL H b M ∧ L.length + szU n ≤ 12000000 ∧ M.length + szU n ≤ 12000000 ∧ ∀ H', Fr2 u b H H' → LstL H' u (L ++ usedF n d) → LstL H' b (M ++ boundF n d) → Q .non H'
def sp_l_walk (K : PySem.W.Frag) : Sp := spr_l_walk 4 K
theorem no_l_walk {K : PySem.W.Frag} {vs : List V} {H : Hp} {Q : VK} {E : XK} (h : spr_l_walk 0 K vs H Q E) : False := by
  obtain ⟨_, _, _, _, _, _, _, _, h, _⟩ := h
  exact h
def sp_law (K : PySem.W.Frag) : Sp := spLaw K
local macro_rules | `(tactic| walk_at "une") => `(tactic| first | assumption | (exact Ne.symm (by assumption)) | (exact ne_of_none (by assumption) (by assumption)) | (exact (ne_of_none (by assumption) (by assumption)).symm))
local macro_rules | `(tactic| walk_at "uh") => `(tactic| first | assumption | (exact upd_same) | (refine' (upd_ne ?n).trans ?h; (case n => walk_at "une"); (case h => walk_at "uh")))
local macro_rules | `(tactic| walk_at "usl") => `(tactic| first | assumption | (exact SqL.of (by walk_at "uh")))
local macro_rules | `(tactic| walk_at "ust") => `(tactic| first | assumption | (exact SqT.of (by walk_at "uh")))
local macro_rules | `(tactic| walk_at "us") => `(tactic| first | omega | decide | assumption | (exact szl (by omega)) | (exact szt (by omega)) | (exact wide_div (b := 64) (by omega) (by omega) (by decide) (by decide)) | (exact Or.inl (Or.inr (by decide))) | (exact Or.inl (Or.inl (by decide))))
local macro_rules | `(tactic| walk_at "u1") => `(tactic| first
  | (with_reducible refine r_sqA ?_) | (with_reducible refine r_sqP ?_) | (with_reducible refine r_dput ?_) | (with_reducible refine r_dget ?_) | (with_reducible refine r_din ?_) | (with_reducible refine r_dnotin ?_) | (with_reducible refine r_keys ?_) | (with_reducible refine r_dnew ?_) | (with_reducible refine r_sqD ?_) | ((with_reducible refine' r_sqG ?hx ?_); (case hx => exact rfl)) | (with_reducible refine r_sqS ?_) | (with_reducible refine r_asg ?_) | ((with_reducible refine' r_var ?hx ?_); (case hx => exact rfl)) | (with_reducible refine r_c ?_) | (with_reducible refine r_op ?_)
  | (with_reducible refine r_gname ?_) | (with_reducible refine r_cons ?_) | (with_reducible refine r_nil ?_) | (with_reducible refine r_cb ?_) | (with_reducible refine r_call ?_)
  | (with_reducible refine r_ifS ?_) | (with_reducible refine r_test ?_) | (with_reducible refine r_bl ?_) | (with_reducible refine r_ret ?_) | (with_reducible refine r_next ?_) | (with_reducible refine r_drop ?_)
  | (with_reducible refine r_and ?_) | (with_reducible refine r_or ?_) | (with_reducible refine r_not ?_) | (with_reducible refine r_tru ?_) | (with_reducible refine r_truBl ?_) | (with_reducible refine r_truInt ?_) | (with_reducible refine r_truNon ?_) | (with_reducible refine r_tb ?_)
  | (with_reducible refine r_andV ?_) | (with_reducible refine r_orV ?_) | (with_reducible refine r_notV ?_) | (with_reducible refine r_chain ?_) | (with_reducible refine r_if ?_) | (with_reducible refine r_un ?_)
  | (with_reducible refine br_t ?_) | (with_reducible refine br_f ?_) | (with_reducible refine br_nt ?_) | (with_reducible refine br_nf ?_)
  | (with_reducible refine r_addI ?_) | (with_reducible refine r_sub ?_) | (with_reducible refine r_neg ?_) | (with_reducible refine r_cmpI ?_) | (with_reducible refine r_eqI ?_) | (with_reducible refine r_eqS ?_) | (with_reducible refine r_eqB ?_) | (with_reducible refine r_neI ?_) | (with_reducible refine r_neS ?_) | (with_reducible refine r_neB ?_)
  | ((with_reducible refine r_mod ?s ?_); (case s => walk_at "us")) | ((with_reducible refine r_mul ?s ?_); (case s => walk_at "us")) | ((with_reducible refine r_fdiv ?s ?_); (case s => walk_at "us"))
  | ((with_reducible refine r_addS ?s ?_); (case s => walk_at "us"))
  | (with_reducible refine r_isNN ?_) | (with_reducible refine r_isNI ?_) | (with_reducible refine r_isNB ?_) | (with_reducible refine r_isNS ?_) | (with_reducible refine r_isNR ?_) | (with_reducible refine r_notNN ?_) | (with_reducible refine r_notNI ?_) | (with_reducible refine r_notNB ?_) | (with_reducible refine r_notNS ?_) | (with_reducible refine r_notNR ?_)
  | (with_reducible refine r_abs ?_) | (with_reducible refine r_intI ?_) | (with_reducible refine r_intB ?_) | (with_reducible refine r_maxI ?_) | (with_reducible refine r_minI ?_) | (with_reducible refine r_starts ?_) | (with_reducible refine r_inC ?_) | (with_reducible refine r_notInC ?_)
  | (with_reducible refine r_iI_int ?_) | (with_reducible refine r_iI_bool ?_) | (with_reducible refine r_iI_str ?_) | (with_reducible refine r_iI_tuple ?_) | (with_reducible refine r_iI_list ?_) | (with_reducible refine r_iB_int ?_) | (with_reducible refine r_iB_bool ?_) | (with_reducible refine r_iB_str ?_) | (with_reducible refine r_iB_tuple ?_) | (with_reducible refine r_iB_list ?_) | (with_reducible refine r_iS_int ?_) | (with_reducible refine r_iS_bool ?_) | (with_reducible refine r_iS_str ?_) | (with_reducible refine r_iS_tuple ?_) | (with_reducible refine r_iS_list ?_) | (with_reducible refine r_iN_int ?_) | (with_reducible refine r_iN_bool ?_) | (with_reducible refine r_iN_str ?_) | (with_reducible refine r_iN_tuple ?_) | (with_reducible refine r_iN_list ?_)
  | ((with_reducible refine r_lenS ?s ?_); (case s => walk_at "us")) | ((with_reducible refine r_slS ?s ?_); (case s => walk_at "us"))
  | (with_reducible refine r_sl ?_) | (with_reducible refine r_nop ?_) | (with_reducible refine r_part ?_) | (with_reducible refine r_partI ?_) | (with_reducible refine r_tup ?_) | (with_reducible refine r_lst ?_)
  | (with_reducible refine r_bm ?_) | (with_reducible refine r_bm0 ?_) | (with_reducible refine r_tyStr ?_) | (with_reducible refine r_retN ?_) | (with_reducible refine r_brk ?_) | (with_reducible refine r_cont ?_) | (with_reducible refine r_nx ?_) | (with_reducible refine r_rt ?_)
  | (with_reducible refine r_sub3 ?_) | (with_reducible refine r_augS ?_) | (with_reducible refine r_ipI ?_) | ((with_reducible refine' r_aug ?hx ?_); (case hx => exact rfl)) | (with_reducible refine r_for ?_) | (with_reducible refine r_lc ?_) | (with_reducible refine r_yes ?_) | (with_reducible refine r_rng1 ?_) | (with_reducible refine r_rng1v ?_) | (with_reducible refine r_rng2 ?_) | (with_reducible refine r_rng2v ?_)
  | ((with_reducible refine' r_ixL ?s1 ?s2 ?_); (case s1 => walk_at "usl"); (case s2 => exact rfl)) | ((with_reducible refine' r_ixT ?s1 ?s2 ?_); (case s1 => walk_at "ust"); (case s2 => exact rfl))
  | ((with_reducible refine' r_lenL ?s1 ?_); (case s1 => walk_at "usl")) | ((with_reducible refine' r_lenT ?s1 ?_); (case s1 => walk_at "ust"))
  | ((with_reducible refine' r_setL ?s1 ?s2 ?_); (case s1 => walk_at "uh"); (case s2 => exact rfl)) | ((with_reducible refine' r_getL ?s1 ?s2 ?s3 ?_); (case s1 => walk_at "usl"); (case s2 => walk_at "us"); (case s3 => exact rfl))
  | ((with_reducible refine' r_tyLst ?s ?_); (case s => walk_at "uh")) | ((with_reducible refine' r_append ?s1 ?s2 ?_); (case s1 => walk_at "uh"); (case s2 => walk_at "us")))
local macro_rules | `(tactic| walk_at "ub") => `(tactic| first
  | ((with_reducible refine br_y ?s ?_); (case s => (first | assumption | (with_reducible rfl) | omega | decide))) | ((with_reducible refine br_n ?s ?_); (case s => (first | assumption | (with_reducible rfl) | omega | decide))) | ((with_reducible refine br_ny ?s ?_); (case s => (first | assumption | (with_reducible rfl) | omega | decide))) | ((with_reducible refine br_nn ?s ?_); (case s => (first | assumption | (with_reducible rfl) | omega | decide))))
local macro_rules | `(tactic| walk_at "u") => `(tactic| repeat (first | walk_at "u1" | walk_at "ub"))
local macro_rules | `(tactic| walk_at "ui") => `(tactic| ((with_reducible refine r_sq ?_); walk_at "u"))
def t_gather (K : PySem.W.Frag) (sp_self : PySem.W.Frag → Sp) : TS :=
  (tSq (tFor (uIt K (tOp (uIx K) (tVar 0) (tC (.int 0)))) (gName 3) (sDPut (tVar 2) (tVar 3) (tC (.bl true))))
    (tSq (tFor (uIt K (tOp (uIx K) (tVar 0) (tC (.int 1)))) (gName 4) (tSq (tFor (uIt K (tOp (uIx K) (tVar 4) (tC (.int 3)))) (gName 3) (sDPut (tVar 1) (tVar 3) (tC (.bl true))))
    (tSq (tIfS (tTest (tOp (uGe) (tOp (uIx K) (tVar 4) (tC (.int 1))) (tC (.int 0)))) (sDPut (tVar 2) (tOp (uIx K) (tVar 4) (tC (.int 1))) (tC (.bl true))) tNext)
    (tFor (uIt K (tOp (uIx K) (tVar 4) (tC (.int 7)))) (gName 5) (tDrop (tCall (sp_self K) [] E0 (tCons (tVar 5) (tCons (tVar 1) (tCons (tVar 2) tNil)))))))))
    (sDPut (tVar 1) (tOp (uIx K) (tVar 0) (tC (.int 2))) (tC (.bl true)))))
abbrev n_gather : List Str := ["block", "used", "bound", "name", "step", "inner"]
def t_names_captured (K : PySem.W.Frag) : TS :=
  (tSq (tAsg tDNewK (gName 1))
    (tSq (tAsg tDNewK (gName 2))
    (tSq (tDrop (tCall (sp_gather K) [] E0 (tCons (tVar 0) (tCons (tVar 1) (tCons (tVar 2) tNil)))))
    (tRet (tCB (uTuple K) (tCons (tCB (uSortI K) (tCons (tLockE (tLc (iKeys (tVar 1)) (gName 3) (tB (tDNotIn (tVar 3) (tVar 2))) (tVar 3) [3])) tNil)) tNil))))))
abbrev n_names_captured : List Str := ["block", "used", "bound", "name"]
def t_captured (K : PySem.W.Frag) : TS :=
  (tRet (tCall (sp_names_captured K) [] E0 (tCons (tVar 0) tNil)))
abbrev n_captured : List Str := ["block"]
def t_l_draws (K : PySem.W.Frag) : TS :=
  (tSq (tAsg (tLst tNil) (gName 1))
    (tSq (tFor (uIt K (tSl (uSl K) (tVar 0) tNoPart (tPart (tC (.int 63))))) (gName 2) (tSq (tAsg (tCB (uAbs) (tCons (tVar 2) tNil)) (gName 3))
    (tIfS (tTest (tOp (uGe) (tVar 3) (tC (.int 1000000000000000000)))) (tFor (iRng1 (tCons (tC (.int 60)) tNil)) (gName 4) (tIfS (tTest (tOp (uGt) (tVar 3) (tC (.int 0)))) (tSq (tDrop (tBM K "list" (uAppend) (tVar 1) (tCons (tOp (uMod) (tCB (uInt) (tCons (tVar 3) tNil)) (tC (.int 1009))) tNil)))
    (tAsg (tOp (uFdiv) (tVar 3) (tC (.int 1009))) (gName 3))) tNext)) (tSq (tAsg (tOp (uMod) (tCB (uInt) (tCons (tOp (uAdd K) (tOp (uMul) (tVar 3) (tC (.int 48271))) (tC (.int 11))) tNil)) (tC (.int 2147483647))) (gName 5))
    (tFor (iRng1 (tCons (tC (.int 7)) tNil)) (gName 4) (tSq (tAsg (tOp (uMod) (tCB (uInt) (tCons (tOp (uAdd K) (tOp (uAdd K) (tOp (uMul) (tVar 5) (tC (.int 16807))) (tOp (uMul) (tC (.int 69621)) (tVar 4))) (tC (.int 5))) tNil)) (tC (.int 2147483629))) (gName 5))
    (tDrop (tBM K "list" (uAppend) (tVar 1) (tCons (tOp (uFdiv) (tVar 5) (tC (.int 1009))) tNil)))))))))
    (tRet (tVar 1))))
abbrev n_l_draws : List Str := ["_law_script", "_law_draws_here", "_law_cell", "_law_rest", "_law_k", "_law_mixed"]
def t_l_take (K : PySem.W.Frag) : TS :=
  (tSq (tAsg (tDGet (tVar 0) (tC (.str "at"))) (gName 2))
    (tSq (tIfS (tTest (tOp (uGe) (tVar 2) (tCB (uLen K) (tCons (tDGet (tVar 0) (tC (.str "draws"))) tNil)))) (tRet (tC (.int 0))) tNext)
    (tSq (sDPut (tVar 0) (tC (.str "at")) (tOp (uAdd K) (tVar 2) (tC (.int 1))))
    (tRet (tOp (uMod) (tCB (uInt) (tCons (tOp (uIx K) (tDGet (tVar 0) (tC (.str "draws"))) (tVar 2)) tNil)) (tVar 1))))))
abbrev n_l_take : List Str := ["_law_m", "_law_many", "_law_at"]
def t_l_number (K : PySem.W.Frag) : TS :=
  (tSq (tIfS (tTest (tOp (uEq K) (tCall (sp_l_take K) [] E0 (tCons (tVar 0) (tCons (tC (.int 6)) tNil))) (tC (.int 0)))) (tRet (tOp (uIx K) (tLst (tCons (tC (.int 2147483647)) (tCons (tUn uNeg (tC (.int 2147483648))) (tCons (tUn uNeg (tC (.int 1))) (tCons (tC (.int 65536)) (tCons (tC (.int 13)) (tCons (tC (.int 12)) tNil))))))) (tCall (sp_l_take K) [] E0 (tCons (tVar 0) (tCons (tC (.int 6)) tNil))))) tNext)
    (tRet (tOp (uSub) (tCall (sp_l_take K) [] E0 (tCons (tVar 0) (tCons (tC (.int 9)) tNil))) (tC (.int 2)))))
abbrev n_l_number : List Str := ["_law_m"]
def t_l_block (K : PySem.W.Frag) (sp_self : PySem.W.Frag → Sp) : TS :=
  (tSq (tAsg (tCB (uTuple K) (tCons (tLc (iRng1 (tCons (tCall (sp_l_take K) [] E0 (tCons (tVar 0) (tCons (tC (.int 4)) tNil))) tNil)) (gName 2) tYes (tCall (sp_l_take K) [] E0 (tCons (tVar 0) (tCons (tC (.int 31)) tNil))) [2]) tNil)) (gName 3))
    (tSq (tAsg (tLst tNil) (gName 4))
    (tSq (tFor (iRng1 (tCons (tCall (sp_l_take K) [] E0 (tCons (tVar 0) (tCons (tIf (tTest (tOp (uEq K) (tVar 1) (tC (.int 0)))) (tC (.int 13)) (tC (.int 5))) tNil))) tNil)) (gName 2) (tSq (tAsg (tLst tNil) (gName 5))
    (tSq (tIfS (tAnd (tTest (tOp (uLt) (tVar 1) (tC (.int 3)))) (tTest (tOp (uEq K) (tCall (sp_l_take K) [] E0 (tCons (tVar 0) (tCons (tC (.int 4)) tNil))) (tC (.int 0))))) (tAsg (tLc (iRng1 (tCons (tOp (uAdd K) (tC (.int 1)) (tCall (sp_l_take K) [] E0 (tCons (tVar 0) (tCons (tC (.int 3)) tNil)))) tNil)) (gName 9) tYes (tCall (sp_self K) [] E0 (tCons (tVar 0) (tCons (tOp (uAdd K) (tVar 1) (tC (.int 1))) tNil))) [9]) (gName 5)) tNext)
    (tSq (tAsg (tCB (uTuple K) (tCons (tLc (iRng1 (tCons (tCall (sp_l_take K) [] E0 (tCons (tVar 0) (tCons (tC (.int 4)) tNil))) tNil)) (gName 9) tYes (tCall (sp_l_take K) [] E0 (tCons (tVar 0) (tCons (tC (.int 31)) tNil))) [9]) tNil)) (gName 6))
    (tSq (tAsg (tOp (uIx K) (tLst (tCons (tC (.str "tuple")) (tCons (tC (.str "case")) (tCons (tC (.str "fn")) (tCons (tC (.str "end")) tNil))))) (tCall (sp_l_take K) [] E0 (tCons (tVar 0) (tCons (tC (.int 4)) tNil)))) (gName 7))
    (tSq (tAsg (tOp (uSub) (tCall (sp_l_take K) [] E0 (tCons (tVar 0) (tCons (tC (.int 31)) tNil))) (tOp (uMul) (tCB (uInt) (tCons (tOp (uEq K) (tVar 7) (tC (.str "end"))) tNil)) (tC (.int 100)))) (gName 8))
    (tDrop (tBM K "list" (uAppend) (tVar 4) (tCons (tTup (tCons (tVar 7) (tCons (tCB (uMax) (tCons (tVar 8) (tCons (tUn uNeg (tC (.int 1))) tNil))) (tCons (tTup (tCons (tC (.str "int")) (tCons (tTup tNil) (tCons (tC (.int 0)) tNil)))) (tCons (tVar 6) (tCons (tC .non) (tCons (tC (.int 0)) (tCons (tTup tNil) (tCons (tCB (uTuple K) (tCons (tVar 5) tNil)) tNil))))))))) tNil)))))))))
    (tRet (tTup (tCons (tVar 3) (tCons (tCB (uTuple K) (tCons (tVar 4) tNil)) (tCons (tCall (sp_l_take K) [] E0 (tCons (tVar 0) (tCons (tC (.int 31)) tNil))) tNil))))))))
abbrev n_l_block : List Str := ["_law_m", "_law_depth", "_law_k", "_law_bind", "_law_steps", "_law_blocks", "_law_ins", "_law_op", "_law_out", "_law_j"]
def t_l_walk (K : PySem.W.Frag) (sp_self : PySem.W.Frag → Sp) : TS :=
  (tSq (tFor (uIt K (tOp (uIx K) (tVar 0) (tC (.int 0)))) (gName 3) (tDrop (tBM K "list" (uAppend) (tVar 2) (tCons (tVar 3) tNil))))
    (tSq (tFor (uIt K (tOp (uIx K) (tVar 0) (tC (.int 1)))) (gName 4) (tSq (tDrop (tBM K "list" (uAppend) (tVar 2) (tCons (tOp (uIx K) (tVar 4) (tC (.int 1))) tNil)))
    (tSq (tFor (uIt K (tOp (uIx K) (tVar 4) (tC (.int 3)))) (gName 3) (tDrop (tBM K "list" (uAppend) (tVar 1) (tCons (tVar 3) tNil))))
    (tFor (uIt K (tOp (uIx K) (tVar 4) (tC (.int 7)))) (gName 5) (tDrop (tCall (sp_self K) [] E0 (tCons (tVar 5) (tCons (tVar 1) (tCons (tVar 2) tNil)))))))))
    (tDrop (tBM K "list" (uAppend) (tVar 1) (tCons (tOp (uIx K) (tVar 0) (tC (.int 2))) tNil)))))
abbrev n_l_walk : List Str := ["_law_block_here", "_law_used", "_law_bound", "_law_variable", "_law_step", "_law_inner"]
def t_law (K : PySem.W.Frag) : TS :=
  (tSq (tAsg (tDisp (((tC (.str "draws")), (tCall (sp_l_draws K) [] E0 (tCons (tVar 0) tNil))) :: (((tC (.str "at")), (tC (.int 0))) :: []))) (gName 1))
    (tSq (tFor (iRng1 (tCons (tC (.int 3)) tNil)) (gName 2) (tSq (tAsg (tCall (sp_l_block K) [] E0 (tCons (tVar 1) (tCons (tC (.int 0)) tNil))) (gName 3))
    (tSq (tAsg (tLst tNil) (gName 4))
    (tSq (tAsg (tLst tNil) (gName 5))
    (tSq (tDrop (tCall (sp_l_walk K) [] E0 (tCons (tVar 3) (tCons (tVar 4) (tCons (tVar 5) tNil)))))
    (tSq (tAsg (tLst tNil) (gName 6))
    (tSq (tFor (iRng1 (tCons (tC (.int 31)) tNil)) (gName 7) (tIfS (tAnd (tTest (tOp (uIn K id) (tVar 7) (tVar 4))) (tTest (tOp (uIn K not) (tVar 7) (tVar 5)))) (tDrop (tBM K "list" (uAppend) (tVar 6) (tCons (tVar 7) tNil))) tNext))
    (tFor (iRng1 (tCons (tC (.int 2)) tNil)) (gName 8) (tSq (tAsg (tCall (sp_captured K) [] E0 (tCons (tVar 3) tNil)) (gName 9))
    (tSq (tIfS (tOr (tNot (uTru K (tCB (uIsi K) (tCons (tVar 9) (tCons (tC (.ty "tuple")) tNil))))) (tTest (tOp (uNe K) (tVar 9) (tCB (uTuple K) (tCons (tVar 6) tNil))))) (tRet (tC (.bl false))) tNext)
    (tIfS (tNot (uTru K (tCB (uAll K) (tCons (tLc (uIt K (tVar 9)) (gName 7) tYes (tAndV (tCB (uIsi K) (tCons (tVar 7) (tCons (tC (.ty "int")) tNil))) (tNotV (tCB (uIsi K) (tCons (tVar 7) (tCons (tC (.ty "bool")) tNil))))) [7]) tNil)))) (tRet (tC (.bl false))) tNext)))))))))))
    (tRet (tC (.bl true)))))
abbrev n_law : List Str := ["_law_script", "_law_m", "_law_k", "_law_block_here", "_law_used", "_law_bound", "_law_due", "_law_variable", "_law_asked", "_law_actual"]
section
variable {K : PySem.W.Frag} {vs : List V} {H : Hp} {Q : VK} {E : XK}
theorem rd_l_draws (h : sp_l_draws K vs H Q E) : t_l_draws K { nx := fun _ H' => Q .non H', rt := Q } (start n_l_draws vs) H := by
  obtain ⟨a, ns, rfl, hs, hlen, q⟩ := h
  unfold t_l_draws
  walk_at "u"
  refine ⟨szl (by simp), fun A hA => ?_⟩
  obtain ⟨H1, e1, s1, eA⟩ := lay_new (o := .lst []) hA
  rw [e1]
  walk_at "u"
  refine r_cut (fun σ' H' => Same H H' ∧ (∃ xs : List Int, H' A = some (.lst (xs.map V.int))) ∧ ∃ y2 y3 y4 y5, σ' = [some (.ref a), some (.ref A), y2, y3, y4, y5]) ?_ ?_
  · walk_at "u"
    refine it_list ?_
    walk_at "u"
    refine r_slL (SqL.k hs s1) fun p hp => ?_
    rw [cutV_63 (by rw [List.length_map]; exact hlen)]
    obtain ⟨H2, e2, s2, ep⟩ := lay_new (o := .lst (ns.map V.int)) hp
    rw [e2]
    have hAp : A ≠ p := ne_of_none eA hp
    refine ⟨p, rfl, ⟨_, SqL.of ep⟩, f_list (xs := ns.map V.int) (fun i σ' H' => i ≤ 63 ∧ Same H H' ∧ H' p = some (.lst (ns.map V.int)) ∧ (∃ xs : List Int, H' A = some (.lst (xs.map V.int)) ∧ xs.length ≤ 60 * i) ∧ ∃ y2 y3 y4 y5, σ' = [some (.ref a), some (.ref A), y2, y3, y4, y5]) ⟨by omega, s1.trans s2, ep, ⟨[], s2 _ _ eA, by simp⟩, none, none, none, none, rfl⟩ (fun i σ H' P => SqL.of P.2.2.1) ?_ ?_⟩
    · rintro i x σ H3 hx ⟨hi, s3, ep3, ⟨xs, eA3, l3⟩, y2, y3, y4, y5, rfl⟩
      have hi' := (List.getElem?_eq_some_iff.mp hx).1
      rw [List.length_map] at hi'
      rw [List.getElem?_map] at hx
      obtain ⟨n, hn, rfl⟩ := Option.map_eq_some_iff.mp hx
      walk_at "u"
      refine br_d (fun h1 => ?_) (fun h1 => ?_)
      · walk_at "u"
        refine ⟨by decide, by decide, f_range (fun j σ' H' => j ≤ 60 ∧ Same H H' ∧ H' p = some (.lst (ns.map V.int)) ∧ (∃ xs : List Int, H' A = some (.lst (xs.map V.int)) ∧ xs.length ≤ 60 * i + j) ∧ ∃ (r : Int) (y4 y5 : Option V), 0 ≤ r ∧ σ' = [some (.ref a), some (.ref A), some (.int n), some (.int r), y4, y5]) ⟨by omega, s3, ep3, ⟨xs, eA3, by omega⟩, _, _, _, Int.natCast_nonneg _, rfl⟩ ?_ ?_⟩
        · rintro j σ H4 hj ⟨hj0, s4, ep4, ⟨ys, eA4, l4⟩, r, z4, z5, hr, rfl⟩
          walk_at "u"
          refine br_d (fun h2 => ?_) (fun h2 => ?_)
          · walk_at "u"
            refine r_append eA4 (szt (by rw [List.length_map]; omega)) ?_
            walk_at "u"
            exact ⟨by omega, same_mut s4 hA, by rw [upd_ne hAp.symm]; exact ep4, ⟨ys ++ [_], by rw [upd_same, List.map_append]; rfl, by rw [List.length_append]; simp; omega⟩, _, _, _, Int.ediv_nonneg hr (by decide), rfl⟩
          · walk_at "u"
            exact ⟨by omega, s4, ep4, ⟨ys, eA4, by omega⟩, r, _, _, hr, rfl⟩
        · rintro σ H4 ⟨hj0, s4, ep4, ⟨ys, eA4, l4⟩, r, z4, z5, hr, rfl⟩
          walk_at "u"
          exact ⟨by omega, s4, ep4, ⟨ys, eA4, by have : (60 : Int).toNat = 60 := rfl; omega⟩, _, _, _, _, rfl⟩
      · walk_at "u"
        refine ⟨by decide, by decide, f_range (fun j σ' H' => j ≤ 7 ∧ Same H H' ∧ H' p = some (.lst (ns.map V.int)) ∧ (∃ xs : List Int, H' A = some (.lst (xs.map V.int)) ∧ xs.length ≤ 60 * i + j) ∧ ∃ (r : Int) (y3 y4 : Option V), σ' = [some (.ref a), some (.ref A), some (.int n), y3, y4, some (.int r)]) ⟨by omega, s3, ep3, ⟨xs, eA3, by omega⟩, _, _, _, rfl⟩ ?_ ?_⟩
        · rintro j σ H4 hj ⟨hj0, s4, ep4, ⟨ys, eA4, l4⟩, r, z4, z5, rfl⟩
          walk_at "u"
          refine r_append eA4 (szt (by rw [List.length_map]; omega)) ?_
          walk_at "u"
          exact ⟨by have : (7 : Int).toNat = 7 := rfl; omega, same_mut s4 hA, by rw [upd_ne hAp.symm]; exact ep4, ⟨ys ++ [_], by rw [upd_same, List.map_append]; rfl, by rw [List.length_append]; simp; omega⟩, _, _, _, rfl⟩
        · rintro σ H4 ⟨hj0, s4, ep4, ⟨ys, eA4, l4⟩, r, z4, z5, rfl⟩
          walk_at "u"
          exact ⟨by omega, s4, ep4, ⟨ys, eA4, by have : (7 : Int).toNat = 7 := rfl; omega⟩, _, _, _, _, rfl⟩
    · rintro σ H3 ⟨_, s3, _, ⟨xs, eA3, _⟩, hy⟩
      walk_at "u"
      exact ⟨s3, ⟨xs, eA3⟩, hy⟩
  rintro σ H2 ⟨s2, ⟨xs, eA2⟩, y2, y3, y4, y5, rfl⟩
  walk_at "u"
  exact q A xs H2 s2 hA eA2
theorem rd_l_take (h : sp_l_take K vs H Q E) : t_l_take K { nx := fun _ H' => Q .non H', rt := Q } (start n_l_take vs) H := by
  obtain ⟨m, l, k, rfl, hk, ⟨xs, i, hm, hl⟩, q⟩ := h
  have ne : l ≠ m := Dm.ne ⟨xs, i, hm, hl⟩
  have gd : DGet H m (.str "draws") (some (.ref l)) := DGet.k (k := .inr "draws") hm
  have ga : DGet H m (.str "at") (some (.int (i : Int))) := DGet.k (k := .inr "at") hm
  unfold t_l_take
  walk_at "u"
  refine ⟨m, _, rfl, ga, ?_⟩
  walk_at "u"
  refine r_cut (fun σ' H' => H' = H ∧ σ' = [some (.ref m), some (.int k), some (.int i)] ∧ i < xs.length) ?_ ?_
  · walk_at "u"
    refine ⟨m, _, rfl, gd, ?_⟩
    walk_at "u"
    refine br_d (fun h1 => ?_) (fun h1 => ?_)
    · walk_at "u"
      exact q 0 H (Int.le_refl _) hk ⟨xs, i, hm, hl⟩ (fun _ _ => rfl)
    · walk_at "u"
      refine ⟨rfl, rfl, ?_⟩
      rw [List.length_map] at h1
      omega
  rintro σ H1 ⟨rfl, rfl, hi⟩
  walk_at "u"
  refine ⟨m, _, rfl, .inl ⟨_, .inr "at", hm, rfl, szt (by simp), rfl⟩, ?_⟩
  have put : putK ([(Sum.inr (Str.ofString "draws"), V.ref l), (Sum.inr (Str.ofString "at"), V.int i)] : List (Key × V)) (Sum.inr (Str.ofString "at") : Key) (.int ((i : Int) + 1)) = [(.inr "draws", .ref l), (.inr "at", .int ((i + 1 : Nat) : Int))] := by rfl
  rw [put]
  have hl' : upd H1 m (.dK [(.inr "draws", .ref l), (.inr "at", .int ((i + 1 : Nat) : Int))]) l = some (.lst (xs.map V.int)) := by rw [upd_ne ne]; exact hl
  walk_at "u"
  refine ⟨m, _, rfl, DGet.k (k := .inr "draws") upd_same, ?_⟩
  walk_at "u"
  refine r_ixL (SqL.of hl') (v := .int xs[i]) (atI_nat (by rw [List.getElem?_map, List.getElem?_eq_getElem hi]; rfl)) ?_
  walk_at "u"
  exact q _ _ (Int.emod_nonneg _ (by omega)) (Int.emod_lt_of_pos _ hk) ⟨xs, i + 1, upd_same, hl'⟩ (fun b hb => upd_ne hb)
end
theorem take_flat {f : D → List Int} {ds : List D} {i : Nat} {d : D} (h : ds[i]? = some d) : (ds.take (i + 1)).flatMap f = (ds.take i).flatMap f ++ f d := by
  rw [List.take_add_one, h, List.flatMap_append]
  simp
theorem take_one {is : List Int} {i : Nat} {x : Int} (h : is[i]? = some x) : is.take (i + 1) = is.take i ++ [x] := by
  rw [List.take_add_one, h]; rfl
theorem get_ints {is : List Int} {i : Nat} {x : V} (h : (is.map V.int)[i]? = some x) : ∃ k, is[i]? = some k ∧ x = .int k := by
  rw [List.getElem?_map] at h
  obtain ⟨k, hk, rfl⟩ := Option.map_eq_some_iff.mp h
  exact ⟨k, hk, rfl⟩
section
variable {K : PySem.W.Frag} {vs : List V} {H : Hp} {Q : VK} {E : XK} {n : Nat}
theorem rd_gather (h : spr_gather (n + 1) K vs H Q E) : t_gather K (spr_gather n) { nx := fun _ H' => Q .non H', rt := Q } (start n_gather vs) H := by
  obtain ⟨v, d, u, b, L, M, rfl, t, bd, ne, su, sb, q⟩ := h
  obtain ⟨bs, ss, o, rfl, h3, hb, o1, o2, hl, hs⟩ := bd
  have nu := su.nt
  have nb := sb.nt
  unfold t_gather
  refine r_cut (fun σ' H' => Fr2 u b H H' ∧ SetL H' u L ∧ SetL H' b (M ++ bs) ∧ ∃ y3, σ' = [some v, some (.ref u), some (.ref b), y3, none, none]) ?_ ?_
  · walk_at "u"
    refine it_tup ?_
    walk_at "u"
    refine r_ixD (k := 0) t rfl fun y ty => ?_
    obtain ⟨a, xs, rfl, sa, ta⟩ := ty.inv
    cases ta.ints_inv
    refine ⟨a, rfl, ⟨_, sa⟩, f_tup (xs := bs.map V.int) (fun i σ' H' => Fr2 u b H H' ∧ SetL H' u L ∧ SetL H' b (M ++ bs.take i) ∧ ∃ y3, σ' = [some v, some (.ref u), some (.ref b), y3, none, none]) ⟨Fr2.refl, su, by rw [List.take_zero, List.append_nil]; exact sb, none, rfl⟩ (fun i σ H' P => P.1.tk nu nb _ _ sa) ?_ ?_⟩
    · rintro i x σ H1 hx ⟨f1, u1, b1, y3, rfl⟩
      obtain ⟨k, hk, rfl⟩ := get_ints hx
      have rk := hb k (List.mem_of_getElem? hk)
      walk_at "u"
      obtain ⟨H2, dp, ⟨o2, e⟩, sl⟩ := b1.put rk.1 rk.2
      refine ⟨b, H2, rfl, dp, ?_⟩
      subst e
      walk_at "u"
      exact ⟨f1.mb, u1.off ne, by rw [take_one hk, ← List.append_assoc]; exact sl, _, rfl⟩
    · rintro σ H1 ⟨f1, u1, b1, hy⟩
      walk_at "u"
      rw [List.length_map, List.take_length] at b1
      exact ⟨f1, u1, b1, hy⟩
  rintro σ H1 ⟨f1, u1, b1, y3, rfl⟩
  refine r_cut (fun σ' H' => Fr2 u b H H' ∧ SetL H' u (L ++ ss.flatMap (stUsed (usedF n))) ∧ SetL H' b (M ++ (bs ++ ss.flatMap (stBound (boundF n)))) ∧ ∃ y3 y4 y5, σ' = [some v, some (.ref u), some (.ref b), y3, y4, y5]) ?_ ?_
  · walk_at "u"
    refine it_tup ?_
    walk_at "u"
    refine r_ixD (k := 1) (t.k (f1.tk nu nb)) rfl fun y ty => ?_
    obtain ⟨a, xs, rfl, sa, ta⟩ := ty.inv
    refine ⟨a, rfl, ⟨_, sa⟩, f_tup (xs := xs) (fun i σ' H' => Fr2 u b H1 H' ∧ SetL H' u (L ++ (ss.take i).flatMap (stUsed (usedF n))) ∧ SetL H' b (M ++ (bs ++ (ss.take i).flatMap (stBound (boundF n)))) ∧ ∃ y3 y4 y5, σ' = [some v, some (.ref u), some (.ref b), y3, y4, y5]) ⟨Fr2.refl, by simpa using u1, by simpa using b1, y3, none, none, rfl⟩ (fun i σ H' P => P.1.tk u1.nt b1.nt _ _ sa) ?_ ?_⟩
    · rintro i x σ H2 hx ⟨f2, u2, b2, z3, z4, z5, rfl⟩
      obtain ⟨s, hs1, ts⟩ := ta.getV hx
      have ts2 := ts.k (f2.tk u1.nt b1.nt)
      obtain ⟨op, kd, x1, x2, x3, bl, out, ins, rfl, r0, r1, hi, hir, hbl, hg⟩ := hs s (List.mem_of_getElem? hs1)
      walk_at "u"
      refine r_cut (fun σ' H' => Fr2 u b H2 H' ∧ SetL H' u (L ++ (ss.take i).flatMap (stUsed (usedF n)) ++ ins) ∧ SetL H' b (M ++ (bs ++ (ss.take i).flatMap (stBound (boundF n)))) ∧ ∃ y3 y5, σ' = [some v, some (.ref u), some (.ref b), y3, some x, y5]) ?_ ?_
      · walk_at "u"
        refine it_tup ?_
        walk_at "u"
        refine r_ixD (k := 3) ts2 rfl fun y ty => ?_
        obtain ⟨a2, xs2, rfl, sa2, ta2⟩ := ty.inv
        cases ta2.ints_inv
        refine ⟨a2, rfl, ⟨_, sa2⟩, f_tup (xs := ins.map V.int) (fun j σ' H' => Fr2 u b H2 H' ∧ SetL H' u (L ++ (ss.take i).flatMap (stUsed (usedF n)) ++ ins.take j) ∧ SetL H' b (M ++ (bs ++ (ss.take i).flatMap (stBound (boundF n)))) ∧ ∃ y3 y5, σ' = [some v, some (.ref u), some (.ref b), y3, some x, y5]) ⟨Fr2.refl, by rw [List.take_zero, List.append_nil]; exact u2, b2, _, _, rfl⟩ (fun j σ H' P => P.1.tk u2.nt b2.nt _ _ sa2) ?_ ?_⟩
        · rintro j x σ H3 hx ⟨f3, u3, b3, w3, w5, rfl⟩
          obtain ⟨k, hk, rfl⟩ := get_ints hx
          have rk := hir k (List.mem_of_getElem? hk)
          walk_at "u"
          obtain ⟨H4, dp, ⟨o2, e⟩, sl⟩ := u3.put rk.1 rk.2
          refine ⟨u, H4, rfl, dp, ?_⟩
          subst e
          walk_at "u"
          exact ⟨f3.mu, by rw [take_one hk, ← List.append_assoc]; exact sl, b3.off ne.symm, _, _, rfl⟩
        · rintro σ H3 ⟨f3, u3, b3, hy⟩
          walk_at "u"
          rw [List.length_map, List.take_length] at u3
          exact ⟨f3, u3, b3, hy⟩
      rintro σ H3 ⟨f3, u3, b3, w3, w5, rfl⟩
      have ts3 := ts2.k (f3.tk u2.nt b2.nt)
      refine r_cut (fun σ' H' => Fr2 u b H2 H' ∧ SetL H' u (L ++ (ss.take i).flatMap (stUsed (usedF n)) ++ ins) ∧ SetL H' b (M ++ (bs ++ (ss.take i).flatMap (stBound (boundF n))) ++ [out]) ∧ σ' = [some v, some (.ref u), some (.ref b), w3, some x, w5]) ?_ ?_
      · walk_at "u"
        refine r_ixD (k := 1) ts3 rfl fun y ty => ?_
        cases ty.invI
        walk_at "u"
        refine br_d (fun h1 => ?_) (fun h1 => ?_)
        · walk_at "u"
          refine r_ixD (k := 1) ts3 rfl fun y ty => ?_
          cases ty.invI
          obtain ⟨H4, dp, ⟨o2, e⟩, sl⟩ := b3.put h1 r1
          refine ⟨b, H4, rfl, dp, ?_⟩
          subst e
          walk_at "u"
          exact ⟨f3.mb, u3.off ne, sl, rfl⟩
        · walk_at "u"
          exact ⟨f3, u3, b3.skip (by omega), rfl⟩
      rintro σ H4 ⟨f4, u4, b4, rfl⟩
      have ts4 := ts2.k (f4.tk u2.nt b2.nt)
      walk_at "u"
      refine it_tup ?_
      walk_at "u"
      refine r_ixD (k := 7) ts4 rfl fun y ty => ?_
      obtain ⟨a3, xs3, rfl, sa3, ta3⟩ := ty.inv
      refine ⟨a3, rfl, ⟨_, sa3⟩, f_tup (xs := xs3) (fun j σ' H' => Fr2 u b H4 H' ∧ SetL H' u (L ++ (ss.take i).flatMap (stUsed (usedF n)) ++ ins ++ (bl.take j).flatMap (usedF n)) ∧ SetL H' b (M ++ (bs ++ (ss.take i).flatMap (stBound (boundF n))) ++ [out] ++ (bl.take j).flatMap (boundF n)) ∧ ∃ y5, σ' = [some v, some (.ref u), some (.ref b), w3, some x, y5]) ⟨Fr2.refl, by rw [List.take_zero, List.flatMap_nil, List.append_nil]; exact u4, by rw [List.take_zero, List.flatMap_nil, List.append_nil]; exact b4, _, rfl⟩ (fun j σ H' P => P.1.tk u4.nt b4.nt _ _ sa3) ?_ ?_⟩
      · rintro j x5 σ H5 hx5 ⟨f5, u5, b5, w6, rfl⟩
        obtain ⟨e, he, te⟩ := ta3.getV hx5
        walk_at "u"
        refine ⟨x5, e, u, b, _, _, rfl, te.k (f5.tk u4.nt b4.nt), hg e (List.mem_of_getElem? he), ne, u5, b5, fun H6 f6 u6 b6 => ?_⟩
        walk_at "u"
        exact ⟨f5.trans f6, by rw [take_flat he, ← List.append_assoc]; exact u6, by rw [take_flat he, ← List.append_assoc]; exact b6, _, rfl⟩
      · rintro σ H5 ⟨f5, u5, b5, w6, rfl⟩
        walk_at "u"
        rw [ta3.len, List.take_length] at u5 b5
        refine ⟨f2.trans (f4.trans f5), ?_, ?_, _, _, _, rfl⟩
        · rw [take_flat hs1]
          show SetL H5 u (L ++ (_ ++ (((ins.map D.int).map toI) ++ bl.flatMap (usedF n))))
          rw [map_toI]
          simpa [List.append_assoc] using u5
        · rw [take_flat hs1]
          show SetL H5 b (M ++ (bs ++ (_ ++ (out :: bl.flatMap (boundF n)))))
          simpa [List.append_assoc] using b5
    · rintro σ H2 ⟨f2, u2, b2, hy⟩
      walk_at "u"
      rw [ta.len, List.take_length] at u2 b2
      exact ⟨f1.trans f2, u2, b2, hy⟩
  rintro σ H2 ⟨f2, u2, b2, w3, w4, w5, rfl⟩
  walk_at "u"
  refine r_ixD (k := 2) (t.k (f2.tk nu nb)) rfl fun y ty => ?_
  cases ty.invI
  obtain ⟨H4, dp, ⟨o3, e⟩, sl⟩ := u2.put o1 o2
  refine ⟨u, H4, rfl, dp, ?_⟩
  subst e
  walk_at "u"
  refine q _ f2.mu ?_ ?_
  · rw [List.append_assoc] at sl
    exact sl
  · have := b2.off (o := o3) ne.symm
    show SetL _ b (M ++ (((bs.map D.int).map toI) ++ ss.flatMap (stBound (boundF n))))
    rw [map_toI]
    exact this
end
section
variable {K : PySem.W.Frag} {vs : List V} {H : Hp} {Q : VK} {E : XK} {n : Nat}
theorem step_len {s : D} (h : StepD (BD n) s) : (stUsed (usedF n) s).length ≤ 4 + 3 * szU n ∧ (stBound (boundF n) s).length ≤ 4 + 3 * szU n := by
  obtain ⟨op, kd, x, y, z, bl, out, ins, rfl, _, _, hi, _, hb, hg⟩ := h
  have e3 := mul_le (k := szU n) hb
  have e2 := flat_len (f := usedF n) (k := szU n) (ds := bl) (fun b hb => used_len (hg b hb))
  have e4 := flat_len (f := boundF n) (k := szU n) (ds := bl) (fun b hb => bound_len (hg b hb))
  constructor
  · show (((ins.map D.int).map toI) ++ bl.flatMap (usedF n)).length ≤ _
    rw [map_toI, List.length_append]
    omega
  · show (out :: bl.flatMap (boundF n)).length ≤ _
    rw [List.length_cons]
    omega
theorem app_len {u : Addr} {H : Hp} {L : List Int} {y : Int} {Q : VK} (h : LstL H u L) (hl : L.length < 16000000) (q : ∀ H', (∃ o, H' = upd H u o) → LstL H' u (L ++ [y]) → Q .non H') : uAppend (.ref u) [.int y] H Q :=
  ⟨_, h, szt (by rw [List.length_map]; omega), q _ ⟨_, rfl⟩ LstL.app⟩
theorem rd_l_walk (h : spr_l_walk (n + 1) K vs H Q E) : t_l_walk K (spr_l_walk n) { nx := fun _ H' => Q .non H', rt := Q } (start n_l_walk vs) H := by
  obtain ⟨v, d, u, b, L, M, rfl, t, bd, ne, su, sb, zL, zM, q⟩ := h
  have lu := used_len bd
  have lb := bound_len bd
  obtain ⟨bs, ss, o, rfl, h3, hb, o1, o2, hl, hs⟩ := bd
  have nu := Nt.lst su
  have nb := Nt.lst sb
  have lu : (ss.flatMap (stUsed (usedF n)) ++ [o]).length ≤ szU (n + 1) := lu
  have lb : ((bs.map D.int).map toI ++ ss.flatMap (stBound (boundF n))).length ≤ szU (n + 1) := lb
  rw [List.length_append] at lu lb
  rw [map_toI] at lb
  have part : ∀ {f : D → List Int} (i : Nat) (s : D), ss[i]? = some s → ((ss.take i).flatMap f).length + (f s).length ≤ (ss.flatMap f).length := fun {f} i s h => by
    rw [← List.length_append, ← take_flat h]
    conv => rhs; rw [← List.take_append_drop (i + 1) ss]
    rw [List.flatMap_append, List.length_append]
    omega
  have part2 : ∀ {f : D → List Int} (bl : List D) (i : Nat) (s : D), bl[i]? = some s → ((bl.take i).flatMap f).length + (f s).length ≤ (bl.flatMap f).length := fun {f} bl i s h => by
    rw [← List.length_append, ← take_flat h]
    conv => rhs; rw [← List.take_append_drop (i + 1) bl]
    rw [List.flatMap_append, List.length_append]
    omega
  unfold t_l_walk
  refine r_cut (fun σ' H' => Fr2 u b H H' ∧ LstL H' u L ∧ LstL H' b (M ++ bs) ∧ ∃ y3, σ' = [some v, some (.ref u), some (.ref b), y3, none, none]) ?_ ?_
  · walk_at "u"
    refine it_tup ?_
    walk_at "u"
    refine r_ixD (k := 0) t rfl fun y ty => ?_
    obtain ⟨a, xs, rfl, sa, ta⟩ := ty.inv
    cases ta.ints_inv
    refine ⟨a, rfl, ⟨_, sa⟩, f_tup (xs := bs.map V.int) (fun i σ' H' => Fr2 u b H H' ∧ LstL H' u L ∧ LstL H' b (M ++ bs.take i) ∧ ∃ y3, σ' = [some v, some (.ref u), some (.ref b), y3, none, none]) ⟨Fr2.refl, su, by rw [List.take_zero, List.append_nil]; exact sb, none, rfl⟩ (fun i σ H' P => P.1.tk nu nb _ _ sa) ?_ ?_⟩
    · rintro i x σ H1 hx ⟨f1, u1, b1, y3, rfl⟩
      obtain ⟨k, hk, rfl⟩ := get_ints hx
      walk_at "u"
      refine app_len b1 (by rw [List.length_append, List.length_take]; omega) fun H2 ⟨o2, e⟩ sl => ?_
      subst e
      walk_at "u"
      exact ⟨f1.mb, u1.off ne, by rw [take_one hk, ← List.append_assoc]; exact sl, _, rfl⟩
    · rintro σ H1 ⟨f1, u1, b1, hy⟩
      walk_at "u"
      rw [List.length_map, List.take_length] at b1
      exact ⟨f1, u1, b1, hy⟩
  rintro σ H1 ⟨f1, u1, b1, y3, rfl⟩
  refine r_cut (fun σ' H' => Fr2 u b H H' ∧ LstL H' u (L ++ ss.flatMap (stUsed (usedF n))) ∧ LstL H' b (M ++ (bs ++ ss.flatMap (stBound (boundF n)))) ∧ ∃ y3 y4 y5, σ' = [some v, some (.ref u), some (.ref b), y3, y4, y5]) ?_ ?_
  · walk_at "u"
    refine it_tup ?_
    walk_at "u"
    refine r_ixD (k := 1) (t.k (f1.tk nu nb)) rfl fun y ty => ?_
    obtain ⟨a, xs, rfl, sa, ta⟩ := ty.inv
    refine ⟨a, rfl, ⟨_, sa⟩, f_tup (xs := xs) (fun i σ' H' => Fr2 u b H1 H' ∧ LstL H' u (L ++ (ss.take i).flatMap (stUsed (usedF n))) ∧ LstL H' b (M ++ (bs ++ (ss.take i).flatMap (stBound (boundF n)))) ∧ ∃ y3 y4 y5, σ' = [some v, some (.ref u), some (.ref b), y3, y4, y5]) ⟨Fr2.refl, by simpa using u1, by simpa using b1, y3, none, none, rfl⟩ (fun i σ H' P => P.1.tk (Nt.lst u1) (Nt.lst b1) _ _ sa) ?_ ?_⟩
    · rintro i x σ H2 hx ⟨f2, u2, b2, z3, z4, z5, rfl⟩
      obtain ⟨s, hs1, ts⟩ := ta.getV hx
      have ts2 := ts.k (f2.tk (Nt.lst u1) (Nt.lst b1))
      have p1 := part (f := stUsed (usedF n)) i s hs1
      have p2 := part (f := stBound (boundF n)) i s hs1
      obtain ⟨op, kd, x1, x2, x3, bl, out, ins, rfl, r0, r1, hi, hir, hbl, hg⟩ := hs s (List.mem_of_getElem? hs1)
      have eU : stUsed (usedF n) (.tup [op, .int out, kd, .tup (ins.map .int), x1, x2, x3, .tup bl]) = ins ++ bl.flatMap (usedF n) := by
        show ((ins.map D.int).map toI) ++ bl.flatMap (usedF n) = _
        rw [map_toI]
      have eB : stBound (boundF n) (.tup [op, .int out, kd, .tup (ins.map .int), x1, x2, x3, .tup bl]) = out :: bl.flatMap (boundF n) := rfl
      rw [eU, List.length_append] at p1
      rw [eB, List.length_cons] at p2
      refine r_cut (fun σ' H' => Fr2 u b H2 H' ∧ LstL H' u (L ++ (ss.take i).flatMap (stUsed (usedF n))) ∧ LstL H' b (M ++ (bs ++ (ss.take i).flatMap (stBound (boundF n))) ++ [out]) ∧ ∃ y3 y5, σ' = [some v, some (.ref u), some (.ref b), y3, some x, y5]) ?_ ?_
      · walk_at "u"
        refine r_ixD (k := 1) ts2 rfl fun y ty => ?_
        cases ty.invI
        walk_at "u"
        refine app_len b2 (by simp only [List.length_append]; omega) fun H3 ⟨o2, e⟩ sl => ?_
        subst e
        walk_at "u"
        exact ⟨Fr2.refl.mb, u2.off ne, sl, _, _, rfl⟩
      rintro σ H3 ⟨f3, u3, b3, w3, w5, rfl⟩
      have ts3 := ts2.k (f3.tk (Nt.lst u2) (Nt.lst b2))
      refine r_cut (fun σ' H' => Fr2 u b H2 H' ∧ LstL H' u (L ++ (ss.take i).flatMap (stUsed (usedF n)) ++ ins) ∧ LstL H' b (M ++ (bs ++ (ss.take i).flatMap (stBound (boundF n))) ++ [out]) ∧ ∃ y3 y5, σ' = [some v, some (.ref u), some (.ref b), y3, some x, y5]) ?_ ?_
      · walk_at "u"
        refine it_tup ?_
        walk_at "u"
        refine r_ixD (k := 3) ts3 rfl fun y ty => ?_
        obtain ⟨a2, xs2, rfl, sa2, ta2⟩ := ty.inv
        cases ta2.ints_inv
        refine ⟨a2, rfl, ⟨_, sa2⟩, f_tup (xs := ins.map V.int) (fun j σ' H' => Fr2 u b H3 H' ∧ LstL H' u (L ++ (ss.take i).flatMap (stUsed (usedF n)) ++ ins.take j) ∧ LstL H' b (M ++ (bs ++ (ss.take i).flatMap (stBound (boundF n))) ++ [out]) ∧ ∃ y3 y5, σ' = [some v, some (.ref u), some (.ref b), y3, some x, y5]) ⟨Fr2.refl, by rw [List.take_zero, List.append_nil]; exact u3, b3, _, _, rfl⟩ (fun j σ H' P => P.1.tk (Nt.lst u3) (Nt.lst b3) _ _ sa2) ?_ ?_⟩
        · rintro j x σ H4 hx ⟨f4, u4, b4, w3, w5, rfl⟩
          obtain ⟨k, hk, rfl⟩ := get_ints hx
          walk_at "u"
          refine app_len u4 (by simp only [List.length_append, List.length_take]; omega) fun H5 ⟨o2, e⟩ sl => ?_
          subst e
          walk_at "u"
          exact ⟨f4.mu, by rw [take_one hk, ← List.append_assoc]; exact sl, b4.off ne.symm, _, _, rfl⟩
        · rintro σ H4 ⟨f4, u4, b4, hy⟩
          walk_at "u"
          rw [List.length_map, List.take_length] at u4
          exact ⟨f3.trans f4, u4, b4, hy⟩
      rintro σ H4 ⟨f4, u4, b4, w3, w5, rfl⟩
      have ts4 := ts2.k (f4.tk (Nt.lst u2) (Nt.lst b2))
      walk_at "u"
      refine it_tup ?_
      walk_at "u"
      refine r_ixD (k := 7) ts4 rfl fun y ty => ?_
      obtain ⟨a3, xs3, rfl, sa3, ta3⟩ := ty.inv
      refine ⟨a3, rfl, ⟨_, sa3⟩, f_tup (xs := xs3) (fun j σ' H' => Fr2 u b H4 H' ∧ LstL H' u (L ++ (ss.take i).flatMap (stUsed (usedF n)) ++ ins ++ (bl.take j).flatMap (usedF n)) ∧ LstL H' b (M ++ (bs ++ (ss.take i).flatMap (stBound (boundF n))) ++ [out] ++ (bl.take j).flatMap (boundF n)) ∧ ∃ y5, σ' = [some v, some (.ref u), some (.ref b), w3, some x, y5]) ⟨Fr2.refl, by rw [List.take_zero, List.flatMap_nil, List.append_nil]; exact u4, by rw [List.take_zero, List.flatMap_nil, List.append_nil]; exact b4, _, rfl⟩ (fun j σ H' P => P.1.tk (Nt.lst u4) (Nt.lst b4) _ _ sa3) ?_ ?_⟩
      · rintro j x5 σ H5 hx5 ⟨f5, u5, b5, w6, rfl⟩
        obtain ⟨e, he, te⟩ := ta3.getV hx5
        have m1 := part2 (f := usedF n) bl j e he
        have m2 := part2 (f := boundF n) bl j e he
        have k1 := flat_len (f := stUsed (usedF n)) (k := 4 + 3 * szU n) (ds := ss.take i) (fun x hx => (step_len (hs x (List.mem_of_mem_take hx))).1)
        have k2 := flat_len (f := stBound (boundF n)) (k := 4 + 3 * szU n) (ds := ss.take i) (fun x hx => (step_len (hs x (List.mem_of_mem_take hx))).2)
        have k3 := flat_len (f := usedF n) (k := szU n) (ds := bl.take j) (fun x hx => used_len (hg x (List.mem_of_mem_take hx)))
        have k4 := flat_len (f := boundF n) (k := szU n) (ds := bl.take j) (fun x hx => bound_len (hg x (List.mem_of_mem_take hx)))
        have i1 := (List.getElem?_eq_some_iff.mp hs1).1
        have j1 := (List.getElem?_eq_some_iff.mp he).1
        have k5 := mul_le (k := 4 + 3 * szU n) (show (ss.take i).length + 1 ≤ 12 by rw [List.length_take]; omega)
        have k6 := mul_le (k := szU n) (show (bl.take j).length + 1 ≤ 3 by rw [List.length_take]; omega)
        rw [Nat.succ_mul] at k5 k6
        have zz : szU (n + 1) = 12 * (4 + 3 * szU n) + 3 := rfl
        walk_at "u"
        refine ⟨x5, e, u, b, _, _, rfl, te.k (f5.tk (Nt.lst u4) (Nt.lst b4)), hg e (List.mem_of_getElem? he), ne, u5, b5, ?_, ?_, fun H6 f6 u6 b6 => ?_⟩
        · simp only [List.length_append]
          omega
        · simp only [List.length_append, List.length_cons, List.length_nil]
          omega
        walk_at "u"
        exact ⟨f5.trans f6, by rw [take_flat he, ← List.append_assoc]; exact u6, by rw [take_flat he, ← List.append_assoc]; exact b6, _, rfl⟩
      · rintro σ H5 ⟨f5, u5, b5, w6, rfl⟩
        walk_at "u"
        rw [ta3.len, List.take_length] at u5 b5
        refine ⟨f2.trans (f4.trans f5), ?_, ?_, _, _, _, rfl⟩
        · rw [take_flat hs1, eU]
          simpa [List.append_assoc] using u5
        · rw [take_flat hs1, eB]
          simpa [List.append_assoc] using b5
    · rintro σ H2 ⟨f2, u2, b2, hy⟩
      walk_at "u"
      rw [ta.len, List.take_length] at u2 b2
      exact ⟨f1.trans f2, u2, b2, hy⟩
  rintro σ H2 ⟨f2, u2, b2, w3, w4, w5, rfl⟩
  walk_at "u"
  refine r_ixD (k := 2) (t.k (f2.tk nu nb)) rfl fun y ty => ?_
  cases ty.invI
  walk_at "u"
  refine app_len u2 (by simp only [List.length_append]; simp only [List.length_cons, List.length_nil] at lu; omega) fun H3 ⟨o3, e⟩ sl => ?_
  subst e
  refine q _ f2.mu ?_ ?_
  · rw [List.append_assoc] at sl
    exact sl
  · have := b2.off (o := o3) ne.symm
    show LstL _ b (M ++ (((bs.map D.int).map toI) ++ ss.flatMap (stBound (boundF n))))
    rw [map_toI]
    exact this
end
section
variable {K : PySem.W.Frag} {vs : List V} {H : Hp} {Q : VK} {E : XK} {n : Nat}
theorem Fr2.toSame {H H' : Hp} {u b : Addr} (f : Fr2 u b H H') (hu : H u = none) (hb : H b = none) : Same H H' := fun c x e => f c x (ne_of_none e hu) (ne_of_none e hb) e
theorem SetL.nil {H : Hp} {u : Addr} (h : H u = some (.dK [])) : SetL H u [] := ⟨[], h, List.nodup_nil, (fun _ h => nomatch h), fun x => ⟨(fun h => nomatch h), (fun h => nomatch h.1)⟩⟩
theorem rd_names_captured (h : sp_names_captured K vs H Q E) : t_names_captured K { nx := fun _ H' => Q .non H', rt := Q } (start n_names_captured vs) H := by
  obtain ⟨v, d, rfl, t, bd, q⟩ := h
  unfold t_names_captured
  walk_at "u"
  intro u hu
  obtain ⟨H1, e1, s1, eu⟩ := lay_new (o := .dK []) hu
  rw [e1]
  walk_at "u"
  intro b hb
  obtain ⟨H2, e2, s2, eb⟩ := lay_new (o := .dK []) hb
  rw [e2]
  have hb0 : H b = none := Same.free s1 hb
  have ne : u ≠ b := ne_of_none eu hb
  walk_at "u"
  refine ⟨v, d, u, b, [], [], rfl, t.k (Same.tk (s1.trans s2)), bd, ne, SetL.nil (s2 _ _ eu), SetL.nil eb, fun H3 f3 u3 b3 => ?_⟩
  rw [List.nil_append] at u3 b3
  obtain ⟨us, eu3, nd, ru, mu⟩ := u3
  obtain ⟨bs, eb3, nd2, rb, mb⟩ := b3
  have f03 : Fr2 u b H H3 := (Fr2.same (s1.trans s2)).trans f3
  walk_at "u"
  refine ⟨u, _, eu3, trivial, fun od => ?_⟩
  have eb4 : upd H3 u (.frz od (.dK (dkS us))) b = some (.dK (dkS bs)) := (upd_ne ne.symm).trans eb3
  have eu4 : upd H3 u (.frz od (.dK (dkS us))) u = some (.frz od (.dK (dkS us))) := upd_same
  have f04 : Fr2 u b H (upd H3 u (.frz od (.dK (dkS us)))) := f03.mu
  generalize upd H3 u (.frz od (.dK (dkS us))) = H4 at eb4 eu4 f04
  walk_at "u"
  refine ⟨u, od, rfl, .inl ⟨_, eu4, fun A hA => ?_⟩⟩
  refine lc_it walk_keys (fun i H' => Same H4 H' ∧ H' A = some (.lst (((us.take i).filter (fun x => !decide (x ∈ bs))).map V.int))) ⟨same_new hA, upd_same⟩ (fun i H' _ P => P.1 _ _ eu4) ?_ ?_
  · rintro i x H5 H5' hi ⟨s5, e5⟩ ⟨rfl, k, w, hk, rfl⟩
    rw [dkS_len] at hi
    have hk' : us[i]? = some us[i] := List.getElem?_eq_getElem hi
    unfold dkS at hk
    rw [List.getElem?_map, hk'] at hk
    cases hk
    show gName 3 (.int us[i]) _ _ _
    walk_at "u"
    refine ⟨rfl, ?_⟩
    walk_at "u"
    refine ⟨b, _, rfl, DGet.k (k := .inl us[i]) (s5 _ _ eb4), ?_⟩
    rw [dkS_val]
    have tk : us.take (i + 1) = us.take i ++ [us[i]] := take_one hk'
    walk_at "u"
    by_cases hm : us[i] ∈ bs
    · rw [if_pos hm]
      show if false = true then _ else _
      walk_at "u"
      refine ⟨s5, ?_⟩
      rw [tk, List.filter_append, e5]
      simp [hm]
    · rw [if_neg hm]
      show if true = true then _ else _
      walk_at "u"
      refine ⟨_, e5, szt ?_, same_mut s5 hA, ?_⟩
      · have l1 := List.length_filter_le (fun x => !decide (x ∈ bs)) (us.take i)
        have l2 := nodup_small nd (n := 31) ru
        rw [List.length_map]
        rw [List.length_take] at l1
        omega
      · rw [upd_same, tk, List.filter_append]
        simp [hm]
  · rintro H5 ⟨s5, e5⟩
    rw [dkS_len, List.take_length] at e5
    walk_at "u"
    refine ⟨s5 _ _ eu4, ?_⟩
    have hAu : A ≠ u := (ne_of_none eu4 hA).symm
    have f06 : Fr2 u b H (upd H5 u (.dK (dkS us))) := (f04.trans (Fr2.same s5)).mu
    have e6 : upd H5 u (.dK (dkS us)) A = some (.lst ((us.filter (fun x => !decide (x ∈ bs))).map V.int)) := (upd_ne hAu).trans e5
    generalize upd H5 u (.dK (dkS us)) = H6 at f06 e6
    walk_at "u"
    refine r_sortI (SqL.of e6) fun ns p2 hp hs hn2 => ?_
    obtain ⟨H7, e7, s7, ep7⟩ := lay_new (o := .lst (ns.map V.int)) hn2
    rw [e7]
    walk_at "u"
    refine r_tupleL (SqL.of ep7) fun p3 hn3 => ?_
    refine q _ ns _ ((f06.trans ((Fr2.same s7).trans (Fr2.same (same_new hn3)))).toSame hu hb0) upd_same (rise_of hs (hp.nodup_iff.mpr (nd.filter _))) fun x => ?_
    rw [hp.mem_iff, List.mem_filter, mu]
    have r := used_rng bd x
    rw [show (!decide (x ∈ bs)) = true ↔ x ∉ bs by simp, mb]
    constructor
    · rintro ⟨⟨a1, a2⟩, a3⟩
      exact ⟨a1, fun c => a3 ⟨c, a2⟩⟩
    · rintro ⟨a1, a2⟩
      exact ⟨⟨a1, (r a1).1⟩, fun c => a2 c.1⟩
theorem rd_captured (h : sp_captured K vs H Q E) : t_captured K { nx := fun _ H' => Q .non H', rt := Q } (start n_captured vs) H := by
  obtain ⟨v, d, rfl, r⟩ := h
  unfold t_captured
  walk_at "u"
  exact ⟨v, d, rfl, r⟩
theorem rd_l_number (h : sp_l_number K vs H Q E) : t_l_number K { nx := fun _ H' => Q .non H', rt := Q } (start n_l_number vs) H := by
  obtain ⟨m, l, rfl, hD, q⟩ := h
  unfold t_l_number
  walk_at "u"
  refine r_sq ?_
  walk_at "u"
  refine ⟨m, l, _, rfl, by decide, hD, fun i H1 i0 i1 hD1 k1 => ?_⟩
  walk_at "u"
  refine br_d (fun h1 => ?_) (fun h1 => ?_)
  · walk_at "u"
    refine ⟨szl (by simp), fun a ha => ?_⟩
    obtain ⟨H2, e2, s2, ea⟩ := lay_new (o := .lst [.int 2147483647, .int (-2147483648), .int (-1), .int 65536, .int 13, .int 12]) ha
    rw [e2]
    have hD2 := hD1.same s2
    have nam : a ≠ m := hD1.nep ha
    walk_at "u"
    refine ⟨m, l, _, rfl, by decide, hD2, fun j H3 j0 j1 hD3 k3 => ?_⟩
    obtain ⟨z, hz, z1, z2⟩ : ∃ z : Int, atI [V.int 2147483647, .int (-2147483648), .int (-1), .int 65536, .int 13, .int 12] j = some (.int z) ∧ -2147483648 ≤ z ∧ z ≤ 2147483647 := by
      rcases (show j = 0 ∨ j = 1 ∨ j = 2 ∨ j = 3 ∨ j = 4 ∨ j = 5 by omega) with e | e | e | e | e | e <;> subst e <;> exact ⟨_, rfl, by decide, by decide⟩
    refine r_ixL (SqL.of (by rw [k3 a nam]; exact ea)) hz ?_
    exact q z H3 z1 z2 hD3 ((Fr.of k1).trans ((Fr.same s2).trans (Fr.of k3)))
  · walk_at "u"
    refine ⟨m, l, _, rfl, by decide, hD1, fun j H3 j0 j1 hD3 k3 => ?_⟩
    walk_at "u"
    exact q _ H3 (by omega) (by omega) hD3 ((Fr.of k1).trans (Fr.of k3))
end
def dueF (U B : List Int) (j : Nat) : List Int := ((List.range j).map Int.ofNat).filter (fun x => decide (x ∈ U) && !decide (x ∈ B))
theorem dueF_succ (U B : List Int) (j : Nat) : dueF U B (j + 1) = dueF U B j ++ (if (decide ((j : Int) ∈ U) && !decide ((j : Int) ∈ B)) = true then [(j : Int)] else []) := by
  unfold dueF
  rw [List.range_succ, List.map_append, List.filter_append]
  congr 1
  simp only [List.map_cons, List.map_nil, List.filter_cons, List.filter_nil]
  rfl
theorem dueF_len (U B : List Int) (j : Nat) : (dueF U B j).length ≤ j := by
  unfold dueF
  have := List.length_filter_le (fun x => decide (x ∈ U) && !decide (x ∈ B)) ((List.range j).map Int.ofNat)
  rw [List.length_map, List.length_range] at this
  exact this
theorem dueF_rise (U B : List Int) (j : Nat) : (dueF U B j).Pairwise (· < ·) := by
  unfold dueF
  refine List.Pairwise.filter _ (List.Pairwise.map _ (fun a b h => ?_) List.pairwise_lt_range)
  exact Int.ofNat_lt.mpr h
theorem dueF_mem (U B : List Int) (x : Int) : x ∈ dueF U B 31 ↔ (0 ≤ x ∧ x < 31) ∧ x ∈ U ∧ x ∉ B := by
  unfold dueF
  rw [List.mem_filter, List.mem_map]
  simp only [List.mem_range, Bool.and_eq_true, decide_eq_true_eq, Bool.not_eq_true', decide_eq_false_iff_not]
  constructor
  · rintro ⟨⟨a, ha, rfl⟩, b⟩
    exact ⟨⟨Int.natCast_nonneg a, by have : (Int.ofNat a) = (a : Int) := rfl; omega⟩, b⟩
  · rintro ⟨⟨a, b⟩, c⟩
    exact ⟨⟨x.toNat, by omega, Int.toNat_of_nonneg a⟩, c⟩
section
variable {K : PySem.W.Frag} {vs : List V} {H : Hp} {Q : VK} {E : XK} {n : Nat}
/-- a comprehension of draws made a tuple -/
theorem IntD.of {ds : List D} (g : ∀ d ∈ ds, ∃ i, d = .int i ∧ 0 ≤ i ∧ i < 31) : ∃ is : List Int, ds = is.map D.int ∧ ∀ i ∈ is, 0 ≤ i ∧ i < 31 := ints_of g
abbrev IntG : D → Prop := fun d => ∃ i, d = .int i ∧ 0 ≤ i ∧ i < 31
theorem rd_l_block (h : spr_l_block (n + 1) K vs H Q E) : t_l_block K (spr_l_block n) { nx := fun _ H' => Q .non H', rt := Q } (start n_l_block vs) H := by
  obtain ⟨m, l, k, rfl, hk, _, hD, q⟩ := h
  unfold t_l_block
  refine r_cut (fun σ' H' => Fr m H H' ∧ Dm H' m l ∧ ∃ (v : V) (bs : List Int), Td K H' v (.tup (bs.map .int)) ∧ bs.length ≤ 3 ∧ (∀ b ∈ bs, 0 ≤ b ∧ b < 31) ∧ σ' = [some (.ref m), some (.int k), none, some v, none, none, none, none, none, none]) ?_ ?_
  · walk_at "u"
    refine ⟨m, l, _, rfl, by decide, hD, fun i H1 i0 i1 hD1 k1 => ?_⟩
    walk_at "u"
    refine ⟨by omega, by omega, fun A hA => c_range (CD K (fun H => Dm H m l) m A H1 IntG) (CD.start (hD1.new hA) hA) ?_ ?_⟩
    · intro r H2 hr c
      walk_at "u"
      refine ⟨rfl, ?_⟩
      walk_at "u"
      refine ⟨m, l, _, rfl, by decide, c.1, fun j H3 j0 j1 hD3 k3 => ?_⟩
      exact c.stepM hA (hD1.nep hA) (hD1.nel hA) (by omega) hD3 (Fr.of k3) (.int j) ⟨j, rfl, j0, j1⟩
    · rintro H2 ⟨hD2, f2, us, ds, e2, t2, l2, g2⟩
      obtain ⟨bs, rfl, rb⟩ := IntD.of g2
      walk_at "u"
      refine r_tupleD (SqL.of e2) t2 fun u H3 s3 t3 => ?_
      walk_at "u"
      exact ⟨(Fr.of k1).trans (f2.trans (Fr.same s3)), hD2.same s3, u, bs, t3, by rw [List.length_map] at l2; omega, rb, rfl⟩
  rintro σ H1 ⟨f1, hD1, v, bs, t1, l1, rb, rfl⟩
  walk_at "u"
  refine ⟨szl (by simp), fun A hA => ?_⟩
  obtain ⟨H2, e2, s2, eA⟩ := lay_new (o := .lst []) hA
  have hD2 := hD1.same s2
  have hAm : A ≠ m := hD1.nep hA
  have hAl : A ≠ l := hD1.nel hA
  have cd0 : CD K (fun H => Dm H m l) m A H1 (StepD (BD n)) 0 H2 := e2 ▸ CD.start (hD1.new hA) hA
  rw [e2]
  walk_at "u"
  refine r_cut (fun σ' H' => ∃ j, j ≤ 12 ∧ CD K (fun H => Dm H m l) m A H1 (StepD (BD n)) j H' ∧ ∃ y2 y5 y6 y7 y8 y9, σ' = [some (.ref m), some (.int k), y2, some v, some (.ref A), y5, y6, y7, y8, y9]) ?_ ?_
  · walk_at "u"
    refine r_ifCI ?_
    walk_at "u"
    refine ⟨m, l, _, rfl, by split <;> decide, hD2, fun N H3 n0 n1 hD3 k3 => ?_⟩
    have n13 : N < 13 := by split at n1 <;> omega
    walk_at "u"
    have cd3 : CD K (fun H => Dm H m l) m A H1 (StepD (BD n)) 0 H3 := by
      obtain ⟨_, f, vs, ds, a1, a2, a3, a4⟩ := cd0
      exact ⟨hD3, f.trans (Fr.of k3), vs, ds, by rw [k3 A hAm]; exact a1, a2.k (hD2.tk (Fr.of k3)), a3, a4⟩
    refine ⟨by omega, by omega, f_range (fun j σ' H' => j ≤ 12 ∧ CD K (fun H => Dm H m l) m A H1 (StepD (BD n)) j H' ∧ ∃ y2 y5 y6 y7 y8 y9, σ' = [some (.ref m), some (.int k), y2, some v, some (.ref A), y5, y6, y7, y8, y9]) ⟨by omega, cd3, _, _, _, _, _, _, rfl⟩ ?_ ?_⟩
    · rintro j σ H4 hj ⟨hj0, c4, y2, y5, y6, y7, y8, y9, rfl⟩
      have hD4 : Dm H4 m l := c4.1
      walk_at "u"
      refine ⟨szl (by simp), fun B0 hB0 => ?_⟩
      obtain ⟨H5, e5, s5, eB0⟩ := lay_new (o := .lst []) hB0
      rw [e5]
      have hD5 := hD4.same s5
      walk_at "u"
      generalize some (V.int (0 + (j : Int))) = w2
      refine r_cut (fun σ' H' => Fr m H4 H' ∧ Dm H' m l ∧ ∃ B ws bl, H' B = some (.lst ws) ∧ TdL K H' ws bl ∧ bl.length ≤ 3 ∧ (∀ b ∈ bl, BD n b) ∧ σ' = [some (.ref m), some (.int k), w2, some v, some (.ref A), some (.ref B), y6, y7, y8, y9]) ?_ ?_
      · have keep : ∀ H', Dm H' m l → Fr m H5 H' → (Fr m H4 H' ∧ Dm H' m l ∧ ∃ B ws bl, H' B = some (.lst ws) ∧ TdL K H' ws bl ∧ bl.length ≤ 3 ∧ (∀ b ∈ bl, BD n b) ∧ [some (V.ref m), some (V.int k), w2, some v, some (V.ref A), some (V.ref B0), y6, y7, y8, y9] = [some (.ref m), some (.int k), w2, some v, some (.ref A), some (.ref B), y6, y7, y8, y9]) := fun H' hD' f' =>
          ⟨(Fr.same s5).trans f', hD', B0, [], [], f' _ _ (hD4.nep hB0) eB0, .nil, by simp, (fun _ h => nomatch h), rfl⟩
        walk_at "u"
        refine br_d (fun h1 => ?_) (fun h1 => ?_)
        · walk_at "u"
          refine ⟨m, l, _, rfl, by decide, hD5, fun i H6 i0 i1 hD6 k6 => ?_⟩
          walk_at "u"
          refine br_d (fun h2 => ?_) (fun h2 => ?_)
          · walk_at "u"
            refine ⟨m, l, _, rfl, by decide, hD6, fun i H7 i0 i1 hD7 k7 => ?_⟩
            walk_at "u"
            refine ⟨by omega, by omega, fun C hC => c_range (CD K (fun H => Dm H m l) m C H7 (BD n)) (CD.start (hD7.new hC) hC) ?_ ?_⟩
            · intro r H8 hr c8
              walk_at "u"
              refine ⟨rfl, ?_⟩
              walk_at "u"
              refine ⟨m, l, k + 1, rfl, by omega, by omega, c8.1, fun v2 d2 H9 bd2 t2 hD9 f9 => ?_⟩
              exact c8.stepM hC (hD7.nep hC) (hD7.nel hC) (by omega) hD9 f9 t2 bd2
            · rintro H8 ⟨hD8, f8, us, ds, e8, t8, l8, g8⟩
              walk_at "u"
              exact ⟨(Fr.same s5).trans ((Fr.of k6).trans ((Fr.of k7).trans f8)), hD8, C, us, ds, e8, t8, by omega, g8, rfl⟩
          · walk_at "u"
            exact keep _ hD6 (Fr.of k6)
        · walk_at "u"
          exact keep _ hD5 Fr.refl
      rintro σ H6 ⟨f6, hD6, B, ws, bl, eB, tB, lB, gB, rfl⟩
      refine r_cut (fun σ' H' => Fr m H6 H' ∧ Dm H' m l ∧ ∃ (u : V) (ins : List Int), Td K H' u (.tup (ins.map .int)) ∧ ins.length ≤ 3 ∧ (∀ b ∈ ins, 0 ≤ b ∧ b < 31) ∧ σ' = [some (.ref m), some (.int k), w2, some v, some (.ref A), some (.ref B), some u, y7, y8, y9]) ?_ ?_
      · walk_at "u"
        refine ⟨m, l, _, rfl, by decide, hD6, fun i H7 i0 i1 hD7 k7 => ?_⟩
        walk_at "u"
        refine ⟨by omega, by omega, fun C hC => c_range (CD K (fun H => Dm H m l) m C H7 IntG) (CD.start (hD7.new hC) hC) ?_ ?_⟩
        · intro r H8 hr c
          walk_at "u"
          refine ⟨rfl, ?_⟩
          walk_at "u"
          refine ⟨m, l, _, rfl, by decide, c.1, fun j H9 j0 j1 hD9 k9 => ?_⟩
          exact c.stepM hC (hD7.nep hC) (hD7.nel hC) (by omega) hD9 (Fr.of k9) (.int j) ⟨j, rfl, j0, j1⟩
        · rintro H8 ⟨hD8, f8, us, ds, e8, t8, l8, g8⟩
          obtain ⟨ins, rfl, rb⟩ := IntD.of g8
          walk_at "u"
          refine r_tupleD (SqL.of e8) t8 fun u H9 s9 t9 => ?_
          walk_at "u"
          exact ⟨(Fr.of k7).trans (f8.trans (Fr.same s9)), hD8.same s9, u, ins, t9, by rw [List.length_map] at l8; omega, rb, rfl⟩
      rintro σ H7 ⟨f7, hD7, u, ins, tu, li, ri, rfl⟩
      refine r_cut (fun σ' H' => Fr m H7 H' ∧ Dm H' m l ∧ ∃ (x : Str), σ' = [some (.ref m), some (.int k), w2, some v, some (.ref A), some (.ref B), some u, some (.str x), y8, y9]) ?_ ?_
      · walk_at "u"
        refine ⟨szl (by simp), fun C hC => ?_⟩
        obtain ⟨H8, e8, s8, eC⟩ := lay_new (o := .lst [.str "tuple", .str "case", .str "fn", .str "end"]) hC
        rw [e8]
        have hD8 := hD7.same s8
        walk_at "u"
        refine ⟨m, l, _, rfl, by decide, hD8, fun i H9 i0 i1 hD9 k9 => ?_⟩
        obtain ⟨z, hz⟩ : ∃ z : Str, atI [V.str "tuple", .str "case", .str "fn", .str "end"] i = some (.str z) := by
          rcases (show i = 0 ∨ i = 1 ∨ i = 2 ∨ i = 3 by omega) with e | e | e | e <;> subst e <;> exact ⟨_, rfl⟩
        refine r_ixL (SqL.of (by rw [k9 C (hD7.nep hC)]; exact eC)) hz ?_
        walk_at "u"
        exact ⟨(Fr.same s8).trans (Fr.of k9), hD9, z, rfl⟩
      rintro σ H8 ⟨f8, hD8, x, rfl⟩
      refine r_cut (fun σ' H' => Fr m H8 H' ∧ Dm H' m l ∧ ∃ (z : Int), z < 31 ∧ σ' = [some (.ref m), some (.int k), w2, some v, some (.ref A), some (.ref B), some u, some (.str x), some (.int z), y9]) ?_ ?_
      · walk_at "u"
        refine ⟨m, l, _, rfl, by decide, hD8, fun i H9 i0 i1 hD9 k9 => ?_⟩
        walk_at "u"
        refine ⟨Fr.of k9, hD9, _, ?_, rfl⟩
        by_cases e : x = "end"
        · simp only [e]; simp; omega
        · simp [e]; omega
      rintro σ H9 ⟨f9, hD9, z, hz, rfl⟩
      obtain ⟨accA, eA9⟩ : ∃ acc, H9 A = some (.lst acc) := by
        obtain ⟨_, _, acc, _, eA4, _⟩ := c4
        exact ⟨acc, f9 _ _ hAm (f8 _ _ hAm (f7 _ _ hAm (f6 _ _ hAm eA4)))⟩
      walk_at "u"
      refine ⟨szl (by simp), fun C hC => ?_⟩
      obtain ⟨G1, g1, s1, t1'⟩ := Td.lay (K := K) hC .nil
      rw [g1]
      walk_at "u"
      refine ⟨szl (by simp), fun C2 hC2 => ?_⟩
      obtain ⟨G2, g2, s2', t2'⟩ := Td.lay (K := K) hC2 (.cons (.str _) (.cons t1' (.cons (.int 0) .nil)))
      rw [g2]
      walk_at "u"
      refine ⟨szl (by simp), fun C3 hC3 => ?_⟩
      obtain ⟨G3, g3, s3', t3'⟩ := Td.lay (K := K) hC3 .nil
      rw [g3]
      have sG := s1.trans (s2'.trans s3')
      have eB9 : G3 B = some (.lst ws) := sG _ _ (f9 _ _ (fun c => by rw [c] at eB; obtain ⟨xs, at_, hm, hl⟩ := hD6; rw [hm] at eB; cases eB) (f8 _ _ (fun c => by rw [c] at eB; obtain ⟨xs, at_, hm, hl⟩ := hD6; rw [hm] at eB; cases eB) (f7 _ _ (fun c => by rw [c] at eB; obtain ⟨xs, at_, hm, hl⟩ := hD6; rw [hm] at eB; cases eB) eB)))
      have tB9 := tB.k ((hD6.tk (f7.trans (f8.trans f9))).trans (Same.tk sG))
      have tu9 := tu.k ((hD7.tk (f8.trans f9)).trans (Same.tk sG))
      walk_at "u"
      refine r_tupleD (SqL.of eB9) tB9 fun ub G4 s4 t4 => ?_
      walk_at "u"
      refine ⟨szl (by simp), fun C5 hC5 => ?_⟩
      obtain ⟨G5, g5, s5', t5'⟩ := Td.lay (K := K) hC5 (.cons (.str x) (.cons (.int (max z (-1))) (.cons (t2'.k (Same.tk (s3'.trans s4))) (.cons (tu9.k (Same.tk s4)) (.cons .non (.cons (.int 0) (.cons (t3'.k (Same.tk s4)) (.cons t4 .nil))))))))
      rw [g5]
      walk_at "u"
      have sG5 := sG.trans (s4.trans s5')
      refine c4.appM hA hAm hAl (by omega) (hD9.same sG5) (f6.trans (f7.trans (f8.trans (f9.trans (Fr.same sG5))))) t5' ⟨_, _, _, _, _, _, _, ins, rfl, by omega, by omega, li, ri, lB, gB⟩ fun H'' c => ?_
      walk_at "u"
      exact ⟨by omega, c, _, _, _, _, _, _, rfl⟩
    · rintro σ H4 ⟨hj0, c4, hy⟩
      walk_at "u"
      exact ⟨_, hj0, c4, hy⟩
  rintro σ H3 ⟨j, hj, ⟨hD3, f3, us, ds, e3, t3, l3, g3⟩, y2, y5, y6, y7, y8, y9, rfl⟩
  walk_at "u"
  refine r_tupleD (SqL.of e3) t3 fun u H4 s4 t4 => ?_
  walk_at "u"
  refine ⟨m, l, _, rfl, by decide, hD3.same s4, fun o H5 o0 o1 hD5 k5 => ?_⟩
  walk_at "u"
  refine ⟨szl (by simp), fun b hb => ?_⟩
  have fA : Fr m H1 H5 := f3.trans ((Fr.same s4).trans (Fr.of k5))
  exact q _ (.tup [.tup (bs.map .int), .tup ds, .int o]) _ ⟨bs, ds, o, rfl, l1, rb, o0, o1, by omega, g3⟩ (Td.newT (.cons (t1.k (hD1.tk fA)) (.cons (t4.k ((hD3.same s4).tk (Fr.of k5))) (.cons (.int o) .nil))) hb) (hD5.new hb) (f1.trans (fA.trans (Fr.new hb)))
end
theorem eqb_ints : ∀ (is : List Int), D.eqL (is.map D.int) (is.map D.int) = true
  | [] => rfl
  | i :: r => by
    rw [List.map_cons, D.eqL, eqb_ints r]
    simp [D.eqb]
theorem fit_ints (is : List Int) (h : is.length ≤ 60000) : D.fit 1 (.tup (is.map .int)) = true :=
  D.fit_tup.mpr ⟨by rw [List.length_map]; exact h, fun e he => by
    obtain ⟨i, _, rfl⟩ := List.mem_map.mp he
    exact D.fit_int⟩
theorem Dm.fr2 {H H' : Hp} {m l u b : Addr} (h : Dm H m l) (f : Fr2 u b H H') (h1 : m ≠ u) (h2 : m ≠ b) (h3 : l ≠ u) (h4 : l ≠ b) : Dm H' m l := by
  obtain ⟨xs, at_, hm, hl⟩ := h
  exact ⟨xs, at_, f _ _ h1 h2 hm, f _ _ h3 h4 hl⟩
section
variable {K : PySem.W.Frag} {vs : List V} {H : Hp} {Q : VK} {E : XK} {n : Nat}
theorem rd_law (h : sp_law K vs H Q E) : t_law K { nx := fun _ H' => Q .non H', rt := Q } (start n_law vs) H := by
  obtain ⟨a, ns, rfl, hs, hlen, q⟩ := h
  unfold t_law
  walk_at "u"
  intro m hm
  obtain ⟨H1, e1, s1, em⟩ := lay_new (o := .dK []) hm
  rw [e1]
  dsimp only [tPairs]
  walk_at "u"
  refine ⟨a, ns, rfl, SqL.k hs s1, hlen, fun l xs H2 s2 hl el => ?_⟩
  walk_at "u"
  have nml : l ≠ m := (ne_of_none em hl).symm
  refine ⟨s2 _ _ em, [(.inr "draws", .ref l), (.inr "at", .int 0)], rfl, by simp, ?_⟩
  have hD : Dm (upd H2 m (.dK (mergeK [] [(.inr "draws", .ref l), (.inr "at", .int 0)]))) m l := ⟨xs, 0, upd_same, by rw [upd_ne nml]; exact el⟩
  generalize upd H2 m (.dK (mergeK [] [(.inr "draws", .ref l), (.inr "at", .int 0)])) = H3 at hD
  walk_at "u"
  refine r_cut (fun _ _ => True) ?_ ?_
  · walk_at "u"
    refine ⟨by decide, by decide, f_range (fun i σ' H' => Dm H' m l ∧ ∃ y2 y3 y4 y5 y6 y7 y8 y9, σ' = [some (.ref a), some (.ref m), y2, y3, y4, y5, y6, y7, y8, y9]) ⟨hD, none, none, none, none, none, none, none, none, rfl⟩ ?_ ?_⟩
    · rintro i σ' H4 hi ⟨hD4, y2, y3, y4, y5, y6, y7, y8, y9, rfl⟩
      walk_at "u"
      generalize some (V.int (0 + (i : Int))) = w2
      refine ⟨m, l, 0, rfl, by decide, by decide, hD4, fun v d H5 bd t5 hD5 f5 => ?_⟩
      walk_at "u"
      refine ⟨szl (by simp), fun u hu => ?_⟩
      obtain ⟨H6, e6, s6, eu⟩ := lay_new (o := .lst []) hu
      rw [e6]
      walk_at "u"
      refine ⟨szl (by simp), fun b hb => ?_⟩
      obtain ⟨H7, e7, s7, eb⟩ := lay_new (o := .lst []) hb
      rw [e7]
      have ne : u ≠ b := ne_of_none eu hb
      have hD7 := (hD5.same s6).same s7
      have um : u ≠ m := hD5.nep hu
      have ul : u ≠ l := hD5.nel hu
      have bm : b ≠ m := (hD5.same s6).nep hb
      have bl : b ≠ l := (hD5.same s6).nel hb
      have eu7 : LstL H7 u [] := s7 _ _ eu
      have eb7 : LstL H7 b [] := eb
      walk_at "u"
      refine ⟨v, d, u, b, [], [], rfl, t5.k (Same.tk (s6.trans s7)), bd, ne, eu7, eb7, by decide, by decide, fun H8 f8 u8 b8 => ?_⟩
      rw [List.nil_append] at u8 b8
      have t8 := (t5.k (Same.tk (s6.trans s7))).k (f8.tk (Nt.lst eu7) (Nt.lst eb7))
      have hD8 := hD7.fr2 f8 um.symm bm.symm ul.symm bl.symm
      walk_at "u"
      refine ⟨szl (by simp), fun c hc => ?_⟩
      obtain ⟨H9, e9, s9, ec⟩ := lay_new (o := .lst []) hc
      rw [e9]
      have u9 : LstL H9 u _ := s9 _ _ u8
      have b9 : LstL H9 b _ := s9 _ _ b8
      have uc : u ≠ c := ne_of_none u8 hc
      have bc : b ≠ c := ne_of_none b8 hc
      have hD9 := hD8.same s9
      have t9 := t8.k (Same.tk s9)
      have cm : c ≠ m := hD8.nep hc
      have cl : c ≠ l := hD8.nel hc
      walk_at "u"
      refine r_cut (fun σ' H' => LstL H' c (dueF (usedF 4 d) (boundF 4 d) 31) ∧ Fr c H9 H' ∧ ∃ y7, σ' = [some (.ref a), some (.ref m), w2, some v, some (.ref u), some (.ref b), some (.ref c), y7, y8, y9]) ?_ ?_
      · walk_at "u"
        refine ⟨by decide, by decide, f_range (fun j σ' H' => j ≤ 31 ∧ LstL H' c (dueF (usedF 4 d) (boundF 4 d) j) ∧ Fr c H9 H' ∧ ∃ y7, σ' = [some (.ref a), some (.ref m), w2, some v, some (.ref u), some (.ref b), some (.ref c), y7, y8, y9]) ⟨by omega, ec, Fr.refl, _, rfl⟩ ?_ ?_⟩
        · rintro j σ H10 hj ⟨hj0, c10, f10, z7, rfl⟩
          have hj : j < 31 := hj
          have u10 : LstL H10 u _ := f10 _ _ uc u9
          have b10 : LstL H10 b _ := f10 _ _ bc b9
          rw [dueF_succ]
          rw [Int.zero_add]
          walk_at "u"
          refine r_inI (SqL.of u10) ?_
          walk_at "u"
          refine br_d (fun h1 => ?_) (fun h1 => ?_)
          · walk_at "u"
            refine r_niI (SqL.of b10) ?_
            walk_at "u"
            refine br_nd (fun h2 => ?_) (fun h2 => ?_)
            · walk_at "u"
              refine app_len c10 (by have := dueF_len (usedF 4 d) (boundF 4 d) j; omega) fun H11 ⟨o, e⟩ sl => ?_
              subst e
              walk_at "u"
              refine ⟨by omega, ?_, f10.self, _, rfl⟩
              simp only [h1, h2, decide_true, decide_false, Bool.not_false, Bool.and_self, if_true]
              exact sl
            · walk_at "u"
              refine ⟨by omega, ?_, f10, _, rfl⟩
              simpa [h1, h2] using c10
          · walk_at "u"
            refine ⟨by omega, ?_, f10, _, rfl⟩
            simpa [h1] using c10
        · rintro σ H10 ⟨hj0, c10, f10, hy⟩
          walk_at "u"
          exact ⟨c10, f10, hy⟩
      rintro σ H10 ⟨c10, f10, z7, rfl⟩
      have hD10 : Dm H10 m l := by
        obtain ⟨xs, at_, hm, hl⟩ := hD9
        exact ⟨xs, at_, f10 _ _ cm.symm hm, f10 _ _ cl.symm hl⟩
      have t10 : Td K H10 v d := t9.k (f10.tk ec)
      walk_at "u"
      refine ⟨by decide, by decide, f_range (fun j σ' H' => Same H10 H' ∧ ∃ y7 y8 y9, σ' = [some (.ref a), some (.ref m), w2, some v, some (.ref u), some (.ref b), some (.ref c), y7, y8, y9]) ⟨Same.refl _, _, _, _, rfl⟩ ?_ ?_⟩
      · rintro j σ H11 hj ⟨s11, z7, z8, z9, rfl⟩
        walk_at "u"
        refine ⟨v, d, rfl, t10.k (Same.tk s11), bd, fun p ns H12 s12 ep hr hmem => ?_⟩
        have edue : ns = dueF (usedF 4 d) (boundF 4 d) 31 := rise_eq hr (dueF_rise _ _ _) fun x => by
          rw [hmem, dueF_mem]
          exact ⟨fun h => ⟨used_rng bd x h.1, h⟩, fun h => h.2⟩
        subst edue
        have l31 := dueF_len (usedF 4 d) (boundF 4 d) 31
        walk_at "u"
        have c12 : LstL H12 c _ := s12 _ _ (s11 _ _ c10)
        refine r_cut (fun σ' H' => Same H12 H' ∧ σ' = [some (.ref a), some (.ref m), w2, some v, some (.ref u), some (.ref b), some (.ref c), z7, some (.int (0 + (j : Int))), some (.ref p)]) ?_ ?_
        · walk_at "u"
          refine r_iT_tuple ep ?_
          walk_at "u"
          refine r_tupleD (ds := (dueF (usedF 4 d) (boundF 4 d) 31).map .int) (SqL.of c12) TdL.ints fun w H13 s13 t13 => ?_
          have tp : Td K H13 (.ref p) (.tup ((dueF (usedF 4 d) (boundF 4 d) 31).map .int)) := .tup (SqT.of (s13 _ _ ep)) TdL.ints
          refine r_neD (n := 1) tp t13 (fit_ints _ (by omega)) (fit_ints _ (by omega)) (by decide) ?_
          rw [show D.eqb (.tup ((dueF (usedF 4 d) (boundF 4 d) 31).map .int)) (.tup ((dueF (usedF 4 d) (boundF 4 d) 31).map .int)) = true from (by rw [D.eqb]; exact eqb_ints _)]
          walk_at "u"
          exact ⟨s13, rfl⟩
        rintro σ H13 ⟨s13, rfl⟩
        have ep13 := s13 _ _ ep
        walk_at "u"
        refine it_tup ?_
        walk_at "u"
        refine ⟨p, rfl, ⟨_, SqT.of ep13⟩, fun A hA => c_tups (xs := (dueF (usedF 4 d) (boundF 4 d) 31).map V.int) (CF A H13 ((dueF (usedF 4 d) (boundF 4 d) 31).map fun _ => V.bl true)) (CF.start hA) (fun i H' c => SqT.of (c.1 _ _ ep13)) ?_ ?_⟩
        · intro r x H14 hx c
          obtain ⟨k, hk, rfl⟩ := get_ints hx
          have rl := (List.getElem?_eq_some_iff.mp hk).1
          walk_at "u"
          refine ⟨rfl, ?_⟩
          walk_at "u"
          exact c.step hA (Same.refl _) (by rw [List.getElem?_map, hk]; rfl) (by omega)
        · intro H14 c
          rw [List.length_map] at c
          have e := CF.done (ys := (dueF (usedF 4 d) (boundF 4 d) 31).map fun _ => V.bl true) (by rw [List.length_map]; exact c)
          walk_at "u"
          refine r_allL (bs := (dueF (usedF 4 d) (boundF 4 d) 31).map fun _ => true) (SqL.of (by rw [e, List.map_map]; rfl)) ?_
          rw [show (((dueF (usedF 4 d) (boundF 4 d) 31).map fun _ => true).all id) = true by rw [List.all_map]; simp]
          walk_at "u"
          exact ⟨((s11.trans s12).trans s13).trans c.1, _, _, _, rfl⟩
      · rintro σ H11 ⟨s11, z7, z8, z9, rfl⟩
        walk_at "u"
        exact ⟨hD10.same s11, _, _, _, _, _, _, _, _, rfl⟩
    · rintro σ' H' _
      walk_at "u"
      trivial
  rintro σ' H' _
  walk_at "u"
  exact q _
end
section
variable {K : PySem.W.Frag} {vs : List V} {H : Hp} {Q : VK} {E : XK} {n : Nat}
theorem len_gather (h : spr_gather (n + 1) K vs H Q E) : vs.length = (["block", "used", "bound"] : List Str).length := by
  first | (obtain ⟨rfl, _⟩ := h; rfl) | (obtain ⟨_, rfl, _⟩ := h; rfl) | (obtain ⟨_, _, rfl, _⟩ := h; rfl) | (obtain ⟨_, _, _, rfl, _⟩ := h; rfl) | (obtain ⟨_, _, _, _, rfl, _⟩ := h; rfl) | (obtain ⟨_, _, _, _, _, rfl, _⟩ := h; rfl) | (obtain ⟨_, _, _, _, _, _, rfl, _⟩ := h; rfl) | (obtain ⟨_, _, _, _, _, _, _, rfl, _⟩ := h; rfl) | (obtain ⟨_, _, _, _, _, _, _, _, rfl, _⟩ := h; rfl)
theorem len_names_captured (h : sp_names_captured K vs H Q E) : vs.length = (["block"] : List Str).length := by
  first | (obtain ⟨rfl, _⟩ := h; rfl) | (obtain ⟨_, rfl, _⟩ := h; rfl) | (obtain ⟨_, _, rfl, _⟩ := h; rfl) | (obtain ⟨_, _, _, rfl, _⟩ := h; rfl) | (obtain ⟨_, _, _, _, rfl, _⟩ := h; rfl) | (obtain ⟨_, _, _, _, _, rfl, _⟩ := h; rfl) | (obtain ⟨_, _, _, _, _, _, rfl, _⟩ := h; rfl) | (obtain ⟨_, _, _, _, _, _, _, rfl, _⟩ := h; rfl) | (obtain ⟨_, _, _, _, _, _, _, _, rfl, _⟩ := h; rfl)
theorem len_captured (h : sp_captured K vs H Q E) : vs.length = (["block"] : List Str).length := by
  first | (obtain ⟨rfl, _⟩ := h; rfl) | (obtain ⟨_, rfl, _⟩ := h; rfl) | (obtain ⟨_, _, rfl, _⟩ := h; rfl) | (obtain ⟨_, _, _, rfl, _⟩ := h; rfl) | (obtain ⟨_, _, _, _, rfl, _⟩ := h; rfl) | (obtain ⟨_, _, _, _, _, rfl, _⟩ := h; rfl) | (obtain ⟨_, _, _, _, _, _, rfl, _⟩ := h; rfl) | (obtain ⟨_, _, _, _, _, _, _, rfl, _⟩ := h; rfl) | (obtain ⟨_, _, _, _, _, _, _, _, rfl, _⟩ := h; rfl)
theorem len_l_draws (h : sp_l_draws K vs H Q E) : vs.length = (["_law_script"] : List Str).length := by
  first | (obtain ⟨rfl, _⟩ := h; rfl) | (obtain ⟨_, rfl, _⟩ := h; rfl) | (obtain ⟨_, _, rfl, _⟩ := h; rfl) | (obtain ⟨_, _, _, rfl, _⟩ := h; rfl) | (obtain ⟨_, _, _, _, rfl, _⟩ := h; rfl) | (obtain ⟨_, _, _, _, _, rfl, _⟩ := h; rfl) | (obtain ⟨_, _, _, _, _, _, rfl, _⟩ := h; rfl) | (obtain ⟨_, _, _, _, _, _, _, rfl, _⟩ := h; rfl) | (obtain ⟨_, _, _, _, _, _, _, _, rfl, _⟩ := h; rfl)
theorem len_l_take (h : sp_l_take K vs H Q E) : vs.length = (["_law_m", "_law_many"] : List Str).length := by
  first | (obtain ⟨rfl, _⟩ := h; rfl) | (obtain ⟨_, rfl, _⟩ := h; rfl) | (obtain ⟨_, _, rfl, _⟩ := h; rfl) | (obtain ⟨_, _, _, rfl, _⟩ := h; rfl) | (obtain ⟨_, _, _, _, rfl, _⟩ := h; rfl) | (obtain ⟨_, _, _, _, _, rfl, _⟩ := h; rfl) | (obtain ⟨_, _, _, _, _, _, rfl, _⟩ := h; rfl) | (obtain ⟨_, _, _, _, _, _, _, rfl, _⟩ := h; rfl) | (obtain ⟨_, _, _, _, _, _, _, _, rfl, _⟩ := h; rfl)
theorem len_l_number (h : sp_l_number K vs H Q E) : vs.length = (["_law_m"] : List Str).length := by
  first | (obtain ⟨rfl, _⟩ := h; rfl) | (obtain ⟨_, rfl, _⟩ := h; rfl) | (obtain ⟨_, _, rfl, _⟩ := h; rfl) | (obtain ⟨_, _, _, rfl, _⟩ := h; rfl) | (obtain ⟨_, _, _, _, rfl, _⟩ := h; rfl) | (obtain ⟨_, _, _, _, _, rfl, _⟩ := h; rfl) | (obtain ⟨_, _, _, _, _, _, rfl, _⟩ := h; rfl) | (obtain ⟨_, _, _, _, _, _, _, rfl, _⟩ := h; rfl) | (obtain ⟨_, _, _, _, _, _, _, _, rfl, _⟩ := h; rfl)
theorem len_l_block (h : spr_l_block (n + 1) K vs H Q E) : vs.length = (["_law_m", "_law_depth"] : List Str).length := by
  first | (obtain ⟨rfl, _⟩ := h; rfl) | (obtain ⟨_, rfl, _⟩ := h; rfl) | (obtain ⟨_, _, rfl, _⟩ := h; rfl) | (obtain ⟨_, _, _, rfl, _⟩ := h; rfl) | (obtain ⟨_, _, _, _, rfl, _⟩ := h; rfl) | (obtain ⟨_, _, _, _, _, rfl, _⟩ := h; rfl) | (obtain ⟨_, _, _, _, _, _, rfl, _⟩ := h; rfl) | (obtain ⟨_, _, _, _, _, _, _, rfl, _⟩ := h; rfl) | (obtain ⟨_, _, _, _, _, _, _, _, rfl, _⟩ := h; rfl)
theorem len_l_walk (h : spr_l_walk (n + 1) K vs H Q E) : vs.length = (["_law_block_here", "_law_used", "_law_bound"] : List Str).length := by
  first | (obtain ⟨rfl, _⟩ := h; rfl) | (obtain ⟨_, rfl, _⟩ := h; rfl) | (obtain ⟨_, _, rfl, _⟩ := h; rfl) | (obtain ⟨_, _, _, rfl, _⟩ := h; rfl) | (obtain ⟨_, _, _, _, rfl, _⟩ := h; rfl) | (obtain ⟨_, _, _, _, _, rfl, _⟩ := h; rfl) | (obtain ⟨_, _, _, _, _, _, rfl, _⟩ := h; rfl) | (obtain ⟨_, _, _, _, _, _, _, rfl, _⟩ := h; rfl) | (obtain ⟨_, _, _, _, _, _, _, _, rfl, _⟩ := h; rfl)
theorem len_law (h : sp_law K vs H Q E) : vs.length = (["_law_script"] : List Str).length := by
  first | (obtain ⟨rfl, _⟩ := h; rfl) | (obtain ⟨_, rfl, _⟩ := h; rfl) | (obtain ⟨_, _, rfl, _⟩ := h; rfl) | (obtain ⟨_, _, _, rfl, _⟩ := h; rfl) | (obtain ⟨_, _, _, _, rfl, _⟩ := h; rfl) | (obtain ⟨_, _, _, _, _, rfl, _⟩ := h; rfl) | (obtain ⟨_, _, _, _, _, _, rfl, _⟩ := h; rfl) | (obtain ⟨_, _, _, _, _, _, _, rfl, _⟩ := h; rfl) | (obtain ⟨_, _, _, _, _, _, _, _, rfl, _⟩ := h; rfl)
end
theorem law_in {K : PySem.W.Frag} {H : Hp} (a : Addr) (ns : List Int) (hl : ns.length ≤ 63) (h : SqL K H a (ns.map V.int)) : sp_law K [.ref a] H (fun v _ => v = .bl true) (fun _ _ _ => False) := ⟨a, ns, rfl, h, hl, fun _ => rfl⟩
def topS (i : Nat) : Stmt := PySem.Challenge.pw_escheat_k29_captured_variables.main.body.getD i (.Pass ⟨0, 0, 0, 0⟩)
abbrev s_gather : Stmt := topS 1
theorem sc_gather : FnScope n_gather ["block", "used", "bound"] (defScope s_gather) := ⟨rfl, rfl, rfl, by decide +kernel, rfl, by decide +kernel, by decide +kernel⟩
abbrev s_names_captured : Stmt := topS 2
theorem sc_names_captured : FnScope n_names_captured ["block"] (defScope s_names_captured) := ⟨rfl, rfl, rfl, by decide +kernel, rfl, by decide +kernel, by decide +kernel⟩
abbrev s_captured : Stmt := topS 4
theorem sc_captured : FnScope n_captured ["block"] (defScope s_captured) := ⟨rfl, rfl, rfl, by decide +kernel, rfl, by decide +kernel, by decide +kernel⟩
abbrev s_l_draws : Stmt := topS 6
theorem sc_l_draws : FnScope n_l_draws ["_law_script"] (defScope s_l_draws) := ⟨rfl, rfl, rfl, by decide +kernel, rfl, by decide +kernel, by decide +kernel⟩
abbrev s_l_take : Stmt := topS 7
theorem sc_l_take : FnScope n_l_take ["_law_m", "_law_many"] (defScope s_l_take) := ⟨rfl, rfl, rfl, by decide +kernel, rfl, by decide +kernel, by decide +kernel⟩
abbrev s_l_number : Stmt := topS 8
theorem sc_l_number : FnScope n_l_number ["_law_m"] (defScope s_l_number) := ⟨rfl, rfl, rfl, by decide +kernel, rfl, by decide +kernel, by decide +kernel⟩
abbrev s_l_block : Stmt := topS 9
theorem sc_l_block : FnScope n_l_block ["_law_m", "_law_depth"] (defScope s_l_block) := ⟨rfl, rfl, rfl, by decide +kernel, rfl, by decide +kernel, by decide +kernel⟩
abbrev s_l_walk : Stmt := topS 10
theorem sc_l_walk : FnScope n_l_walk ["_law_block_here", "_law_used", "_law_bound"] (defScope s_l_walk) := ⟨rfl, rfl, rfl, by decide +kernel, rfl, by decide +kernel, by decide +kernel⟩
abbrev s_law : Stmt := topS 11
theorem sc_law : FnScope n_law ["_law_script"] (defScope s_law) := ⟨rfl, rfl, rfl, by decide +kernel, rfl, by decide +kernel, by decide +kernel⟩
/-- what the top has left -/
structure Txt (K : PySem.W.Frag) (mg : Str → Option Value) : Prop where
  b_tuple : mg "tuple" = none
  b_sorted : mg "sorted" = none
  b_abs : mg "abs" = none
  b_range : mg "range" = none
  b_int : mg "int" = none
  b_len : mg "len" = none
  b_max : mg "max" = none
  b_isinstance : mg "isinstance" = none
  b_all : mg "all" = none
  b_bool : mg "bool" = none
  g_gather : mg "gather" = some (.ref (He.ga K "gather"))
  F_gather : ∃ fd, FunD K "gather" "gather" (defArgs s_gather) (defBody s_gather) (defScope s_gather) [] [] (He.ga K "gather") fd
  g_names_captured : mg "names_captured" = some (.ref (He.ga K "names_captured"))
  F_names_captured : ∃ fd, FunD K "names_captured" "names_captured" (defArgs s_names_captured) (defBody s_names_captured) (defScope s_names_captured) [] [] (He.ga K "names_captured") fd
  g_captured : mg "captured" = some (.ref (He.ga K "captured"))
  F_captured : ∃ fd, FunD K "captured" "captured" (defArgs s_captured) (defBody s_captured) (defScope s_captured) [] [] (He.ga K "captured") fd
  g_l_draws : mg "_law_draws" = some (.ref (He.ga K "_law_draws"))
  F_l_draws : ∃ fd, FunD K "_law_draws" "_law_draws" (defArgs s_l_draws) (defBody s_l_draws) (defScope s_l_draws) [] [] (He.ga K "_law_draws") fd
  g_l_take : mg "_law_take" = some (.ref (He.ga K "_law_take"))
  F_l_take : ∃ fd, FunD K "_law_take" "_law_take" (defArgs s_l_take) (defBody s_l_take) (defScope s_l_take) [] [] (He.ga K "_law_take") fd
  g_l_number : mg "_law_number" = some (.ref (He.ga K "_law_number"))
  F_l_number : ∃ fd, FunD K "_law_number" "_law_number" (defArgs s_l_number) (defBody s_l_number) (defScope s_l_number) [] [] (He.ga K "_law_number") fd
  g_l_block : mg "_law_block" = some (.ref (He.ga K "_law_block"))
  F_l_block : ∃ fd, FunD K "_law_block" "_law_block" (defArgs s_l_block) (defBody s_l_block) (defScope s_l_block) [] [] (He.ga K "_law_block") fd
  g_l_walk : mg "_law_walk" = some (.ref (He.ga K "_law_walk"))
  F_l_walk : ∃ fd, FunD K "_law_walk" "_law_walk" (defArgs s_l_walk) (defBody s_l_walk) (defScope s_l_walk) [] [] (He.ga K "_law_walk") fd
  g_law : mg "law" = some (.ref (He.ga K "law"))
  F_law : ∃ fd, FunD K "law" "law" (defArgs s_law) (defBody s_law) (defScope s_law) [] [] (He.ga K "law") fd
section
variable {P : Program} {w : World} {K : PySem.W.Frag} {mg : Str → Option Value} {base : Heap}
theorem okr_gather (T : Txt K mg)  : ∀ n, OkF P w K mg base (1 + n) "gather" ["block", "used", "bound"] (spr_gather n K) := by
  intro n
  obtain ⟨fd, F⟩ := T.F_gather
  induction n with
  | zero => exact ⟨_, fd, T.g_gather, (F.ok (k := 0) sc_gather (fun vs H Q E h => (no_gather h).elim) (fun cdv A outer s H vs Q E hr h => (no_gather h).elim)), FunD.bindsN F fun _ _ _ _ _ _ us hl => match us, hl with | [_, _, _], _ => rfl, F.kp⟩
  | succ n O_gather =>
    refine ⟨_, fd, T.g_gather, F.ok (k := 1 + n) sc_gather (fun vs H Q E h => len_gather h) (fun cdv A outer s H vs Q E hr h => ⟨t_gather K (spr_gather n), PSs.nox ?_, rd_gather h⟩), FunD.bindsN F fun _ _ _ _ _ _ us hl => match us, hl with | [_, _, _], _ => rfl, F.kp⟩
    exact (pss_c (ps_for PassesOwn.never rfl (pi_any (pe_ix i_x (pv 0) pe_int (fun _ _ => rfl))) (pg_name (i := 3) sc_gather.nd rfl (Or.inl rfl)) (pss_one (ps_dput (hu_of hr) (pv 2) (pv 3) pe_bl rfl)))
    (pss_c (ps_for PassesOwn.never rfl (pi_any (pe_ix i_x (pv 0) pe_int (fun _ _ => rfl))) (pg_name (i := 4) sc_gather.nd rfl (Or.inl rfl)) (pss_c (ps_for PassesOwn.never rfl (pi_any (pe_ix i_x (pv 4) pe_int (fun _ _ => rfl))) (pg_name (i := 3) sc_gather.nd rfl (Or.inl rfl)) (pss_one (ps_dput (hu_of hr) (pv 1) (pv 3) pe_bl rfl)))
    (pss_c (ps_if (pt_cmpR o_ge (pe_ix i_x (pv 4) pe_int (fun _ _ => rfl)) pe_int (nomark _)) (pss_one (ps_dput (hu_of hr) (pv 2) (pe_ix i_x (pv 4) pe_int (fun _ _ => rfl)) pe_bl rfl)) pss_nil)
    (pss_one (ps_for PassesOwn.never rfl (pi_any (pe_ix i_x (pv 4) pe_int (fun _ _ => rfl))) (pg_name (i := 5) sc_gather.nd rfl (Or.inl rfl)) (pss_one (ps_expr (pe_fn O_gather (hr.mono (by omega)) rfl (pa_cons (pv 5) (pa_cons (pv 1) (pa_cons (pv 2) pa_nil)))))))))))
    (pss_one (ps_dput (hu_of hr) (pv 1) (pe_ix i_x (pv 0) pe_int (fun _ _ => rfl)) pe_bl rfl))))
theorem ok_gather (T : Txt K mg)  : OkF P w K mg base 5 "gather" ["block", "used", "bound"] (sp_gather K) := okr_gather T  4
theorem ok_names_captured (T : Txt K mg) (O_gather : OkF P w K mg base 5 "gather" ["block", "used", "bound"] (sp_gather K)) : OkF P w K mg base 7 "names_captured" ["block"] (sp_names_captured K) := by
  obtain ⟨fd, F⟩ := T.F_names_captured
  refine ⟨_, fd, T.g_names_captured, F.ok sc_names_captured (fun vs H Q E h => len_names_captured h) (fun cdv A outer s H vs Q E hr h => ⟨t_names_captured K, PSs.nox ?_, rd_names_captured h⟩), FunD.bindsN F fun _ _ _ _ _ _ us hl => match us, hl with | [_], _ => rfl, F.kp⟩
  exact (pss_c (ps_set (i := 1) sc_names_captured.nd rfl (Or.inl rfl) pe_dnewK)
    (pss_c (ps_set (i := 2) sc_names_captured.nd rfl (Or.inr rfl) pe_dnewK)
    (pss_c (ps_expr (pe_fn O_gather (hr.mono (by omega)) rfl (pa_cons (pv 0) (pa_cons (pv 1) (pa_cons (pv 2) pa_nil)))))
    (pss_one (ps_ret (pe_callTy c_tuple (by rfl) T.b_tuple (by decide +kernel) (pa_cons (pe_callB c_sortI (by rfl) T.b_sorted (by decide +kernel) (pa_cons (pe_lock (pe_lc (own := [("name", 3)]) (g := (gName 3)) (tt := (tB (tDNotIn (tVar 3) (tVar 2)))) rfl sc_names_captured.nd (pi_keys (pv 1)) (blkOk_by (own := [("name", 3)]) (N := n_names_captured) (sc := defScope s_names_captured) (by first | decide +kernel | rfl)) (fun _ _ _ _ _ => pg_name (i := 3) sc_names_captured.nd rfl (Or.inl rfl)) (fun _ _ _ _ _ => pts_one (pt_cmp (pc_dnotin (hu_of hr) (pv 3) (pv 2)))) (fun _ _ _ _ _ => (pv 3)))) pa_nil)) pa_nil)))))))
theorem ok_captured (T : Txt K mg) (O_names_captured : OkF P w K mg base 7 "names_captured" ["block"] (sp_names_captured K)) : OkF P w K mg base 8 "captured" ["block"] (sp_captured K) := by
  obtain ⟨fd, F⟩ := T.F_captured
  refine ⟨_, fd, T.g_captured, F.ok sc_captured (fun vs H Q E h => len_captured h) (fun cdv A outer s H vs Q E hr h => ⟨t_captured K, PSs.nox ?_, rd_captured h⟩), FunD.bindsN F fun _ _ _ _ _ _ us hl => match us, hl with | [_], _ => rfl, F.kp⟩
  exact (pss_one (ps_ret (pe_fn O_names_captured (hr.mono (by omega)) rfl (pa_cons (pv 0) pa_nil))))
theorem ok_l_draws (T : Txt K mg)  : OkF P w K mg base 1 "_law_draws" ["_law_script"] (sp_l_draws K) := by
  obtain ⟨fd, F⟩ := T.F_l_draws
  refine ⟨_, fd, T.g_l_draws, F.ok sc_l_draws (fun vs H Q E h => len_l_draws h) (fun cdv A outer s H vs Q E hr h => ⟨t_l_draws K, PSs.nox ?_, rd_l_draws h⟩), FunD.bindsN F fun _ _ _ _ _ _ us hl => match us, hl with | [_], _ => rfl, F.kp⟩
  exact (pss_c (ps_set (i := 1) sc_l_draws.nd rfl (Or.inl rfl) (pe_lst pa_nil))
    (pss_c (ps_for PassesOwn.never rfl (pi_any (pe_slice s_l (pv 0) po_none (po_some pe_int))) (pg_name (i := 2) sc_l_draws.nd rfl (Or.inl rfl)) (pss_c (ps_set (i := 3) sc_l_draws.nd rfl (Or.inl rfl) (pe_callB c_abs (by rfl) T.b_abs (by decide +kernel) (pa_cons (pv 2) pa_nil)))
    (pss_one (ps_if (pt_cmpR o_ge (pv 3) pe_int (nomark _)) (pss_one (ps_for PassesOwn.never rfl (pi_range1 rfl T.b_range (pa_cons pe_int pa_nil)) (pg_name (i := 4) sc_l_draws.nd rfl (Or.inl rfl)) (pss_one (ps_if (pt_cmpR o_gt (pv 3) pe_int (nomark _)) (pss_c (ps_expr (pe_bm PySem.F.plainAttrs_list PySem.F.slot_list_append PySem.F.type_list_append m_append (pv 1) (pa_cons (pe_op o_mod (pe_callTy c_int (by rfl) T.b_int (by decide +kernel) (pa_cons (pv 3) pa_nil)) pe_int) pa_nil)))
    (pss_one (ps_set (i := 3) sc_l_draws.nd rfl (Or.inl rfl) (pe_op o_fdiv (pv 3) pe_int)))) pss_nil)))) (pss_c (ps_set (i := 5) sc_l_draws.nd rfl (Or.inl rfl) (pe_op o_mod (pe_callTy c_int (by rfl) T.b_int (by decide +kernel) (pa_cons (pe_op o_add (pe_op o_mul (pv 3) pe_int) pe_int) pa_nil)) pe_int))
    (pss_one (ps_for PassesOwn.never rfl (pi_range1 rfl T.b_range (pa_cons pe_int pa_nil)) (pg_name (i := 4) sc_l_draws.nd rfl (Or.inl rfl)) (pss_c (ps_set (i := 5) sc_l_draws.nd rfl (Or.inl rfl) (pe_op o_mod (pe_callTy c_int (by rfl) T.b_int (by decide +kernel) (pa_cons (pe_op o_add (pe_op o_add (pe_op o_mul (pv 5) pe_int) (pe_op o_mul pe_int (pv 4))) pe_int) pa_nil)) pe_int))
    (pss_one (ps_expr (pe_bm PySem.F.plainAttrs_list PySem.F.slot_list_append PySem.F.type_list_append m_append (pv 1) (pa_cons (pe_op o_fdiv (pv 5) pe_int) pa_nil))))))))))))
    (pss_one (ps_ret (pv 1)))))
theorem ok_l_take (T : Txt K mg)  : OkF P w K mg base 1 "_law_take" ["_law_m", "_law_many"] (sp_l_take K) := by
  obtain ⟨fd, F⟩ := T.F_l_take
  refine ⟨_, fd, T.g_l_take, F.ok sc_l_take (fun vs H Q E h => len_l_take h) (fun cdv A outer s H vs Q E hr h => ⟨t_l_take K, PSs.nox ?_, rd_l_take h⟩), FunD.bindsN F fun _ _ _ _ _ _ us hl => match us, hl with | [_, _], _ => rfl, F.kp⟩
  exact (pss_c (ps_set (i := 2) sc_l_take.nd rfl (Or.inl rfl) (pe_dget (hu_of hr) (pv 0) pe_str (fun _ _ => rfl)))
    (pss_c (ps_if (pt_cmpR o_ge (pv 2) (pe_callB c_len (by rfl) T.b_len (by decide +kernel) (pa_cons (pe_dget (hu_of hr) (pv 0) pe_str (fun _ _ => rfl)) pa_nil)) (nomark _)) (pss_one (ps_ret pe_int)) pss_nil)
    (pss_c (ps_dput (hu_of hr) (pv 0) pe_str (pe_op o_add (pv 2) pe_int) rfl)
    (pss_one (ps_ret (pe_op o_mod (pe_callTy c_int (by rfl) T.b_int (by decide +kernel) (pa_cons (pe_ix i_x (pe_dget (hu_of hr) (pv 0) pe_str (fun _ _ => rfl)) (pv 2) (fun _ _ => rfl)) pa_nil)) (pv 1)))))))
theorem ok_l_number (T : Txt K mg) (O_l_take : OkF P w K mg base 1 "_law_take" ["_law_m", "_law_many"] (sp_l_take K)) : OkF P w K mg base 2 "_law_number" ["_law_m"] (sp_l_number K) := by
  obtain ⟨fd, F⟩ := T.F_l_number
  refine ⟨_, fd, T.g_l_number, F.ok sc_l_number (fun vs H Q E h => len_l_number h) (fun cdv A outer s H vs Q E hr h => ⟨t_l_number K, PSs.nox ?_, rd_l_number h⟩), FunD.bindsN F fun _ _ _ _ _ _ us hl => match us, hl with | [_], _ => rfl, F.kp⟩
  exact (pss_c (ps_if (pt_cmpR (o_eq hr.units) (pe_fn O_l_take (hr.mono (by omega)) rfl (pa_cons (pv 0) (pa_cons pe_int pa_nil))) pe_int (nomark _)) (pss_one (ps_ret (pe_ix i_x (pe_lst (pa_cons pe_int (pa_cons (pe_un u_neg pe_int) (pa_cons (pe_un u_neg pe_int) (pa_cons pe_int (pa_cons pe_int (pa_cons pe_int pa_nil))))))) (pe_fn O_l_take (hr.mono (by omega)) rfl (pa_cons (pv 0) (pa_cons pe_int pa_nil))) (fun _ _ => rfl)))) pss_nil)
    (pss_one (ps_ret (pe_op o_sub (pe_fn O_l_take (hr.mono (by omega)) rfl (pa_cons (pv 0) (pa_cons pe_int pa_nil))) pe_int))))
theorem okr_l_block (T : Txt K mg) (O_l_take : OkF P w K mg base 1 "_law_take" ["_law_m", "_law_many"] (sp_l_take K)) : ∀ n, OkF P w K mg base (2 + n) "_law_block" ["_law_m", "_law_depth"] (spr_l_block n K) := by
  intro n
  obtain ⟨fd, F⟩ := T.F_l_block
  induction n with
  | zero => exact ⟨_, fd, T.g_l_block, (F.ok (k := 1) sc_l_block (fun vs H Q E h => (no_l_block h).elim) (fun cdv A outer s H vs Q E hr h => (no_l_block h).elim)), FunD.bindsN F fun _ _ _ _ _ _ us hl => match us, hl with | [_, _], _ => rfl, F.kp⟩
  | succ n O_l_block =>
    refine ⟨_, fd, T.g_l_block, F.ok (k := 2 + n) sc_l_block (fun vs H Q E h => len_l_block h) (fun cdv A outer s H vs Q E hr h => ⟨t_l_block K (spr_l_block n), PSs.nox ?_, rd_l_block h⟩), FunD.bindsN F fun _ _ _ _ _ _ us hl => match us, hl with | [_, _], _ => rfl, F.kp⟩
    exact (pss_c (ps_set (i := 3) sc_l_block.nd rfl (Or.inl rfl) (pe_callTy c_tuple (by rfl) T.b_tuple (by decide +kernel) (pa_cons (pe_lc (own := [("_law_k", 2)]) (g := (gName 2)) (tt := tYes) rfl sc_l_block.nd (pi_range1 rfl T.b_range (pa_cons (pe_fn O_l_take (hr.mono (by omega)) rfl (pa_cons (pv 0) (pa_cons pe_int pa_nil))) pa_nil)) (blkOk_by (own := [("_law_k", 2)]) (N := n_l_block) (sc := defScope s_l_block) (by first | decide +kernel | rfl)) (fun _ _ _ _ _ => pg_name (i := 2) sc_l_block.nd rfl (Or.inl rfl)) (fun _ _ _ _ _ => pts_nil) (fun _ _ _ _ _ => (pe_fn O_l_take (hr.mono (by omega)) rfl (pa_cons (pv 0) (pa_cons pe_int pa_nil))))) pa_nil)))
    (pss_c (ps_set (i := 4) sc_l_block.nd rfl (Or.inl rfl) (pe_lst pa_nil))
    (pss_c (ps_for PassesOwn.never rfl (pi_range1 rfl T.b_range (pa_cons (pe_fn O_l_take (hr.mono (by omega)) rfl (pa_cons (pv 0) (pa_cons (pe_ifExp (pt_cmpR (o_eq hr.units) (pv 1) pe_int (nomark _)) pe_int pe_int) pa_nil))) pa_nil)) (pg_name (i := 2) sc_l_block.nd rfl (Or.inl rfl)) (pss_c (ps_set (i := 5) sc_l_block.nd rfl (Or.inl rfl) (pe_lst pa_nil))
    (pss_c (ps_if (PW.pt (pw_and (pt_cmpR o_lt (pv 1) pe_int (nomark _)) (pw_and1 (pt_cmpR (o_eq hr.units) (pe_fn O_l_take (hr.mono (by omega)) rfl (pa_cons (pv 0) (pa_cons pe_int pa_nil))) pe_int (nomark _))))) (pss_one (ps_setLc (i := 5) (own := [("_law_j", 9)]) (g := (gName 9)) (tt := tYes) rfl sc_l_block.nd rfl rfl (sw_true rfl rfl rfl (by decide +kernel)) (pi_range1 rfl T.b_range (pa_cons (pe_op o_add pe_int (pe_fn O_l_take (hr.mono (by omega)) rfl (pa_cons (pv 0) (pa_cons pe_int pa_nil)))) pa_nil)) (blkOk_by (own := [("_law_j", 9)]) (N := n_l_block) (sc := defScope s_l_block) (by first | decide +kernel | rfl)) (fun _ _ _ _ _ => pg_name (i := 9) sc_l_block.nd rfl (Or.inl rfl)) (fun _ _ _ _ _ => pts_nil) (fun _ _ _ _ _ => (pe_fn O_l_block (hr.mono (by omega)) rfl (pa_cons (pv 0) (pa_cons (pe_op o_add (pv 1) pe_int) pa_nil)))))) pss_nil)
    (pss_c (ps_set (i := 6) sc_l_block.nd rfl (Or.inl rfl) (pe_callTy c_tuple (by rfl) T.b_tuple (by decide +kernel) (pa_cons (pe_lc (own := [("_law_j", 9)]) (g := (gName 9)) (tt := tYes) rfl sc_l_block.nd (pi_range1 rfl T.b_range (pa_cons (pe_fn O_l_take (hr.mono (by omega)) rfl (pa_cons (pv 0) (pa_cons pe_int pa_nil))) pa_nil)) (blkOk_by (own := [("_law_j", 9)]) (N := n_l_block) (sc := defScope s_l_block) (by first | decide +kernel | rfl)) (fun _ _ _ _ _ => pg_name (i := 9) sc_l_block.nd rfl (Or.inl rfl)) (fun _ _ _ _ _ => pts_nil) (fun _ _ _ _ _ => (pe_fn O_l_take (hr.mono (by omega)) rfl (pa_cons (pv 0) (pa_cons pe_int pa_nil))))) pa_nil)))
    (pss_c (ps_set (i := 7) sc_l_block.nd rfl (Or.inl rfl) (pe_ix i_x (pe_lst (pa_cons pe_str (pa_cons pe_str (pa_cons pe_str (pa_cons pe_str pa_nil))))) (pe_fn O_l_take (hr.mono (by omega)) rfl (pa_cons (pv 0) (pa_cons pe_int pa_nil))) (fun _ _ => rfl)))
    (pss_c (ps_set (i := 8) sc_l_block.nd rfl (Or.inl rfl) (pe_op o_sub (pe_fn O_l_take (hr.mono (by omega)) rfl (pa_cons (pv 0) (pa_cons pe_int pa_nil))) (pe_op o_mul (pe_callTy c_int (by rfl) T.b_int (by decide +kernel) (pa_cons (pe_cmpR (o_eq hr.units) (pv 7) pe_str (nomark _)) pa_nil)) pe_int)))
    (pss_one (ps_expr (pe_bm PySem.F.plainAttrs_list PySem.F.slot_list_append PySem.F.type_list_append m_append (pv 4) (pa_cons (pe_tup (pa_cons (pv 7) (pa_cons (pe_callB (c_max rfl) (by rfl) T.b_max (by decide +kernel) (pa_cons (pv 8) (pa_cons (pe_un u_neg pe_int) pa_nil))) (pa_cons (pe_tup (pa_cons pe_str (pa_cons (pe_tup pa_nil) (pa_cons pe_int pa_nil)))) (pa_cons (pv 6) (pa_cons pe_non (pa_cons pe_int (pa_cons (pe_tup pa_nil) (pa_cons (pe_callTy c_tuple (by rfl) T.b_tuple (by decide +kernel) (pa_cons (pv 5) pa_nil)) pa_nil))))))))) pa_nil))))))))))
    (pss_one (ps_ret (pe_tup (pa_cons (pv 3) (pa_cons (pe_callTy c_tuple (by rfl) T.b_tuple (by decide +kernel) (pa_cons (pv 4) pa_nil)) (pa_cons (pe_fn O_l_take (hr.mono (by omega)) rfl (pa_cons (pv 0) (pa_cons pe_int pa_nil))) pa_nil)))))))))
theorem ok_l_block (T : Txt K mg) (O_l_take : OkF P w K mg base 1 "_law_take" ["_law_m", "_law_many"] (sp_l_take K)) : OkF P w K mg base 6 "_law_block" ["_law_m", "_law_depth"] (sp_l_block K) := okr_l_block T O_l_take 4
theorem okr_l_walk (T : Txt K mg)  : ∀ n, OkF P w K mg base (1 + n) "_law_walk" ["_law_block_here", "_law_used", "_law_bound"] (spr_l_walk n K) := by
  intro n
  obtain ⟨fd, F⟩ := T.F_l_walk
  induction n with
  | zero => exact ⟨_, fd, T.g_l_walk, (F.ok (k := 0) sc_l_walk (fun vs H Q E h => (no_l_walk h).elim) (fun cdv A outer s H vs Q E hr h => (no_l_walk h).elim)), FunD.bindsN F fun _ _ _ _ _ _ us hl => match us, hl with | [_, _, _], _ => rfl, F.kp⟩
  | succ n O_l_walk =>
    refine ⟨_, fd, T.g_l_walk, F.ok (k := 1 + n) sc_l_walk (fun vs H Q E h => len_l_walk h) (fun cdv A outer s H vs Q E hr h => ⟨t_l_walk K (spr_l_walk n), PSs.nox ?_, rd_l_walk h⟩), FunD.bindsN F fun _ _ _ _ _ _ us hl => match us, hl with | [_, _, _], _ => rfl, F.kp⟩
    exact (pss_c (ps_for PassesOwn.never rfl (pi_any (pe_ix i_x (pv 0) pe_int (fun _ _ => rfl))) (pg_name (i := 3) sc_l_walk.nd rfl (Or.inl rfl)) (pss_one (ps_expr (pe_bm PySem.F.plainAttrs_list PySem.F.slot_list_append PySem.F.type_list_append m_append (pv 2) (pa_cons (pv 3) pa_nil)))))
    (pss_c (ps_for PassesOwn.never rfl (pi_any (pe_ix i_x (pv 0) pe_int (fun _ _ => rfl))) (pg_name (i := 4) sc_l_walk.nd rfl (Or.inl rfl)) (pss_c (ps_expr (pe_bm PySem.F.plainAttrs_list PySem.F.slot_list_append PySem.F.type_list_append m_append (pv 2) (pa_cons (pe_ix i_x (pv 4) pe_int (fun _ _ => rfl)) pa_nil)))
    (pss_c (ps_for PassesOwn.never rfl (pi_any (pe_ix i_x (pv 4) pe_int (fun _ _ => rfl))) (pg_name (i := 3) sc_l_walk.nd rfl (Or.inl rfl)) (pss_one (ps_expr (pe_bm PySem.F.plainAttrs_list PySem.F.slot_list_append PySem.F.type_list_append m_append (pv 1) (pa_cons (pv 3) pa_nil)))))
    (pss_one (ps_for PassesOwn.never rfl (pi_any (pe_ix i_x (pv 4) pe_int (fun _ _ => rfl))) (pg_name (i := 5) sc_l_walk.nd rfl (Or.inl rfl)) (pss_one (ps_expr (pe_fn O_l_walk (hr.mono (by omega)) rfl (pa_cons (pv 5) (pa_cons (pv 1) (pa_cons (pv 2) pa_nil)))))))))))
    (pss_one (ps_expr (pe_bm PySem.F.plainAttrs_list PySem.F.slot_list_append PySem.F.type_list_append m_append (pv 1) (pa_cons (pe_ix i_x (pv 0) pe_int (fun _ _ => rfl)) pa_nil))))))
theorem ok_l_walk (T : Txt K mg)  : OkF P w K mg base 5 "_law_walk" ["_law_block_here", "_law_used", "_law_bound"] (sp_l_walk K) := okr_l_walk T  4
theorem okf_law (T : Txt K mg) (O_l_draws : OkF P w K mg base 1 "_law_draws" ["_law_script"] (sp_l_draws K)) (O_l_block : OkF P w K mg base 6 "_law_block" ["_law_m", "_law_depth"] (sp_l_block K)) (O_l_walk : OkF P w K mg base 5 "_law_walk" ["_law_block_here", "_law_used", "_law_bound"] (sp_l_walk K)) (O_captured : OkF P w K mg base 8 "captured" ["block"] (sp_captured K)) {fd : FuncData} (F : FunD K "law" "law" (defArgs s_law) (defBody s_law) (defScope s_law) [] [] (He.ga K "law") fd) : FnOk P w K mg base CX0 9 (He.ga K "law") fd ["_law_script"] (sp_law K) := by
  refine F.ok sc_law (fun vs H Q E h => len_law h) (fun cdv A outer s H vs Q E hr h => ⟨t_law K, PSs.nox ?_, rd_law h⟩)
  exact (pss_c (ps_set (i := 1) sc_law.nd rfl (Or.inl rfl) (pe_disp (pps_cons pe_str (pe_fn O_l_draws (hr.mono (by omega)) rfl (pa_cons (pv 0) pa_nil)) (pps_cons pe_str pe_int pps_nil)) (by rfl) (by rfl) (fun z => by cases z) (by decide)))
    (pss_c (ps_for PassesOwn.never rfl (pi_range1 rfl T.b_range (pa_cons pe_int pa_nil)) (pg_name (i := 2) sc_law.nd rfl (Or.inl rfl)) (pss_c (ps_set (i := 3) sc_law.nd rfl (Or.inl rfl) (pe_fn O_l_block (hr.mono (by omega)) rfl (pa_cons (pv 1) (pa_cons pe_int pa_nil))))
    (pss_c (ps_set (i := 4) sc_law.nd rfl (Or.inl rfl) (pe_lst pa_nil))
    (pss_c (ps_set (i := 5) sc_law.nd rfl (Or.inl rfl) (pe_lst pa_nil))
    (pss_c (ps_expr (pe_fn O_l_walk (hr.mono (by omega)) rfl (pa_cons (pv 3) (pa_cons (pv 4) (pa_cons (pv 5) pa_nil)))))
    (pss_c (ps_set (i := 6) sc_law.nd rfl (Or.inl rfl) (pe_lst pa_nil))
    (pss_c (ps_for PassesOwn.never rfl (pi_range1 rfl T.b_range (pa_cons pe_int pa_nil)) (pg_name (i := 7) sc_law.nd rfl (Or.inl rfl)) (pss_one (ps_if (PW.pt (pw_and (pt_cmpR o_in (pv 7) (pv 4) (by rfl)) (pw_and1 (pt_cmpR o_notIn (pv 7) (pv 5) (by rfl))))) (pss_one (ps_expr (pe_bm PySem.F.plainAttrs_list PySem.F.slot_list_append PySem.F.type_list_append m_append (pv 6) (pa_cons (pv 7) pa_nil)))) pss_nil)))
    (pss_one (ps_for PassesOwn.never rfl (pi_range1 rfl T.b_range (pa_cons pe_int pa_nil)) (pg_name (i := 8) sc_law.nd rfl (Or.inl rfl)) (pss_c (ps_set (i := 9) sc_law.nd rfl (Or.inl rfl) (pe_fn O_captured (hr.mono (by omega)) rfl (pa_cons (pv 3) pa_nil)))
    (pss_c (ps_if (PW.pt (pw_or (pt_not (pt_tru (pe_callB c_isi (by rfl) T.b_isinstance (by decide +kernel) (pa_cons (pv 9) (pa_cons (pe_ty rfl T.b_tuple (by decide +kernel)) pa_nil))))) (pw_or1 (pt_cmpR (o_ne hr.units) (pv 9) (pe_callTy c_tuple (by rfl) T.b_tuple (by decide +kernel) (pa_cons (pv 6) pa_nil)) (nomark _))))) (pss_one (ps_ret pe_bl)) pss_nil)
    (pss_one (ps_if (pt_not (pt_tru (pe_callB (c_all rfl) (by rfl) T.b_all (by decide +kernel) (pa_cons (pe_lc (own := [("_law_variable", 7)]) (g := (gName 7)) (tt := tYes) rfl sc_law.nd (pi_any (pv 9)) (blkOk_by (own := [("_law_variable", 7)]) (N := n_law) (sc := defScope s_law) (by first | decide +kernel | rfl)) (fun _ _ _ _ _ => pg_name (i := 7) sc_law.nd rfl (Or.inl rfl)) (fun _ _ _ _ _ => pts_nil) (fun _ _ _ _ _ => (pe_and (pe_callB c_isi (by rfl) T.b_isinstance (by decide +kernel) (pa_cons (pv 7) (pa_cons (pe_ty rfl T.b_int (by decide +kernel)) pa_nil))) (pe_one (pe_not (pe_callB c_isi (by rfl) T.b_isinstance (by decide +kernel) (pa_cons (pv 7) (pa_cons (pe_ty rfl T.b_bool (by decide +kernel)) pa_nil)))))))) pa_nil)))) (pss_one (ps_ret pe_bl)) pss_nil)))))))))))))
    (pss_one (ps_ret pe_bl))))
end
/-! ### the head -/
def d_gather : He.DefD := ⟨("gather", none), "gather", "gather", defArgs s_gather, defBody s_gather, defScope s_gather, [], []⟩
def d_names_captured : He.DefD := ⟨("names_captured", none), "names_captured", "names_captured", defArgs s_names_captured, defBody s_names_captured, defScope s_names_captured, [], []⟩
def d_captured : He.DefD := ⟨("captured", none), "captured", "captured", defArgs s_captured, defBody s_captured, defScope s_captured, [], []⟩
def d_l_draws : He.DefD := ⟨("_law_draws", none), "_law_draws", "_law_draws", defArgs s_l_draws, defBody s_l_draws, defScope s_l_draws, [], []⟩
def d_l_take : He.DefD := ⟨("_law_take", none), "_law_take", "_law_take", defArgs s_l_take, defBody s_l_take, defScope s_l_take, [], []⟩
def d_l_number : He.DefD := ⟨("_law_number", none), "_law_number", "_law_number", defArgs s_l_number, defBody s_l_number, defScope s_l_number, [], []⟩
def d_l_block : He.DefD := ⟨("_law_block", none), "_law_block", "_law_block", defArgs s_l_block, defBody s_l_block, defScope s_l_block, [], []⟩
def d_l_walk : He.DefD := ⟨("_law_walk", none), "_law_walk", "_law_walk", defArgs s_l_walk, defBody s_l_walk, defScope s_l_walk, [], []⟩
def d_law : He.DefD := ⟨("law", none), "law", "law", defArgs s_law, defBody s_law, defScope s_law, [], []⟩
def fn : List He.DefD := [d_gather, d_names_captured, d_captured, d_l_draws, d_l_take, d_l_number, d_l_block, d_l_walk, d_law]
def fa : List He.Fa := [.free "tuple", .free "sorted", .free "abs", .free "range", .free "int", .free "len", .free "max", .free "isinstance", .free "all", .free "bool", .glo "gather", .glo "names_captured", .glo "captured", .glo "_law_draws", .glo "_law_take", .glo "_law_number", .glo "_law_block", .glo "_law_walk", .glo "law"]
abbrev R : PySem.W.OpenRow := PySem.W.OpenLaw.row PySem.Challenge.rw_escheat_k29_captured_variables
abbrev hk : PySem.W.Hook := He.hookD 5 fa fn
def ob (s : PySem.W.SharedT) : He.AlD := He.obsDG 5 fa fn (HandSHeadRun.getT s)
theorem ob_eq (s : PySem.W.SharedT) : ob s = hk.obs s.abs := He.obsDG_eq (HandSHeadRun.getT_eq s)
theorem txt {K : PySem.W.Frag} {h : Heap} {mg : Str → Option Value} (X : K.In h) (G : h.Ns mainGlobals mg) (c : He.SaysD fa fn K) : Txt K mg :=
  ⟨He.free_ok X G (c.fact 0 (f := .free "tuple") rfl),
   He.free_ok X G (c.fact 1 (f := .free "sorted") rfl),
   He.free_ok X G (c.fact 2 (f := .free "abs") rfl),
   He.free_ok X G (c.fact 3 (f := .free "range") rfl),
   He.free_ok X G (c.fact 4 (f := .free "int") rfl),
   He.free_ok X G (c.fact 5 (f := .free "len") rfl),
   He.free_ok X G (c.fact 6 (f := .free "max") rfl),
   He.free_ok X G (c.fact 7 (f := .free "isinstance") rfl),
   He.free_ok X G (c.fact 8 (f := .free "all") rfl),
   He.free_ok X G (c.fact 9 (f := .free "bool") rfl),
   He.glo_ok X G (c.fact 10 (f := .glo "gather") rfl),
   c.def_ 0 (d := d_gather) rfl,
   He.glo_ok X G (c.fact 11 (f := .glo "names_captured") rfl),
   c.def_ 1 (d := d_names_captured) rfl,
   He.glo_ok X G (c.fact 12 (f := .glo "captured") rfl),
   c.def_ 2 (d := d_captured) rfl,
   He.glo_ok X G (c.fact 13 (f := .glo "_law_draws") rfl),
   c.def_ 3 (d := d_l_draws) rfl,
   He.glo_ok X G (c.fact 14 (f := .glo "_law_take") rfl),
   c.def_ 4 (d := d_l_take) rfl,
   He.glo_ok X G (c.fact 15 (f := .glo "_law_number") rfl),
   c.def_ 5 (d := d_l_number) rfl,
   He.glo_ok X G (c.fact 16 (f := .glo "_law_block") rfl),
   c.def_ 6 (d := d_l_block) rfl,
   He.glo_ok X G (c.fact 17 (f := .glo "_law_walk") rfl),
   c.def_ 7 (d := d_l_walk) rfl,
   He.glo_ok X G (c.fact 18 (f := .glo "law") rfl),
   c.def_ 8 (d := d_law) rfl⟩
theorem run (w : World) : HandSHeadRun.RunEq R (PySem.W.view R.prog [11]) hk ob 4000 ["gather", "names_captured", "captured", "_law_draws", "_law_take", "_law_number", "_law_block", "_law_walk"] w := by
  intro os
  kernel_rfl
theorem facts {P : Program} {w : World} {K : PySem.W.Frag} {h : Heap} {mg : Str → Option Value} {f : Addr} (X : K.In h) (G : h.Ns mainGlobals mg) (hfa : mg ("law" : Str) = some (.ref f)) (c : He.SaysD fa fn K) :
    ∃ fd : FuncData, (∀ (s : Shared) (v : Value), BindsTo s fd ⟨[v], []⟩ [("_law_script", v)]) ∧ ∀ base : Heap, K.In base → base.Ns mainGlobals mg → FnOk P w K mg base CX0 9 f fd ["_law_script"] (sp_law K) := by
  have T : Txt K mg := txt X G c
  obtain ⟨fd, F⟩ := T.F_law
  have e := hfa.symm.trans T.g_law
  cases e
  have b := FunD.bindsA (ps := ["_law_script"]) F fun _ _ _ _ _ _ us hl => match us, hl with | [_], _ => rfl
  refine ⟨fd, fun s v => b s [v] rfl, fun base _ _ => ?_⟩
  have O_l_draws : OkF P w K mg base 1 "_law_draws" ["_law_script"] (sp_l_draws K) := ok_l_draws T 
  have O_l_take : OkF P w K mg base 1 "_law_take" ["_law_m", "_law_many"] (sp_l_take K) := ok_l_take T 
  have O_l_block : OkF P w K mg base 6 "_law_block" ["_law_m", "_law_depth"] (sp_l_block K) := ok_l_block T O_l_take
  have O_l_walk : OkF P w K mg base 5 "_law_walk" ["_law_block_here", "_law_used", "_law_bound"] (sp_l_walk K) := ok_l_walk T 
  have O_gather : OkF P w K mg base 5 "gather" ["block", "used", "bound"] (sp_gather K) := ok_gather T 
  have O_names_captured : OkF P w K mg base 7 "names_captured" ["block"] (sp_names_captured K) := ok_names_captured T O_gather
  have O_captured : OkF P w K mg base 8 "captured" ["block"] (sp_captured K) := ok_captured T O_names_captured
  exact okf_law (base := base) (P := P) (w := w) T O_l_draws O_l_block O_l_walk O_captured F
end U
open PySem PySem.W PySem.Calls PyProof.Rows
set_option maxHeartbeats 0 in
theorem PySem.Challenge.cw_escheat_k29_captured_variables_holds : PySem.Challenge.rw_escheat_k29_captured_variables.Holds := by
  w_on; o_law
  refine HandSHeadRun.head_any (r := OpenLaw.row PySem.Challenge.rw_escheat_k29_captured_variables) (q := view (OpenLaw.row PySem.Challenge.rw_escheat_k29_captured_variables).prog [11]) (H := U.hk) (ob := U.ob) (M := 4000) (loose := ["gather", "names_captured", "captured", "_law_draws", "_law_take", "_law_number", "_law_block", "_law_walk"]) (d := HandSHeadRun.topDef (OpenLaw.row PySem.Challenge.rw_escheat_k29_captured_variables).prog 11) (kwd := []) U.ob_eq
    (by kernel_rfl) (fun s => by kernel_rfl) U.run (by kernel_rfl) (by kernel_rfl) (by kernel_rfl) (by rfl) (by first | assumption | decide +kernel) (by decide +kernel) ⟨rfl, rfl, rfl, rfl, rfl, by decide +kernel⟩ ?hw ?hc
  case hw => w_witness2
  case hc =>
    refine L2.walk_ofE (l := PySem.Challenge.rw_escheat_k29_captured_variables) (n := 63) (k := 9) (x := "_law_script") (CX := L2.CX0) rfl (by decide) (by kernel_rfl) ⟨rfl, by decide, by decide⟩ ?F (fun _ _ _ _ z => z)
    intro w mg fa h Y G hmg0
    obtain ⟨K, KX, c⟩ := Y
    have hmg : mg ("law" : PySem.Str) = some (.ref fa) := by
      have e : (HandSHeadRun.topDef (OpenLaw.row PySem.Challenge.rw_escheat_k29_captured_variables).prog 11).name = ("law" : PySem.Str) := by kernel_rfl
      rw [← e]
      exact hmg0
    obtain ⟨fd, hb, hF⟩ := U.facts (P := (PySem.Challenge.rw_escheat_k29_captured_variables).prog) (w := w) KX G hmg c
    exact ⟨K, fd, U.sp_law K, KX, hb, fun H a ns hl _ hS => U.law_in a ns hl hS, hF⟩


import PyProof.Rows.All
import Wide.All
import OpenK.AllK
import Wide.FinOn
import HandS.ForMost
import HandS.Flow
import HandS.Wide
import HandS.IsInst
import HandS.TupAny
import HandS.StrMore
import HandS.SortInts
import HandS.Walk
import HandS.Style
import HandS.More
import HandS.Defaults
import HandS.Head0
import HandS.Head1
import HandS.Head2
import HandS.HeadEnd
import HandS.HeadHook1
import HandS.HeadHook2
import PySem.Challenge.RW_escheat_k07_same_tree
set_option Elab.async false
set_option linter.all false
set_option maxRecDepth 100000
set_option maxHeartbeats 4000000
/-! U: operators by value, as functions of the values' shapes (so that a reading computes), and the steps of a reading. -/
namespace U
open PySem PySem.Spec PyProof.Rows L2

/-! ### operators by value -/
section
variable {X : Cx}
def uAdd (K : PySem.W.Frag) : R2 := fun x y H Q => match x, y with
  | .int i, .int j => Q (.int (i + j)) H
  | .str a, .str b => a.length + b.length ≤ sizeLine ∧ Q (.str (a ++ b)) H
  | .ref a, .ref b => (∃ xs ys, H a = some (.lst xs) ∧ H b = some (.lst ys) ∧ xs.length + ys.length ≤ sizeLine ∧ ∀ p, H p = none → Q (.ref p) (upd H p (.lst (xs ++ ys)))) ∨ rCatA K x y H Q
  | _, _ => False
theorem o_add : OpR X (binaryOp .Add) (uAdd X.K) := by
  intro pins s σ H x y v u Q I rx ry h
  cases x <;> cases y <;> first | exact (show False from h).elim | skip
  · exact op_add pins s σ H _ _ v u Q I rx ry ⟨_, _, rfl, rfl, h⟩
  · exact op_add_str pins s σ H _ _ v u Q I rx ry ⟨_, _, rfl, rfl, h.1, h.2⟩
  · rcases h with h | h
    · obtain ⟨xs, ys, h1, h2, h3, h4⟩ := h
      exact op_cat pins s σ H _ _ v u Q I rx ry ⟨_, _, xs, ys, rfl, rfl, h1, h2, h3, h4⟩
    · exact op_catA pins s σ H _ _ v u Q I rx ry h
def uSub : R2 := fun x y H Q => match x, y with
  | .int i, .int j => Q (.int (i - j)) H
  | _, _ => False
theorem o_sub : OpR X (binaryOp .Sub) uSub := by
  intro pins s σ H x y v u Q I rx ry h
  cases x <;> cases y <;> first | exact (show False from h).elim | skip
  exact op_sub pins s σ H _ _ v u Q I rx ry ⟨_, _, rfl, rfl, h⟩
def uMul : R2 := fun x y H Q => match x, y with
  | .int i, .int j => (CMul i j ∨ CMulW i j) ∧ Q (.int (i * j)) H
  | .str z, .int k => z.length * k.toNat ≤ 1000000 ∧ k ≤ 1000000 ∧ -(2 ^ 63) ≤ k ∧ Q (.str (Txt.mul z k)) H
  | .ref a, .int k => ∃ xs, H a = some (.lst xs) ∧ -(2 ^ 63) ≤ k ∧ k < 2 ^ 63 ∧ xs.length * k.toNat ≤ sizeLine ∧ ∀ p, H p = none → Q (.ref p) (upd H p (.lst (List.replicate k.toNat xs).flatten))
  | _, _ => False
theorem o_mul : OpR X (binaryOp .Mult) uMul := by
  intro pins s σ H x y v u Q I rx ry h
  cases x <;> cases y <;> first | exact (show False from h).elim | skip
  · rcases h.1 with c | c
    · exact op_mul pins s σ H _ _ v u Q I rx ry ⟨_, _, rfl, rfl, c, h.2⟩
    · exact op_mulW pins s σ H _ _ v u Q I rx ry ⟨_, _, rfl, rfl, c, h.2⟩
  · rename_i z k
    obtain ⟨h1, h2, h3, q⟩ := h
    obtain ⟨t, rfl⟩ := rx
    obtain ⟨t', rfl⟩ := ry
    have hok : PySem.MulOk z k := by
      refine ⟨?_, fun h _ => ?_, fun h _ => ?_⟩
      · have a1 : ¬ k < -(2 ^ 63 : Int) := by omega
        have a2 : ¬ k ≥ (2 ^ 63 : Int) := by omega
        rw [decide_eq_false a1, decide_eq_false a2]; rfl
      · have hpos : 0 < k := by omega
        have e : ((z.length * k.toNat : Nat) : Int) = (z.length : Int) * k := by
          rw [Int.natCast_mul, Int.toNat_of_nonneg (by omega)]
        have h3 : (z.length : Int) * k ≤ 2 ^ 63 - 1 := by rw [← e]; omega
        have h4 : (z.length : Int) ≤ (2 ^ 63 - 1) / k := (Int.le_ediv_iff_mul_le hpos).mpr h3
        omega
      · exact PyProof.Rows.short24 (by omega)
    exact SB.mul hok fun t' n => ⟨.str _, H, I.tok _, ⟨_, rfl⟩, q⟩
  · obtain ⟨xs, h1, h2, h3, h4, h5⟩ := h
    exact op_rep pins s σ H _ _ v u Q I rx ry ⟨_, _, xs, rfl, rfl, h1, h2, h3, h4, h5⟩
def uFdiv : R2 := fun x y H Q => match x, y with
  | .int i, .int j => CDivW i j ∧ Q (.int (i / j)) H
  | _, _ => False
theorem o_fdiv : OpR X (binaryOp .FloorDiv) uFdiv := by
  intro pins s σ H x y v u Q I rx ry h
  cases x <;> cases y <;> first | exact (show False from h).elim | skip
  exact op_fdivW pins s σ H _ _ v u Q I rx ry ⟨_, _, rfl, rfl, h.1, h.2⟩
def uMod : R2 := fun x y H Q => match x, y with
  | .int i, .int j => 0 < j ∧ Q (.int (i % j)) H
  | _, _ => False
theorem o_mod : OpR X (binaryOp .Mod) uMod := by
  intro pins s σ H x y v u Q I rx ry h
  cases x <;> cases y <;> first | exact (show False from h).elim | skip
  exact op_mod pins s σ H _ _ v u Q I rx ry ⟨_, _, rfl, rfl, h.1, h.2⟩
def uPow : R2 := fun x y H Q => match x, y with
  | .int i, .int j => CPow i j ∧ Q (.int (i ^ j.toNat)) H
  | _, _ => False
theorem o_pow : OpR X (binaryOp .Pow) uPow := by
  intro pins s σ H x y v u Q I rx ry h
  cases x <;> cases y <;> first | exact (show False from h).elim | skip
  exact op_pow pins s σ H _ _ v u Q I rx ry ⟨_, _, rfl, rfl, h.1, h.2⟩
def uNeg : V → Hp → VK → Prop := fun x H Q => match x with
  | .int i => Q (.int (-i)) H
  | _ => False
theorem u_neg : UnR X (unaryOp .USub) uNeg := by
  intro pins s σ H x v Q I rx h
  cases x <;> first | exact (show False from h).elim | skip
  exact un_neg pins s σ H _ v Q I rx ⟨_, rfl, h⟩
/-! comparisons -/
def uEq (K : PySem.W.Frag) : R2 := fun x y H Q => (scal x y = true ∧ Q (.bl (decide (x = y))) H) ∨ rEqD K x y H Q
theorem o_eq (hu : X.A.units + 64 < cLine) : OpR X (compareOp .Eq) (uEq X.K) := op_eq.or (op_eqD hu)
def uNe (K : PySem.W.Frag) : R2 := fun x y H Q => (scal x y = true ∧ Q (.bl (!decide (x = y))) H) ∨ rNeD K x y H Q
theorem o_ne (hu : X.A.units + 64 < cLine) : OpR X (compareOp .NotEq) (uNe X.K) := op_ne.or (op_neD hu)
def uCmpI (p : Int → Int → Bool) : R2 := fun x y H Q => match x, y with
  | .int i, .int j => Q (.bl (p i j)) H
  | _, _ => False
abbrev uLt : R2 := uCmpI fun i j => decide (i < j)
abbrev uLe : R2 := uCmpI fun i j => decide (i ≤ j)
abbrev uGt : R2 := uCmpI fun i j => decide (j < i)
abbrev uGe : R2 := uCmpI fun i j => decide (j ≤ i)
theorem o_lt : OpR X (compareOp .Lt) uLt := by
  intro pins s σ H x y v u Q I rx ry h
  cases x <;> cases y <;> first | exact (show False from h).elim | skip
  exact op_lt pins s σ H _ _ v u Q I rx ry ⟨_, _, rfl, rfl, h⟩
theorem o_le : OpR X (compareOp .LtE) uLe := by
  intro pins s σ H x y v u Q I rx ry h
  cases x <;> cases y <;> first | exact (show False from h).elim | skip
  exact op_le pins s σ H _ _ v u Q I rx ry ⟨_, _, rfl, rfl, h⟩
theorem o_gt : OpR X (compareOp .Gt) uGt := by
  intro pins s σ H x y v u Q I rx ry h
  cases x <;> cases y <;> first | exact (show False from h).elim | skip
  exact op_gt pins s σ H _ _ v u Q I rx ry ⟨_, _, rfl, rfl, h⟩
theorem o_ge : OpR X (compareOp .GtE) uGe := by
  intro pins s σ H x y v u Q I rx ry h
  cases x <;> cases y <;> first | exact (show False from h).elim | skip
  exact op_ge pins s σ H _ _ v u Q I rx ry ⟨_, _, rfl, rfl, h⟩
/-- one sign in a text | a flat thing in a list, a tuple -/
def uIn (K : PySem.W.Frag) (f : Bool → Bool) : R2 := fun x y H Q => match y with
  | .str z => ∃ c : Nat, x = .str ⟨#[c]⟩ ∧ Q (.bl (f (decide (c ∈ z.cps.toList)))) H
  | .ref p => ∃ xs, (SqL K H p xs ∨ SqT K H p xs) ∧ flatV x = true ∧ xs.all flatV = true ∧ Q (.bl (f (inV x xs))) H
  | _ => False
theorem o_in : OpR X (compareOp .In) (uIn X.K id) := by
  intro pins s σ H x y v u Q I rx ry h
  cases y <;> first | exact (show False from h).elim | skip
  · obtain ⟨c, e, q⟩ := h
    exact op_in_sign pins s σ H _ _ v u Q I rx ry ⟨c, _, e, rfl, q⟩
  · obtain ⟨xs, h1, h2, h3, q⟩ := h
    exact op_in_seq pins s σ H _ _ v u Q I rx ry ⟨_, xs, rfl, h1, h2, h3, q⟩
theorem o_notIn : OpR X (compareOp .NotIn) (uIn X.K not) := by
  intro pins s σ H x y v u Q I rx ry h
  cases y <;> first | exact (show False from h).elim | skip
  · obtain ⟨c, e, q⟩ := h
    exact op_notIn_sign pins s σ H _ _ v u Q I rx ry ⟨c, _, e, rfl, q⟩
  · obtain ⟨xs, h1, h2, h3, q⟩ := h
    exact op_notIn_seq pins s σ H _ _ v u Q I rx ry ⟨_, xs, rfl, h1, h2, h3, q⟩
/-- is None (the right one), by the left one's shape -/
def isNonV : V → Bool
  | .non => true
  | _ => false
theorem isNonV_eq (x : V) : isNonV x = decide (x = .non) := by cases x <;> simp [isNonV]
def uIsN (f : Bool → Bool) : R2 := fun x y H Q => match y with
  | .non => Q (.bl (f (isNonV x))) H
  | _ => False
theorem o_is : OpR X (compareOp .Is) (uIsN id) := by
  intro pins s σ H x y v u Q I rx ry h
  cases y <;> first | exact (show False from h).elim | skip
  exact op_isN pins s σ H _ _ v u Q I rx ry ⟨rfl, by rw [← isNonV_eq]; exact h⟩
theorem o_isNot : OpR X (compareOp .IsNot) (uIsN not) := by
  intro pins s σ H x y v u Q I rx ry h
  cases y <;> first | exact (show False from h).elim | skip
  exact op_notN pins s σ H _ _ v u Q I rx ry ⟨rfl, by rw [← isNonV_eq]; exact h⟩
/-! subscripts -/
def uIx (K : PySem.W.Frag) : R2 := fun x y H Q => match x, y with
  | .ref a, .int i => ∃ xs v, (SqL K H a xs ∨ SqT K H a xs) ∧ atI xs i = some v ∧ Q v H
  | .str z, .int i => ∃ c, z.length ≤ sizeLine ∧ atI z.cps.toList i = some c ∧ Q (.str ⟨#[c]⟩) H
  | _, _ => False
theorem i_x : IxR X (uIx X.K) := by
  intro value slice pins s σ H x y v u Q I rx ry h hs
  cases x <;> cases y <;> first | exact (show False from h).elim | skip
  · obtain ⟨c, h1, h2, q⟩ := h
    exact ix_str value slice pins s σ H _ _ v u Q I rx ry ⟨_, _, c, rfl, rfl, h1, h2, q⟩ hs
  · obtain ⟨xs, w, h1, h2, q⟩ := h
    rcases h1 with h1 | h1
    · exact ix_list value slice pins s σ H _ _ v u Q I rx ry ⟨_, xs, _, w, rfl, rfl, h1, h2, q⟩ hs
    · exact ix_tup value slice pins s σ H _ _ v u Q I rx ry ⟨_, xs, _, w, rfl, rfl, h1, h2, q⟩ hs
def uSl (K : PySem.W.Frag) : V → Option Int → Option Int → Hp → VK → Prop := fun x lo hi H Q => match x with
  | .str z => z.length ≤ sizeLine ∧ Q (.str (cutS z lo hi)) H
  | .ref _ => rSlL K x lo hi H Q ∨ rSlA K x lo hi H Q
  | _ => False
theorem s_l : SlR X (uSl X.K) := by
  intro pins s σ H x v vl vu lo hi sl Q I rx hs pl pu q
  cases x <;> first | exact (show False from q).elim | skip
  · exact sl_str pins s σ H _ v vl vu lo hi sl Q I rx hs pl pu ⟨_, rfl, q.1, q.2⟩
  · rcases q with q | q
    · exact sl_list pins s σ H _ v vl vu lo hi sl Q I rx hs pl pu q
    · exact sl_tupA pins s σ H _ v vl vu lo hi sl Q I rx hs pl pu q
/-! calls of built-ins -/
abbrev RC : Type := List V → Hp → VK → Prop
def uLen (K : PySem.W.Frag) : RC := fun xs H Q => match xs with
  | [.str z] => z.length ≤ sizeLine ∧ Q (.int (z.length : Int)) H
  | [.ref a] => ∃ ys, (SqL K H a ys ∨ SqT K H a ys) ∧ Q (.int (ys.length : Int)) H
  | _ => False
theorem c_len : CallR X (.builtin "len") (uLen X.K) := by
  intro pins s σ H xs us Q I r h
  unfold uLen at h
  split at h
  · exact call_len_str pins s σ H _ us Q I r ⟨_, rfl, h.1, h.2⟩
  · obtain ⟨ys, h1, q⟩ := h
    exact call_len_seq pins s σ H _ us Q I r ⟨_, ys, rfl, h1, q⟩
  · exact h.elim
def uAbs : RC := fun xs H Q => match xs with
  | [.int i] => Q (.int (i.natAbs : Int)) H
  | _ => False
theorem abs_ite (i : Int) : (if i < 0 then -i else i) = (i.natAbs : Int) := by split <;> omega
theorem c_abs : CallR X (.builtin "abs") uAbs := by
  intro pins s σ H xs us Q I r h
  unfold uAbs at h
  split at h
  · exact call_abs pins s σ H _ us Q I r ⟨_, rfl, by rw [abs_ite]; exact h⟩
  · exact h.elim
def uInt : RC := fun xs H Q => match xs with
  | [.int i] => Q (.int i) H
  | [.bl k] => Q (.int (if k then 1 else 0)) H
  | [.str a] => a.length ≤ 640 ∧ ∃ n, PySem.intText? a = some n ∧ Q (.int n) H
  | _ => False
theorem c_int : CallR X (.type "int") uInt := by
  intro pins s σ H xs us Q I r h
  unfold uInt at h
  split at h
  · exact call_int1 pins s σ H _ us Q I r (.inl ⟨_, rfl, h⟩)
  · exact call_int1 pins s σ H _ us Q I r (.inr ⟨_, rfl, h⟩)
  · obtain ⟨h1, n, h2, q⟩ := h
    exact call_int_str pins s σ H _ us Q I r ⟨_, n, rfl, h2, h1, q⟩
  · exact h.elim
def uStr : RC := fun xs H Q => match xs with
  | [.int i] => i.natAbs.log2 < 1920 ∧ Q (.str (toString i)) H
  | _ => False
theorem c_str : CallR X (.type "str") uStr := by
  intro pins s σ H xs us Q I r h
  unfold uStr at h
  split at h
  · exact call_str_int pins s σ H _ us Q I r ⟨_, rfl, h.1, h.2⟩
  · exact h.elim
def uList (K : PySem.W.Frag) : RC := fun xs H Q => match xs with
  | [.ref p] => ∃ ys, (SqL K H p ys ∨ SqT K H p ys) ∧ ∀ l, H l = none → Q (.ref l) (upd H l (.lst ys))
  | _ => False
theorem c_list : CallR X (.type "list") (uList X.K) := by
  intro pins s σ H xs us Q I r h
  unfold uList at h
  split at h
  · obtain ⟨ys, h1, q⟩ := h
    exact call_list_of pins s σ H _ us Q I r ⟨_, ys, rfl, h1, q⟩
  · exact h.elim
def uTuple (K : PySem.W.Frag) : RC := fun xs H Q => match xs with
  | [.ref p] => ∃ ys, (SqL K H p ys ∧ ∀ l, H l = none → Q (.ref l) (upd H l (.tup ys))) ∨ (SqT K H p ys ∧ Q (.ref p) H)
  | _ => False
theorem c_tuple : CallR X (.type "tuple") (uTuple X.K) := by
  intro pins s σ H xs us Q I r h
  unfold uTuple at h
  split at h
  · obtain ⟨ys, h⟩ := h
    exact call_tuple_of pins s σ H _ us Q I r ⟨_, ys, rfl, h⟩
  · exact h.elim
def uAll (K : PySem.W.Frag) : RC := fun xs H Q => match xs with
  | [.ref a] => ∃ bs : List Bool, SqL K H a (bs.map V.bl) ∧ Q (.bl (bs.all id)) H
  | _ => False
theorem c_all (hc : X.calm = true) : CallR X (.builtin "all") (uAll X.K) := by
  intro pins s σ H xs us Q I r h
  unfold uAll at h
  split at h
  · obtain ⟨bs, h1, q⟩ := h
    exact cr_all hc pins s σ H _ us Q I r ⟨_, bs, rfl, h1, q⟩
  · exact h.elim
def uAny (K : PySem.W.Frag) : RC := fun xs H Q => match xs with
  | [.ref a] => ∃ bs : List Bool, SqL K H a (bs.map V.bl) ∧ Q (.bl (bs.any id)) H
  | _ => False
theorem c_any (hc : X.calm = true) : CallR X (.builtin "any") (uAny X.K) := by
  intro pins s σ H xs us Q I r h
  unfold uAny at h
  split at h
  · obtain ⟨bs, h1, q⟩ := h
    exact cr_any hc pins s σ H _ us Q I r ⟨_, bs, rfl, h1, q⟩
  · exact h.elim
def uSum (K : PySem.W.Frag) : RC := fun xs H Q => match xs with
  | [.ref a] => ∃ ns : List Int, SqL K H a (ns.map V.int) ∧ Q (.int ns.sum) H
  | _ => False
theorem c_sum (hc : X.calm = true) : CallR X (.builtin "sum") (uSum X.K) := by
  intro pins s σ H xs us Q I r h
  unfold uSum at h
  split at h
  · obtain ⟨bs, h1, q⟩ := h
    exact cr_sum hc pins s σ H _ us Q I r ⟨_, bs, rfl, h1, q⟩
  · exact h.elim
def uMax : RC := fun xs H Q => match xs with
  | [.int i, .int j] => Q (.int (max i j)) H
  | _ => False
theorem c_max (hc : X.calm = true) : CallR X (.builtin "max") uMax := by
  intro pins s σ H xs us Q I r h
  unfold uMax at h
  split at h
  · rename_i i j
    refine call_max2 hc pins s σ H _ us Q I r ⟨_, _, rfl, ?_⟩
    have e : (if j > i then j else i) = max i j := by
      rw [Int.max_def]; split <;> split <;> omega
    rw [e]; exact h
  · exact h.elim
def uMin : RC := fun xs H Q => match xs with
  | [.int i, .int j] => Q (.int (min i j)) H
  | _ => False
theorem c_min (hc : X.calm = true) : CallR X (.builtin "min") uMin := by
  intro pins s σ H xs us Q I r h
  unfold uMin at h
  split at h
  · rename_i i j
    refine call_min2 hc pins s σ H _ us Q I r ⟨_, _, rfl, ?_⟩
    have e : (if j < i then j else i) = min i j := by
      rw [Int.min_def]; split <;> split <;> omega
    rw [e]; exact h
  · exact h.elim
/-- isinstance(x, T), T a built-in type: by the value's shape; an object's type is told -/
def tyName : V → Option String
  | .non => some "NoneType"
  | .bl _ => some "bool"
  | .int _ => some "int"
  | .str _ => some "str"
  | _ => none
def uIsi (K : PySem.W.Frag) : RC := fun xs H Q => match xs with
  | [x, .ty T] => ∃ t b, (match tyName x with | some n => t = n | none => TyX K H x (.type t)) ∧ kitB t T = some b ∧ Q (.bl b) H
  | [x, .ref C] => ∃ t b, TyX K H x t ∧ PySem.W.kitOne K t (.ref C) = some b ∧ Q (.bl b) H
  | _ => False
theorem c_isi : CallR X (.builtin "isinstance") (uIsi X.K) := by
  intro pins s σ H xs us Q I r h
  unfold uIsi at h
  split at h
  · rename_i x T
    obtain ⟨t, b, h1, h2, q⟩ := h
    have ty : TyX X.K H x (.type t) := by
      cases x with
      | non => have e : t = "NoneType" := h1; subst e; exact .base .non
      | bl b => have e : t = "bool" := h1; subst e; exact .base (.bl b)
      | int i => have e : t = "int" := h1; subst e; exact .base (.int i)
      | str z => have e : t = "str" := h1; subst e; exact .base (.str z)
      | _ => exact h1
    exact call_isi pins s σ H _ us Q I r ⟨x, _, _, _, b, rfl, .ty T, ty, kit_ty h2, q⟩
  · obtain ⟨t, b, h1, h2, q⟩ := h
    exact call_isi pins s σ H _ us Q I r ⟨_, _, t, _, b, rfl, .own _, h1, h2, q⟩
  · exact h.elim
/-! methods of built-in types -/
abbrev RM : Type := V → List V → Hp → VK → Prop
def uStarts : RM := fun x xs H Q => match x, xs with
  | .str a, [.str b] => Q (.bl (Txt.startswith a b)) H
  | _, _ => False
theorem m_starts : MtR X "str.startswith" uStarts := by
  intro pins s σ H x xs v us Q I rx rs h
  unfold uStarts at h
  split at h
  · exact mt_startswith pins s σ H _ _ v us Q I rx rs ⟨_, _, rfl, rfl, h⟩
  · exact h.elim
def uJoin (K : PySem.W.Frag) : RM := fun x xs H Q => match x, xs with
  | .str a, [.ref p] => ∃ ys : List Str, (SqL K H p (ys.map V.str) ∨ SqT K H p (ys.map V.str)) ∧ (ys.map (·.length)).sum + ys.length * a.length ≤ 16777216 ∧ Q (.str (Txt.join a ys)) H
  | _, _ => False
theorem m_join : MtR X "str.join" (uJoin X.K) := by
  intro pins s σ H x xs v us Q I rx rs h
  unfold uJoin at h
  split at h
  · obtain ⟨ys, h1, h2, q⟩ := h
    exact mt_join pins s σ H _ _ v us Q I rx rs ⟨_, _, ys, rfl, rfl, h1, h2, q⟩
  · exact h.elim
def uAppend : RM := fun x vs H Q => match x, vs with
  | .ref l, [y] => ∃ xs, H l = some (.lst xs) ∧ xs.length < sizeLine ∧ Q .non (upd H l (.lst (xs ++ [y])))
  | _, _ => False
theorem m_append : MtM X "list.append" uAppend := by
  intro pins s σ H x xs v us Q I rx rs h
  unfold uAppend at h
  split at h
  · obtain ⟨ys, h1, h2, q⟩ := h
    exact mt_append pins s σ H _ _ v us Q I rx rs ⟨_, ys, _, rfl, rfl, h1, h2, q⟩
  · exact h.elim
end
end U
/-! R: the steps of a reading (each a row that holds by what its left side means). -/
namespace U
open PySem PySem.Spec L2
section
variable {σ : St} {H : Hp} {Q : VK} {D : Ends} {v x y : V} {ta tb tc te tv : TE} {K : PySem.W.Frag} {t u : TT} {QB : Bool → Hp → Prop}
theorem szl {n : Nat} (h : n ≤ 16777216) : n ≤ sizeLine := by rw [sizeLine_eq]; exact h
theorem szt {n : Nat} (h : n < 16777216) : n < sizeLine := by rw [sizeLine_eq]; exact h
/-! statements -/
theorem r_seq {s1 s2 : TS} (h : s1 { D with nx := s2 D } σ H) : tSeq s1 s2 D σ H := h
theorem r_next (h : D.nx σ H) : tNext D σ H := h
theorem r_brk (h : D.bk σ H) : tBreak D σ H := h
theorem r_cont (h : D.ct σ H) : tCont D σ H := h
theorem r_drop (h : te σ H fun _ H1 => D.nx σ H1) : tDrop te D σ H := h
theorem r_ret (h : te σ H D.rt) : tRet te D σ H := h
theorem r_retN (h : D.rt .non H) : tRetN D σ H := h
theorem r_ifS {c : TT} {s1 s2 : TS} (h : c σ H fun b H1 => if b = true then s1 D σ H1 else s2 D σ H1) : tIfS c s1 s2 D σ H := h
theorem r_asg {g : TG} (h : te σ H fun x H1 => g x σ H1 D.nx) : tAsg te g D σ H := h
theorem r_gname {i : Nat} {R : St → Hp → Prop} (h : R (σ.set i (some v)) H) : gName i v σ H R := h
theorem r_aug {i : Nat} {ti : TIp} (hx : σ[i]? = some (some x)) (h : te σ H fun y H1 => ti x y H1 fun z H2 => D.nx (σ.set i (some z)) H2) : tAug i te ti D σ H := ⟨x, hx, h⟩
theorem r_nx {a : St → Hp → Prop} {b : VK} {c d : St → Hp → Prop} (h : a σ H) : (Ends.mk a b c d).nx σ H := h
theorem r_rt {a : St → Hp → Prop} {b : VK} {c d : St → Hp → Prop} (h : b v H) : (Ends.mk a b c d).rt v H := h
/-! expressions -/
theorem r_var {i : Nat} (hx : σ[i]? = some (some v)) (h : Q v H) : tVar i σ H Q := ⟨v, hx, h⟩
theorem r_c (h : Q v H) : tC v σ H Q := h
theorem r_op {r : R2} (h : ta σ H fun x H1 => tb σ H1 fun y H2 => r x y H2 Q) : tOp r ta tb σ H Q := h
theorem r_un {r : V → Hp → VK → Prop} (h : ta σ H fun x H1 => r x H1 Q) : tUn r ta σ H Q := h
theorem r_cons {tr : TA} {QA : List V → Hp → Prop} (h : ta σ H fun x H1 => tr σ H1 fun xs H2 => QA (x :: xs) H2) : tCons ta tr σ H QA := h
theorem r_nil {QA : List V → Hp → Prop} (h : QA [] H) : tNil σ H QA := h
theorem r_cb {r : RC} {t : TA} (h : t σ H fun vs H1 => r vs H1 Q) : tCB r t σ H Q := h
theorem r_bm {T : String} {r : RM} {t : TA} (h : ta σ H fun x H1 => tyV K T x H1 ∧ t σ H1 fun xs H2 => r x xs H2 Q) : tBM K T r ta t σ H Q := h
theorem r_bm0 {T : String} {r : RM} (h : ta σ H fun x H1 => tyV K T x H1 ∧ r x [] H1 Q) : tBM0 K T r ta σ H Q := h
theorem r_sl {r : V → Option Int → Option Int → Hp → VK → Prop} {tl th : TO} (h : te σ H fun x H1 => tl σ H1 fun l H2 => th σ H2 fun u H3 => r x l u H3 Q) : tSl r te tl th σ H Q := h
theorem r_nop {QO : Option Int → Hp → Prop} (h : QO none H) : tNoPart σ H QO := h
theorem r_part {QO : Option Int → Hp → Prop} (h : te σ H fun x H1 => ∃ i, x = .int i ∧ QO (some i) H1) : tPart te σ H QO := h
theorem r_partI {i : Int} {P : Int → Prop} (h : P i) : ∃ j, V.int i = .int j ∧ P j := ⟨i, rfl, h⟩
theorem r_tup {ta : TA} (h : ta σ H fun xs H1 => xs.length ≤ sizeLine ∧ ∀ p, H1 p = none → Q (.ref p) (upd H1 p (.tup xs))) : tTup ta σ H Q := h
theorem r_lst {ta : TA} (h : ta σ H fun xs H1 => xs.length ≤ sizeLine ∧ ∀ p, H1 p = none → Q (.ref p) (upd H1 p (.lst xs))) : tLst ta σ H Q := h
theorem r_if {c : TT} (h : c σ H fun b H1 => if b = true then ta σ H1 Q else tb σ H1 Q) : tIf c ta tb σ H Q := h
theorem r_call {sp : Sp} {E : XK} {t : TA} (h : t σ H fun vs H1 => sp vs H1 Q E) : tCall sp [] E t σ H Q := by
  have e : (fun vs H1 => sp (vs ++ []) H1 Q E) = fun vs H1 => sp vs H1 Q E := by
    funext vs H1
    rw [List.append_nil]
  show t σ H fun vs H1 => sp (vs ++ []) H1 Q E
  rw [e]
  exact h
theorem r_andV (h : ta σ H fun x H1 => ∃ c, x = .bl c ∧ if c = true then tb σ H1 Q else Q (.bl false) H1) : tAndV ta tb σ H Q := h
theorem r_orV (h : ta σ H fun x H1 => ∃ c, x = .bl c ∧ if c = true then Q (.bl true) H1 else tb σ H1 Q) : tOrV ta tb σ H Q := h
theorem r_notV (h : ta σ H fun x H1 => ∃ c, x = .bl c ∧ Q (.bl (!c)) H1) : tNotV ta σ H Q := h
theorem r_bl {c : Bool} {P : Bool → Prop} (h : P c) : ∃ k, V.bl c = .bl k ∧ P k := ⟨c, rfl, h⟩
theorem r_chain {r r' : R2} (h : ta σ H fun x H1 => tb σ H1 fun y H2 => r x y H2 fun z H3 => ∃ k, z = .bl k ∧ (if k = true then tc σ H3 fun w' H4 => r' y w' H4 Q else Q (.bl false) H3)) : tChain r r' ta tb tc σ H Q := h
/-! tests -/
theorem r_test (h : te σ H fun x H' => ∃ k, x = .bl k ∧ QB k H') : tTest te σ H QB := h
theorem r_tb (h : te σ H fun x H' => ∃ k, x = .bl k ∧ QB k H') : tB te σ H QB := h
theorem r_and (h : t σ H fun c H1 => if c = true then u σ H1 QB else QB false H1) : tAnd t u σ H QB := h
theorem r_or (h : t σ H fun c H1 => if c = true then QB true H1 else u σ H1 QB) : tOr t u σ H QB := h
theorem r_not (h : t σ H fun c H1 => QB (!c) H1) : tNot t σ H QB := h
/-! truth of a value -/
def uTru (K : PySem.W.Frag) (te : TE) : TT := fun σ H Q => te σ H fun x H' => ∃ k, TruV K x H' k ∧ Q k H'
theorem pt_tru {X : Cx} {a : Expr} {ta : TE} (ha : PE X a ta) (he : ∀ whole, isTrue a X.env whole = (do let v ← whole; standAt a.pos; holding [v] (truthy v)) := by intro _; rfl) : PT X a (uTru X.K ta) := pt_truth ha he
theorem r_tru (h : te σ H fun x H' => ∃ k, TruV K x H' k ∧ QB k H') : uTru K te σ H QB := h
theorem r_truBl {c : Bool} {P : Bool → Prop} (h : P c) : ∃ k, TruV K (.bl c) H k ∧ P k := ⟨c, rfl, h⟩
theorem r_truInt {i : Int} {P : Bool → Prop} (h : P (decide (i ≠ 0))) : ∃ k, TruV K (.int i) H k ∧ P k := ⟨_, by simp [TruV, bne, Bool.beq_eq_decide_eq], h⟩
theorem r_truNon {P : Bool → Prop} (h : P false) : ∃ k, TruV K .non H k ∧ P k := ⟨_, rfl, h⟩
/-! operators -/
variable {i j : Int} {a b : Str}
theorem r_addI (h : Q (.int (i + j)) H) : uAdd K (.int i) (.int j) H Q := h
theorem r_addS (hl : a.length + b.length ≤ sizeLine) (h : Q (.str (a ++ b)) H) : uAdd K (.str a) (.str b) H Q := ⟨hl, h⟩
theorem r_sub (h : Q (.int (i - j)) H) : uSub (.int i) (.int j) H Q := h
theorem r_mul (hc : CMul i j ∨ CMulW i j) (h : Q (.int (i * j)) H) : uMul (.int i) (.int j) H Q := ⟨hc, h⟩
theorem r_fdiv (hc : CDivW i j) (h : Q (.int (i / j)) H) : uFdiv (.int i) (.int j) H Q := ⟨hc, h⟩
theorem r_mod (hc : 0 < j) (h : Q (.int (i % j)) H) : uMod (.int i) (.int j) H Q := ⟨hc, h⟩
theorem r_neg (h : Q (.int (-i)) H) : uNeg (.int i) H Q := h
theorem r_cmpI {p : Int → Int → Bool} (h : Q (.bl (p i j)) H) : uCmpI p (.int i) (.int j) H Q := h
theorem dec_int : decide (V.int i = .int j) = decide (i = j) := by simp
theorem dec_str : decide (V.str a = .str b) = decide (a = b) := by simp
theorem dec_bl {c d : Bool} : decide (V.bl c = .bl d) = decide (c = d) := by simp
theorem r_eqI (h : Q (.bl (decide (i = j))) H) : uEq K (.int i) (.int j) H Q := .inl ⟨rfl, by rw [dec_int]; exact h⟩
theorem r_eqS (h : Q (.bl (decide (a = b))) H) : uEq K (.str a) (.str b) H Q := .inl ⟨rfl, by rw [dec_str]; exact h⟩
theorem r_eqB {c d : Bool} (h : Q (.bl (decide (c = d))) H) : uEq K (.bl c) (.bl d) H Q := .inl ⟨rfl, by rw [dec_bl]; exact h⟩
theorem r_neI (h : Q (.bl (!decide (i = j))) H) : uNe K (.int i) (.int j) H Q := .inl ⟨rfl, by rw [dec_int]; exact h⟩
theorem r_neS (h : Q (.bl (!decide (a = b))) H) : uNe K (.str a) (.str b) H Q := .inl ⟨rfl, by rw [dec_str]; exact h⟩
theorem r_neB {c d : Bool} (h : Q (.bl (!decide (c = d))) H) : uNe K (.bl c) (.bl d) H Q := .inl ⟨rfl, by rw [dec_bl]; exact h⟩
theorem r_isNN (h : Q (.bl true) H) : uIsN id .non .non H Q := h
theorem r_isNI (h : Q (.bl false) H) : uIsN id (.int i) .non H Q := h
theorem r_isNB {c : Bool} (h : Q (.bl false) H) : uIsN id (.bl c) .non H Q := h
theorem r_isNS (h : Q (.bl false) H) : uIsN id (.str a) .non H Q := h
theorem r_isNR {p : Addr} (h : Q (.bl false) H) : uIsN id (.ref p) .non H Q := h
theorem r_notNN (h : Q (.bl false) H) : uIsN not .non .non H Q := h
theorem r_notNI (h : Q (.bl true) H) : uIsN not (.int i) .non H Q := h
theorem r_notNB {c : Bool} (h : Q (.bl true) H) : uIsN not (.bl c) .non H Q := h
theorem r_notNS (h : Q (.bl true) H) : uIsN not (.str a) .non H Q := h
theorem r_notNR {p : Addr} (h : Q (.bl true) H) : uIsN not (.ref p) .non H Q := h
theorem r_inC {c : Nat} (h : Q (.bl (decide (c ∈ a.cps.toList))) H) : uIn K id (.str ⟨#[c]⟩) (.str a) H Q := ⟨c, rfl, h⟩
theorem r_notInC {c : Nat} (h : Q (.bl (!decide (c ∈ a.cps.toList))) H) : uIn K not (.str ⟨#[c]⟩) (.str a) H Q := ⟨c, rfl, h⟩
theorem r_mulS {k : Int} (h1 : a.length * k.toNat ≤ 1000000) (h2 : k ≤ 1000000) (h3 : -(2 ^ 63) ≤ k) (h : Q (.str (Txt.mul a k)) H) : uMul (.str a) (.int k) H Q := ⟨h1, h2, h3, h⟩
theorem r_ixS {c : Nat} (h1 : a.length ≤ sizeLine) (h2 : atI a.cps.toList i = some c) (h : Q (.str ⟨#[c]⟩) H) : uIx K (.str a) (.int i) H Q := ⟨c, h1, h2, h⟩
theorem r_ixL {p : Addr} {xs : List V} (h1 : SqL K H p xs) (h2 : atI xs i = some v) (h : Q v H) : uIx K (.ref p) (.int i) H Q := ⟨xs, v, .inl h1, h2, h⟩
theorem r_ixT {p : Addr} {xs : List V} (h1 : SqT K H p xs) (h2 : atI xs i = some v) (h : Q v H) : uIx K (.ref p) (.int i) H Q := ⟨xs, v, .inr h1, h2, h⟩
theorem r_slS {lo hi : Option Int} (hl : a.length ≤ sizeLine) (h : Q (.str (cutS a lo hi)) H) : uSl K (.str a) lo hi H Q := ⟨hl, h⟩
theorem r_lenL {p : Addr} {xs : List V} (h1 : SqL K H p xs) (h : Q (.int (xs.length : Int)) H) : uLen K [.ref p] H Q := ⟨xs, .inl h1, h⟩
theorem r_lenT {p : Addr} {xs : List V} (h1 : SqT K H p xs) (h : Q (.int (xs.length : Int)) H) : uLen K [.ref p] H Q := ⟨xs, .inr h1, h⟩
theorem r_allL {p : Addr} {bs : List Bool} (h1 : SqL K H p (bs.map V.bl)) (h : Q (.bl (bs.all id)) H) : uAll K [.ref p] H Q := ⟨bs, h1, h⟩
theorem r_listL {p : Addr} {xs : List V} (h1 : SqL K H p xs) (h : ∀ l, H l = none → Q (.ref l) (upd H l (.lst xs))) : uList K [.ref p] H Q := ⟨xs, .inl h1, h⟩
theorem r_listT {p : Addr} {xs : List V} (h1 : SqT K H p xs) (h : ∀ l, H l = none → Q (.ref l) (upd H l (.lst xs))) : uList K [.ref p] H Q := ⟨xs, .inr h1, h⟩
theorem r_tupleL {p : Addr} {xs : List V} (h1 : SqL K H p xs) (h : ∀ l, H l = none → Q (.ref l) (upd H l (.tup xs))) : uTuple K [.ref p] H Q := ⟨xs, .inl ⟨h1, h⟩⟩
theorem r_append {p : Addr} {xs : List V} (h1 : H p = some (.lst xs)) (h2 : xs.length < sizeLine) (h : Q .non (upd H p (.lst (xs ++ [v])))) : uAppend (.ref p) [v] H Q := ⟨xs, h1, h2, h⟩
theorem r_tyStr {A : Prop} (h : A) : tyV K "str" (.str a) H ∧ A := ⟨rfl, h⟩
theorem r_tyLst {p : Addr} {xs : List V} {A : Prop} (h1 : H p = some (.lst xs)) (h : A) : tyV K "list" (.ref p) H ∧ A := ⟨.inl ⟨rfl, _, SqL.of h1⟩, h⟩
theorem r_lenS (hl : a.length ≤ sizeLine) (h : Q (.int (a.length : Int)) H) : uLen K [.str a] H Q := ⟨hl, h⟩
theorem r_abs (h : Q (.int (i.natAbs : Int)) H) : uAbs [.int i] H Q := h
theorem r_intI (h : Q (.int i) H) : uInt [.int i] H Q := h
theorem r_intB {c : Bool} (h : Q (.int (if c then 1 else 0)) H) : uInt [.bl c] H Q := h
theorem r_strI (hl : i.natAbs.log2 < 1920) (h : Q (.str (toString i)) H) : uStr [.int i] H Q := ⟨hl, h⟩
theorem r_maxI (h : Q (.int (max i j)) H) : uMax [.int i, .int j] H Q := h
theorem r_minI (h : Q (.int (min i j)) H) : uMin [.int i, .int j] H Q := h
theorem r_starts (h : Q (.bl (Txt.startswith a b)) H) : uStarts (.str a) [.str b] H Q := h
theorem r_iI_int (h : Q (.bl true) H) : uIsi K [(.int i), .ty "int"] H Q := ⟨"int", true, rfl, by decide +kernel, h⟩
theorem r_iI_bool (h : Q (.bl false) H) : uIsi K [(.int i), .ty "bool"] H Q := ⟨"int", false, rfl, by decide +kernel, h⟩
theorem r_iI_str (h : Q (.bl false) H) : uIsi K [(.int i), .ty "str"] H Q := ⟨"int", false, rfl, by decide +kernel, h⟩
theorem r_iI_tuple (h : Q (.bl false) H) : uIsi K [(.int i), .ty "tuple"] H Q := ⟨"int", false, rfl, by decide +kernel, h⟩
theorem r_iI_list (h : Q (.bl false) H) : uIsi K [(.int i), .ty "list"] H Q := ⟨"int", false, rfl, by decide +kernel, h⟩
theorem r_iB_int {d : Bool} (h : Q (.bl true) H) : uIsi K [(.bl d), .ty "int"] H Q := ⟨"bool", true, rfl, by decide +kernel, h⟩
theorem r_iB_bool {d : Bool} (h : Q (.bl true) H) : uIsi K [(.bl d), .ty "bool"] H Q := ⟨"bool", true, rfl, by decide +kernel, h⟩
theorem r_iB_str {d : Bool} (h : Q (.bl false) H) : uIsi K [(.bl d), .ty "str"] H Q := ⟨"bool", false, rfl, by decide +kernel, h⟩
theorem r_iB_tuple {d : Bool} (h : Q (.bl false) H) : uIsi K [(.bl d), .ty "tuple"] H Q := ⟨"bool", false, rfl, by decide +kernel, h⟩
theorem r_iB_list {d : Bool} (h : Q (.bl false) H) : uIsi K [(.bl d), .ty "list"] H Q := ⟨"bool", false, rfl, by decide +kernel, h⟩
theorem r_iS_int (h : Q (.bl false) H) : uIsi K [(.str a), .ty "int"] H Q := ⟨"str", false, rfl, by decide +kernel, h⟩
theorem r_iS_bool (h : Q (.bl false) H) : uIsi K [(.str a), .ty "bool"] H Q := ⟨"str", false, rfl, by decide +kernel, h⟩
theorem r_iS_str (h : Q (.bl true) H) : uIsi K [(.str a), .ty "str"] H Q := ⟨"str", true, rfl, by decide +kernel, h⟩
theorem r_iS_tuple (h : Q (.bl false) H) : uIsi K [(.str a), .ty "tuple"] H Q := ⟨"str", false, rfl, by decide +kernel, h⟩
theorem r_iS_list (h : Q (.bl false) H) : uIsi K [(.str a), .ty "list"] H Q := ⟨"str", false, rfl, by decide +kernel, h⟩
theorem r_iN_int (h : Q (.bl false) H) : uIsi K [.non, .ty "int"] H Q := ⟨"NoneType", false, rfl, by decide +kernel, h⟩
theorem r_iN_bool (h : Q (.bl false) H) : uIsi K [.non, .ty "bool"] H Q := ⟨"NoneType", false, rfl, by decide +kernel, h⟩
theorem r_iN_str (h : Q (.bl false) H) : uIsi K [.non, .ty "str"] H Q := ⟨"NoneType", false, rfl, by decide +kernel, h⟩
theorem r_iN_tuple (h : Q (.bl false) H) : uIsi K [.non, .ty "tuple"] H Q := ⟨"NoneType", false, rfl, by decide +kernel, h⟩
theorem r_iN_list (h : Q (.bl false) H) : uIsi K [.non, .ty "list"] H Q := ⟨"NoneType", false, rfl, by decide +kernel, h⟩
theorem r_iT_int {p : Addr} {xs : List V} (hp : H p = some (.tup xs)) (h : Q (.bl false) H) : uIsi K [.ref p, .ty "int"] H Q := ⟨"tuple", false, .base (.tup hp), by decide +kernel, h⟩
theorem r_iL_int {p : Addr} {xs : List V} (hp : H p = some (.lst xs)) (h : Q (.bl false) H) : uIsi K [.ref p, .ty "int"] H Q := ⟨"list", false, .base (.lst hp), by decide +kernel, h⟩
theorem r_iT_bool {p : Addr} {xs : List V} (hp : H p = some (.tup xs)) (h : Q (.bl false) H) : uIsi K [.ref p, .ty "bool"] H Q := ⟨"tuple", false, .base (.tup hp), by decide +kernel, h⟩
theorem r_iL_bool {p : Addr} {xs : List V} (hp : H p = some (.lst xs)) (h : Q (.bl false) H) : uIsi K [.ref p, .ty "bool"] H Q := ⟨"list", false, .base (.lst hp), by decide +kernel, h⟩
theorem r_iT_str {p : Addr} {xs : List V} (hp : H p = some (.tup xs)) (h : Q (.bl false) H) : uIsi K [.ref p, .ty "str"] H Q := ⟨"tuple", false, .base (.tup hp), by decide +kernel, h⟩
theorem r_iL_str {p : Addr} {xs : List V} (hp : H p = some (.lst xs)) (h : Q (.bl false) H) : uIsi K [.ref p, .ty "str"] H Q := ⟨"list", false, .base (.lst hp), by decide +kernel, h⟩
theorem r_iT_tuple {p : Addr} {xs : List V} (hp : H p = some (.tup xs)) (h : Q (.bl true) H) : uIsi K [.ref p, .ty "tuple"] H Q := ⟨"tuple", true, .base (.tup hp), by decide +kernel, h⟩
theorem r_iL_tuple {p : Addr} {xs : List V} (hp : H p = some (.lst xs)) (h : Q (.bl false) H) : uIsi K [.ref p, .ty "tuple"] H Q := ⟨"list", false, .base (.lst hp), by decide +kernel, h⟩
theorem r_iT_list {p : Addr} {xs : List V} (hp : H p = some (.tup xs)) (h : Q (.bl false) H) : uIsi K [.ref p, .ty "list"] H Q := ⟨"tuple", false, .base (.tup hp), by decide +kernel, h⟩
theorem r_iL_list {p : Addr} {xs : List V} (hp : H p = some (.lst xs)) (h : Q (.bl true) H) : uIsi K [.ref p, .ty "list"] H Q := ⟨"list", true, .base (.lst hp), by decide +kernel, h⟩
/-! branches -/
theorem br_t {A B : Prop} (h : A) : if true = true then A else B := by rw [if_pos rfl]; exact h
theorem br_f {A B : Prop} (h : B) : if false = true then A else B := by rw [if_neg Bool.false_ne_true]; exact h
theorem br {c : Bool} {A B : Prop} (h1 : c = true → A) (h2 : c = false → B) : if c = true then A else B := by
  cases c with
  | true => exact br_t (h1 rfl)
  | false => exact br_f (h2 rfl)
theorem br_y {p : Prop} [Decidable p] {A B : Prop} (hp : p) (h : A) : if decide p = true then A else B := by rw [decide_eq_true hp]; exact br_t h
theorem br_n {p : Prop} [Decidable p] {A B : Prop} (hp : ¬ p) (h : B) : if decide p = true then A else B := by rw [decide_eq_false hp]; exact br_f h
theorem br_ny {p : Prop} [Decidable p] {A B : Prop} (hp : p) (h : B) : if (!decide p) = true then A else B := by rw [decide_eq_true hp]; exact br_f h
theorem br_nn {p : Prop} [Decidable p] {A B : Prop} (hp : ¬ p) (h : A) : if (!decide p) = true then A else B := by rw [decide_eq_false hp]; exact br_t h
theorem br_nt {A B : Prop} (h : B) : if (!true) = true then A else B := br_f h
theorem br_nf {A B : Prop} (h : A) : if (!false) = true then A else B := br_t h
/-- a bool by its two ways (an open test) -/
theorem br_d {p : Prop} [Decidable p] {A B : Prop} (h1 : p → A) (h2 : ¬ p → B) : if decide p = true then A else B := by
  by_cases h : p
  · rw [decide_eq_true h]; exact br_t (h1 h)
  · rw [decide_eq_false h]; exact br_f (h2 h)
theorem br_nd {p : Prop} [Decidable p] {A B : Prop} (h1 : ¬ p → A) (h2 : p → B) : if (!decide p) = true then A else B := by
  by_cases h : p
  · rw [decide_eq_true h]; exact br_f (h2 h)
  · rw [decide_eq_false h]; exact br_t (h1 h)
end
end U
/-! U2: a def taken by name; constants; stores; loops and comprehensions over what yields one thing after another. -/
namespace U
open PySem PySem.Spec L2
section
variable {X : Cx} {x : Str} {p pos : Pos} {e : Expr} {es : List Expr} {t : TA}
/-- a def of the module's, by its name: where it stands, that it keeps its promise -/
structure OkF (P : Program) (w : World) (K : PySem.W.Frag) (mg : Str → Option Value) (base : Heap) (k : Nat) (x : Str) (ps : List Str) (sp : Sp) : Prop where
  ex : ∃ (f : Addr) (fd : FuncData), mg x = some (.ref f) ∧ FnOk P w K mg base CX0 k f fd ps sp ∧ Binds K fd ps [] ∧ PySem.W.keepIn K (.ref f) = true
theorem pe_fn {k : Nat} {ps : List Str} {sp : Sp} (O : OkF X.prog X.w X.K X.mg X.base k x ps sp) (hr : Room k X.A) (hg : Gl X x) (ha : PA X (e :: es) t) (hdb : (x == ("__debug__" : Str)) = false := by decide)
    (he : starEach (e :: es) X.env = (false, eval e X.env) :: starEach es X.env := by rfl) (hpl : (backTo pos (starEach es X.env)).any (·.1) = false := by rfl) : PE X (.Call (.Name x p) (e :: es) [] pos) (tCall sp [] E0 t) := by
  obtain ⟨f, fd, hm, F, hb, hk⟩ := O.ex
  exact pe_call F hr hg hm hk hb .nil pass0 ha hdb he hpl
theorem pe_fn0 {k : Nat} {ps : List Str} {sp : Sp} (O : OkF X.prog X.w X.K X.mg X.base k x ps sp) (hr : Room k X.A) (hg : Gl X x) (hdb : (x == ("__debug__" : Str)) = false := by decide) : PE X (.Call (.Name x p) [] [] pos) (tCall sp [] E0 tNil) := by
  obtain ⟨f, fd, hm, F, hb, hk⟩ := O.ex
  exact pe_call0 F hr hg hm hk hb .nil pass0 hdb
theorem pe_gint {i : Int} (hg : Gl X x) (h : ∃ t, X.mg x = some (.int i t)) (hd : (x == ("__debug__" : Str)) = false := by decide) : PE X (.Name x pos) (tC (.int i)) := by
  obtain ⟨t, h⟩ := h
  exact pe_glob hg h ⟨_, rfl⟩ hd
theorem pe_gstr {z : Str} (hg : Gl X x) (h : ∃ t, X.mg x = some (.str z t)) (hd : (x == ("__debug__" : Str)) = false := by decide) : PE X (.Name x pos) (tC (.str z)) := by
  obtain ⟨t, h⟩ := h
  exact pe_glob hg h ⟨_, rfl⟩ hd
theorem pe_gref {a : Addr} (hg : Gl X x) (h : X.mg x = some (.ref a)) (hd : (x == ("__debug__" : Str)) = false := by decide) : PE X (.Name x pos) (tC (.ref a)) := pe_glob hg h rfl hd
theorem pe_ty {T : String} (hg : Gl X x) (hm : X.mg x = none) (hv : bootBuiltins x = some (.type T)) (hn : x ≠ "__name__" := by decide) (hd : (x == ("__debug__" : Str)) = false := by decide) : PE X (.Name x pos) (tC (.ty T)) := pe_bltn hg hm hv rfl hn hd
/-- a block: what holds between its first statement and the rest -/
def tSq (t u : TS) : TS := fun D σ H => ∃ M : St → Hp → Prop, t { D with nx := M } σ H ∧ ∀ σ' H', M σ' H' → u D σ' H'
theorem pss_c {st : Stmt} {rest : List Stmt} {t u : TS} (h1 : PS X st t) (h2 : PSs X rest u) : PSs X (st :: rest) (tSq t u) := by
  refine ⟨fun pins s σ H D I h => ?_⟩
  obtain ⟨M, hm, hu⟩ := h
  refine wpAny_execs_cons (thn (h1.run pins s σ H { D with nx := M } I hm) fun f s1 q => ?_)
  cases f with
  | next =>
    obtain ⟨σ', H', I', q⟩ := q
    exact h2.run pins s1 σ' H' D I' (hu σ' H' q)
  | ret v => exact q
  | brk => exact q
  | cont => exact q
/-- what is walked: a list, a tuple, a text -/
def uIt (K : PySem.W.Frag) (te : TE) : TI := fun σ H R => iList K te σ H R ∨ iTup K te σ H R ∨ iStr te σ H R
theorem pi_any {tg : Expr} {te : TE} (he : PE X e te) : PI X tg e (uIt X.K te) := ⟨fun pins s σ H R I h => by
  rcases h with h | h | h
  · exact (pi_list he).run pins s σ H R I h
  · exact (pi_tup he).run pins s σ H R I h
  · exact (pi_str he).run pins s σ H R I h⟩
/-- isinstance(x, (T1, T2, ..)), built-in types -/
def kitL (t : String) : List String → Option Bool
  | [] => some false
  | T :: Ts => match kitB t T with
    | some true => some true
    | some false => kitL t Ts
    | none => none
theorem kitL_any {K : PySem.W.Frag} {t : String} : ∀ {Ts : List String} {b : Bool}, kitL t Ts = some b → PySem.W.kitAny K (.type t) (Ts.map Value.type) = some b
  | [], b, h => by cases h; rfl
  | T :: Ts, b, h => by
    unfold kitL at h
    cases e : kitB t T with
    | none => rw [e] at h; cases h
    | some c =>
      rw [e] at h
      cases c with
      | true => cases h; exact kitAny_cons (b := true) (kit_ty e) (fun z => by cases z) (fun _ => rfl)
      | false => exact kitAny_cons (b := false) (kit_ty e) (fun _ => kitL_any h) (fun z => by cases z)
theorem clsL : ∀ Ts : List String, Paired ClsV (Ts.map V.ty) (Ts.map Value.type)
  | [] => .nil
  | T :: Ts => .cons (.ty T) (clsL Ts)
def uIsiT (K : PySem.W.Frag) : RC := fun xs H Q => match xs with
  | [x, .ref p] => ∃ (t : String) (Ts : List String) (b : Bool), H p = some (.tup (Ts.map V.ty)) ∧ (match tyName x with | some n => t = n | none => TyX K H x (.type t)) ∧ kitL t Ts = some b ∧ Q (.bl b) H
  | _ => False
theorem c_isiT : CallR X (.builtin "isinstance") (uIsiT X.K) := by
  intro pins s σ H xs us Q I r h
  unfold uIsiT at h
  split at h
  · rename_i x p
    obtain ⟨t, Ts, b, h0, h1, h2, q⟩ := h
    have ty : TyX X.K H x (.type t) := by
      cases x with
      | non => have e : t = "NoneType" := h1; subst e; exact .base .non
      | bl b => have e : t = "bool" := h1; subst e; exact .base (.bl b)
      | int i => have e : t = "int" := h1; subst e; exact .base (.int i)
      | str z => have e : t = "str" := h1; subst e; exact .base (.str z)
      | _ => exact h1
    exact call_isiT pins s σ H _ us Q I r ⟨x, p, _, _, _, b, rfl, h0, clsL Ts, ty, kitL_any h2, q⟩
  · exact h.elim
/-! stores -/
def uGetL (K : PySem.W.Frag) (o i : V) (H : Hp) (Q : VK) : Prop := match o, i with
  | .ref a, .int k => ∃ xs v, SqL K H a xs ∧ 0 ≤ k ∧ xs[k.toNat]? = some v ∧ Q v H
  | _, _ => False
theorem g_list : PGet X (uGetL X.K) := by
  intro pins s σ H o i ov iv Q I r1 r2 h
  cases o <;> cases i <;> first | exact (show False from h).elim | skip
  obtain ⟨xs, v, h1, h2, h3, q⟩ := h
  cases r1
  obtain ⟨t, rfl⟩ := r2
  obtain ⟨its, r, pl, hz⟩ := I.list h1
  obtain ⟨w, ew, rw'⟩ := r.get h3
  have hl := line63
  have hj := (List.getElem?_eq_some_iff.mp h3).1
  exact wpAny_getItem_list pl.isList h2 (by omega) (by simpa using ew) ⟨v, H, I, rw', q⟩
def uSetL (o i v : V) (H : Hp) (Q : Hp → Prop) : Prop := match o, i with
  | .ref a, .int k => ∃ xs j, H a = some (.lst xs) ∧ ixN xs.length k = some j ∧ Q (upd H a (.lst (xs.set j v)))
  | _, _ => False
theorem p_list : PSet X uSetL := by
  intro pins s σ H o i v ov iv u Q I r1 r2 r3 h
  cases o <;> cases i <;> first | exact (show False from h).elim | skip
  obtain ⟨xs, j, h1, h2, q⟩ := h
  exact set_list pins s σ H _ _ v ov iv u Q I r1 r2 r3 ⟨_, xs, _, j, rfl, rfl, h1, h2, q⟩
def uIpI (f : Int → Int → Int) (x y : V) (H : Hp) (Q : VK) : Prop := match x, y with
  | .int i, .int j => Q (.int (f i j)) H
  | _, _ => False
theorem a_add : PIp X .Add (uIpI fun i j => i + j) := by
  intro pins s σ H x y v u Q I r1 r2 h
  cases x <;> cases y <;> first | exact (show False from h).elim | skip
  exact ip_add pins s σ H _ _ v u Q I r1 r2 ⟨_, _, rfl, rfl, h⟩
theorem a_sub : PIp X .Sub (uIpI fun i j => i - j) := by
  intro pins s σ H x y v u Q I r1 r2 h
  cases x <;> cases y <;> first | exact (show False from h).elim | skip
  exact ip_sub pins s σ H _ _ v u Q I r1 r2 ⟨_, _, rfl, rfl, h⟩
end
section
variable {σ : St} {H : Hp} {Q : VK} {D : Ends} {K : PySem.W.Frag} {i j : Int}
theorem r_sq {t u : TS} (h : t { D with nx := u D } σ H) : tSq t u D σ H := ⟨u D, h, fun _ _ x => x⟩
theorem r_cut {t u : TS} (M : St → Hp → Prop) (h : t { D with nx := M } σ H) (k : ∀ σ' H', M σ' H' → u D σ' H') : tSq t u D σ H := ⟨M, h, k⟩
theorem r_sqA {te : TE} {g : TG} {u : TS} (h : te σ H fun x H1 => g x σ H1 (u D)) : tSq (tAsg te g) u D σ H := r_sq h
theorem r_sqD {te : TE} {u : TS} (h : te σ H fun _ H1 => u D σ H1) : tSq (tDrop te) u D σ H := r_sq h
theorem r_sqG {x : V} {i : Nat} {te : TE} {ti : TIp} {u : TS} (hx : σ[i]? = some (some x)) (h : te σ H fun y H1 => ti x y H1 fun z H2 => u D (σ.set i (some z)) H2) : tSq (tAug i te ti) u D σ H := r_sq ⟨x, hx, h⟩
theorem r_sqS {to ti te : TE} {tg : V → V → Hp → VK → Prop} {tp : TIp} {ts : TSet} {u : TS} (h : to σ H fun o H1 => ti σ H1 fun k H2 => tg o k H2 fun x H3 => te σ H3 fun y H4 => tp x y H4 fun z H5 => ts o k z H5 fun H6 => u D σ H6) : tSq (tAugS to ti te tg tp ts) u D σ H := r_sq h
theorem r_yes {QB : Bool → Hp → Prop} (h : QB true H) : tYes σ H QB := h
theorem same_new {p : Addr} {o : HO} (h : H p = none) : Same H (upd H p o) := fun b x e => by
  rw [upd_ne (ne_of_none e h)]
  exact e
theorem same_mut {H' : Hp} {p : Addr} {o : HO} (e : Same H H') (h : H p = none) : Same H (upd H' p o) := fun b x eb => by
  rw [upd_ne (ne_of_none eb h)]
  exact e b x eb
theorem r_sub3 {to ti : TE} {ts : TSet} {v : V} {R : St → Hp → Prop} (h : to σ H fun o H1 => ti σ H1 fun k H2 => ts o k v H2 fun H3 => R σ H3) : gSub to ti ts v σ H R := h
theorem r_augS {to ti te : TE} {tg : V → V → Hp → VK → Prop} {tp : TIp} {ts : TSet} (h : to σ H fun o H1 => ti σ H1 fun k H2 => tg o k H2 fun x H3 => te σ H3 fun y H4 => tp x y H4 fun z H5 => ts o k z H5 fun H6 => D.nx σ H6) : tAugS to ti te tg tp ts D σ H := h
theorem r_ipI {f : Int → Int → Int} (h : Q (.int (f i j)) H) : uIpI f (.int i) (.int j) H Q := h
theorem r_getL {a : Addr} {k : Int} {xs : List V} {v : V} (h1 : SqL K H a xs) (h2 : 0 ≤ k) (h3 : xs[k.toNat]? = some v) (h : Q v H) : uGetL K (.ref a) (.int k) H Q := ⟨xs, v, h1, h2, h3, h⟩
theorem r_setL {a : Addr} {k : Int} {xs : List V} {m : Nat} {v : V} {R : Hp → Prop} (h1 : H a = some (.lst xs)) (h2 : ixN xs.length k = some m) (h : R (upd H a (.lst (xs.set m v)))) : uSetL (.ref a) (.int k) v H R := ⟨xs, m, h1, h2, h⟩
/-! loops -/
/-- a loop over n things: P holds ahead of each turn -/
theorem l_for {J : It} {n : Nat} {g : TG} {tb : TS} (P : Nat → St → Hp → Prop) (h0 : P 0 σ H) (go : ∀ i σ H, i < n → P i σ H → J.go i H) (stop : ∀ σ H, P n σ H → J.stop n H)
    (step : ∀ i σ H, i < n → P i σ H → ∀ x H', J.yld i H x H' → g x σ H' fun σ2 H2 => tb { D with nx := P (i + 1), ct := P (i + 1), bk := D.nx } σ2 H2) (done : ∀ σ H, P n σ H → D.nx σ H) :
    ∃ W : Nat → Nat → St → Hp → Prop, (∃ m, W 0 m σ H) ∧ ∀ i m σ H, W i m σ H →
      (J.stop i H ∧ D.nx σ H) ∨ (J.go i H ∧ ∃ N : St → Hp → Prop, (∀ σ' H', N σ' H' → ∃ m', m' < m ∧ W (i + 1) m' σ' H') ∧ ∀ x H', J.yld i H x H' → g x σ H' fun σ2 H2 => tb { D with nx := N, ct := N, bk := D.nx } σ2 H2) := by
  refine ⟨fun i m σ H => m = n - i ∧ i ≤ n ∧ P i σ H, ⟨n, by simp, Nat.zero_le _, h0⟩, ?_⟩
  rintro i m σ H ⟨rfl, hi, p⟩
  by_cases hlt : i < n
  · exact .inr ⟨go i σ H hlt p, P (i + 1), fun σ' H' p' => ⟨n - (i + 1), by omega, rfl, hlt, p'⟩, fun x H' y => step i σ H hlt p x H' y⟩
  · have e : i = n := by omega
    subst e
    exact .inl ⟨stop σ H p, done σ H p⟩
theorem r_for {wi : TI} {g : TG} {tb : TS} (h : wi σ H fun J H1 => ∃ W : Nat → Nat → St → Hp → Prop, (∃ m, W 0 m σ H1) ∧ ∀ i m σ H, W i m σ H →
  (J.stop i H ∧ D.nx σ H) ∨ (J.go i H ∧ ∃ N : St → Hp → Prop, (∀ σ' H', N σ' H' → ∃ m', m' < m ∧ W (i + 1) m' σ' H') ∧ ∀ x H', J.yld i H x H' → g x σ H' fun σ2 H2 => tb { D with nx := N, ct := N, bk := D.nx } σ2 H2)) : tFor wi g tb D σ H := h
theorem it_list {te : TE} {R : It → Hp → Prop} (h : te σ H fun x H1 => ∃ a, x = .ref a ∧ (∃ xs, SqL K H1 a xs) ∧ R (Itl K a) H1) : uIt K te σ H R := .inl h
theorem it_tup {te : TE} {R : It → Hp → Prop} (h : te σ H fun x H1 => ∃ a, x = .ref a ∧ (∃ xs, SqT K H1 a xs) ∧ R (Itt K a) H1) : uIt K te σ H R := .inr (.inl h)
theorem it_str {te : TE} {R : It → Hp → Prop} (h : te σ H fun v H1 => ∃ x, v = .str x ∧ R (Its x) H1) : uIt K te σ H R := .inr (.inr h)
theorem r_rng1 {ta : TA} {R : It → Hp → Prop} (h : ta σ H fun vs H1 => ∃ j : Int, vs = [.int j] ∧ -(2 ^ 62) ≤ j ∧ j < 2 ^ 62 ∧ R (Itr 0 j.toNat) H1) : iRng1 ta σ H R := h
theorem r_rng1v {k : Int} {P : Int → Prop} (h : P k) : ∃ j : Int, [V.int k] = [V.int j] ∧ P j := ⟨k, rfl, h⟩
theorem r_rng2 {ta : TA} {R : It → Hp → Prop} (h : ta σ H fun vs H1 => ∃ i j : Int, vs = [.int i, .int j] ∧ (-(2 ^ 62) ≤ i ∧ i < 2 ^ 62 ∧ -(2 ^ 62) ≤ j ∧ j < 2 ^ 62) ∧ R (Itr i (j - i).toNat) H1) : iRng2 ta σ H R := h
theorem r_rng2v {a b : Int} {P : Int → Int → Prop} (h : P a b) : ∃ i j : Int, [V.int a, V.int b] = [V.int i, V.int j] ∧ P i j := ⟨a, b, rfl, h⟩
/-- over a range that is told by its number of turns -/
theorem f_range {lo : Int} {n : Nat} {g : TG} {tb : TS} (P : Nat → St → Hp → Prop) (h0 : P 0 σ H)
    (step : ∀ i σ H, i < n → P i σ H → g (.int (lo + i)) σ H fun σ2 H2 => tb { D with nx := P (i + 1), ct := P (i + 1), bk := D.nx } σ2 H2) (done : ∀ σ H, P n σ H → D.nx σ H) :
    ∃ W : Nat → Nat → St → Hp → Prop, (∃ m, W 0 m σ H) ∧ ∀ i m σ H, W i m σ H →
      ((Itr lo n).stop i H ∧ D.nx σ H) ∨ ((Itr lo n).go i H ∧ ∃ N : St → Hp → Prop, (∀ σ' H', N σ' H' → ∃ m', m' < m ∧ W (i + 1) m' σ' H') ∧ ∀ x H', (Itr lo n).yld i H x H' → g x σ H' fun σ2 H2 => tb { D with nx := N, ct := N, bk := D.nx } σ2 H2) :=
  l_for P h0 (fun i σ H h _ => h) (fun _ _ _ => Nat.le_refl _) (fun i σ H h p x H' y => by
    obtain ⟨e1, e2⟩ := y
    subst e1 e2
    exact step i σ H' h p) done
/-- over a text, sign by sign -/
theorem f_str {z : Str} {g : TG} {tb : TS} (P : Nat → St → Hp → Prop) (h0 : P 0 σ H)
    (step : ∀ i (c : Nat) σ H, z.cps.toList[i]? = some c → P i σ H → g (.str ⟨#[c]⟩) σ H fun σ2 H2 => tb { D with nx := P (i + 1), ct := P (i + 1), bk := D.nx } σ2 H2) (done : ∀ σ H, P z.cps.toList.length σ H → D.nx σ H) :
    ∃ W : Nat → Nat → St → Hp → Prop, (∃ m, W 0 m σ H) ∧ ∀ i m σ H, W i m σ H →
      ((Its z).stop i H ∧ D.nx σ H) ∨ ((Its z).go i H ∧ ∃ N : St → Hp → Prop, (∀ σ' H', N σ' H' → ∃ m', m' < m ∧ W (i + 1) m' σ' H') ∧ ∀ x H', (Its z).yld i H x H' → g x σ H' fun σ2 H2 => tb { D with nx := N, ct := N, bk := D.nx } σ2 H2) :=
  l_for P h0 (fun i σ H h _ => by show i < z.cps.size; simpa using h) (fun _ _ _ => by show z.cps.size ≤ _; simp) (fun i σ H h p x H' y => by
    obtain ⟨e1, c, e, e2⟩ := y
    subst e1 e2
    exact step i c σ H' (by simpa using e) p) done
/-- over a list that stays -/
theorem f_list {a : Addr} {xs : List V} {g : TG} {tb : TS} (P : Nat → St → Hp → Prop) (h0 : P 0 σ H) (hl : ∀ i σ H, P i σ H → SqL K H a xs)
    (step : ∀ i x σ H, xs[i]? = some x → P i σ H → g x σ H fun σ2 H2 => tb { D with nx := P (i + 1), ct := P (i + 1), bk := D.nx } σ2 H2) (done : ∀ σ H, P xs.length σ H → D.nx σ H) :
    ∃ W : Nat → Nat → St → Hp → Prop, (∃ m, W 0 m σ H) ∧ ∀ i m σ H, W i m σ H →
      ((Itl K a).stop i H ∧ D.nx σ H) ∨ ((Itl K a).go i H ∧ ∃ N : St → Hp → Prop, (∀ σ' H', N σ' H' → ∃ m', m' < m ∧ W (i + 1) m' σ' H') ∧ ∀ x H', (Itl K a).yld i H x H' → g x σ H' fun σ2 H2 => tb { D with nx := N, ct := N, bk := D.nx } σ2 H2) :=
  for_list P h0 (fun i σ H _ p => hl i σ H p) step done
theorem f_tup {a : Addr} {xs : List V} {g : TG} {tb : TS} (P : Nat → St → Hp → Prop) (h0 : P 0 σ H) (hl : ∀ i σ H, P i σ H → SqT K H a xs)
    (step : ∀ i x σ H, xs[i]? = some x → P i σ H → g x σ H fun σ2 H2 => tb { D with nx := P (i + 1), ct := P (i + 1), bk := D.nx } σ2 H2) (done : ∀ σ H, P xs.length σ H → D.nx σ H) :
    ∃ W : Nat → Nat → St → Hp → Prop, (∃ m, W 0 m σ H) ∧ ∀ i m σ H, W i m σ H →
      ((Itt K a).stop i H ∧ D.nx σ H) ∨ ((Itt K a).go i H ∧ ∃ N : St → Hp → Prop, (∀ σ' H', N σ' H' → ∃ m', m' < m ∧ W (i + 1) m' σ' H') ∧ ∀ x H', (Itt K a).yld i H x H' → g x σ H' fun σ2 H2 => tb { D with nx := N, ct := N, bk := D.nx } σ2 H2) :=
  for_tup P h0 (fun i σ H _ p => hl i σ H p) step done
/-! comprehensions: P by the turn and what the new list holds so far -/
/-- what is wanted behind an element -/
abbrev LcEnd (D : Addr) (N : Hp → Prop) (y : V) (H4 : Hp) : Prop := ∃ acc, H4 D = some (.lst acc) ∧ acc.length < sizeLine ∧ N (upd H4 D (.lst (acc ++ [y])))
theorem l_lc {J : It} {n : Nat} {g : TG} {tt : TT} {te : TE} {vs : List Nat} {D : Addr} {H1 : Hp} {Qd : Hp → Prop} (P : Nat → Hp → Prop) (h0 : P 0 (upd H1 D (.lst [])))
    (go : ∀ i H, i < n → P i H → J.go i H) (stop : ∀ H, P n H → J.stop n H)
    (step : ∀ i H, i < n → P i H → ∀ x H', J.yld i H x H' → g x (wipe σ vs) H' fun σ2 H2 => wipe σ2 vs = wipe σ vs ∧ tt σ2 H2 fun b H3 => if b = true then te σ2 H3 (LcEnd D (P (i + 1))) else P (i + 1) H3) (done : ∀ H, P n H → Qd H) :
    ∃ W : Nat → Nat → Hp → Prop, (∃ m, W 0 m (upd H1 D (.lst []))) ∧ ∀ i m H, W i m H →
      (J.stop i H ∧ Qd H) ∨ (J.go i H ∧ ∃ Nx : Hp → Prop, (∀ H', Nx H' → ∃ m', m' < m ∧ W (i + 1) m' H') ∧ ∀ x H', J.yld i H x H' → g x (wipe σ vs) H' fun σ2 H2 => wipe σ2 vs = wipe σ vs ∧ tt σ2 H2 fun b H3 =>
        if b = true then te σ2 H3 fun y H4 => ∃ acc, H4 D = some (.lst acc) ∧ acc.length < sizeLine ∧ Nx (upd H4 D (.lst (acc ++ [y]))) else Nx H3) := by
  refine ⟨fun i m H => m = n - i ∧ i ≤ n ∧ P i H, ⟨n, by simp, Nat.zero_le _, h0⟩, ?_⟩
  rintro i m H ⟨rfl, hi, p⟩
  by_cases hlt : i < n
  · exact .inr ⟨go i H hlt p, P (i + 1), fun H' p' => ⟨n - (i + 1), by omega, rfl, hlt, p'⟩, fun x H' y => step i H hlt p x H' y⟩
  · have e : i = n := by omega
    subst e
    exact .inl ⟨stop H p, done H p⟩
theorem r_lc {wi : TI} {g : TG} {tt : TT} {te : TE} {vs : List Nat} (h : wi σ H fun J H1 => ∀ D, H1 D = none → ∃ W : Nat → Nat → Hp → Prop, (∃ m, W 0 m (upd H1 D (.lst []))) ∧ ∀ i m H, W i m H →
  (J.stop i H ∧ Q (.ref D) H) ∨ (J.go i H ∧ ∃ Nx : Hp → Prop, (∀ H', Nx H' → ∃ m', m' < m ∧ W (i + 1) m' H') ∧ ∀ x H', J.yld i H x H' → g x (wipe σ vs) H' fun σ2 H2 => wipe σ2 vs = wipe σ vs ∧ tt σ2 H2 fun b H3 =>
    if b = true then te σ2 H3 fun y H4 => ∃ acc, H4 D = some (.lst acc) ∧ acc.length < sizeLine ∧ Nx (upd H4 D (.lst (acc ++ [y]))) else Nx H3)) : tLc wi g tt te vs σ H Q := h
/-- a comprehension over a range of n turns -/
theorem c_range {lo : Int} {n : Nat} {g : TG} {tt : TT} {te : TE} {vs : List Nat} {D : Addr} {H1 : Hp} {Qd : Hp → Prop} (P : Nat → Hp → Prop) (h0 : P 0 (upd H1 D (.lst [])))
    (step : ∀ i H, i < n → P i H → g (.int (lo + i)) (wipe σ vs) H fun σ2 H2 => wipe σ2 vs = wipe σ vs ∧ tt σ2 H2 fun b H3 => if b = true then te σ2 H3 (LcEnd D (P (i + 1))) else P (i + 1) H3) (done : ∀ H, P n H → Qd H) :
    ∃ W : Nat → Nat → Hp → Prop, (∃ m, W 0 m (upd H1 D (.lst []))) ∧ ∀ i m H, W i m H →
      ((Itr lo n).stop i H ∧ Qd H) ∨ ((Itr lo n).go i H ∧ ∃ Nx : Hp → Prop, (∀ H', Nx H' → ∃ m', m' < m ∧ W (i + 1) m' H') ∧ ∀ x H', (Itr lo n).yld i H x H' → g x (wipe σ vs) H' fun σ2 H2 => wipe σ2 vs = wipe σ vs ∧ tt σ2 H2 fun b H3 =>
        if b = true then te σ2 H3 fun y H4 => ∃ acc, H4 D = some (.lst acc) ∧ acc.length < sizeLine ∧ Nx (upd H4 D (.lst (acc ++ [y]))) else Nx H3) :=
  l_lc P h0 (fun i H h _ => h) (fun _ _ => Nat.le_refl _) (fun i H h p x H' y => by
    obtain ⟨e1, e2⟩ := y
    subst e1 e2
    exact step i H' h p) done
theorem c_strs {z : Str} {g : TG} {tt : TT} {te : TE} {vs : List Nat} {D : Addr} {H1 : Hp} {Qd : Hp → Prop} (P : Nat → Hp → Prop) (h0 : P 0 (upd H1 D (.lst [])))
    (step : ∀ i (c : Nat) H, z.cps.toList[i]? = some c → P i H → g (.str ⟨#[c]⟩) (wipe σ vs) H fun σ2 H2 => wipe σ2 vs = wipe σ vs ∧ tt σ2 H2 fun b H3 => if b = true then te σ2 H3 (LcEnd D (P (i + 1))) else P (i + 1) H3) (done : ∀ H, P z.cps.toList.length H → Qd H) :
    ∃ W : Nat → Nat → Hp → Prop, (∃ m, W 0 m (upd H1 D (.lst []))) ∧ ∀ i m H, W i m H →
      ((Its z).stop i H ∧ Qd H) ∨ ((Its z).go i H ∧ ∃ Nx : Hp → Prop, (∀ H', Nx H' → ∃ m', m' < m ∧ W (i + 1) m' H') ∧ ∀ x H', (Its z).yld i H x H' → g x (wipe σ vs) H' fun σ2 H2 => wipe σ2 vs = wipe σ vs ∧ tt σ2 H2 fun b H3 =>
        if b = true then te σ2 H3 fun y H4 => ∃ acc, H4 D = some (.lst acc) ∧ acc.length < sizeLine ∧ Nx (upd H4 D (.lst (acc ++ [y]))) else Nx H3) :=
  l_lc P h0 (fun i H h _ => by show i < z.cps.size; simpa using h) (fun _ _ => by show z.cps.size ≤ _; simp) (fun i H h p x H' y => by
    obtain ⟨e1, c, e, e2⟩ := y
    subst e1 e2
    exact step i c H' (by simpa using e) p) done
theorem c_lists {a : Addr} {xs : List V} {g : TG} {tt : TT} {te : TE} {vs : List Nat} {D : Addr} {H1 : Hp} {Qd : Hp → Prop} (P : Nat → Hp → Prop) (h0 : P 0 (upd H1 D (.lst []))) (hl : ∀ i H, P i H → SqL K H a xs)
    (step : ∀ i x H, xs[i]? = some x → P i H → g x (wipe σ vs) H fun σ2 H2 => wipe σ2 vs = wipe σ vs ∧ tt σ2 H2 fun b H3 => if b = true then te σ2 H3 (LcEnd D (P (i + 1))) else P (i + 1) H3) (done : ∀ H, P xs.length H → Qd H) :
    ∃ W : Nat → Nat → Hp → Prop, (∃ m, W 0 m (upd H1 D (.lst []))) ∧ ∀ i m H, W i m H →
      ((Itl K a).stop i H ∧ Qd H) ∨ ((Itl K a).go i H ∧ ∃ Nx : Hp → Prop, (∀ H', Nx H' → ∃ m', m' < m ∧ W (i + 1) m' H') ∧ ∀ x H', (Itl K a).yld i H x H' → g x (wipe σ vs) H' fun σ2 H2 => wipe σ2 vs = wipe σ vs ∧ tt σ2 H2 fun b H3 =>
        if b = true then te σ2 H3 fun y H4 => ∃ acc, H4 D = some (.lst acc) ∧ acc.length < sizeLine ∧ Nx (upd H4 D (.lst (acc ++ [y]))) else Nx H3) :=
  l_lc P h0 (fun i H h p => ⟨xs, xs[i], hl i H p, by simp [h]⟩) (fun H p => ⟨xs, hl _ H p, Nat.le_refl _⟩) (fun i H h p x H' y => by
    obtain ⟨e1, e2⟩ := y
    subst e1
    exact step i x H' (e2 xs (hl i _ p)) p) done
theorem c_tups {a : Addr} {xs : List V} {g : TG} {tt : TT} {te : TE} {vs : List Nat} {D : Addr} {H1 : Hp} {Qd : Hp → Prop} (P : Nat → Hp → Prop) (h0 : P 0 (upd H1 D (.lst []))) (hl : ∀ i H, P i H → SqT K H a xs)
    (step : ∀ i x H, xs[i]? = some x → P i H → g x (wipe σ vs) H fun σ2 H2 => wipe σ2 vs = wipe σ vs ∧ tt σ2 H2 fun b H3 => if b = true then te σ2 H3 (LcEnd D (P (i + 1))) else P (i + 1) H3) (done : ∀ H, P xs.length H → Qd H) :
    ∃ W : Nat → Nat → Hp → Prop, (∃ m, W 0 m (upd H1 D (.lst []))) ∧ ∀ i m H, W i m H →
      ((Itt K a).stop i H ∧ Qd H) ∨ ((Itt K a).go i H ∧ ∃ Nx : Hp → Prop, (∀ H', Nx H' → ∃ m', m' < m ∧ W (i + 1) m' H') ∧ ∀ x H', (Itt K a).yld i H x H' → g x (wipe σ vs) H' fun σ2 H2 => wipe σ2 vs = wipe σ vs ∧ tt σ2 H2 fun b H3 =>
        if b = true then te σ2 H3 fun y H4 => ∃ acc, H4 D = some (.lst acc) ∧ acc.length < sizeLine ∧ Nx (upd H4 D (.lst (acc ++ [y]))) else Nx H3) :=
  l_lc P h0 (fun i H h p => ⟨xs, xs[i], hl i H p, by simp [h]⟩) (fun H p => ⟨xs, hl _ H p, Nat.le_refl _⟩) (fun i H h p x H' y => by
    obtain ⟨e1, e2⟩ := y
    subst e1
    exact step i x H' (e2 xs (hl i _ p)) p) done
end
end U
/-! U3: data of tuples, and how a heap bears them. -/
namespace U
open PySem PySem.Spec L2
/-- data of tuples -/
inductive D where
  | non | bl (b : Bool) | int (i : Int) | str (x : Str) | tup (ds : List D)
mutual
def D.py : D → PyData
  | .non => .none
  | .bl b => .bool b
  | .int i => .int i
  | .str x => .str x
  | .tup ds => .tuple (D.pyL ds)
def D.pyL : List D → List PyData
  | [] => []
  | d :: ds => D.py d :: D.pyL ds
end
theorem D.pyL_map : ∀ ds : List D, D.pyL ds = ds.map D.py
  | [] => rfl
  | d :: ds => by rw [D.pyL, D.pyL_map ds]; rfl
mutual
inductive Td (K : PySem.W.Frag) (H : Hp) : V → D → Prop
  | non : Td K H .non .non
  | bl (b : Bool) : Td K H (.bl b) (.bl b)
  | int (i : Int) : Td K H (.int i) (.int i)
  | str (x : Str) : Td K H (.str x) (.str x)
  | tup {a : Addr} {vs : List V} {ds : List D} : SqT K H a vs → TdL K H vs ds → Td K H (.ref a) (.tup ds)
inductive TdL (K : PySem.W.Frag) (H : Hp) : List V → List D → Prop
  | nil : TdL K H [] []
  | cons {v : V} {vs : List V} {d : D} {ds : List D} : Td K H v d → TdL K H vs ds → TdL K H (v :: vs) (d :: ds)
end
/-- the tuples stay -/
def Tk (K : PySem.W.Frag) (H H' : Hp) : Prop := ∀ a xs, SqT K H a xs → SqT K H' a xs
section
variable {K : PySem.W.Frag} {H H' H2 : Hp}
theorem Tk.refl : Tk K H H := fun _ _ h => h
theorem Tk.trans (a : Tk K H H') (b : Tk K H' H2) : Tk K H H2 := fun x xs h => b x xs (a x xs h)
theorem Same.tk (e : Same H H') : Tk K H H' := fun a xs h => by
  rcases h with (h | ⟨o, h⟩) | h
  · exact .inl (.inl (e _ _ h))
  · exact .inl (.inr ⟨o, e _ _ h⟩)
  · exact .inr h
/-- what is no tuple may change -/
theorem Tk.mut {p : Addr} {o : HO} (h1 : ∀ xs, H p ≠ some (.tup xs)) (h2 : ∀ ob xs, H p ≠ some (.frz ob (.tup xs))) : Tk K H (upd H p o) := fun a xs h => by
  rcases h with (h | ⟨ob, h⟩) | h
  · have n : a ≠ p := fun e => h1 xs (e ▸ h)
    exact .inl (.inl (by rw [upd_ne n]; exact h))
  · have n : a ≠ p := fun e => h2 ob xs (e ▸ h)
    exact .inl (.inr ⟨ob, by rw [upd_ne n]; exact h⟩)
  · exact .inr h
theorem Tk.new {p : Addr} {o : HO} (h : H p = none) : Tk K H (upd H p o) := Tk.mut (fun xs e => by rw [h] at e; cases e) (fun _ xs e => by rw [h] at e; cases e)
theorem Tk.lst {p : Addr} {xs : List V} {o : HO} (h : H p = some (.lst xs)) : Tk K H (upd H p o) := Tk.mut (fun ys e => by rw [h] at e; cases e) (fun _ ys e => by rw [h] at e; cases e)
theorem Tk.dK {p : Addr} {xs : List (Key × V)} {o : HO} (h : H p = some (.dK xs)) : Tk K H (upd H p o) := Tk.mut (fun ys e => by rw [h] at e; cases e) (fun _ ys e => by rw [h] at e; cases e)
theorem Tk.ins {p C dx : Addr} {fs : List (Str × V)} {o : HO} (h : H p = some (.ins C dx fs)) : Tk K H (upd H p o) := Tk.mut (fun ys e => by rw [h] at e; cases e) (fun _ ys e => by rw [h] at e; cases e)
mutual
theorem Td.mono (e : Tk K H H') : ∀ (d : D) (v : V), Td K H v d → Td K H' v d
  | .non, _, h => by cases h; exact .non
  | .bl _, _, h => by cases h; exact .bl _
  | .int _, _, h => by cases h; exact .int _
  | .str _, _, h => by cases h; exact .str _
  | .tup ds, _, h => by
    cases h with
    | tup h1 h2 => exact .tup (e _ _ h1) (TdL.mono e ds _ h2)
theorem TdL.mono (e : Tk K H H') : ∀ (ds : List D) (vs : List V), TdL K H vs ds → TdL K H' vs ds
  | [], _, h => by cases h; exact .nil
  | d :: ds, _, h => by
    cases h with
    | cons h1 h2 => exact .cons (Td.mono e d _ h1) (TdL.mono e ds _ h2)
end
theorem Td.k {d : D} {v : V} (h : Td K H v d) (e : Tk K H H') : Td K H' v d := Td.mono e d v h
theorem TdL.k {ds : List D} {vs : List V} (h : TdL K H vs ds) (e : Tk K H H') : TdL K H' vs ds := TdL.mono e ds vs h
mutual
theorem Td.dp : ∀ (d : D) (v : V), Td K H v d → Dp K H v d.py
  | .non, _, h => by cases h; exact .non
  | .bl _, _, h => by cases h; exact .bl _
  | .int _, _, h => by cases h; exact .int _
  | .str _, _, h => by cases h; exact .str _
  | .tup ds, _, h => by
    cases h with
    | tup h1 h2 => rw [D.py]; exact .tup h1 (TdL.dp ds _ h2)
theorem TdL.dp : ∀ (ds : List D) (vs : List V), TdL K H vs ds → DpAll K H vs (D.pyL ds)
  | [], _, h => by cases h; exact .nil
  | d :: ds, _, h => by
    cases h with
    | cons h1 h2 => rw [D.pyL]; exact .cons (Td.dp d _ h1) (TdL.dp ds _ h2)
end
theorem TdL.len : ∀ {vs : List V} {ds : List D}, TdL K H vs ds → vs.length = ds.length
  | _, _, .nil => rfl
  | _, _, .cons _ t => by rw [List.length_cons, List.length_cons, TdL.len t]
theorem TdL.get : ∀ {vs : List V} {ds : List D} {i : Nat} {d : D}, TdL K H vs ds → ds[i]? = some d → ∃ v, vs[i]? = some v ∧ Td K H v d
  | _, _, i, _, .nil, h => by simp at h
  | _, _, 0, _, .cons h t, e => by simp at e; subst e; exact ⟨_, rfl, h⟩
  | _, _, i + 1, _, .cons h t, e => by
    obtain ⟨v, h1, h2⟩ := TdL.get (i := i) t (by simpa using e)
    exact ⟨v, by simpa using h1, h2⟩
theorem TdL.append : ∀ {vs ws : List V} {ds es : List D}, TdL K H vs ds → TdL K H ws es → TdL K H (vs ++ ws) (ds ++ es)
  | _, _, _, _, .nil, s => s
  | _, _, _, _, .cons h t, s => .cons h (TdL.append t s)
theorem TdL.take : ∀ {vs : List V} {ds : List D} (n : Nat), TdL K H vs ds → TdL K H (vs.take n) (ds.take n)
  | _, _, 0, _ => .nil
  | _, _, _ + 1, .nil => .nil
  | _, _, n + 1, .cons h t => .cons h (TdL.take n t)
theorem TdL.drop : ∀ {vs : List V} {ds : List D} (n : Nat), TdL K H vs ds → TdL K H (vs.drop n) (ds.drop n)
  | _, _, 0, r => r
  | _, _, _ + 1, .nil => .nil
  | _, _, n + 1, .cons _ t => TdL.drop n t
theorem TdL.one {v : V} {d : D} (h : Td K H v d) : TdL K H [v] [d] := .cons h .nil
/-- a tuple that was just made -/
theorem Td.made {p : Addr} {vs : List V} {ds : List D} (h : TdL K H vs ds) (hp : H p = some (.tup vs)) : Td K H (.ref p) (.tup ds) := .tup (SqT.of hp) h
theorem Td.newT {p : Addr} {vs : List V} {ds : List D} (h : TdL K H vs ds) (hp : H p = none) : Td K (upd H p (.tup vs)) (.ref p) (.tup ds) := .tup (SqT.of upd_same) (h.k (Tk.new hp))
end
/-! equality -/
mutual
def D.eqb : D → D → Bool
  | .non, .non => true
  | .bl a, .bl b => a == b
  | .bl a, .int j => (if a then 1 else 0) == j
  | .int i, .bl b => i == (if b then 1 else 0)
  | .int i, .int j => i == j
  | .str x, .str y => x == y
  | .tup xs, .tup ys => D.eqL xs ys
  | _, _ => false
def D.eqL : List D → List D → Bool
  | [], [] => true
  | x :: xs, y :: ys => D.eqb x y && D.eqL xs ys
  | _, _ => false
end
mutual
theorem D.eqb_py : ∀ a b : D, PyData.eqv a.py b.py = D.eqb a b
  | .non, b => by cases b <;> simp [D.py, PyData.eqv, D.eqb]
  | .bl _, b => by cases b <;> simp [D.py, PyData.eqv, D.eqb]
  | .int _, b => by cases b <;> simp [D.py, PyData.eqv, D.eqb]
  | .str _, b => by cases b <;> simp [D.py, PyData.eqv, D.eqb]
  | .tup xs, b => by
    cases b with
    | tup ys => rw [D.py, D.py, PyData.eqv, D.eqb, D.eqL_py xs ys]
    | _ => simp [D.py, PyData.eqv, D.eqb]
theorem D.eqL_py : ∀ xs ys : List D, PyData.eqvAll (D.pyL xs) (D.pyL ys) = D.eqL xs ys
  | [], [] => by simp [D.pyL, PyData.eqvAll, D.eqL]
  | [], _ :: _ => by simp [D.pyL, PyData.eqvAll, D.eqL]
  | _ :: _, [] => by simp [D.pyL, PyData.eqvAll, D.eqL]
  | x :: xs, y :: ys => by rw [D.pyL, D.pyL, PyData.eqvAll, D.eqL, D.eqb_py x y, D.eqL_py xs ys]
end
/-! fit to be compared: sound texts, no deeper than n, no wider than 60000 -/
mutual
def D.fit : Nat → D → Bool
  | _, .str x => PyData.strOk x && decide (x.length ≤ 60000)
  | 0, .tup _ => false
  | n + 1, .tup ds => decide (ds.length ≤ 60000) && D.fitL n ds
  | _, _ => true
def D.fitL : Nat → List D → Bool
  | _, [] => true
  | n, d :: ds => D.fit n d && D.fitL n ds
end
theorem D.fitL_iff {n : Nat} : ∀ {ds : List D}, D.fitL n ds = true ↔ ∀ d ∈ ds, D.fit n d = true
  | [] => by simp [D.fitL]
  | d :: ds => by rw [D.fitL, Bool.and_eq_true, D.fitL_iff (ds := ds)]; simp
theorem D.fit_tup {n : Nat} {ds : List D} : D.fit (n + 1) (.tup ds) = true ↔ ds.length ≤ 60000 ∧ ∀ d ∈ ds, D.fit n d = true := by
  rw [D.fit, Bool.and_eq_true, decide_eq_true_eq, D.fitL_iff]
theorem D.fit_str {n : Nat} {x : Str} : D.fit n (.str x) = true ↔ PyData.strOk x = true ∧ x.length ≤ 60000 := by
  cases n <;> rw [D.fit, Bool.and_eq_true, decide_eq_true_eq]
theorem D.fit_int {n : Nat} {i : Int} : D.fit n (.int i) = true := by cases n <;> rfl
theorem D.fit_bl {n : Nat} {b : Bool} : D.fit n (.bl b) = true := by cases n <;> rfl
theorem D.fit_non {n : Nat} : D.fit n .non = true := by cases n <;> rfl
mutual
theorem D.fit_lay : ∀ (d : D) (n : Nat), D.fit n d = true → d.py.canLay0 = true ∧ d.py.depth ≤ n + 1
  | .non, n, _ => by simp [D.py, PyData.canLay0, PyData.depth]
  | .bl _, n, _ => by simp [D.py, PyData.canLay0, PyData.depth]
  | .int _, n, _ => by simp [D.py, PyData.canLay0, PyData.depth]
  | .str x, n, h => by
    have h' : PyData.strOk x = true := (D.fit_str.mp h).1
    simp [D.py, PyData.canLay0, PyData.depth, h']
  | .tup ds, 0, h => by simp [D.fit] at h
  | .tup ds, n + 1, h => by
    have h' : D.fitL n ds = true := by
      rw [D.fit, Bool.and_eq_true] at h
      exact h.2
    obtain ⟨h1, h2⟩ := D.fitL_lay ds n h'
    simp only [D.py, PyData.canLay0, PyData.depth]
    exact ⟨h1, by omega⟩
theorem D.fitL_lay : ∀ (ds : List D) (n : Nat), D.fitL n ds = true → PyData.canLayAll0 (D.pyL ds) = true ∧ PyData.depthAll (D.pyL ds) ≤ n + 1
  | [], n, _ => by simp [D.pyL, PyData.canLayAll0, PyData.depthAll]
  | d :: ds, n, h => by
    have h' : (D.fit n d && D.fitL n ds) = true := by simpa [D.fitL] using h
    obtain ⟨a, b⟩ := Bool.and_eq_true_iff.mp h'
    obtain ⟨a1, a2⟩ := D.fit_lay d n a
    obtain ⟨b1, b2⟩ := D.fitL_lay ds n b
    simp only [D.pyL, PyData.canLayAll0, PyData.depthAll, a1, b1]
    exact ⟨rfl, by omega⟩
end
theorem D.shaped {d : D} {n : Nat} (h : D.fit n d = true) (hn : n ≤ 63) : SeqAt.shaped d.py = true := by
  obtain ⟨a, b⟩ := D.fit_lay d n h
  exact Bool.and_eq_true_iff.mpr ⟨a, decide_eq_true (by omega)⟩
mutual
theorem D.fit_mono : ∀ (d : D) {n m : Nat}, n ≤ m → D.fit n d = true → D.fit m d = true
  | .non, _, _, _, _ => D.fit_non
  | .bl _, _, _, _, _ => D.fit_bl
  | .int _, _, _, _, _ => D.fit_int
  | .str x, _, _, _, h => D.fit_str.mpr (D.fit_str.mp h)
  | .tup ds, 0, _, _, h => by simp [D.fit] at h
  | .tup ds, n + 1, 0, l, h => by omega
  | .tup ds, n + 1, m + 1, l, h => by
    rw [D.fit, Bool.and_eq_true] at h ⊢
    exact ⟨h.1, D.fitL_mono ds (by omega) h.2⟩
theorem D.fitL_mono : ∀ (ds : List D) {n m : Nat}, n ≤ m → D.fitL n ds = true → D.fitL m ds = true
  | [], _, _, _, _ => by simp [D.fitL]
  | d :: ds, n, m, l, h => by
    rw [D.fitL, Bool.and_eq_true] at h ⊢
    exact ⟨D.fit_mono d l h.1, D.fitL_mono ds l h.2⟩
end
/-! kinds of data -/
def D.isI : D → Bool
  | .bl _ => true
  | .int _ => true
  | _ => false
def D.isB : D → Bool
  | .bl _ => true
  | _ => false
def D.isS : D → Bool
  | .str _ => true
  | _ => false
def D.isT : D → Bool
  | .tup _ => true
  | _ => false
def D.isN : D → Bool
  | .non => true
  | _ => false
theorem sqT_ty {K : PySem.W.Frag} {H : Hp} {a : Addr} {vs : List V} (h : SqT K H a vs) : TyX K H (.ref a) (.type "tuple") := by
  rcases h with (h | ⟨o, h⟩) | ⟨o, its, n, h1, h2, _⟩
  · exact .base (.tup h)
  · exact .fTuple h
  · exact .kTuple h1 h2
section
variable {K : PySem.W.Frag} {H : Hp} {Q : VK} {v w : V} {a b d : D}
theorem r_isD0_int (h : Td K H v d) (q : Q (.bl d.isI) H) : uIsi K [v, .ty "int"] H Q := by
  cases h with
  | tup h1 h2 => exact ⟨"tuple", false, sqT_ty h1, by decide +kernel, q⟩
  | non => exact ⟨"NoneType", false, rfl, by decide +kernel, q⟩
  | bl b => exact ⟨"bool", true, rfl, by decide +kernel, q⟩
  | int b => exact ⟨"int", true, rfl, by decide +kernel, q⟩
  | str b => exact ⟨"str", false, rfl, by decide +kernel, q⟩
theorem r_isD0_bool (h : Td K H v d) (q : Q (.bl d.isB) H) : uIsi K [v, .ty "bool"] H Q := by
  cases h with
  | tup h1 h2 => exact ⟨"tuple", false, sqT_ty h1, by decide +kernel, q⟩
  | non => exact ⟨"NoneType", false, rfl, by decide +kernel, q⟩
  | bl b => exact ⟨"bool", true, rfl, by decide +kernel, q⟩
  | int b => exact ⟨"int", false, rfl, by decide +kernel, q⟩
  | str b => exact ⟨"str", false, rfl, by decide +kernel, q⟩
theorem r_isD0_str (h : Td K H v d) (q : Q (.bl d.isS) H) : uIsi K [v, .ty "str"] H Q := by
  cases h with
  | tup h1 h2 => exact ⟨"tuple", false, sqT_ty h1, by decide +kernel, q⟩
  | non => exact ⟨"NoneType", false, rfl, by decide +kernel, q⟩
  | bl b => exact ⟨"bool", false, rfl, by decide +kernel, q⟩
  | int b => exact ⟨"int", false, rfl, by decide +kernel, q⟩
  | str b => exact ⟨"str", true, rfl, by decide +kernel, q⟩
theorem r_isD0_tuple (h : Td K H v d) (q : Q (.bl d.isT) H) : uIsi K [v, .ty "tuple"] H Q := by
  cases h with
  | tup h1 h2 => exact ⟨"tuple", true, sqT_ty h1, by decide +kernel, q⟩
  | non => exact ⟨"NoneType", false, rfl, by decide +kernel, q⟩
  | bl b => exact ⟨"bool", false, rfl, by decide +kernel, q⟩
  | int b => exact ⟨"int", false, rfl, by decide +kernel, q⟩
  | str b => exact ⟨"str", false, rfl, by decide +kernel, q⟩
theorem r_isD_list (h : Td K H v d) (q : Q (.bl false) H) : uIsi K [v, .ty "list"] H Q := by
  cases h with
  | tup h1 h2 => exact ⟨"tuple", false, sqT_ty h1, by decide +kernel, q⟩
  | non => exact ⟨"NoneType", false, rfl, by decide +kernel, q⟩
  | bl b => exact ⟨"bool", false, rfl, by decide +kernel, q⟩
  | int b => exact ⟨"int", false, rfl, by decide +kernel, q⟩
  | str b => exact ⟨"str", false, rfl, by decide +kernel, q⟩
theorem r_isD_int (b : Bool) (h : Td K H v d) (e : d.isI = b) (q : Q (.bl b) H) : uIsi K [v, .ty "int"] H Q := r_isD0_int h (e ▸ q)
theorem r_isD_bool (b : Bool) (h : Td K H v d) (e : d.isB = b) (q : Q (.bl b) H) : uIsi K [v, .ty "bool"] H Q := r_isD0_bool h (e ▸ q)
theorem r_isD_str (b : Bool) (h : Td K H v d) (e : d.isS = b) (q : Q (.bl b) H) : uIsi K [v, .ty "str"] H Q := r_isD0_str h (e ▸ q)
theorem r_isD_tuple (b : Bool) (h : Td K H v d) (e : d.isT = b) (q : Q (.bl b) H) : uIsi K [v, .ty "tuple"] H Q := r_isD0_tuple h (e ▸ q)
/-- isinstance(x, (int, str)) -/
theorem r_isD_intstr {p : Addr} (hp : H p = some (.tup [.ty "int", .ty "str"])) (h : Td K H v d) (q : Q (.bl (d.isI || d.isS)) H) : uIsiT K [v, .ref p] H Q := by
  cases h with
  | tup h1 h2 => exact ⟨"tuple", ["int", "str"], false, hp, sqT_ty h1, by decide +kernel, q⟩
  | non => exact ⟨"NoneType", ["int", "str"], false, hp, rfl, by decide +kernel, q⟩
  | bl b => exact ⟨"bool", ["int", "str"], true, hp, rfl, by decide +kernel, q⟩
  | int b => exact ⟨"int", ["int", "str"], true, hp, rfl, by decide +kernel, q⟩
  | str b => exact ⟨"str", ["int", "str"], true, hp, rfl, by decide +kernel, q⟩
theorem Td.inv {ds : List D} (h : Td K H v (.tup ds)) : ∃ a vs, v = .ref a ∧ SqT K H a vs ∧ TdL K H vs ds := by
  cases h with
  | tup h1 h2 => exact ⟨_, _, rfl, h1, h2⟩
theorem Td.invI {i : Int} (h : Td K H v (.int i)) : v = .int i := by cases h; rfl
theorem Td.invB {i : Bool} (h : Td K H v (.bl i)) : v = .bl i := by cases h; rfl
theorem Td.invS {i : Str} (h : Td K H v (.str i)) : v = .str i := by cases h; rfl
theorem Td.invN (h : Td K H v .non) : v = .non := by cases h; rfl
theorem r_ixD {ds : List D} {k : Nat} (h : Td K H v (.tup ds)) (e : ds[k]? = some d) (q : ∀ u, Td K H u d → Q u H) : uIx K v (.int (k : Int)) H Q := by
  obtain ⟨a, vs, rfl, h1, h2⟩ := h.inv
  obtain ⟨u, h3, h4⟩ := h2.get e
  exact ⟨vs, u, .inr h1, atI_nat h3, q u h4⟩
theorem r_lenD {ds : List D} (h : Td K H v (.tup ds)) (q : Q (.int (ds.length : Int)) H) : uLen K [v] H Q := by
  obtain ⟨a, vs, rfl, h1, h2⟩ := h.inv
  exact ⟨vs, .inr h1, by rw [h2.len]; exact q⟩
theorem r_eqD {n : Nat} (h1 : Td K H v a) (h2 : Td K H w b) (f1 : a.fit n = true) (f2 : b.fit n = true) (hn : n ≤ 63) (h : Q (.bl (D.eqb a b)) H) : uEq K v w H Q :=
  .inr ⟨_, _, Td.dp _ _ h1, Td.dp _ _ h2, D.shaped f1 hn, D.shaped f2 hn, by rw [D.eqb_py]; exact h⟩
theorem r_neD {n : Nat} (h1 : Td K H v a) (h2 : Td K H w b) (f1 : a.fit n = true) (f2 : b.fit n = true) (hn : n ≤ 63) (h : Q (.bl (!D.eqb a b)) H) : uNe K v w H Q :=
  .inr ⟨_, _, Td.dp _ _ h1, Td.dp _ _ h2, D.shaped f1 hn, D.shaped f2 hn, by rw [D.eqb_py]; exact h⟩
/-- a tuple laid: what stands stays -/
theorem r_tupA {vs : List V} {R : Addr → Hp → Prop} (q : ∀ p H', H p = none → Same H H' → H' p = some (.tup vs) → R p H') : ∀ p, H p = none → R p (upd H p (.tup vs)) :=
  fun p hp => q p _ hp (same_new hp) upd_same
theorem r_lstA {vs : List V} {R : Addr → Hp → Prop} (q : ∀ p H', H p = none → Same H H' → H' p = some (.lst vs) → R p H') : ∀ p, H p = none → R p (upd H p (.lst vs)) :=
  fun p hp => q p _ hp (same_new hp) upd_same
/-- a tuple of data laid -/
theorem r_tupD {vs : List V} {ds : List D} {R : V → Hp → Prop} (hd : TdL K H vs ds) (q : ∀ u H', Same H H' → Td K H' u (.tup ds) → R u H') : ∀ p, H p = none → R (.ref p) (upd H p (.tup vs)) :=
  fun p hp => q _ _ (same_new hp) (Td.newT hd hp)
theorem r_tupleD {p : Addr} {vs : List V} {ds : List D} (hp : SqL K H p vs) (hd : TdL K H vs ds) (q : ∀ u H', Same H H' → Td K H' u (.tup ds) → Q u H') : uTuple K [.ref p] H Q :=
  ⟨vs, .inl ⟨hp, fun l hl => q _ _ (same_new hl) (Td.newT hd hl)⟩⟩
theorem r_catD {ds es : List D} (h1 : Td K H v (.tup ds)) (h2 : Td K H w (.tup es)) (hl : ds.length + es.length ≤ sizeLine) (q : ∀ u H', Same H H' → Td K H' u (.tup (ds ++ es)) → Q u H') : uAdd K v w H Q := by
  obtain ⟨x, vs, rfl, s1, t1⟩ := h1.inv
  obtain ⟨y, ws, rfl, s2, t2⟩ := h2.inv
  have nil : ∀ {us : List V} {fs : List D}, TdL K H us fs → us = [] → fs = [] := fun t e => by
    have := t.len
    rw [e] at this
    exact List.eq_nil_of_length_eq_zero this.symm
  refine .inr ⟨x, y, vs, ws, rfl, rfl, s1, s2, by rw [t1.len, t2.len]; exact hl, fun e => ?_, fun _ e => ?_, fun _ _ p hp => ?_⟩
  · have := nil t1 e
    subst this
    exact q _ _ (Same.refl _) h2
  · have := nil t2 e
    subst this
    refine q _ _ (Same.refl _) ?_
    rw [List.append_nil]
    exact h1
  · exact q _ _ (same_new hp) (Td.newT (t1.append t2) hp)
def cutD (ds : List D) (lo hi : Option Int) : List D := (ds.drop (HT.sIx ds.length 0 lo)).take (HT.sIx ds.length ds.length hi - HT.sIx ds.length 0 lo)
theorem r_slD {ds : List D} {lo hi : Option Int} (h1 : Td K H v (.tup ds)) (q : ∀ u H', Same H H' → Td K H' u (.tup (cutD ds lo hi)) → Q u H') : uSl K v lo hi H Q := by
  obtain ⟨x, vs, rfl, s1, t1⟩ := h1.inv
  refine .inr ⟨x, vs, rfl, s1, fun e => ?_, fun _ p hp => ?_⟩
  · have e2 : cutD ds lo hi = ds := by
      unfold cutD
      rw [← t1.len, e.1, e.2, List.drop_zero, Nat.sub_zero, t1.len, List.take_length]
    refine q _ _ (Same.refl _) ?_
    rw [e2]
    exact h1
  · refine q _ _ (same_new hp) (Td.newT ?_ hp)
    unfold cutD cutV
    rw [← t1.len]
    exact (t1.drop _).take _
/-- a text in a written tuple of texts -/
theorem inV_str {z : Str} : ∀ {ss : List Str}, inV (.str z) (ss.map V.str) = decide (z ∈ ss)
  | [] => rfl
  | s :: ss => by
    have ih := inV_str (z := z) (ss := ss)
    unfold inV at ih ⊢
    rw [List.map_cons, List.any_cons, ih]
    show ((s == z) || decide (z ∈ ss)) = _
    by_cases e : z = s
    · subst e
      rw [decide_eq_true (List.mem_cons_self ..)]
      rw [show (z == z) = true from beq_self_eq_true z]
      rfl
    · rw [show (s == z) = false from beq_eq_false_iff_ne.mpr (fun c => e c.symm), Bool.false_or]
      exact decide_eq_decide.mpr ⟨fun h => List.mem_cons_of_mem _ h, fun h => (List.mem_cons.mp h).resolve_left e⟩
theorem flat_strs {ss : List Str} : (ss.map V.str).all flatV = true := by
  induction ss with
  | nil => rfl
  | cons s r ih => rw [List.map_cons, List.all_cons, ih]; rfl
theorem r_inS {p : Addr} {z : Str} {ss : List Str} (hp : SqT K H p (ss.map V.str)) (q : Q (.bl (decide (z ∈ ss))) H) : uIn K id (.str z) (.ref p) H Q := ⟨_, .inr hp, rfl, flat_strs, by rw [inV_str]; exact q⟩
theorem r_niS {p : Addr} {z : Str} {ss : List Str} (hp : SqT K H p (ss.map V.str)) (q : Q (.bl (!decide (z ∈ ss))) H) : uIn K not (.str z) (.ref p) H Q := ⟨_, .inr hp, rfl, flat_strs, by rw [inV_str]; exact q⟩
end
end U
/-! U4: what stays around one cell; texts; data built up in a comprehension; the state of the draws. -/
namespace U
open PySem PySem.Spec L2
/-- all but p stays -/
def Fr (p : Addr) (H H' : Hp) : Prop := ∀ b x, b ≠ p → H b = some x → H' b = some x
section
variable {K : PySem.W.Frag} {H H' H2 : Hp} {p l x : Addr} {o : HO}
theorem Fr.refl : Fr p H H := fun _ _ _ h => h
theorem Fr.trans (a : Fr p H H') (b : Fr p H' H2) : Fr p H H2 := fun c o h e => b c o h (a c o h e)
theorem Fr.of (h : ∀ b, b ≠ p → H' b = H b) : Fr p H H' := fun b x hb e => by rw [h b hb]; exact e
theorem Fr.same (h : Same H H') : Fr p H H' := fun b x _ e => h b x e
theorem Fr.new (h : H x = none) : Fr p H (upd H x o) := .same (same_new h)
theorem Fr.mut (f : Fr p H H') (h : H x = none) : Fr p H (upd H' x o) := fun b y hb e => by
  rw [upd_ne (ne_of_none e h)]
  exact f b y hb e
theorem Fr.self (f : Fr p H H') : Fr p H (upd H' p o) := fun b y hb e => by
  rw [upd_ne hb]
  exact f b y hb e
theorem Fr.tk {xs : List V} (f : Fr p H H') (hp : H p = some (.lst xs)) : Tk K H H' := fun a ys h => by
  rcases h with (h | ⟨ob, h⟩) | h
  · exact .inl (.inl (f _ _ (fun e => by rw [e, hp] at h; cases h) h))
  · exact .inl (.inr ⟨ob, f _ _ (fun e => by rw [e, hp] at h; cases h) h⟩)
  · exact .inr h
theorem Fr.tkD {xs : List (Key × V)} (f : Fr p H H') (hp : H p = some (.dK xs)) : Tk K H H' := fun a ys h => by
  rcases h with (h | ⟨ob, h⟩) | h
  · exact .inl (.inl (f _ _ (fun e => by rw [e, hp] at h; cases h) h))
  · exact .inl (.inr ⟨ob, f _ _ (fun e => by rw [e, hp] at h; cases h) h⟩)
  · exact .inr h
end
/-! texts -/
theorem str_len (w : Str) : w.length = w.cps.toList.length := Array.length_toList.symm
theorem str_eq {a b : Str} : a = b ↔ a.cps.toList = b.cps.toList := by
  constructor
  · intro e; rw [e]
  · intro e
    cases a; cases b
    simp only at e
    congr 1
    exact Array.toList_inj.mp e
theorem str_cat (a b : Str) : (a ++ b).length = a.length + b.length := by
  show (a.cps ++ b.cps).size = _
  rw [Array.size_append]; rfl
theorem str_catL (a b : Str) : (a ++ b).cps.toList = a.cps.toList ++ b.cps.toList := by
  show (a.cps ++ b.cps).toList = _
  rw [Array.toList_append]
theorem str_num_len {i : Int} (h : i.natAbs < 10 ^ 11) : 0 < (Str.ofString (toString i)).length ∧ (Str.ofString (toString i)).length ≤ 12 := by
  have nat : ∀ n : Nat, n < 10 ^ 11 → 0 < (Str.ofString (toString (n : Int))).length ∧ (Str.ofString (toString (n : Int))).length ≤ 11 := fun n hn => by
    refine ⟨?_, PyProof.Rows.toString_length_le (by omega) (by decide) (by omega)⟩
    rw [str_len]
    show 0 < (TL.tl (Str.ofString (toString (n : Int)))).length
    rw [TL.tl_num]
    exact Nat.pos_of_ne_zero (fun e => TL.numL_ne n (List.eq_nil_of_length_eq_zero e))
  cases i with
  | ofNat n =>
    have := nat n (by simpa using h)
    exact ⟨this.1, by have := this.2; show (Str.ofString (toString (n : Int))).length ≤ 12; omega⟩
  | negSucc n =>
    have h1 := nat (n + 1) (by simpa using h)
    have e : toString (Int.negSucc n) = "-" ++ toString ((n + 1 : Nat) : Int) := rfl
    rw [e]
    have e2 : (Str.ofString ("-" ++ toString ((n + 1 : Nat) : Int))).length = 1 + (Str.ofString (toString ((n + 1 : Nat) : Int))).length := by
      rw [PyProof.Rows.ofString_length, PyProof.Rows.ofString_length]
      simp [Nat.add_comm]
    rw [e2]
    omega
theorem log_ok {i : Int} (h : i.natAbs < 10 ^ 11) : i.natAbs.log2 < 1920 := Nat.lt_of_lt_of_le (PySem.Flt.log2_lt_of (k := 64) (by decide) (by omega)) (by decide)
/-! the state of the draws as a list: at p, its script at l -/
def Dr (H : Hp) (p l : Addr) : Prop := ∃ (ns : List Int) (cur seed : Int) (at_ : Nat), H p = some (.lst [.ref l, .int cur, .int at_, .int seed]) ∧ H l = some (.lst (ns.map V.int)) ∧ l ≠ p ∧ 0 ≤ cur
section
variable {K : PySem.W.Frag} {H H' : Hp} {p l x : Addr} {o : HO}
theorem Dr.upd (h : Dr H p l) (h1 : x ≠ p) (h2 : x ≠ l) : Dr (upd H x o) p l := by
  obtain ⟨ns, cur, seed, at_, hp, hl, hne, h0⟩ := h
  exact ⟨ns, cur, seed, at_, by rw [upd_ne h1.symm]; exact hp, by rw [upd_ne h2.symm]; exact hl, hne, h0⟩
theorem Dr.nep (h : Dr H p l) (hx : H x = none) : x ≠ p := by
  obtain ⟨ns, cur, seed, at_, hp, hl, hne, h0⟩ := h
  exact (ne_of_none hp hx).symm
theorem Dr.nel (h : Dr H p l) (hx : H x = none) : x ≠ l := by
  obtain ⟨ns, cur, seed, at_, hp, hl, hne, h0⟩ := h
  exact (ne_of_none hl hx).symm
theorem Dr.new (h : Dr H p l) (hx : H x = none) : Dr (L2.upd H x o) p l := h.upd (h.nep hx) (h.nel hx)
theorem Dr.same (h : Dr H p l) (s : Same H H') : Dr H' p l := by
  obtain ⟨ns, cur, seed, at_, hp, hl, hne, h0⟩ := h
  exact ⟨ns, cur, seed, at_, s _ _ hp, s _ _ hl, hne, h0⟩
theorem Dr.tk (h : Dr H p l) (f : Fr p H H') : Tk K H H' := by
  obtain ⟨ns, cur, seed, at_, hp, hl, hne, h0⟩ := h
  exact f.tk hp
end
abbrev spStartL (K : PySem.W.Frag) : Sp := fun vs H Q _ => ∃ (a : Addr) (ns : List Int), vs = [.ref a] ∧ SqL K H a (ns.map V.int) ∧ ns.length ≤ 63 ∧ ∀ p l H', Same H H' → H p = none → Dr H' p l → Q (.ref p) H'
abbrev spDrawL (K : PySem.W.Frag) : Sp := fun vs H Q _ => ∃ (p l : Addr) (m : Int), vs = [.ref p, .int m] ∧ 0 < m ∧ m < 2 ^ 64 ∧ Dr H p l ∧ ∀ (n : Int) H', 0 ≤ n → n < m → Dr H' p l → (∀ b, b ≠ p → H' b = H b) → Q (.int n) H'
abbrev spLaw (K : PySem.W.Frag) : Sp := fun vs H Q _ => ∃ (a : Addr) (ns : List Int), vs = [.ref a] ∧ SqL K H a (ns.map V.int) ∧ ns.length ≤ 63 ∧ ∀ H', Q (.bl true) H'
/-! data built up in a comprehension at A, beside a state S at p -/
def CD (K : PySem.W.Frag) (S : Hp → Prop) (p A : Addr) (H0 : Hp) (G : D → Prop) (i : Nat) (H : Hp) : Prop :=
  S H ∧ Fr p H0 H ∧ ∃ vs ds, H A = some (.lst vs) ∧ TdL K H vs ds ∧ ds.length = i ∧ ∀ d ∈ ds, G d
theorem CD.start {K : PySem.W.Frag} {S : Hp → Prop} {p A : Addr} {H0 : Hp} {G : D → Prop} (s : S (upd H0 A (.lst []))) (h : H0 A = none) : CD K S p A H0 G 0 (upd H0 A (.lst [])) :=
  ⟨s, Fr.new h, [], [], upd_same, .nil, rfl, fun _ h => nomatch h⟩
theorem CD.step {K : PySem.W.Frag} {S : Hp → Prop} {p A : Addr} {H0 H H' : Hp} {G : D → Prop} {i : Nat} {y : V} {d : D} (c : CD K S p A H0 G i H) (h0 : H0 A = none) (hA : A ≠ p) (hi : i < 60000)
    (s : S (upd H' A (.lst ((H' A).elim [] (fun o => match o with | .lst vs => vs ++ [y] | _ => []))))) (f : Fr p H H') (tk : Tk K H H') (t : Td K H' y d) (g : G d) : LcEnd A (CD K S p A H0 G (i + 1)) y H' := by
  obtain ⟨s0, f0, vs, ds, e, td, l, gs⟩ := c
  have e' : H' A = some (.lst vs) := f _ _ hA e
  rw [e'] at s
  refine ⟨vs, e', szt (by rw [td.len]; omega), s, Fr.mut (f0.trans f) h0, vs ++ [y], ds ++ [d], upd_same, ?_, by simp [l], ?_⟩
  · exact ((td.k tk).append (.one t)).k (Tk.lst e')
  · intro x hx
    rcases List.mem_append.mp hx with h | h
    · exact gs x h
    · rw [List.mem_singleton.mp h]; exact g
/-- the same with the draws' list -/
theorem CD.stepL {K : PySem.W.Frag} {l p A : Addr} {H0 H H' : Hp} {G : D → Prop} {i : Nat} {y : V} {d : D} (c : CD K (fun H => Dr H p l) p A H0 G i H) (h0 : H0 A = none) (hA : A ≠ p) (hl : A ≠ l) (hi : i < 60000)
    (s : Dr H' p l) (f : Fr p H H') (t : Td K H' y d) (g : G d) : LcEnd A (CD K (fun H => Dr H p l) p A H0 G (i + 1)) y H' :=
  c.step h0 hA hi (s.upd hA hl) f (c.1.tk f) t g
/-! the list of given things, built up at A, all else stays -/
def CF (A : Addr) (H0 : Hp) (ys : List V) (i : Nat) (H : Hp) : Prop := Same H0 H ∧ H A = some (.lst (ys.take i))
theorem CF.start {A : Addr} {H0 : Hp} {ys : List V} (h : H0 A = none) : CF A H0 ys 0 (upd H0 A (.lst [])) := ⟨same_new h, upd_same⟩
theorem CF.step {A : Addr} {H0 H H' : Hp} {ys : List V} {i : Nat} {y : V} (c : CF A H0 ys i H) (h0 : H0 A = none) (s : Same H H') (hy : ys[i]? = some y) (hi : i < 16000000) : LcEnd A (CF A H0 ys (i + 1)) y H' := by
  obtain ⟨s0, e⟩ := c
  refine ⟨_, s _ _ e, szt (by rw [List.length_take]; omega), same_mut (s0.trans s) h0, ?_⟩
  rw [upd_same, List.take_add_one, hy]
  rfl
theorem CF.done {A : Addr} {H0 H : Hp} {ys : List V} (c : CF A H0 ys ys.length H) : H A = some (.lst ys) := by
  have := c.2
  rw [List.take_length] at this
  exact this
theorem TdL.getV {K : PySem.W.Frag} {H : Hp} : ∀ {vs : List V} {ds : List D} {i : Nat} {v : V}, TdL K H vs ds → vs[i]? = some v → ∃ d, ds[i]? = some d ∧ Td K H v d
  | _, _, i, _, .nil, h => by simp at h
  | _, _, 0, _, .cons h t, e => by simp at e; subst e; exact ⟨_, rfl, h⟩
  | _, _, i + 1, _, .cons h t, e => by
    obtain ⟨d, h1, h2⟩ := TdL.getV (i := i) t (by simpa using e)
    exact ⟨d, by simpa using h1, h2⟩
/-- a new cell, its heap under one name -/
theorem Td.lay {K : PySem.W.Frag} {H : Hp} {a : Addr} {vs : List V} {ds : List D} (ha : H a = none) (hd : TdL K H vs ds) : ∃ H', upd H a (.tup vs) = H' ∧ Same H H' ∧ Td K H' (.ref a) (.tup ds) := ⟨_, rfl, same_new ha, Td.newT hd ha⟩
theorem lay_new {H : Hp} {a : Addr} {o : HO} (ha : H a = none) : ∃ H', upd H a o = H' ∧ Same H H' ∧ H' a = some o := ⟨_, rfl, same_new ha, upd_same⟩
/-! unpacking data -/
section
variable {K : PySem.W.Frag} {H : Hp} {σ : St} {v : V} {a b c : D} {i j k : Nat} {R : St → Hp → Prop}
theorem r_gT3 (h : Td K H v (.tup [a, b, c])) (q : ∀ x y z, Td K H x a → Td K H y b → Td K H z c → R (((σ.set i (some x)).set j (some y)).set k (some z)) H) :
    gTup K 3 (gCons (gName i) (gCons (gName j) (gCons (gName k) gNil))) v σ H R := by
  obtain ⟨p, vs, rfl, s, t⟩ := h.inv
  cases t with
  | cons h1 t => cases t with
    | cons h2 t => cases t with
      | cons h3 t => cases t; exact ⟨p, _, rfl, s, rfl, _, _, rfl, _, _, rfl, _, _, rfl, rfl, q _ _ _ h1 h2 h3⟩
theorem r_gT2 (h : Td K H v (.tup [a, b])) (q : ∀ x y, Td K H x a → Td K H y b → R ((σ.set i (some x)).set j (some y)) H) :
    gTup K 2 (gCons (gName i) (gCons (gName j) gNil)) v σ H R := by
  obtain ⟨p, vs, rfl, s, t⟩ := h.inv
  cases t with
  | cons h1 t => cases t with
    | cons h2 t => cases t; exact ⟨p, _, rfl, s, rfl, _, _, rfl, _, _, rfl, rfl, q _ _ h1 h2⟩
end
end U
/-! U5: sorted, slices of lists, dicts as sets of numbers, dicts locked while walked, the state of the draws as a dict. -/
namespace U
open PySem PySem.Spec L2
def uSortI (K : PySem.W.Frag) : RC := rSortedI K
theorem c_sortI {X : Cx} : CallR X (.builtin "sorted") (uSortI X.K) := cr_sortedI
section
variable {K : PySem.W.Frag} {H H' : Hp} {Q : VK} {p a d : Addr}
theorem r_sortI {ns : List Int} (h : SqL K H a (ns.map V.int)) (q : ∀ (ns' : List Int) (p : Addr), ns'.Perm ns → ns'.Pairwise (· ≤ ·) → H p = none → Q (.ref p) (upd H p (.lst (ns'.map V.int)))) : uSortI K [.ref a] H Q := ⟨a, ns, rfl, h, q⟩
theorem r_slL {xs : List V} {lo hi : Option Int} (h : SqL K H a xs) (q : ∀ p, H p = none → Q (.ref p) (upd H p (.lst (cutV xs lo hi)))) : uSl K (.ref a) lo hi H Q := .inl ⟨a, xs, rfl, h, q⟩
theorem cutV_all {xs : List V} {k : Nat} (h : xs.length ≤ k) : cutV xs none (some (k : Int)) = xs := by
  unfold cutV
  rw [HT.sIx_none, HT.sIx_nat, List.drop_zero, Nat.sub_zero, List.take_of_length_le (by omega)]
theorem cutV_63 {xs : List V} (h : xs.length ≤ 63) : cutV xs none (some 63) = xs := cutV_all (k := 63) h
theorem lock_put {u : HO} {od : Obj} (h : H d = some u) : upd (upd H d (.frz od u)) d u = H := by
  funext b
  by_cases e : b = d
  · subst e; rw [upd_same, h]
  · rw [upd_ne e, upd_ne e]
end
/-! steps for dicts -/
section
variable {σ : St} {H : Hp} {Q : VK} {D : Ends} {K : PySem.W.Frag} {td ty tv : TE}
theorem r_dget (h : td σ H fun x H1 => ty σ H1 fun y H2 => ∃ a v, x = .ref a ∧ DGet H2 a y (some v) ∧ Q v H2) : tDGet td ty σ H Q := h
theorem r_din (h : ty σ H fun y H1 => td σ H1 fun x H2 => ∃ a o, x = .ref a ∧ DGet H2 a y o ∧ Q (.bl o.isSome) H2) : tDIn ty td σ H Q := h
theorem r_dnotin (h : ty σ H fun y H1 => td σ H1 fun x H2 => ∃ a o, x = .ref a ∧ DGet H2 a y o ∧ Q (.bl (!o.isSome)) H2) : tDNotIn ty td σ H Q := h
theorem r_dput (h : tv σ H fun v H1 => td σ H1 fun x H2 => ty σ H2 fun y H3 => ∃ a H4, x = .ref a ∧ DPut H3 a y v H4 ∧ D.nx σ H4) : sDPut td ty tv D σ H := h
theorem r_sqP {u : TS} (h : tv σ H fun v H1 => td σ H1 fun x H2 => ty σ H2 fun y H3 => ∃ a H4, x = .ref a ∧ DPut H3 a y v H4 ∧ u D σ H4) : tSq (sDPut td ty tv) u D σ H := r_sq h
theorem r_keys {R : It → Hp → Prop} (h : td σ H fun x H1 => ∃ d o, x = .ref d ∧ ((∃ kvs, H1 d = some (.frz o (.dK kvs)) ∧ R (Itk d o kvs) H1) ∨ ∃ kvs, H1 d = some (.frz o (.dT kvs)) ∧ R (Itkt d o kvs) H1)) : iKeys td σ H R := h
theorem r_dnew (h : ∀ p, H p = none → Q (.ref p) (upd H p (.dK []))) : tDNewK σ H Q := h
end
theorem r_ifCI {σ : St} {H : Hp} {Q : VK} {p : Prop} [Decidable p] {a b : Int} (h : Q (.int (if p then a else b)) H) : if decide p = true then tC (.int a) σ H Q else tC (.int b) σ H Q := by
  by_cases e : p
  · rw [if_pos (decide_eq_true e)]; rw [if_pos e] at h; exact h
  · rw [if_neg (by simp [e])]; rw [if_neg e] at h; exact h
theorem SqL.k {K : PySem.W.Frag} {H H' : Hp} {a : Addr} {xs : List V} (h : SqL K H a xs) (s : Same H H') : SqL K H' a xs := by
  rcases h with (h | ⟨o, h⟩) | h
  · exact .inl (.inl (s _ _ h))
  · exact .inl (.inr ⟨o, s _ _ h⟩)
  · exact .inr h
/-! a dict whose keys are numbers and whose values are True -/
def dkS (us : List Int) : List (Key × V) := us.map fun i => (.inl i, .bl true)
theorem dkS_len (us : List Int) : (dkS us).length = us.length := List.length_map ..
theorem dkS_val (us : List Int) (i : Int) : valV (dkS us) (.inl i) = if i ∈ us then some (.bl true) else none := by
  induction us with
  | nil => rfl
  | cons u r ih =>
    show valV ((.inl u, .bl true) :: dkS r) (.inl i) = _
    by_cases e : i = u
    · subst e
      rw [valV_pos rfl, if_pos (List.mem_cons_self ..)]
    · rw [valV_neg (fun c => e (by cases c; rfl)), ih]
      by_cases h : i ∈ r
      · rw [if_pos h, if_pos (List.mem_cons_of_mem _ h)]
      · rw [if_neg h, if_neg (fun c => (List.mem_cons.mp c).elim e h)]
def insS (us : List Int) (i : Int) : List Int := if i ∈ us then us else us ++ [i]
theorem dkS_put (us : List Int) (i : Int) : putK (dkS us) (.inl i) (.bl true) = dkS (insS us i) := by
  have any : (dkS us).any (fun kv => decide (kv.1 = .inl i)) = decide (i ∈ us) := by
    rw [valV_any, dkS_val]
    by_cases h : i ∈ us
    · rw [if_pos h, decide_eq_true h]; rfl
    · rw [if_neg h, decide_eq_false h]; rfl
  unfold putK insS
  rw [any]
  by_cases h : i ∈ us
  · rw [if_pos (decide_eq_true h), if_pos h]
    refine (List.map_congr_left (g := id) fun x hx => ?_).trans (List.map_id _)
    obtain ⟨k, hk, rfl⟩ := List.mem_map.mp hx
    by_cases e : (Sum.inl k : Key) = .inl i
    · rw [if_pos e]; rfl
    · rw [if_neg e]; rfl
  · rw [if_neg (by rw [decide_eq_false h]; exact Bool.false_ne_true), if_neg h]
    unfold dkS
    rw [List.map_append]; rfl
theorem insS_mem {us : List Int} {i x : Int} : x ∈ insS us i ↔ x ∈ us ∨ x = i := by
  unfold insS
  by_cases h : i ∈ us
  · rw [if_pos h]
    exact ⟨.inl, fun c => c.elim id fun e => e ▸ h⟩
  · rw [if_neg h, List.mem_append, List.mem_singleton]
theorem insS_nodup {us : List Int} {i : Int} (h : us.Nodup) : (insS us i).Nodup := by
  unfold insS
  by_cases e : i ∈ us
  · rw [if_pos e]; exact h
  · rw [if_neg e]
    exact List.nodup_append.mpr ⟨h, by simp, fun a ha b hb c => e (by rw [List.mem_singleton.mp hb] at c; exact c ▸ ha)⟩
theorem nodup_small : ∀ {n : Nat} {us : List Int}, us.Nodup → (∀ x ∈ us, 0 ≤ x ∧ x < n) → us.length ≤ n
  | 0, us, _, hb => by
    cases us with
    | nil => exact Nat.le_refl _
    | cons a r => have := hb a (List.mem_cons_self ..); omega
  | n + 1, us, h, hb => by
    have := nodup_small (n := n) (us := us.erase (n : Int)) (h.erase _) (fun x hx => by
      obtain ⟨h1, h2⟩ := h.mem_erase_iff.mp hx
      have := hb x h2
      omega)
    have e := List.length_erase (a := (n : Int)) (l := us)
    split at e <;> omega
/-! the state of the draws as a dict at m, its numbers at l -/
def Dm (H : Hp) (m l : Addr) : Prop := ∃ (xs : List Int) (at_ : Nat), H m = some (.dK [(.inr "draws", .ref l), (.inr "at", .int at_)]) ∧ H l = some (.lst (xs.map V.int))
section
variable {K : PySem.W.Frag} {H H' : Hp} {m l x : Addr} {o : HO}
theorem Dm.ne (h : Dm H m l) : l ≠ m := by
  obtain ⟨xs, at_, hm, hl⟩ := h
  intro e
  rw [e, hm] at hl
  cases hl
theorem Dm.upd (h : Dm H m l) (h1 : x ≠ m) (h2 : x ≠ l) : Dm (upd H x o) m l := by
  obtain ⟨xs, at_, hm, hl⟩ := h
  exact ⟨xs, at_, by rw [upd_ne h1.symm]; exact hm, by rw [upd_ne h2.symm]; exact hl⟩
theorem Dm.nep (h : Dm H m l) (hx : H x = none) : x ≠ m := by
  obtain ⟨xs, at_, hm, hl⟩ := h
  exact (ne_of_none hm hx).symm
theorem Dm.nel (h : Dm H m l) (hx : H x = none) : x ≠ l := by
  obtain ⟨xs, at_, hm, hl⟩ := h
  exact (ne_of_none hl hx).symm
theorem Dm.new (h : Dm H m l) (hx : H x = none) : Dm (L2.upd H x o) m l := h.upd (h.nep hx) (h.nel hx)
theorem Dm.same (h : Dm H m l) (s : Same H H') : Dm H' m l := by
  obtain ⟨xs, at_, hm, hl⟩ := h
  exact ⟨xs, at_, s _ _ hm, s _ _ hl⟩
theorem Dm.tk (h : Dm H m l) (f : Fr m H H') : Tk K H H' := by
  obtain ⟨xs, at_, hm, hl⟩ := h
  exact f.tkD hm
theorem CD.stepM {A : Addr} {H0 H H' : Hp} {G : D → Prop} {i : Nat} {y : V} {d : D} (c : CD K (fun H => Dm H m l) m A H0 G i H) (h0 : H0 A = none) (hA : A ≠ m) (hl : A ≠ l) (hi : i < 60000)
    (s : Dm H' m l) (f : Fr m H H') (t : Td K H' y d) (g : G d) : LcEnd A (CD K (fun H => Dm H m l) m A H0 G (i + 1)) y H' :=
  c.step h0 hA hi (s.upd hA hl) f (c.1.tk f) t g
end
theorem CD.appM {K : PySem.W.Frag} {m l A : Addr} {H0 H H' : Hp} {G : D → Prop} {i : Nat} {y : V} {d : D} {Q : VK} (c : CD K (fun H => Dm H m l) m A H0 G i H) (h0 : H0 A = none) (hA : A ≠ m) (hl : A ≠ l) (hi : i < 60000)
    (s : Dm H' m l) (f : Fr m H H') (t : Td K H' y d) (g : G d) (q : ∀ H'', CD K (fun H => Dm H m l) m A H0 G (i + 1) H'' → Q .non H'') : uAppend (.ref A) [y] H' Q := by
  obtain ⟨acc, h1, h2, h3⟩ := c.stepM h0 hA hl hi s f t g
  exact ⟨acc, h1, h2, q _ h3⟩
theorem ints_of {P : Int → Prop} : ∀ {ds : List D}, (∀ d ∈ ds, ∃ i, d = .int i ∧ P i) → ∃ is : List Int, ds = is.map D.int ∧ ∀ i ∈ is, P i
  | [], _ => ⟨[], rfl, fun _ h => nomatch h⟩
  | d :: r, h => by
    obtain ⟨i, e, p⟩ := h d (List.mem_cons_self ..)
    obtain ⟨is, e2, p2⟩ := ints_of (ds := r) (fun x hx => h x (List.mem_cons_of_mem _ hx))
    refine ⟨i :: is, by rw [e, e2]; rfl, fun x hx => ?_⟩
    rcases List.mem_cons.mp hx with rfl | hx
    · exact p
    · exact p2 x hx
theorem TdL.ints {K : PySem.W.Frag} {H : Hp} : ∀ {is : List Int}, TdL K H (is.map V.int) (is.map D.int)
  | [] => .nil
  | i :: r => .cons (.int i) TdL.ints
theorem TdL.ints_inv {K : PySem.W.Frag} {H : Hp} : ∀ {is : List Int} {vs : List V}, TdL K H vs (is.map D.int) → vs = is.map V.int
  | [], _, h => by cases h; rfl
  | i :: r, _, h => by
    cases h with
    | cons h1 h2 => cases h1; rw [TdL.ints_inv h2]; rfl
theorem inV_int {z : Int} : ∀ {ss : List Int}, inV (.int z) (ss.map V.int) = decide (z ∈ ss)
  | [] => rfl
  | s :: ss => by
    have ih := inV_int (z := z) (ss := ss)
    unfold inV at ih ⊢
    rw [List.map_cons, List.any_cons, ih]
    show ((s == z) || decide (z ∈ ss)) = _
    by_cases e : z = s
    · subst e
      rw [decide_eq_true (List.mem_cons_self ..)]
      rw [show (z == z) = true from beq_self_eq_true z]
      rfl
    · rw [show (s == z) = false from beq_eq_false_iff_ne.mpr (fun c => e c.symm), Bool.false_or]
      exact decide_eq_decide.mpr ⟨fun h => List.mem_cons_of_mem _ h, fun h => (List.mem_cons.mp h).resolve_left e⟩
theorem flat_ints {ss : List Int} : (ss.map V.int).all flatV = true := by
  induction ss with
  | nil => rfl
  | cons s r ih => rw [List.map_cons, List.all_cons, ih]; rfl
theorem r_inI {K : PySem.W.Frag} {H : Hp} {Q : VK} {p : Addr} {z : Int} {ss : List Int} (hp : SqL K H p (ss.map V.int)) (q : Q (.bl (decide (z ∈ ss))) H) : uIn K id (.int z) (.ref p) H Q := ⟨_, .inl hp, rfl, flat_ints, by rw [inV_int]; exact q⟩
theorem r_niI {K : PySem.W.Frag} {H : Hp} {Q : VK} {p : Addr} {z : Int} {ss : List Int} (hp : SqL K H p (ss.map V.int)) (q : Q (.bl (!decide (z ∈ ss))) H) : uIn K not (.int z) (.ref p) H Q := ⟨_, .inl hp, rfl, flat_ints, by rw [inV_int]; exact q⟩
/-- two rising lists with the same members -/
theorem rise_eq : ∀ {xs ys : List Int}, xs.Pairwise (· < ·) → ys.Pairwise (· < ·) → (∀ x, x ∈ xs ↔ x ∈ ys) → xs = ys
  | [], [], _, _, _ => rfl
  | [], y :: ys, _, _, h => by have := (h y).mpr (List.mem_cons_self ..); cases this
  | x :: xs, [], _, _, h => by have := (h x).mp (List.mem_cons_self ..); cases this
  | x :: xs, y :: ys, h1, h2, h => by
    obtain ⟨a1, a2⟩ := List.pairwise_cons.mp h1
    obtain ⟨b1, b2⟩ := List.pairwise_cons.mp h2
    have e : x = y := by
      rcases List.mem_cons.mp ((h x).mp (List.mem_cons_self ..)) with e | e
      · exact e
      rcases List.mem_cons.mp ((h y).mpr (List.mem_cons_self ..)) with e2 | e2
      · exact e2.symm
      have := b1 x e
      have := a1 y e2
      omega
    subst e
    rw [rise_eq (xs := xs) (ys := ys) a2 b2 fun z => ⟨fun hz => ?_, fun hz => ?_⟩]
    · rcases List.mem_cons.mp ((h z).mp (List.mem_cons_of_mem _ hz)) with e | e
      · have := a1 z hz; omega
      · exact e
    · rcases List.mem_cons.mp ((h z).mpr (List.mem_cons_of_mem _ hz)) with e | e
      · have := b1 z hz; omega
      · exact e
theorem rise_of {xs : List Int} (h1 : xs.Pairwise (· ≤ ·)) (h2 : xs.Nodup) : xs.Pairwise (· < ·) := by
  refine List.Pairwise.imp₂ (R := (· ≤ ·)) (S := (· ≠ ·)) (T := (· < ·)) (fun a b h h' => ?_) h1 h2
  omega
/-- all but two cells stays -/
def Fr2 (u b : Addr) (H H' : Hp) : Prop := ∀ c x, c ≠ u → c ≠ b → H c = some x → H' c = some x
/-- no tuple -/
def Nt (H : Hp) (u : Addr) : Prop := (∀ xs, H u ≠ some (.tup xs)) ∧ ∀ ob xs, H u ≠ some (.frz ob (.tup xs))
section
variable {K : PySem.W.Frag} {H H' H2 : Hp} {u b x : Addr} {o : HO}
theorem Fr2.refl : Fr2 u b H H := fun _ _ _ _ h => h
theorem Fr2.trans (f : Fr2 u b H H') (g : Fr2 u b H' H2) : Fr2 u b H H2 := fun c x h1 h2 e => g c x h1 h2 (f c x h1 h2 e)
theorem Fr2.same (s : Same H H') : Fr2 u b H H' := fun c x _ _ e => s c x e
theorem Fr2.mu (f : Fr2 u b H H') : Fr2 u b H (upd H' u o) := fun c x h1 h2 e => by rw [upd_ne h1]; exact f c x h1 h2 e
theorem Fr2.mb (f : Fr2 u b H H') : Fr2 u b H (upd H' b o) := fun c x h1 h2 e => by rw [upd_ne h2]; exact f c x h1 h2 e
theorem Nt.lst {xs : List V} (h : H u = some (.lst xs)) : Nt H u := ⟨fun xs e => by rw [h] at e; (cases e), fun ob xs e => by rw [h] at e; (cases e)⟩
theorem Nt.dK {xs : List (Key × V)} (h : H u = some (.dK xs)) : Nt H u := ⟨fun xs e => by rw [h] at e; (cases e), fun ob xs e => by rw [h] at e; (cases e)⟩
theorem Fr2.tk (f : Fr2 u b H H') (h1 : Nt H u) (h2 : Nt H b) : Tk K H H' := fun a ys h => by
  rcases h with (h | ⟨ob, h⟩) | h
  · exact .inl (.inl (f _ _ (fun e => h1.1 _ (e ▸ h)) (fun e => h2.1 _ (e ▸ h)) h))
  · exact .inl (.inr ⟨ob, f _ _ (fun e => h1.2 _ _ (e ▸ h)) (fun e => h2.2 _ _ (e ▸ h)) h⟩)
  · exact .inr h
end
abbrev spDraws (K : PySem.W.Frag) : Sp := fun vs H Q _ => ∃ (a : Addr) (ns : List Int), vs = [.ref a] ∧ SqL K H a (ns.map V.int) ∧ ns.length ≤ 63 ∧ ∀ l (xs : List Int) H', Same H H' → H l = none → H' l = some (.lst (xs.map V.int)) → Q (.ref l) H'
abbrev spTakeM (K : PySem.W.Frag) : Sp := fun vs H Q _ => ∃ (m l : Addr) (k : Int), vs = [.ref m, .int k] ∧ 0 < k ∧ Dm H m l ∧ ∀ (n : Int) H', 0 ≤ n → n < k → Dm H' m l → (∀ b, b ≠ m → H' b = H b) → Q (.int n) H'
end U
/-! U6: more of texts, bits, sorted(dict), is of bools. -/
namespace U
open PySem PySem.Spec L2
def uSplit : RM := fun x xs H Q => match x, xs with
  | .str a, [.str b] => (b.length == 0) = false ∧ a.length + 2 ≤ sizeLine ∧ rNewStrs (Txt.split a b) H Q
  | _, _ => False
theorem m_split {X : Cx} : MtR X "str.split" uSplit := by
  intro pins s σ H x xs v us Q I rx rs h
  unfold uSplit at h
  split at h
  · exact mt_split pins s σ H _ _ v us Q I rx rs ⟨_, _, rfl, rfl, h⟩
  · exact h.elim
def uUpper : RM := fun x xs H Q => match x, xs with
  | .str a, [] => a.length ≤ 5592405 ∧ Q (.str (Txt.upper a)) H
  | _, _ => False
theorem m_upper {X : Cx} : MtR X "str.upper" uUpper := by
  intro pins s σ H x xs v us Q I rx rs h
  unfold uUpper at h
  split at h
  · exact mt_upper pins s σ H _ _ v us Q I rx rs ⟨_, rfl, rfl, h⟩
  · exact h.elim
def uLower : RM := fun x xs H Q => match x, xs with
  | .str a, [] => a.length ≤ 5592405 ∧ Q (.str (Txt.lower a)) H
  | _, _ => False
theorem m_lower {X : Cx} : MtR X "str.lower" uLower := by
  intro pins s σ H x xs v us Q I rx rs h
  unfold uLower at h
  split at h
  · exact mt_lower pins s σ H _ _ v us Q I rx rs ⟨_, rfl, rfl, h⟩
  · exact h.elim
def uXor : R2 := fun x y H Q => match x, y with
  | .int i, .int j => Q (.int (Builtin.bitXor i j)) H
  | _, _ => False
theorem o_xor {X : Cx} : OpR X (binaryOp .BitXor) uXor := by
  intro pins s σ H x y v u Q I rx ry h
  cases x <;> cases y <;> first | exact (show False from h).elim | skip
  exact op_xor pins s σ H _ _ v u Q I rx ry ⟨_, _, rfl, rfl, h⟩
abbrev uIsB : R2 := rIsB
abbrev uNotB : R2 := rNotB
def uSortD (K : PySem.W.Frag) : RC := fun xs H Q => ∃ (a : Addr) (kvs : List (Key × V)) (ks : List Str), xs = [.ref a] ∧ Rd H a (.dK kvs) ∧ kvs.map (·.1) = ks.map Sum.inr ∧ ks.length < 64 ∧
    ∀ ys p, ys.Perm ks → PyProof.Rows.sortedS ys = true → H p = none → Q (.ref p) (upd H p (.lst (ys.map V.str)))
theorem c_sortD {X : Cx} (hc : X.calm = true) : CallR X (.builtin "sorted") (uSortD X.K) := call_sortedD hc
section
variable {K : PySem.W.Frag} {H : Hp} {Q : VK} {a b : Bool} {x y : Str} {i j : Int}
theorem r_isB (h : Q (.bl (decide (a = b))) H) : uIsB (.bl a) (.bl b) H Q := ⟨a, b, rfl, rfl, h⟩
theorem r_notB (h : Q (.bl (!decide (a = b))) H) : uNotB (.bl a) (.bl b) H Q := ⟨a, b, rfl, rfl, h⟩
theorem r_xor (h : Q (.int (Builtin.bitXor i j)) H) : uXor (.int i) (.int j) H Q := h
theorem r_upper (hl : x.length ≤ 5592405) (h : Q (.str (Txt.upper x)) H) : uUpper (.str x) [] H Q := ⟨hl, h⟩
theorem r_split (h1 : (y.length == 0) = false) (h2 : x.length + 2 ≤ sizeLine) (h : ∀ p, H p = none → Q (.ref p) (upd H p (.lst ((Txt.split x y).map V.str)))) : uSplit (.str x) [.str y] H Q := ⟨h1, h2, h⟩
/-- a text in a list of texts -/
theorem r_inSL {p : Addr} {z : Str} {ss : List Str} (hp : SqL K H p (ss.map V.str)) (q : Q (.bl (decide (z ∈ ss))) H) : uIn K id (.str z) (.ref p) H Q := ⟨_, .inl hp, rfl, flat_strs, by rw [inV_str]; exact q⟩
theorem r_niSL {p : Addr} {z : Str} {ss : List Str} (hp : SqL K H p (ss.map V.str)) (q : Q (.bl (!decide (z ∈ ss))) H) : uIn K not (.str z) (.ref p) H Q := ⟨_, .inl hp, rfl, flat_strs, by rw [inV_str]; exact q⟩
end
end U
/-! U7: a dict display of more than 16 pairs of constants. -/
namespace U
open PySem PySem.Spec L2
open Sem (wp)
section
variable {prog : Program} {w : World} {K : Type} [DecidableEq K] {knd : KeyKind prog w K} {A : Around} {E : Value → Shared → Prop} {s : Shared}
theorem wp_dictPut {d : Addr} {kvs : List (K × Value)} {k : K} {key v : Value} {Q : Unit → Shared → Prop} (hkey : knd.is k key = true) (hm : s.heap.DictOf knd d kvs)
    (hQ : ∀ h', h'.DictOf knd d (stored kvs k v) → Heap.SameBut d s.heap h' → Q () { s with heap := h' })
    (hsz : kvs.length ≤ sizeLine) :
    wpAny (model prog w) A (dictPut d (knd.hash k) key v) Q E s := by
  obtain ⟨o, es, ep, ho, hc, hd, hk, hp, hn⟩ := hm
  have hes : es.size ≤ sizeLine := by
    have e1 := hp.length
    have e2 : es.toList.length = es.size := by simp
    omega
  unfold dictPut
  refine wpAny_bind (wpAny_dictFind_of hkey ho hd hk ?_)
  have hidx : (es.findIdx? fun e => knd.is k e.key) = kvs.findIdx? fun kv => decide (kv.1 = k) := by
    rw [← hp.findIdx k]; obtain ⟨l⟩ := es; simp
  cases hi : es.findIdx? fun e => knd.is k e.key with
  | some i =>
    refine wpAny_updateDict ho hd (hQ _ ⟨_, _, ep, Heap.get?_update_self _ ho (Obj.isFreed_of_dict (Obj.data_mapDict hd _)),
      hc.mapDict _, Obj.data_mapDict hd _, hk.modify _ _, ?_, ?_⟩ (Heap.SameBut.update ..))
    · rw [stored, if_pos (any_of_findIdx_some (hidx ▸ hi))]
      have hl : (es.toList.findIdx? fun e => knd.is k e.key) = some i := by rw [← hi]; obtain ⟨l⟩ := es; simp
      have := hp.modify hn hl v
      obtain ⟨l⟩ := es
      simpa using this
    · rw [stored, if_pos (any_of_findIdx_some (hidx ▸ hi)), keys_map_store]; exact hn
  | none =>
    have hnot : k ∉ kvs.map (·.1) := not_mem_of_findIdx_none (hidx ▸ hi)
    have hany : ¬ (kvs.any fun kv => decide (kv.1 = k)) = true := by
      rw [List.any_eq_true]; rintro ⟨kv, hkv, he⟩
      exact hnot (List.mem_map.mpr ⟨kv, hkv, of_decide_eq_true he⟩)
    refine wpAny_updateDictKeys (hz := hes) ho hd (hQ _ ⟨_, _, ep + 1, Heap.get?_update_self _ ho (Obj.isFreed_of_dict (Obj.data_mapDictKeys hd _)),
      hc.mapDictKeys _, Obj.data_mapDictKeys hd _, hk.push hkey _, ?_, ?_⟩ (Heap.SameBut.update ..))
    · rw [stored, if_neg hany]
      have := hp.append hkey (knd.hash k) v
      obtain ⟨l⟩ := es
      simpa using this
    · rw [stored, if_neg hany, List.map_append, List.nodup_append]
      refine ⟨hn, by simp, ?_⟩
      intro a ha b hb
      simp only [List.map_cons, List.map_nil, List.mem_singleton] at hb
      subst hb
      exact fun e => hnot (e ▸ ha)
theorem wp_merge {d o : Addr} {kvs more : List (K × Value)} {Q : Unit → Shared → Prop} (hdo : d ≠ o) (hoS : (o == sysModules) = false)
    (hd : s.heap.DictOf knd d kvs) (ho : s.heap.DictOf knd o more) (h0 : kvs ≠ [])
    (hQ : ∀ h', h'.DictOf knd d (merged kvs more) → h'.DictOf knd o more → Heap.SameBut d s.heap h' → Q () { s with heap := h' })
    (hsz : kvs.length + more.length ≤ sizeLine) :
    wpAny (model prog w) A (mergeMapping d (.ref o) false) Q E s := by
  have hty := ho.typeIs
  obtain ⟨od, esd, epd, hod, hcd, hdd, hkd, hpd, hnd⟩ := id hd
  obtain ⟨oo, eso, epo, hoo, hco, hdo', hko, hpo, hno⟩ := id ho
  have hlen : more.length = eso.size := by rw [← hpo.length]; simp
  have hne : esd.isEmpty = false := by
    cases he : esd.isEmpty with
    | false => rfl
    | true =>
      have h1 : esd = #[] := Array.isEmpty_iff.mp he
      have := hpd.length
      rw [h1] at this
      exact absurd (List.length_eq_zero_iff.mp (by simpa using this.symm)) h0
  unfold mergeMapping
  refine wpAny_bind (wpAny_isInstance hty isSubtype_dict_dict ?_)
  dsimp only
  rw [if_pos rfl]
  refine wpAny_bind (wpAny_specialOf hty F.slot_dict_iter.lookup ?_)
  refine wpAny_bind (wpAny_pure ?_)
  have e1 : ((some (Value.builtin "dict.__iter__")) == some (Value.builtin "dict.__iter__")) = true := by rfl
  rw [e1]
  dsimp only
  rw [if_neg (by rw [hoS]; exact Bool.false_ne_true)]
  refine wpAny_bind (wpAny_dictEntries hod hdd ?_)
  rw [if_neg (by rw [hne]; exact Bool.false_ne_true)]
  refine wpAny_bind (wpAny_dictEntries hoo hdo' ?_)
  refine wpAny_bind (wpAny_dictEpoch hoo hdo' ?_)
  refine wpAny_bind ?_
  refine wpAny_forIn_list _
      (fun rest _ s' => ∃ h' i, s' = { s with heap := h' } ∧ rest = List.range' i (eso.size - i) ∧ i ≤ eso.size ∧ h'.DictOf knd d (merged kvs (more.take i)) ∧ h'.get? o = some oo ∧ Heap.SameBut d s.heap h')
      _ ?_ ?_ _ _ ⟨s.heap, 0, rfl, by simp [List.range_eq_range'], Nat.zero_le _, by simpa [merged] using hd, hoo, Heap.SameBut.refl _ _⟩
  · rintro x rest b s' ⟨h', i, rfl, hr, hi, hd', hoo', hs'⟩
    have hlt : i < eso.size := by
      rcases Nat.lt_or_ge i eso.size with h | h
      · exact h
      · rw [Nat.sub_eq_zero_of_le h] at hr; simp at hr
    obtain ⟨rfl, hrest⟩ : x = i ∧ rest = List.range' (i + 1) (eso.size - (i + 1)) := by
      have e : eso.size - i = (eso.size - (i + 1)) + 1 := by omega
      rw [e, List.range'_succ] at hr
      injection hr with h1 h2
      exact ⟨h1, h2⟩
    refine wpAny_bind (wpAny_dictEntries hoo' hdo' ?_)
    rw [Array.getElem?_eq_getElem hlt]
    obtain ⟨kv, hkv⟩ : ∃ kv, more[x]? = some kv := ⟨more[x]'(by rw [hlen]; exact hlt), List.getElem?_eq_getElem _⟩
    obtain ⟨k, v⟩ := kv
    obtain ⟨hkey, hval⟩ := hpo.get? (e := eso[x]) (by simp [hlt]) hkv
    obtain ⟨k', hkey', hhash⟩ := hko eso[x] (Array.getElem_mem hlt)
    obtain rfl : k' = k := knd.inj _ _ _ hkey' hkey
    have hmx : (merged kvs (more.take x)).length ≤ sizeLine := by
      have e1 := merged_length_le kvs (more.take x)
      have e2 : (more.take x).length ≤ more.length := by rw [List.length_take]; omega
      omega
    dsimp only
    rw [if_neg Bool.false_ne_true, hhash, hval]
    refine wpAny_bind (wpAny_holding (wp_dictPut (hsz := hmx) hkey hd' fun h'' hd'' hs'' => ?_))
    have hoo'' : h''.get? o = some oo := (hs''.2 o (Ne.symm hdo)).trans hoo'
    refine wpAny_bind (wpAny_dictEpoch hoo'' hdo' ?_)
    rw [if_neg (by simp)]
    exact wpAny_pure ⟨h'', x + 1, rfl, hrest, hlt, by rw [merged_take_succ kvs more x (k', v) hkv]; exact hd'', hoo'', hs'.trans hs''⟩
  · rintro b s' ⟨h', i, rfl, hr, hi, hd', hoo', hs'⟩
    have hin : i = eso.size := by
      rcases Nat.lt_or_ge i eso.size with h | h
      · have e : eso.size - i = (eso.size - (i + 1)) + 1 := by omega
        rw [e, List.range'_succ] at hr; exact nomatch hr
      · exact Nat.le_antisymm hi h
    refine wpAny_pure (hQ h' ?_ ⟨oo, eso, epo, hoo', hco, hdo', hko, hpo, hno⟩ hs')
    rw [hin, ← hlen, List.take_length] at hd'; exact hd'
end
/-- one pair of a display: two constants -/
structure CE where
  k : Expr
  v : Expr
  key : Key
  val : V
def CE.pair (env : Env) (pos : Pos) (e : CE) : Sem Value × Sem Value := (eval e.k env, do let x ← eval e.v env; standAt pos; pure x)
def CE.kv (e : CE) : Key × V := (e.key, e.val)
structure CeOk (X : Cx) (e : CE) : Prop where
  k : PE X e.k (tC (kV e.key))
  v : PE X e.v (tC e.val)
theorem upd_id {H : Hp} {p : Addr} {o : HO} (h : H p = some o) : upd H p o = H := by
  funext b
  by_cases e : b = p
  · subst e; rw [upd_same, h]
  · rw [upd_ne e]
theorem upd_upd {H : Hp} {p : Addr} {o o' : HO} : upd (upd H p o) p o' = upd H p o' := by
  funext b
  by_cases e : b = p
  · subst e; rw [upd_same, upd_same]
  · rw [upd_ne e, upd_ne e, upd_ne e]
section
variable {X : Cx} {pins : List (Addr × Obj)} {σ : St} {H : Hp} {s : Shared} {p : Addr} {pos : Pos}
theorem ce_vals {e : CE} {s : Shared} {Q : Value → Shared → Prop} (ok : CeOk X e) (I : Inv X pins σ H s) (q : ∀ v s', Inv X pins σ H s' → RelV e.val v → Q v s') : wpAny (model X.prog X.w) X.A (CE.pair X.env pos e).2 Q X.xe s :=
  wpAny_bind (thn (ok.v.run pins s σ H (fun x H' => x = e.val ∧ H' = H) I ⟨rfl, rfl⟩) fun v s1 ⟨x, H1, I1, r, ex, eH⟩ => wpAny_bind (wpAny_standAt (wpAny_pure (by
    subst ex eH
    exact q v s1 I1 r))))
theorem ce_keys {e : CE} {s : Shared} {Q : Value → Shared → Prop} (ok : CeOk X e) (I : Inv X pins σ H s) (q : ∀ v s', Inv X pins σ H s' → RelV (kV e.key) v → Q v s') : wpAny (model X.prog X.w) X.A (CE.pair X.env pos e).1 Q X.xe s :=
  thn (ok.k.run pins s σ H (fun x H' => x = kV e.key ∧ H' = H) I ⟨rfl, rfl⟩) fun v s1 ⟨x, H1, I1, r, ex, eH⟩ => by
    subst ex eH
    exact q v s1 I1 r
theorem dk_set {acc : List (Key × V)} {k : Key} {v : V} {kv vv : Value} {Q : Unit → Shared → Prop} (I : Inv X pins σ H s) (e : H p = some (.dK acc)) (hl : acc.length < sizeLine) (rk : RelV (kV k) kv) (rv : RelV v vv) (q : ∀ s', Inv X pins σ (upd H p (.dK (putK acc k v))) s' → Q () s') :
    wpAny (model X.prog X.w) X.A (dictSet p kv vv) Q X.xe s := by
  obtain ⟨z, hd, vs0, r0, dd⟩ := dk_of I.hok e
  have hv : vs0.length ≤ sizeLine := by
    have : acc.length = vs0.length := Paired.length r0
    omega
  refine wpAny_dictSet_pairs (knd := mixKind X.prog X.w) (kV_is rk) dd (fun h' dd' hs => q _ ?_) hv
  have he : ∃ o, h'.get? p = some o := let ⟨o, _, _, hq, _⟩ := dd'; ⟨o, hq⟩
  have hz := length_putK acc k v
  exact d_write I (by rw [e]; exact True.intro) hs he (dk_new (by omega) hd (r0.put k rv) dd')
theorem loop_set : ∀ (es : List CE) (acc : List (Key × V)) (s : Shared) (H : Hp) (Q : PUnit → Shared → Prop), (∀ e ∈ es, CeOk X e) → Inv X pins σ H s → H p = some (.dK acc) → acc.length + es.length ≤ 1000 → (∀ s', Inv X pins σ (upd H p (.dK (mergeK acc (es.map CE.kv)))) s' → Q PUnit.unit s') →
    wpAny (model X.prog X.w) X.A (forIn (es.map (CE.pair X.env pos)) PUnit.unit fun (x : Sem Value × Sem Value) (_ : PUnit) => (do
      let kv ← x.1
      let vv ← holding [kv] x.2
      holding [kv, vv] (dictSet p kv vv)
      pure (ForInStep.yield PUnit.unit) : Sem (ForInStep PUnit))) Q X.xe s
  | [], acc, s, H, Q, _, I, e, _, q => by
    rw [List.map_nil, List.forIn_nil]
    refine wpAny_pure (q s ?_)
    show Inv X pins σ (upd H p (.dK acc)) s
    rw [upd_id e]
    exact I
  | c :: es, acc, s, H, Q, ok, I, e, hl, q => by
    rw [List.map_cons, List.forIn_cons]
    rw [List.length_cons] at hl
    have z : (1000 : Nat) < sizeLine := by rw [sizeLine_eq]; decide
    have hp := length_putK acc c.key c.val
    refine wpAny_bind (wpAny_bind (ce_keys (ok c (List.mem_cons_self ..)) I fun kv s1 I1 rk => wpAny_bind (wpAny_holding (ce_vals (ok c (List.mem_cons_self ..)) I1 fun vv s2 I2 rv => wpAny_bind (wpAny_holding (dk_set I2 e (by omega) rk rv fun s3 I3 => wpAny_pure ?_))))))
    refine loop_set es (putK acc c.key c.val) s3 _ Q (fun x hx => ok x (List.mem_cons_of_mem _ hx)) I3 upd_same (by omega) fun s4 I4 => q s4 ?_
    rw [upd_upd] at I4
    exact I4
theorem sub_long {es : List CE} {Q : Addr → Shared → Prop} (ok : ∀ e ∈ es, CeOk X e) (I : Inv X pins σ H s) (h1 : 15 < es.length) (h2 : es.length ≤ 1000) (q : ∀ d s', H d = none → Inv X pins σ (upd H d (.dK (mergeK [] (es.map CE.kv)))) s' → Q d s') :
    wpAny (model X.prog X.w) X.A (subDict (es.map (CE.pair X.env pos))) Q X.xe s := by
  have hn := I.hok.fresh (Nat.le_refl s.heap.objs.size)
  have I1 := I.laid (a := s.heap.objs.size) (o := .dK []) (h' := s.heap.push { cls := .type "dict", data := .dict #[] }) (t' := s.toks) (fun _ _ q => Heap.get?_push_of_some _ q) (Nat.le_refl _) (dk_empty s.heap I.big)
  unfold subDict
  refine wpAny_bind (wpAny_alloc ?_)
  refine wpAny_bind (wpAny_holding ?_)
  rw [if_neg (by rw [List.length_map]; omega)]
  refine wpAny_bind (wpAny_rule ?_)
  refine wpAny_bind (loop_set es [] _ _ _ ok I1 upd_same (by simpa using h2) fun s' I' => wpAny_pure (wpAny_pure (q _ _ hn ?_)))
  rw [upd_upd] at I'
  exact I'
theorem pairs_run : ∀ (es : List CE) (s : Shared) (Q : List (Value × Value) → Shared → Prop), (∀ e ∈ es, CeOk X e) → Inv X pins σ H s → (∀ vs s', Inv X pins σ H s' → VV (es.map fun e => (kV e.key, e.val)) vs → Q vs s') →
    wpAny (model X.prog X.w) X.A (evalPairs (es.map (CE.pair X.env pos))) Q X.xe s
  | [], s, Q, _, I, q => evalPairs_nil (q [] s I .nil)
  | c :: es, s, Q, ok, I, q => evalPairs_cons (ce_keys (pos := pos) (ok c (List.mem_cons_self ..)) I fun kv s1 I1 rk => ce_vals (ok c (List.mem_cons_self ..)) I1 fun vv s2 I2 rv =>
      pairs_run es s2 _ (fun x hx => ok x (List.mem_cons_of_mem _ hx)) I2 fun vs s3 I3 r => q _ s3 I3 (.cons ⟨rk, rv⟩ r))
theorem sub_short {es : List CE} {Q : Addr → Shared → Prop} (ok : ∀ e ∈ es, CeOk X e) (I : Inv X pins σ H s) (h1 : es.length ≤ 15) (q : ∀ d s', H d = none → Inv X pins σ (upd H d (.dK (mergeK [] (es.map CE.kv)))) s' → Q d s') :
    wpAny (model X.prog X.w) X.A (subDict (es.map (CE.pair X.env pos))) Q X.xe s := by
  have hn := I.hok.fresh (Nat.le_refl s.heap.objs.size)
  have I1 := I.laid (a := s.heap.objs.size) (o := .dK []) (h' := s.heap.push { cls := .type "dict", data := .dict #[] }) (t' := s.toks) (fun _ _ q => Heap.get?_push_of_some _ q) (Nat.le_refl _) (dk_empty s.heap I.big)
  refine wpAny_subDict (knd := mixKind X.prog X.w) (by rw [List.length_map]; exact h1) (pairs_run es _ _ ok I1 fun vs s2 I2 r => ?_)
  have r' : VV ((es.map CE.kv).map fun kv => (kV kv.1, kv.2)) vs := by
    rw [List.map_map]
    exact r
  obtain ⟨rs, c, rk⟩ := carries_of (P := X.prog) (w := X.w) r'
  obtain ⟨z, hd, vs0, r0, dd⟩ := dk_of I2.hok upd_same
  cases r0
  refine ⟨rs, c, dd, fun h' dd' hs => q _ _ hn ?_⟩
  have hz : (mergeK [] (es.map CE.kv)).length ≤ sizeLine := by
    have h1 := length_mergeK (es.map CE.kv) []
    rw [List.length_nil, List.length_map] at h1
    rw [sizeLine_eq]; omega
  have he : ∃ q, h'.get? s.heap.objs.size = some q := let ⟨q, _, _, hq, _⟩ := dd'; ⟨q, hq⟩
  have I3 := d_write (t' := s2.toks + vs.length) I2 (ob := .dK (mergeK [] (es.map CE.kv))) (by rw [upd_same]; exact True.intro) hs he (dk_new hz hd (rk.merge .nil) dd')
  rw [upd_upd] at I3
  exact I3
theorem dk_merge {d o : Addr} {m1 m2 : List (Key × V)} {Q : Unit → Shared → Prop} {E : Value → Shared → Prop} (I : Inv X pins σ H s) (hne : d ≠ o) (e1 : H d = some (.dK m1)) (e2 : H o = some (.dK m2)) (h0 : m1 ≠ []) (hl : m1.length + m2.length ≤ 1000) (q : ∀ s', Inv X pins σ (upd H d (.dK (mergeK m1 m2))) s' → Q () s') :
    wpAny (model X.prog X.w) X.A (mergeMapping d (.ref o) false) Q E s := by
  obtain ⟨z1, hd1, vs1, r1, dd1⟩ := dk_of I.hok e1
  obtain ⟨z2, hd2, vs2, r2, dd2⟩ := dk_of I.hok e2
  have l1 : m1.length = vs1.length := Paired.length r1
  have l2 : m2.length = vs2.length := Paired.length r2
  have z : (1000 : Nat) < sizeLine := by rw [sizeLine_eq]; decide
  refine wp_merge (knd := mixKind X.prog X.w) hne hd2 dd1 dd2 (fun c => h0 (List.eq_nil_of_length_eq_zero (by rw [l1, c]; rfl))) (fun h' dd' _ hs => q _ ?_) (by omega)
  have he : ∃ o, h'.get? d = some o := let ⟨o, _, _, hq, _⟩ := dd'; ⟨o, hq⟩
  have hz := length_mergeK m2 m1
  exact d_write I (by rw [e1]; exact True.intro) hs he (dk_new (by omega) hd1 (r2.merge r1) dd')
theorem display_long {es1 es2 : List CE} {Q : Value → Shared → Prop} (ok1 : ∀ e ∈ es1, CeOk X e) (ok2 : ∀ e ∈ es2, CeOk X e) (I : Inv X pins σ H s) (h1 : es1.length = 17) (h2 : es2.length ≤ 15) (h0 : es2 ≠ [])
    (q : ∀ d s' H', H d = none → Same H H' → H' d = some (.dK (mergeK (mergeK [] (es1.map CE.kv)) (mergeK [] (es2.map CE.kv)))) → Inv X pins σ H' s' → Q (.ref d) s') :
    wpAny (model X.prog X.w) X.A (dictDisplay ((es1 ++ es2).map fun e => (some (CE.pair X.env pos e).1, (CE.pair X.env pos e).2))) Q X.xe s := by
  unfold dictDisplay
  dsimp only
  refine wpAny_bind (wpAny_forIn_list _
    (fun rest st s' => ∃ done left : List CE, es1 ++ es2 = done ++ left ∧ rest = left.map (fun e => (some (CE.pair X.env pos e).1, (CE.pair X.env pos e).2)) ∧
      ((done.length < 17 ∧ st = (none, done.map (CE.pair X.env pos)) ∧ s' = s) ∨ (17 ≤ done.length ∧ ∃ d, st = (some d, (done.drop 17).map (CE.pair X.env pos)) ∧ H d = none ∧ Inv X pins σ (upd H d (.dK (mergeK [] (es1.map CE.kv)))) s')))
    _ ?_ ?_ _ _ ⟨[], es1 ++ es2, rfl, rfl, .inl ⟨by simp, rfl, rfl⟩⟩)
  · rintro x rest st s' ⟨done, left, e, er, h⟩
    cases left with
    | nil => cases er
    | cons c left =>
      rw [List.map_cons] at er
      cases er
      have e' : es1 ++ es2 = (done ++ [c]) ++ left := by rw [e]; simp
      have lall := congrArg List.length e
      rw [List.length_append, List.length_append, List.length_cons, h1] at lall
      rcases h with ⟨hd, rfl, rfl⟩ | ⟨hd, d, rfl, hn, I'⟩
      · dsimp only
        have el : (done.map (CE.pair X.env pos) ++ [((CE.pair X.env pos c).1, (CE.pair X.env pos c).2)]) = (done ++ [c]).map (CE.pair X.env pos) := by rw [List.map_append]; rfl
        rw [el]
        by_cases h17 : done.length + 1 = 17
        · have hb : (((done ++ [c]).map (CE.pair X.env pos)).length == 17) = true := by simp [h17]
          rw [if_pos hb]
          have e1 : done ++ [c] = es1 := by
            have := congrArg (List.take 17) e'
            rw [List.take_append_of_le_length (by omega), List.take_append_of_le_length (by simp; omega), List.take_of_length_le (by omega), List.take_of_length_le (by simp; omega)] at this
            exact this.symm
          have hemp : ((done ++ [c]).map (CE.pair X.env pos)).isEmpty = false := by simp
          rw [if_neg (by rw [hemp]; exact Bool.false_ne_true), e1]
          refine wpAny_bind (wpAny_bind (sub_long ok1 I (by omega) (by omega) fun d s2 hn I2 => wpAny_pure (wpAny_pure ?_)))
          refine ⟨done ++ [c], left, e', rfl, .inr ⟨by simp; omega, d, ?_, hn, I2⟩⟩
          rw [List.drop_of_length_le (by simp; omega)]
          rfl
        · have hb : (((done ++ [c]).map (CE.pair X.env pos)).length == 17) = false := by simp; omega
          rw [if_neg (by rw [hb]; exact Bool.false_ne_true)]
          exact wpAny_pure ⟨done ++ [c], left, e', rfl, .inl ⟨by simp; omega, rfl, rfl⟩⟩
      · dsimp only
        have el : ((done.drop 17).map (CE.pair X.env pos) ++ [((CE.pair X.env pos c).1, (CE.pair X.env pos c).2)]) = ((done ++ [c]).drop 17).map (CE.pair X.env pos) := by
          rw [List.drop_append_of_le_length hd, List.map_append]; rfl
        rw [el]
        have hb : ((((done ++ [c]).drop 17).map (CE.pair X.env pos)).length == 17) = false := by simp; omega
        rw [if_neg (by rw [hb]; exact Bool.false_ne_true)]
        exact wpAny_pure ⟨done ++ [c], left, e', rfl, .inr ⟨by simp; omega, d, rfl, hn, I'⟩⟩
  · rintro st s' ⟨done, left, e, er, h⟩
    have el : left = [] := by
      cases left with
      | nil => rfl
      | cons c l => cases er
    subst el
    rw [List.append_nil] at e
    have ld := congrArg List.length e
    rw [List.length_append, h1] at ld
    rcases h with ⟨hd, _⟩ | ⟨hd, d, rfl, hn, I'⟩
    · omega
    · have e2 : done.drop 17 = es2 := by
        rw [← e, List.drop_append_of_le_length (by omega), List.drop_of_length_le (by omega), List.nil_append]
      rw [e2]
      dsimp only
      have hemp : (es2.map (CE.pair X.env pos)).isEmpty = false := by
        cases es2 with
        | nil => exact absurd rfl h0
        | cons c r => rfl
      rw [if_neg (by rw [hemp]; exact Bool.false_ne_true)]
      have m10 : mergeK [] (es1.map CE.kv) ≠ [] := by
        cases es1 with
        | nil => simp at h1
        | cons c r =>
          intro z
          have : ∀ (more kvs : List (Key × V)), kvs ≠ [] → mergeK kvs more ≠ [] := by
            intro more
            induction more with
            | nil => intro kvs h; exact h
            | cons x xs ih =>
              intro kvs h
              refine ih (putK kvs x.1 x.2) ?_
              unfold putK
              split
              · intro c2; exact h (List.map_eq_nil_iff.mp c2)
              · simp
          refine this (r.map CE.kv) (putK [] c.key c.val) ?_ z
          show (if _ then _ else _) ≠ _
          simp
      refine wpAny_bind (wpAny_bind (wpAny_holding (sub_short ok2 I' h2 fun d2 s2 hn2 I2 => ?_)))
      have ned : d ≠ d2 := fun c => by rw [← c, upd_same] at hn2; cases hn2
      have ed : upd (upd H d (.dK (mergeK [] (es1.map CE.kv)))) d2 (.dK (mergeK [] (es2.map CE.kv))) d = some (.dK (mergeK [] (es1.map CE.kv))) := by rw [upd_ne ned, upd_same]
      have l1 := length_mergeK (es1.map CE.kv) []
      have l2 := length_mergeK (es2.map CE.kv) []
      rw [List.length_map, List.length_nil] at l1 l2
      refine wpAny_bind (wpAny_onRaise (wpAny_holding (dk_merge I2 ned ed upd_same m10 (by omega) fun s3 I3 => wpAny_pure (wpAny_pure (q d s3 _ hn ?_ upd_same I3)))))
      have hn2' : H d2 = none := by rw [upd_ne ned.symm] at hn2; exact hn2
      exact same_mut (same_mut (same_new hn) hn2') hn
/-- a display of more than 16 pairs of constants: what it makes is told, the rest stays -/
def tDispL (kvs : List (Key × V)) : TE := fun _ H Q => ∀ p H', H p = none → Same H H' → H' p = some (.dK (mergeK (mergeK [] (kvs.take 17)) (mergeK [] (kvs.drop 17)))) → Q (.ref p) H'
inductive CPs (X : Cx) : List (Option Expr) → List Expr → List (Key × V) → Prop
  | nil : CPs X [] [] []
  | cons {k v : Expr} {key : Key} {val : V} {ks : List (Option Expr)} {vs : List Expr} {kvs : List (Key × V)} : PE X k (tC (kV key)) → PE X v (tC val) → CPs X ks vs kvs → CPs X (some k :: ks) (v :: vs) ((key, val) :: kvs)
theorem CPs.es {ks : List (Option Expr)} {vs : List Expr} {kvs : List (Key × V)} (c : CPs X ks vs kvs) : ∃ es : List CE, (∀ e ∈ es, CeOk X e) ∧ ks = es.map (fun e => some e.k) ∧ vs = es.map (·.v) ∧ kvs = es.map CE.kv := by
  induction c with
  | nil => exact ⟨[], (fun _ h => nomatch h), rfl, rfl, rfl⟩
  | @cons k v key val ks vs kvs hk hv _ ih =>
    obtain ⟨es, ok, e1, e2, e3⟩ := ih
    refine ⟨⟨k, v, key, val⟩ :: es, fun e he => ?_, by rw [e1]; rfl, by rw [e2]; rfl, by rw [e3]; rfl⟩
    rcases List.mem_cons.mp he with rfl | he
    · exact ⟨hk, hv⟩
    · exact ok e he
theorem zip_es {env : Env} : ∀ es : List CE, (evalEachOpt (es.map fun e => some e.k) env).zip ((evalEach (es.map (·.v)) env).map fun v => do let x ← v; standAt pos; pure x) = es.map fun e => (some (CE.pair env pos e).1, (CE.pair env pos e).2)
  | [] => rfl
  | e :: es => by
    have := zip_es (env := env) es
    show (some (eval e.k env), (do let x ← eval e.v env; standAt pos; pure x)) :: _ = _
    rw [List.map_cons]
    exact congrArg _ this
theorem pe_dispL {keys : List (Option Expr)} {values : List Expr} {kvs : List (Key × V)} (c : CPs X keys values kvs) (hl : 18 ≤ kvs.length ∧ kvs.length ≤ 32) : PE X (.Dict keys values pos) (tDispL kvs) := by
  obtain ⟨es, ok, rfl, rfl, rfl⟩ := c.es
  rw [List.length_map] at hl
  refine ⟨fun pins s σ H Q I h => ?_⟩
  rw [arm_eval_Dict, zip_es]
  refine wpAny_bind (wpAny_standAt ?_)
  rw [← List.take_append_drop 17 es]
  refine display_long (fun e he => ok e (List.mem_of_mem_take he)) (fun e he => ok e (List.mem_of_mem_drop he)) I (by rw [List.length_take]; omega) (by rw [List.length_drop]; omega) (fun c => by have := congrArg List.length c; rw [List.length_drop] at this; simp at this; omega) fun d s' H' hn hs hd I' => ⟨.ref d, H', I', rfl, h d H' hn hs ?_⟩
  rw [← List.map_take, ← List.map_drop]
  exact hd
end
end U
/-! ### what the tree's generators promise -/
namespace U
open PySem PySem.Spec L2
def NameOk (z : Str) : Prop := (∀ c ∈ z.cps.toList, c < 128) ∧ 0 < z.length ∧ z.length ≤ 14
theorem NameOk.ok {z : Str} (h : NameOk z) : PyData.strOk z = true ∧ z.length ≤ 60000 := by
  refine ⟨?_, by have := h.2.2; omega⟩
  unfold PyData.strOk
  rw [← Array.all_toList, List.all_eq_true]
  intro c hc
  have := h.1 c hc
  exact decide_eq_true (by omega)
theorem NameOk.fit {z : Str} {n : Nat} (h : NameOk z) : D.fit n (.str z) = true := D.fit_str.mpr h.ok
abbrev leafK : List Str := ["int", "bool", "unit"]
abbrev nodeK : List Str := ["tuple", "fn", "ref", "array"]
/-- a kind, n deep -/
def KF : Nat → D → Prop
  | 0, _ => False
  | n + 1, d => ∃ h w, d = .tup [.str h, w, .int 0] ∧ ((h ∈ leafK ∧ w = .tup []) ∨ (h = "data" ∧ ∃ z, w = .str z ∧ NameOk z) ∨ ∃ ds, w = .tup ds ∧ h ∈ nodeK ∧ 0 < ds.length ∧ ds.length ≤ 6 ∧ ∀ e ∈ ds, KF n e)
theorem leafK_ok {h : Str} (e : h ∈ leafK) : PyData.strOk h = true ∧ h.length ≤ 60000 := by
  simp only [leafK, List.mem_cons, List.not_mem_nil, or_false] at e
  rcases e with e | e | e <;> subst e <;> exact ⟨by decide +kernel, by decide +kernel⟩
theorem nodeK_ok {h : Str} (e : h ∈ nodeK) : PyData.strOk h = true ∧ h.length ≤ 60000 := by
  simp only [nodeK, List.mem_cons, List.not_mem_nil, or_false] at e
  rcases e with e | e | e | e <;> subst e <;> exact ⟨by decide +kernel, by decide +kernel⟩
theorem fit_cons3 {n : Nat} {a b c : D} (h1 : D.fit n a = true) (h2 : D.fit n b = true) (h3 : D.fit n c = true) : D.fit (n + 1) (.tup [a, b, c]) = true :=
  D.fit_tup.mpr ⟨by simp, fun e he => by
    simp only [List.mem_cons, List.not_mem_nil, or_false] at he
    rcases he with rfl | rfl | rfl <;> assumption⟩
theorem fit_cons5 {n : Nat} {a b c d f : D} (h1 : D.fit n a = true) (h2 : D.fit n b = true) (h3 : D.fit n c = true) (h4 : D.fit n d = true) (h5 : D.fit n f = true) : D.fit (n + 1) (.tup [a, b, c, d, f]) = true :=
  D.fit_tup.mpr ⟨by simp, fun e he => by
    simp only [List.mem_cons, List.not_mem_nil, or_false] at he
    rcases he with rfl | rfl | rfl | rfl | rfl <;> assumption⟩
theorem fit_nil {n : Nat} : D.fit (n + 1) (.tup []) = true := D.fit_tup.mpr ⟨by simp, fun _ h => nomatch h⟩
theorem KF.fit : ∀ {n : Nat} {d : D}, KF n d → D.fit (2 * n) d = true
  | 0, _, h => h.elim
  | n + 1, d, h => by
    obtain ⟨x, w, rfl, h⟩ := h
    rcases h with ⟨hx, rfl⟩ | ⟨rfl, z, rfl, hz⟩ | ⟨ds, rfl, hx, h0, h6, hs⟩
    · exact fit_cons3 (n := 2 * n + 1) (D.fit_str.mpr (leafK_ok hx)) fit_nil D.fit_int
    · exact fit_cons3 (n := 2 * n + 1) (D.fit_str.mpr ⟨by decide +kernel, by decide +kernel⟩) hz.fit D.fit_int
    · exact fit_cons3 (n := 2 * n + 1) (D.fit_str.mpr (nodeK_ok hx)) (D.fit_tup.mpr ⟨by omega, fun e he => KF.fit (hs e he)⟩) D.fit_int
def ArmD (G : D → Prop) (a : D) : Prop := ∃ nm vars body, a = .tup [.str nm, .tup vars, body] ∧ NameOk nm ∧ vars.length ≤ 10 ∧ (∀ x ∈ vars, ∃ z, x = .str z ∧ NameOk z) ∧ G body
/-- an expression, n deep -/
def ED : Nat → D → Prop
  | 0, _ => False
  | n + 1, d => ∃ op at_ info kids arms, d = .tup [.str op, .int at_, info, .tup kids, .tup arms] ∧ NameOk op ∧ D.fit 12 info = true ∧ (op = "int" → ∃ i, info = .int i) ∧ kids.length ≤ 20 ∧ arms.length ≤ 20 ∧ (∀ k ∈ kids, ED n k) ∧ ∀ a ∈ arms, ArmD (ED n) a
theorem ED.mono : ∀ {n m : Nat} {d : D}, n ≤ m → ED n d → ED m d
  | 0, _, _, _, h => h.elim
  | n + 1, 0, _, l, _ => by omega
  | n + 1, m + 1, d, l, h => by
    obtain ⟨op, at_, info, kids, arms, rfl, h1, h2, h3, h4, h5, h6, h7⟩ := h
    refine ⟨op, at_, info, kids, arms, rfl, h1, h2, h3, h4, h5, fun k hk => ED.mono (by omega) (h6 k hk), fun a ha => ?_⟩
    obtain ⟨nm, vars, body, rfl, a1, a2, a3, a4⟩ := h7 a ha
    exact ⟨nm, vars, body, rfl, a1, a2, a3, ED.mono (by omega) a4⟩
theorem ED.fit : ∀ {n : Nat} {d : D}, ED n d → D.fit (3 * n + 12) d = true
  | 0, _, h => h.elim
  | n + 1, d, h => by
    obtain ⟨op, at_, info, kids, arms, rfl, h1, h2, h3, h4, h5, h6, h7⟩ := h
    refine fit_cons5 (n := 3 * n + 14) h1.fit D.fit_int (D.fit_mono _ (by omega) h2) (D.fit_tup.mpr ⟨by omega, fun k hk => D.fit_mono _ (by omega) (ED.fit (h6 k hk))⟩) (D.fit_tup.mpr ⟨by omega, fun a ha => ?_⟩)
    obtain ⟨nm, vars, body, rfl, a1, a2, a3, a4⟩ := h7 a ha
    refine fit_cons3 (n := 3 * n + 12) a1.fit (D.fit_mono (n := 1) _ (by omega) (D.fit_tup.mpr ⟨by omega, fun x hx => ?_⟩)) (ED.fit a4)
    obtain ⟨z, rfl, hz⟩ := a3 x hx
    exact hz.fit
def FuD (G : D → Prop) (d : D) : Prop := ∃ nm at_ pars res body, d = .tup [.str nm, .int at_, pars, res, body] ∧ NameOk nm ∧ D.fit 12 pars = true ∧ D.fit 12 res = true ∧ G body
def TreeD (G : D → Prop) (d : D) : Prop := ∃ datas excs funs, d = .tup [datas, excs, .tup funs] ∧ D.fit 12 datas = true ∧ D.fit 12 excs = true ∧ funs.length ≤ 10 ∧ ∀ f ∈ funs, FuD G f
def countsK : List (Key × V) := [(.inr "tuple", .int 2), (.inr "get", .int 1), (.inr "let", .int 2), (.inr "if", .int 3), (.inr "fn", .int 1), (.inr "apply", .int 2), (.inr "raise", .int 1), (.inr "ref", .int 1), (.inr "deref", .int 1), (.inr "len", .int 1), (.inr "print", .int 1), (.inr "set", .int 2), (.inr "array", .int 2), (.inr "at", .int 2), (.inr "seq", .int 2), (.inr "put", .int 3), (.inr "add", .int 2), (.inr "sub", .int 2), (.inr "mul", .int 2), (.inr "div", .int 2), (.inr "rem", .int 2), (.inr "equal", .int 2), (.inr "less", .int 2), (.inr "call", .int 0), (.inr "make", .int 0), (.inr "case", .int 1), (.inr "handle", .int 1)]
def sp_l_start (K : PySem.W.Frag) : Sp := spStartL K
def sp_l_draw (K : PySem.W.Frag) : Sp := spDrawL K
def sp_l_reserved (K : PySem.W.Frag) : Sp := fun vs H Q _ => vs = [] ∧ ∀ p (zs : List Str) H', Same H H' → H' p = some (.lst (zs.map V.str)) → Q (.ref p) H'
def sp_l_name (K : PySem.W.Frag) : Sp := fun vs H Q _ => ∃ (p l : Addr) (g : Bool), vs = [.ref p, .bl g] ∧ Dr H p l ∧ ∀ z H', NameOk z → Dr H' p l → Fr p H H' → Q (.str z) H'
def sp_l_fresh (K : PySem.W.Frag) : Sp := fun vs H Q _ => ∃ (p l t : Addr) (g : Bool) (zs : List Str), vs = [.ref p, .bl g, .ref t] ∧ Dr H p l ∧ t ≠ p ∧ t ≠ l ∧ H t = some (.lst (zs.map V.str)) ∧ zs.length ≤ 1000 ∧ ∀ z H', NameOk z → Dr H' p l → Fr2 p t H H' → H' t = some (.lst ((zs ++ [z]).map V.str)) → Q (.str z) H'
def spr_l_kind (n : Nat) (K : PySem.W.Frag) : Sp := fun vs H Q _ => ∃ (p l : Addr) (m : Nat), vs = [.ref p, .int m] ∧ m < n ∧ Dr H p l ∧ ∀ v d H', KF (m + 1) d → Td K H' v d → Dr H' p l → Fr p H H' → Q v H'
def sp_l_kind (K : PySem.W.Frag) : Sp := spr_l_kind 3 K
theorem no_l_kind {K : PySem.W.Frag} {vs : List V} {H : Hp} {Q : VK} {E : XK} (h : spr_l_kind 0 K vs H Q E) : False := by
  obtain ⟨_, _, m, _, h, _⟩ := h
  omega
def sp_l_exception (K : PySem.W.Frag) : Sp := fun vs H Q _ => ∃ (p l : Addr), vs = [.ref p] ∧ Dr H p l ∧ ∀ z H', NameOk z → Dr H' p l → Fr p H H' → Q (.str z) H'
def sp_l_leaf (K : PySem.W.Frag) : Sp := fun vs H Q _ => ∃ (p l : Addr), vs = [.ref p] ∧ Dr H p l ∧ ∀ v d H', ED 1 d → Td K H' v d → Dr H' p l → Fr p H H' → Q v H'
def sp_l_counts (K : PySem.W.Frag) : Sp := fun vs H Q _ => vs = [] ∧ ∀ p H', Same H H' → H' p = some (.dK countsK) → Q (.ref p) H'
def spr_l_arms (n : Nat) (K : PySem.W.Frag) : Sp := fun vs H Q _ => ∃ (p l r : Addr) (op : Str) (m : Nat) (k : Int), vs = [.ref p, .str op, .int m, .ref r] ∧ 2 * m + 1 ≤ n ∧ 1 ≤ m ∧ Dr H p l ∧ r ≠ p ∧ r ≠ l ∧ H r = some (.lst [.int k]) ∧
  ∀ v ds (k' : Int) H', (∀ a ∈ ds, ArmD (ED m) a) → ds.length ≤ 20 → Td K H' v (.tup ds) → Dr H' p l → Fr2 p r H H' → H' r = some (.lst [.int k']) → Q v H'
def sp_l_arms (K : PySem.W.Frag) : Sp := spr_l_arms 10 K
theorem no_l_arms {K : PySem.W.Frag} {vs : List V} {H : Hp} {Q : VK} {E : XK} (h : spr_l_arms 0 K vs H Q E) : False := by
  obtain ⟨_, _, _, _, m, _, _, h, _⟩ := h
  omega
def spr_l_expr (n : Nat) (K : PySem.W.Frag) : Sp := fun vs H Q _ => ∃ (p l r : Addr) (m : Nat) (k : Int), vs = [.ref p, .int m, .ref r] ∧ 2 * m + 2 ≤ n ∧ Dr H p l ∧ r ≠ p ∧ r ≠ l ∧ H r = some (.lst [.int k]) ∧
  ∀ v d (k' : Int) H', ED (m + 1) d → Td K H' v d → Dr H' p l → Fr2 p r H H' → H' r = some (.lst [.int k']) → Q v H'
def sp_l_expr (K : PySem.W.Frag) : Sp := spr_l_expr 10 K
theorem no_l_expr {K : PySem.W.Frag} {vs : List V} {H : Hp} {Q : VK} {E : XK} (h : spr_l_expr 0 K vs H Q E) : False := by
  obtain ⟨_, _, _, m, _, _, h, _⟩ := h
  omega
def sp_l_tree (K : PySem.W.Frag) : Sp := fun vs H Q _ => ∃ (p l : Addr), vs = [.ref p] ∧ Dr H p l ∧ ∀ v d H', TreeD (ED 5) d → Td K H' v d → Dr H' p l → Fr p H H' → Q v H'
end U
/-! ### what the defs of k07 promise -/
namespace U
open PySem PySem.Spec L2
def setBody (g : D → D) (a : D) : D := match a with
  | .tup [nm, vars, body] => .tup [nm, vars, g body]
  | d => d
def bareB (g : D → D) (d : D) : D := match d with
  | .tup [op, .int _, info, .tup kids, .tup arms] => .tup [op, .int 0, info, .tup (kids.map g), .tup (arms.map (setBody g))]
  | d => d
def bareF : Nat → D → D
  | 0, d => d
  | n + 1, d => bareB (bareF n) d
def bareFn (d : D) : D := match d with
  | .tup [nm, .int _, pars, res, body] => .tup [nm, .int 0, pars, res, bareF 8 body]
  | d => d
def bareT (d : D) : D := match d with
  | .tup [datas, excs, .tup funs] => .tup [datas, excs, .tup (funs.map bareFn)]
  | d => d
def hasP (d : D) : Bool := match d with
  | .tup [_, .int _, _, .tup _, .tup _] => true
  | _ => false
def sp_is_integer (K : PySem.W.Frag) : Sp := fun vs H Q _ => ∃ v d, vs = [v] ∧ Td K H v d ∧ Q (.bl (d.isI && !d.isB)) H
def sp_has_parts (K : PySem.W.Frag) : Sp := fun vs H Q _ => ∃ v d n, vs = [v] ∧ Td K H v d ∧ ED n d ∧ ∀ H', Same H H' → Q (.bl true) H'
def spr_bare_expression (n : Nat) (K : PySem.W.Frag) : Sp := fun vs H Q _ => ∃ v d, vs = [v] ∧ Td K H v d ∧ ED n d ∧ ∀ u H', Same H H' → Td K H' u (bareF n d) → Q u H'
def sp_bare_expression (K : PySem.W.Frag) : Sp := spr_bare_expression 8 K
theorem no_bare_expression {K : PySem.W.Frag} {vs : List V} {H : Hp} {Q : VK} {E : XK} (h : spr_bare_expression 0 K vs H Q E) : False := by
  obtain ⟨_, _, _, _, h, _⟩ := h
  exact h
def sp_bare_function (K : PySem.W.Frag) : Sp := fun vs H Q _ => ∃ v d, vs = [v] ∧ Td K H v d ∧ FuD (ED 8) d ∧ ∀ u H', Same H H' → Td K H' u (bareFn d) → Q u H'
def sp_bare_tree (K : PySem.W.Frag) : Sp := fun vs H Q _ => ∃ v d, vs = [v] ∧ Td K H v d ∧ TreeD (ED 8) d ∧ ∀ u H', Same H H' → Td K H' u (bareT d) → Q u H'
def sp_same_tree (K : PySem.W.Frag) : Sp := fun vs H Q _ => ∃ v w d e, vs = [v, w] ∧ Td K H v d ∧ Td K H w e ∧ TreeD (ED 8) d ∧ TreeD (ED 8) e ∧ ∀ H', Same H H' → Q (.bl (D.eqb (bareT d) (bareT e))) H'
/-- d was changed to e, the counter going from L to L' -/
def Chg (n : Nat) (d e : D) (L L' : Int) : Prop := L' < L ∧ ((0 < L ∧ L' ≤ 0) → ∀ m, n < m → D.eqb (bareF m d) (bareF m e) = false) ∧ (¬ (0 < L ∧ L' ≤ 0) → ∀ m, n < m → bareF m d = bareF m e)
def spr_l_changed (n : Nat) (K : PySem.W.Frag) : Sp := fun vs H Q _ => ∃ (p l r : Addr) (v : V) (d : D) (L : Int), vs = [.ref p, v, .ref r] ∧ ED n d ∧ n ≤ 6 ∧ Td K H v d ∧ Dr H p l ∧ r ≠ p ∧ r ≠ l ∧ H r = some (.lst [.int L]) ∧
  ∀ w e (L' : Int) H', ED (n + 1) e → Chg n d e L L' → Td K H' w e → Dr H' p l → Fr2 p r H H' → H' r = some (.lst [.int L']) → Q w H'
def sp_l_changed (K : PySem.W.Frag) : Sp := spr_l_changed 6 K
theorem no_l_changed {K : PySem.W.Frag} {vs : List V} {H : Hp} {Q : VK} {E : XK} (h : spr_l_changed 0 K vs H Q E) : False := by
  obtain ⟨_, _, _, _, _, _, _, h, _⟩ := h
  exact h
def sp_law (K : PySem.W.Frag) : Sp := spLaw K
local macro_rules | `(tactic| walk_at "une") => `(tactic| first | assumption | (exact Ne.symm (by assumption)) | (exact ne_of_none (by assumption) (by assumption)) | (exact (ne_of_none (by assumption) (by assumption)).symm))
local macro_rules | `(tactic| walk_at "uh") => `(tactic| first | assumption | (exact upd_same) | (refine' (upd_ne ?n).trans ?h; (case n => walk_at "une"); (case h => walk_at "uh")))
local macro_rules | `(tactic| walk_at "usl") => `(tactic| first | assumption | (exact SqL.of (by walk_at "uh")))
local macro_rules | `(tactic| walk_at "ust") => `(tactic| first | assumption | (exact SqT.of (by walk_at "uh")))
local macro_rules | `(tactic| walk_at "us") => `(tactic| first | omega | decide | assumption | (exact szl (by omega)) | (exact szt (by omega)) | (exact wide_div (b := 64) (by omega) (by omega) (by decide) (by decide)) | (exact Or.inl (Or.inr (by decide))) | (exact Or.inl (Or.inl (by decide))))
local macro_rules | `(tactic| walk_at "u1") => `(tactic| first
  | (with_reducible refine r_sqA ?_) | (with_reducible refine r_sqP ?_) | (with_reducible refine r_dput ?_) | (with_reducible refine r_dget ?_) | (with_reducible refine r_din ?_) | (with_reducible refine r_dnotin ?_) | (with_reducible refine r_keys ?_) | (with_reducible refine r_dnew ?_) | (with_reducible refine r_isB ?_) | (with_reducible refine r_notB ?_) | (with_reducible refine r_xor ?_) | (with_reducible refine r_sqD ?_) | ((with_reducible refine' r_sqG ?hx ?_); (case hx => exact rfl)) | (with_reducible refine r_sqS ?_) | (with_reducible refine r_asg ?_) | ((with_reducible refine' r_var ?hx ?_); (case hx => exact rfl)) | (with_reducible refine r_c ?_) | (with_reducible refine r_op ?_)
  | (with_reducible refine r_gname ?_) | (with_reducible refine r_cons ?_) | (with_reducible refine r_nil ?_) | (with_reducible refine r_cb ?_) | (with_reducible refine r_call ?_)
  | (with_reducible refine r_ifS ?_) | (with_reducible refine r_test ?_) | (with_reducible refine r_bl ?_) | (with_reducible refine r_ret ?_) | (with_reducible refine r_next ?_) | (with_reducible refine r_drop ?_)
  | (with_reducible refine r_and ?_) | (with_reducible refine r_or ?_) | (with_reducible refine r_not ?_) | (with_reducible refine r_tru ?_) | (with_reducible refine r_truBl ?_) | (with_reducible refine r_truInt ?_) | (with_reducible refine r_truNon ?_) | (with_reducible refine r_tb ?_)
  | (with_reducible refine r_andV ?_) | (with_reducible refine r_orV ?_) | (with_reducible refine r_notV ?_) | (with_reducible refine r_chain ?_) | (with_reducible refine r_if ?_) | (with_reducible refine r_un ?_)
  | (with_reducible refine br_t ?_) | (with_reducible refine br_f ?_) | (with_reducible refine br_nt ?_) | (with_reducible refine br_nf ?_)
  | (with_reducible refine r_addI ?_) | (with_reducible refine r_sub ?_) | (with_reducible refine r_neg ?_) | (with_reducible refine r_cmpI ?_) | (with_reducible refine r_eqI ?_) | (with_reducible refine r_eqS ?_) | (with_reducible refine r_eqB ?_) | (with_reducible refine r_neI ?_) | (with_reducible refine r_neS ?_) | (with_reducible refine r_neB ?_)
  | ((with_reducible refine r_mod ?s ?_); (case s => walk_at "us")) | ((with_reducible refine r_mul ?s ?_); (case s => walk_at "us")) | ((with_reducible refine r_fdiv ?s ?_); (case s => walk_at "us"))
  | ((with_reducible refine r_addS ?s ?_); (case s => walk_at "us"))
  | (with_reducible refine r_isNN ?_) | (with_reducible refine r_isNI ?_) | (with_reducible refine r_isNB ?_) | (with_reducible refine r_isNS ?_) | (with_reducible refine r_isNR ?_) | (with_reducible refine r_notNN ?_) | (with_reducible refine r_notNI ?_) | (with_reducible refine r_notNB ?_) | (with_reducible refine r_notNS ?_) | (with_reducible refine r_notNR ?_)
  | (with_reducible refine r_abs ?_) | (with_reducible refine r_intI ?_) | (with_reducible refine r_intB ?_) | (with_reducible refine r_maxI ?_) | (with_reducible refine r_minI ?_) | (with_reducible refine r_starts ?_) | (with_reducible refine r_inC ?_) | (with_reducible refine r_notInC ?_)
  | (with_reducible refine r_iI_int ?_) | (with_reducible refine r_iI_bool ?_) | (with_reducible refine r_iI_str ?_) | (with_reducible refine r_iI_tuple ?_) | (with_reducible refine r_iI_list ?_) | (with_reducible refine r_iB_int ?_) | (with_reducible refine r_iB_bool ?_) | (with_reducible refine r_iB_str ?_) | (with_reducible refine r_iB_tuple ?_) | (with_reducible refine r_iB_list ?_) | (with_reducible refine r_iS_int ?_) | (with_reducible refine r_iS_bool ?_) | (with_reducible refine r_iS_str ?_) | (with_reducible refine r_iS_tuple ?_) | (with_reducible refine r_iS_list ?_) | (with_reducible refine r_iN_int ?_) | (with_reducible refine r_iN_bool ?_) | (with_reducible refine r_iN_str ?_) | (with_reducible refine r_iN_tuple ?_) | (with_reducible refine r_iN_list ?_)
  | ((with_reducible refine r_lenS ?s ?_); (case s => walk_at "us")) | ((with_reducible refine r_slS ?s ?_); (case s => walk_at "us"))
  | (with_reducible refine r_sl ?_) | (with_reducible refine r_nop ?_) | (with_reducible refine r_part ?_) | (with_reducible refine r_partI ?_) | (with_reducible refine r_tup ?_) | (with_reducible refine r_lst ?_)
  | (with_reducible refine r_bm ?_) | (with_reducible refine r_bm0 ?_) | (with_reducible refine r_tyStr ?_) | (with_reducible refine r_retN ?_) | (with_reducible refine r_brk ?_) | (with_reducible refine r_cont ?_) | (with_reducible refine r_nx ?_) | (with_reducible refine r_rt ?_)
  | (with_reducible refine r_sub3 ?_) | (with_reducible refine r_augS ?_) | (with_reducible refine r_ipI ?_) | ((with_reducible refine' r_aug ?hx ?_); (case hx => exact rfl)) | (with_reducible refine r_for ?_) | (with_reducible refine r_lc ?_) | (with_reducible refine r_yes ?_) | (with_reducible refine r_rng1 ?_) | (with_reducible refine r_rng1v ?_) | (with_reducible refine r_rng2 ?_) | (with_reducible refine r_rng2v ?_)
  | ((with_reducible refine' r_ixL ?s1 ?s2 ?_); (case s1 => walk_at "usl"); (case s2 => exact rfl)) | ((with_reducible refine' r_ixT ?s1 ?s2 ?_); (case s1 => walk_at "ust"); (case s2 => exact rfl))
  | ((with_reducible refine' r_lenL ?s1 ?_); (case s1 => walk_at "usl")) | ((with_reducible refine' r_lenT ?s1 ?_); (case s1 => walk_at "ust"))
  | ((with_reducible refine' r_setL ?s1 ?s2 ?_); (case s1 => walk_at "uh"); (case s2 => exact rfl)) | ((with_reducible refine' r_getL ?s1 ?s2 ?s3 ?_); (case s1 => walk_at "usl"); (case s2 => walk_at "us"); (case s3 => exact rfl))
  | ((with_reducible refine' r_tyLst ?s ?_); (case s => walk_at "uh")) | ((with_reducible refine' r_append ?s1 ?s2 ?_); (case s1 => walk_at "uh"); (case s2 => walk_at "us")))
local macro_rules | `(tactic| walk_at "ub") => `(tactic| first
  | ((with_reducible refine br_y ?s ?_); (case s => (first | assumption | (with_reducible rfl) | omega | decide))) | ((with_reducible refine br_n ?s ?_); (case s => (first | assumption | (with_reducible rfl) | omega | decide))) | ((with_reducible refine br_ny ?s ?_); (case s => (first | assumption | (with_reducible rfl) | omega | decide))) | ((with_reducible refine br_nn ?s ?_); (case s => (first | assumption | (with_reducible rfl) | omega | decide))))
local macro_rules | `(tactic| walk_at "u") => `(tactic| repeat (first | walk_at "u1" | walk_at "ub"))
local macro_rules | `(tactic| walk_at "ui") => `(tactic| ((with_reducible refine r_sq ?_); walk_at "u"))
def t_is_integer (K : PySem.W.Frag) : TS :=
  (tRet (tAndV (tCB (uIsi K) (tCons (tVar 0) (tCons (tC (.ty "int")) tNil))) (tNotV (tCB (uIsi K) (tCons (tVar 0) (tCons (tC (.ty "bool")) tNil))))))
abbrev n_is_integer : List Str := ["value"]
def t_has_parts (K : PySem.W.Frag) : TS :=
  (tSq (tIfS (tOr (tNot (uTru K (tCB (uIsi K) (tCons (tVar 0) (tCons (tC (.ty "tuple")) tNil))))) (tOr (tTest (tOp (uNe K) (tCB (uLen K) (tCons (tVar 0) tNil)) (tC (.int 5)))) (tNot (uTru K (tCall (sp_is_integer K) [] E0 (tCons (tOp (uIx K) (tVar 0) (tC (.int 1))) tNil)))))) (tRet (tC (.bl false))) tNext)
    (tSq (tIfS (tOr (tNot (uTru K (tCB (uIsi K) (tCons (tOp (uIx K) (tVar 0) (tC (.int 3))) (tCons (tC (.ty "tuple")) tNil))))) (tNot (uTru K (tCB (uIsi K) (tCons (tOp (uIx K) (tVar 0) (tC (.int 4))) (tCons (tC (.ty "tuple")) tNil)))))) (tRet (tC (.bl false))) tNext)
    (tRet (tCB (uAll K) (tCons (tLc (uIt K (tOp (uIx K) (tVar 0) (tC (.int 4)))) (gName 1) tYes (tAndV (tCB (uIsi K) (tCons (tVar 1) (tCons (tC (.ty "tuple")) tNil))) (tOp (uEq K) (tCB (uLen K) (tCons (tVar 1) tNil)) (tC (.int 3)))) [1]) tNil)))))
abbrev n_has_parts : List Str := ["value", "arm"]
def t_bare_expression (K : PySem.W.Frag) (sp_self : PySem.W.Frag → Sp) : TS :=
  (tSq (tIfS (tNot (uTru K (tCall (sp_has_parts K) [] E0 (tCons (tVar 0) tNil)))) (tRet (tVar 0)) tNext)
    (tSq (tAsg (tVar 0) (gTup K 5 (gCons (gName 1) (gCons (gName 2) (gCons (gName 3) (gCons (gName 4) (gCons (gName 5) gNil)))))))
    (tSq (tAsg (tCB (uTuple K) (tCons (tLc (uIt K (tVar 4)) (gName 8) tYes (tCall (sp_self K) [] E0 (tCons (tVar 8) tNil)) [8]) tNil)) (gName 6))
    (tSq (tAsg (tCB (uTuple K) (tCons (tLc (uIt K (tVar 5)) (gTup K 3 (gCons (gName 9) (gCons (gName 10) (gCons (gName 11) gNil)))) tYes (tTup (tCons (tVar 9) (tCons (tVar 10) (tCons (tCall (sp_self K) [] E0 (tCons (tVar 11) tNil)) tNil)))) [9, 10, 11]) tNil)) (gName 7))
    (tRet (tTup (tCons (tVar 1) (tCons (tC (.int 0)) (tCons (tVar 3) (tCons (tVar 6) (tCons (tVar 7) tNil)))))))))))
abbrev n_bare_expression : List Str := ["expression", "op", "at", "info", "kids", "arms", "bare_kids", "bare_arms", "kid", "name", "variables", "body"]
def t_bare_function (K : PySem.W.Frag) : TS :=
  (tSq (tIfS (tOr (tNot (uTru K (tCB (uIsi K) (tCons (tVar 0) (tCons (tC (.ty "tuple")) tNil))))) (tOr (tTest (tOp (uNe K) (tCB (uLen K) (tCons (tVar 0) tNil)) (tC (.int 5)))) (tNot (uTru K (tCall (sp_is_integer K) [] E0 (tCons (tOp (uIx K) (tVar 0) (tC (.int 1))) tNil)))))) (tRet (tVar 0)) tNext)
    (tSq (tAsg (tVar 0) (gTup K 5 (gCons (gName 1) (gCons (gName 2) (gCons (gName 3) (gCons (gName 4) (gCons (gName 5) gNil)))))))
    (tRet (tTup (tCons (tVar 1) (tCons (tC (.int 0)) (tCons (tVar 3) (tCons (tVar 4) (tCons (tCall (sp_bare_expression K) [] E0 (tCons (tVar 5) tNil)) tNil)))))))))
abbrev n_bare_function : List Str := ["function", "name", "at", "parameters", "result", "body"]
def t_bare_tree (K : PySem.W.Frag) : TS :=
  (tSq (tIfS (tOr (tNot (uTru K (tCB (uIsi K) (tCons (tVar 0) (tCons (tC (.ty "tuple")) tNil))))) (tOr (tTest (tOp (uNe K) (tCB (uLen K) (tCons (tVar 0) tNil)) (tC (.int 3)))) (tNot (uTru K (tCB (uIsi K) (tCons (tOp (uIx K) (tVar 0) (tC (.int 2))) (tCons (tC (.ty "tuple")) tNil))))))) (tRet (tVar 0)) tNext)
    (tSq (tAsg (tVar 0) (gTup K 3 (gCons (gName 1) (gCons (gName 2) (gCons (gName 3) gNil)))))
    (tRet (tTup (tCons (tVar 1) (tCons (tVar 2) (tCons (tCB (uTuple K) (tCons (tLc (uIt K (tVar 3)) (gName 4) tYes (tCall (sp_bare_function K) [] E0 (tCons (tVar 4) tNil)) [4]) tNil)) tNil)))))))
abbrev n_bare_tree : List Str := ["tree", "datas", "exceptions", "functions", "function"]
def t_same_tree (K : PySem.W.Frag) : TS :=
  (tRet (tOp (uEq K) (tCall (sp_bare_tree K) [] E0 (tCons (tVar 0) tNil)) (tCall (sp_bare_tree K) [] E0 (tCons (tVar 1) tNil))))
abbrev n_same_tree : List Str := ["first", "second"]
def t_l_start (K : PySem.W.Frag) : TS :=
  (tSq (tAsg (tC (.int 7)) (gName 1))
    (tSq (tFor (uIt K (tVar 0)) (gName 2) (tAsg (tOp (uAdd K) (tOp (uMod) (tCB (uInt) (tCons (tOp (uAdd K) (tOp (uMul) (tVar 1) (tC (.int 48271))) (tVar 2)) tNil)) (tC (.int 2147483629))) (tC (.int 1))) (gName 1)))
    (tRet (tLst (tCons (tCB (uList K) (tCons (tVar 0) tNil)) (tCons (tC (.int 0)) (tCons (tC (.int 0)) (tCons (tVar 1) tNil))))))))
abbrev n_l_start : List Str := ["_law_script", "_law_seed", "_law_cell"]
def t_l_draw (K : PySem.W.Frag) : TS :=
  (tSq (tIfS (tAnd (tTest (tOp (uEq K) (tOp (uIx K) (tVar 0) (tC (.int 1))) (tC (.int 0)))) (tTest (tOp (uGe) (tOp (uIx K) (tVar 0) (tC (.int 2))) (tCB (uLen K) (tCons (tOp (uIx K) (tVar 0) (tC (.int 0))) tNil))))) (tSq (tAsg (tOp (uMod) (tCB (uInt) (tCons (tOp (uAdd K) (tOp (uMul) (tOp (uIx K) (tVar 0) (tC (.int 3))) (tC (.int 48271))) (tC (.int 69621))) tNil)) (tC (.int 2147483629))) (gSub (tVar 0) (tC (.int 3)) uSetL))
    (tRet (tOp (uMod) (tCB (uInt) (tCons (tOp (uFdiv) (tOp (uIx K) (tVar 0) (tC (.int 3))) (tC (.int 13))) tNil)) (tVar 1)))) tNext)
    (tSq (tIfS (tTest (tOp (uEq K) (tOp (uIx K) (tVar 0) (tC (.int 1))) (tC (.int 0)))) (tSq (tAsg (tCB (uAbs) (tCons (tOp (uIx K) (tOp (uIx K) (tVar 0) (tC (.int 0))) (tOp (uIx K) (tVar 0) (tC (.int 2)))) tNil)) (gSub (tVar 0) (tC (.int 1)) uSetL))
    (tAugS (tVar 0) (tC (.int 2)) (tC (.int 1)) (uGetL K) (uIpI fun i j => i + j) uSetL)) tNext)
    (tSq (tAsg (tOp (uMod) (tCB (uInt) (tCons (tOp (uIx K) (tVar 0) (tC (.int 1))) tNil)) (tVar 1)) (gName 2))
    (tSq (tAsg (tOp (uFdiv) (tOp (uIx K) (tVar 0) (tC (.int 1))) (tVar 1)) (gSub (tVar 0) (tC (.int 1)) uSetL))
    (tRet (tVar 2))))))
abbrev n_l_draw : List Str := ["_law_state", "_law_many", "_law_value"]
def t_l_reserved (K : PySem.W.Frag) : TS :=
  (tSq (tAsg (tC (.str "data exception fun tuple get let if case fn apply ref deref set array at put len raise handle")) (gName 0))
    (tSq (tAsg (tOp (uAdd K) (tVar 0) (tC (.str " print seq add sub mul div rem equal less true false int bool unit"))) (gName 0))
    (tRet (tBM K "str" (uSplit) (tVar 0) (tCons (tC (.str " ")) tNil)))))
abbrev n_l_reserved : List Str := ["_law_words"]
def t_l_name (K : PySem.W.Frag) : TS :=
  (tSq (tAsg (tC (.str "abcdefghijklmnopqrstuvwxyz")) (gName 2))
    (tSq (tAsg (tOp (uAdd K) (tVar 2) (tC (.str "0123456789_"))) (gName 3))
    (tSq (tAsg (tOp (uIx K) (tVar 2) (tCall (sp_l_draw K) [] E0 (tCons (tVar 0) (tCons (tC (.int 26)) tNil)))) (gName 4))
    (tSq (tAsg (tCall (sp_l_draw K) [] E0 (tCons (tVar 0) (tCons (tC (.int 4)) tNil))) (gName 5))
    (tSq (tIfS (tTest (tOp (uEq K) (tCall (sp_l_draw K) [] E0 (tCons (tVar 0) (tCons (tC (.int 8)) tNil))) (tC (.int 7)))) (tAsg (tCall (sp_l_draw K) [] E0 (tCons (tVar 0) (tCons (tC (.int 12)) tNil))) (gName 5)) tNext)
    (tSq (tIfS (uTru K (tVar 1)) (tSq (tAsg (tOp (uAdd K) (tVar 3) (tBM0 K "str" (uUpper) (tVar 2))) (gName 3))
    (tAsg (tBM0 K "str" (uUpper) (tVar 4)) (gName 4))) tNext)
    (tSq (tAsg (tOp (uAdd K) (tVar 4) (tBM K "str" (uJoin K) (tC (.str "")) (tCons (tLc (iRng1 (tCons (tVar 5) tNil)) (gName 7) tYes (tOp (uIx K) (tVar 3) (tCall (sp_l_draw K) [] E0 (tCons (tVar 0) (tCons (tCB (uLen K) (tCons (tVar 3) tNil)) tNil)))) [7]) tNil))) (gName 6))
    (tSq (tIfS (tTest (tOp (uIn K id) (tVar 6) (tCall (sp_l_reserved K) [] E0 tNil))) (tRet (tOp (uAdd K) (tVar 6) (tC (.str "_")))) tNext)
    (tRet (tVar 6))))))))))
abbrev n_l_name : List Str := ["_law_state", "_law_great", "_law_letters", "_law_rest", "_law_first", "_law_size", "_law_name_here", "_law_k"]
def t_l_fresh (K : PySem.W.Frag) : TS :=
  (tSq (tAsg (tCall (sp_l_name K) [] E0 (tCons (tVar 0) (tCons (tVar 1) tNil))) (gName 3))
    (tSq (tFor (iRng1 (tCons (tC (.int 60)) tNil)) (gName 4) (tIfS (tTest (tOp (uIn K id) (tVar 3) (tVar 2))) (tAsg (tOp (uAdd K) (tSl (uSl K) (tVar 3) tNoPart (tPart (tC (.int 9)))) (tCB (uStr) (tCons (tVar 4) tNil))) (gName 3)) tNext))
    (tSq (tDrop (tBM K "list" (uAppend) (tVar 2) (tCons (tVar 3) tNil)))
    (tRet (tVar 3)))))
abbrev n_l_fresh : List Str := ["_law_state", "_law_great", "_law_taken", "_law_name_here", "_law_k"]
def t_l_kind (K : PySem.W.Frag) (sp_self : PySem.W.Frag → Sp) : TS :=
  (tSq (tAsg (tCall (sp_l_draw K) [] E0 (tCons (tVar 0) (tCons (tC (.int 8)) tNil))) (gName 2))
    (tSq (tIfS (tOr (tTest (tOp (uLt) (tVar 1) (tC (.int 1)))) (tTest (tOp (uLt) (tVar 2) (tC (.int 3))))) (tRet (tTup (tCons (tOp (uIx K) (tLst (tCons (tC (.str "int")) (tCons (tC (.str "bool")) (tCons (tC (.str "unit")) tNil)))) (tOp (uMod) (tVar 2) (tC (.int 3)))) (tCons (tTup tNil) (tCons (tC (.int 0)) tNil))))) tNext)
    (tSq (tIfS (tTest (tOp (uEq K) (tVar 2) (tC (.int 3)))) (tRet (tTup (tCons (tC (.str "data")) (tCons (tCall (sp_l_name K) [] E0 (tCons (tVar 0) (tCons (tC (.bl false)) tNil))) (tCons (tC (.int 0)) tNil))))) tNext)
    (tSq (tIfS (tTest (tOp (uEq K) (tVar 2) (tC (.int 4)))) (tRet (tTup (tCons (tC (.str "tuple")) (tCons (tCB (uTuple K) (tCons (tLc (iRng1 (tCons (tOp (uAdd K) (tC (.int 2)) (tCall (sp_l_draw K) [] E0 (tCons (tVar 0) (tCons (tC (.int 5)) tNil)))) tNil)) (gName 3) tYes (tCall (sp_self K) [] E0 (tCons (tVar 0) (tCons (tOp (uSub) (tVar 1) (tC (.int 1))) tNil))) [3]) tNil)) (tCons (tC (.int 0)) tNil))))) tNext)
    (tSq (tIfS (tTest (tOp (uEq K) (tVar 2) (tC (.int 5)))) (tRet (tTup (tCons (tC (.str "fn")) (tCons (tTup (tCons (tCall (sp_self K) [] E0 (tCons (tVar 0) (tCons (tOp (uSub) (tVar 1) (tC (.int 1))) tNil))) (tCons (tCall (sp_self K) [] E0 (tCons (tVar 0) (tCons (tOp (uSub) (tVar 1) (tC (.int 1))) tNil))) tNil))) (tCons (tC (.int 0)) tNil))))) tNext)
    (tRet (tTup (tCons (tOp (uIx K) (tLst (tCons (tC (.str "ref")) (tCons (tC (.str "array")) tNil))) (tOp (uMod) (tVar 2) (tC (.int 2)))) (tCons (tTup (tCons (tCall (sp_self K) [] E0 (tCons (tVar 0) (tCons (tOp (uSub) (tVar 1) (tC (.int 1))) tNil))) tNil)) (tCons (tC (.int 0)) tNil))))))))))
abbrev n_l_kind : List Str := ["_law_state", "_law_deep", "_law_pick", "_law_k"]
def t_l_exception (K : PySem.W.Frag) : TS :=
  (tSq (tAsg (tCall (sp_l_draw K) [] E0 (tCons (tVar 0) (tCons (tC (.int 6)) tNil))) (gName 1))
    (tSq (tIfS (tTest (tOp (uLt) (tVar 1) (tC (.int 3)))) (tRet (tOp (uIx K) (tLst (tCons (tC (.str "Div")) (tCons (tC (.str "Index")) (tCons (tC (.str "Size")) tNil)))) (tVar 1))) tNext)
    (tRet (tCall (sp_l_name K) [] E0 (tCons (tVar 0) (tCons (tC (.bl false)) tNil))))))
abbrev n_l_exception : List Str := ["_law_state", "_law_pick"]
def t_l_leaf (K : PySem.W.Frag) : TS :=
  (tSq (tAsg (tCall (sp_l_draw K) [] E0 (tCons (tVar 0) (tCons (tC (.int 8)) tNil))) (gName 1))
    (tSq (tIfS (tTest (tOp (uLt) (tVar 1) (tC (.int 3)))) (tRet (tTup (tCons (tC (.str "int")) (tCons (tC (.int 0)) (tCons (tOp (uIx K) (tLst (tCons (tC (.int 0)) (tCons (tC (.int 1)) (tCons (tUn uNeg (tC (.int 1))) (tCons (tC (.int 2147483647)) (tCons (tUn uNeg (tC (.int 2147483648))) (tCons (tC (.int 10)) (tCons (tC (.int 6)) tNil)))))))) (tCall (sp_l_draw K) [] E0 (tCons (tVar 0) (tCons (tC (.int 7)) tNil)))) (tCons (tTup tNil) (tCons (tTup tNil) tNil))))))) tNext)
    (tSq (tIfS (tTest (tOp (uEq K) (tVar 1) (tC (.int 3)))) (tRet (tTup (tCons (tC (.str "int")) (tCons (tC (.int 0)) (tCons (tOp (uSub) (tCall (sp_l_draw K) [] E0 (tCons (tVar 0) (tCons (tC (.int 4294967296)) tNil))) (tC (.int 2147483648))) (tCons (tTup tNil) (tCons (tTup tNil) tNil))))))) tNext)
    (tSq (tIfS (tTest (tOp (uEq K) (tVar 1) (tC (.int 4)))) (tRet (tTup (tCons (tC (.str "bool")) (tCons (tC (.int 0)) (tCons (tOp (uEq K) (tCall (sp_l_draw K) [] E0 (tCons (tVar 0) (tCons (tC (.int 2)) tNil))) (tC (.int 1))) (tCons (tTup tNil) (tCons (tTup tNil) tNil))))))) tNext)
    (tSq (tIfS (tTest (tOp (uEq K) (tVar 1) (tC (.int 5)))) (tRet (tTup (tCons (tC (.str "unit")) (tCons (tC (.int 0)) (tCons (tC .non) (tCons (tTup tNil) (tCons (tTup tNil) tNil))))))) tNext)
    (tRet (tTup (tCons (tC (.str "name")) (tCons (tC (.int 0)) (tCons (tCall (sp_l_name K) [] E0 (tCons (tVar 0) (tCons (tC (.bl false)) tNil))) (tCons (tTup tNil) (tCons (tTup tNil) tNil))))))))))))
abbrev n_l_leaf : List Str := ["_law_state", "_law_pick"]
def t_l_counts (K : PySem.W.Frag) : TS :=
  (tRet (tDispL [(.inr "tuple", .int 2), (.inr "get", .int 1), (.inr "let", .int 2), (.inr "if", .int 3), (.inr "fn", .int 1), (.inr "apply", .int 2), (.inr "raise", .int 1), (.inr "ref", .int 1), (.inr "deref", .int 1), (.inr "len", .int 1), (.inr "print", .int 1), (.inr "set", .int 2), (.inr "array", .int 2), (.inr "at", .int 2), (.inr "seq", .int 2), (.inr "put", .int 3), (.inr "add", .int 2), (.inr "sub", .int 2), (.inr "mul", .int 2), (.inr "div", .int 2), (.inr "rem", .int 2), (.inr "equal", .int 2), (.inr "less", .int 2), (.inr "call", .int 0), (.inr "make", .int 0), (.inr "case", .int 1), (.inr "handle", .int 1)]))
abbrev n_l_counts : List Str := []
def t_l_arms (K : PySem.W.Frag) (sr_l_arms : PySem.W.Frag → Sp) (sr_l_expr : PySem.W.Frag → Sp) : TS :=
  (tSq (tAsg (tLst tNil) (gName 4))
    (tSq (tIfS (tTest (tOp (uEq K) (tVar 1) (tC (.str "case")))) (tFor (iRng1 (tCons (tOp (uAdd K) (tC (.int 1)) (tCall (sp_l_draw K) [] E0 (tCons (tVar 0) (tCons (tIf (tTest (tOp (uEq K) (tCall (sp_l_draw K) [] E0 (tCons (tVar 0) (tCons (tC (.int 8)) tNil))) (tC (.int 7)))) (tC (.int 8)) (tC (.int 3))) tNil)))) tNil)) (gName 5) (tSq (tAsg (tLst tNil) (gName 6))
    (tSq (tAsg (tCB (uTuple K) (tCons (tLc (iRng1 (tCons (tCall (sp_l_draw K) [] E0 (tCons (tVar 0) (tCons (tC (.int 4)) tNil))) tNil)) (gName 8) tYes (tCall (sp_l_fresh K) [] E0 (tCons (tVar 0) (tCons (tC (.bl false)) (tCons (tVar 6) tNil)))) [8]) tNil)) (gName 7))
    (tDrop (tBM K "list" (uAppend) (tVar 4) (tCons (tTup (tCons (tCall (sp_l_name K) [] E0 (tCons (tVar 0) (tCons (tC (.bl true)) tNil))) (tCons (tVar 7) (tCons (tCall (sr_l_expr K) [] E0 (tCons (tVar 0) (tCons (tOp (uSub) (tVar 2) (tC (.int 1))) (tCons (tVar 3) tNil)))) tNil)))) tNil)))))) tNext)
    (tSq (tIfS (tTest (tOp (uEq K) (tVar 1) (tC (.str "handle")))) (tFor (iRng1 (tCons (tCall (sp_l_draw K) [] E0 (tCons (tVar 0) (tCons (tIf (tTest (tOp (uEq K) (tCall (sp_l_draw K) [] E0 (tCons (tVar 0) (tCons (tC (.int 8)) tNil))) (tC (.int 7)))) (tC (.int 7)) (tC (.int 3))) tNil))) tNil)) (gName 5) (tDrop (tBM K "list" (uAppend) (tVar 4) (tCons (tTup (tCons (tCall (sp_l_exception K) [] E0 (tCons (tVar 0) tNil)) (tCons (tTup (tCons (tCall (sp_l_name K) [] E0 (tCons (tVar 0) (tCons (tC (.bl false)) tNil))) tNil)) (tCons (tCall (sr_l_expr K) [] E0 (tCons (tVar 0) (tCons (tOp (uSub) (tVar 2) (tC (.int 1))) (tCons (tVar 3) tNil)))) tNil)))) tNil)))) tNext)
    (tRet (tCB (uTuple K) (tCons (tVar 4) tNil))))))
abbrev n_l_arms : List Str := ["_law_state", "_law_op", "_law_deep", "_law_room", "_law_arms_here", "_law_k", "_law_taken", "_law_names", "_law_j"]
def t_l_expr (K : PySem.W.Frag) (sr_l_arms : PySem.W.Frag → Sp) (sr_l_expr : PySem.W.Frag → Sp) : TS :=
  (tSq (tAugS (tVar 2) (tC (.int 0)) (tC (.int 1)) (uGetL K) (uIpI fun i j => i - j) uSetL)
    (tSq (tAsg (tCall (sp_l_counts K) [] E0 tNil) (gName 3))
    (tSq (tAsg (tCB (uSortD K) (tCons (tVar 3) tNil)) (gName 4))
    (tSq (tAsg (tCall (sp_l_draw K) [] E0 (tCons (tVar 0) (tCons (tC (.int 36)) tNil))) (gName 5))
    (tSq (tIfS (tOr (tTest (tOp (uLt) (tVar 1) (tC (.int 1)))) (tOr (tTest (tOp (uLt) (tOp (uIx K) (tVar 2) (tC (.int 0))) (tC (.int 1)))) (tTest (tOp (uGe) (tVar 5) (tCB (uLen K) (tCons (tVar 4) tNil)))))) (tRet (tCall (sp_l_leaf K) [] E0 (tCons (tVar 0) tNil))) tNext)
    (tSq (tAsg (tOp (uIx K) (tVar 4) (tVar 5)) (gName 6))
    (tSq (tAsg (tDGet (tVar 3) (tVar 6)) (gName 7))
    (tSq (tIfS (tTest (tOp (uIn K id) (tVar 6) (tTup (tCons (tC (.str "call")) (tCons (tC (.str "make")) (tCons (tC (.str "tuple")) tNil)))))) (tAug 7 (tCall (sp_l_draw K) [] E0 (tCons (tVar 0) (tCons (tIf (tTest (tOp (uEq K) (tCall (sp_l_draw K) [] E0 (tCons (tVar 0) (tCons (tC (.int 8)) tNil))) (tC (.int 7)))) (tOp (uSub) (tC (.int 7)) (tVar 7)) (tC (.int 3))) tNil))) (uIpI fun i j => i + j)) tNext)
    (tSq (tAsg (tC .non) (gName 8))
    (tSq (tIfS (tOr (tTest (tOp (uEq K) (tVar 6) (tC (.str "call")))) (tTest (tOp (uEq K) (tVar 6) (tC (.str "let"))))) (tAsg (tCall (sp_l_name K) [] E0 (tCons (tVar 0) (tCons (tC (.bl false)) tNil))) (gName 8)) tNext)
    (tSq (tIfS (tTest (tOp (uEq K) (tVar 6) (tC (.str "make")))) (tAsg (tCall (sp_l_name K) [] E0 (tCons (tVar 0) (tCons (tC (.bl true)) tNil))) (gName 8)) tNext)
    (tSq (tIfS (tTest (tOp (uEq K) (tVar 6) (tC (.str "get")))) (tAsg (tCall (sp_l_draw K) [] E0 (tCons (tVar 0) (tCons (tC (.int 6)) tNil))) (gName 8)) tNext)
    (tSq (tIfS (tTest (tOp (uEq K) (tVar 6) (tC (.str "fn")))) (tAsg (tTup (tCons (tCall (sp_l_name K) [] E0 (tCons (tVar 0) (tCons (tC (.bl false)) tNil))) (tCons (tCall (sp_l_kind K) [] E0 (tCons (tVar 0) (tCons (tC (.int 2)) tNil))) tNil))) (gName 8)) tNext)
    (tSq (tIfS (tTest (tOp (uEq K) (tVar 6) (tC (.str "raise")))) (tAsg (tTup (tCons (tCall (sp_l_exception K) [] E0 (tCons (tVar 0) tNil)) (tCons (tCall (sp_l_kind K) [] E0 (tCons (tVar 0) (tCons (tC (.int 2)) tNil))) tNil))) (gName 8)) tNext)
    (tSq (tAsg (tCB (uTuple K) (tCons (tLc (iRng1 (tCons (tVar 7) tNil)) (gName 10) tYes (tCall (sr_l_expr K) [] E0 (tCons (tVar 0) (tCons (tOp (uSub) (tVar 1) (tC (.int 1))) (tCons (tVar 2) tNil)))) [10]) tNil)) (gName 9))
    (tRet (tTup (tCons (tVar 6) (tCons (tC (.int 0)) (tCons (tVar 8) (tCons (tVar 9) (tCons (tCall (sr_l_arms K) [] E0 (tCons (tVar 0) (tCons (tVar 6) (tCons (tVar 1) (tCons (tVar 2) tNil))))) tNil))))))))))))))))))))))
abbrev n_l_expr : List Str := ["_law_state", "_law_deep", "_law_room", "_law_counts_here", "_law_ops", "_law_pick", "_law_op", "_law_many", "_law_info", "_law_kids", "_law_k"]
def t_l_tree (K : PySem.W.Frag) : TS :=
  (tSq (tAsg (tLst tNil) (gName 1))
    (tSq (tAsg (tLst tNil) (gName 2))
    (tSq (tAsg (tLst (tCons (tC (.str "main")) tNil)) (gName 3))
    (tSq (tAsg (tLst tNil) (gName 4))
    (tSq (tFor (iRng1 (tCons (tCall (sp_l_draw K) [] E0 (tCons (tVar 0) (tCons (tC (.int 3)) tNil))) tNil)) (gName 5) (tSq (tAsg (tCall (sp_l_fresh K) [] E0 (tCons (tVar 0) (tCons (tC (.bl false)) (tCons (tVar 1) tNil)))) (gName 6))
    (tSq (tAsg (tLst tNil) (gName 7))
    (tSq (tFor (iRng1 (tCons (tOp (uAdd K) (tC (.int 1)) (tCall (sp_l_draw K) [] E0 (tCons (tVar 0) (tCons (tIf (tTest (tOp (uEq K) (tCall (sp_l_draw K) [] E0 (tCons (tVar 0) (tCons (tC (.int 8)) tNil))) (tC (.int 7)))) (tC (.int 8)) (tC (.int 3))) tNil)))) tNil)) (gName 8) (tSq (tAsg (tCB (uTuple K) (tCons (tLc (iRng1 (tCons (tCall (sp_l_draw K) [] E0 (tCons (tVar 0) (tCons (tIf (tTest (tOp (uEq K) (tCall (sp_l_draw K) [] E0 (tCons (tVar 0) (tCons (tC (.int 8)) tNil))) (tC (.int 7)))) (tC (.int 7)) (tC (.int 3))) tNil))) tNil)) (gName 18) tYes (tCall (sp_l_kind K) [] E0 (tCons (tVar 0) (tCons (tC (.int 2)) tNil))) [18]) tNil)) (gName 9))
    (tDrop (tBM K "list" (uAppend) (tVar 7) (tCons (tTup (tCons (tCall (sp_l_fresh K) [] E0 (tCons (tVar 0) (tCons (tC (.bl true)) (tCons (tVar 2) tNil)))) (tCons (tVar 9) tNil))) tNil)))))
    (tDrop (tBM K "list" (uAppend) (tVar 4) (tCons (tTup (tCons (tVar 6) (tCons (tCB (uTuple K) (tCons (tVar 7) tNil)) tNil))) tNil)))))))
    (tSq (tAsg (tLst tNil) (gName 10))
    (tSq (tFor (iRng1 (tCons (tCall (sp_l_draw K) [] E0 (tCons (tVar 0) (tCons (tC (.int 3)) tNil))) tNil)) (gName 5) (tDrop (tCall (sp_l_fresh K) [] E0 (tCons (tVar 0) (tCons (tC (.bl false)) (tCons (tVar 10) tNil))))))
    (tSq (tAsg (tLst tNil) (gName 11))
    (tSq (tAsg (tCall (sp_l_draw K) [] E0 (tCons (tVar 0) (tCons (tC (.int 3)) tNil))) (gName 12))
    (tSq (tFor (iRng1 (tCons (tOp (uAdd K) (tVar 12) (tC (.int 1))) tNil)) (gName 5) (tSq (tAsg (tLst tNil) (gName 13))
    (tSq (tAsg (tC (.str "main")) (gName 6))
    (tSq (tIfS (tTest (tOp (uLt) (tVar 5) (tVar 12))) (tAsg (tCall (sp_l_fresh K) [] E0 (tCons (tVar 0) (tCons (tC (.bl false)) (tCons (tVar 3) tNil)))) (gName 6)) tNext)
    (tSq (tAsg (tLc (iRng1 (tCons (tCall (sp_l_draw K) [] E0 (tCons (tVar 0) (tCons (tC (.int 4)) tNil))) tNil)) (gName 8) tYes (tIf (tTest (tOp (uEq K) (tVar 5) (tVar 12))) (tTup (tCons (tC (.str "int")) (tCons (tTup tNil) (tCons (tC (.int 0)) tNil)))) (tCall (sp_l_kind K) [] E0 (tCons (tVar 0) (tCons (tC (.int 2)) tNil)))) [8]) (gName 14))
    (tSq (tAsg (tCB (uTuple K) (tCons (tLc (uIt K (tVar 14)) (gName 17) tYes (tTup (tCons (tCall (sp_l_fresh K) [] E0 (tCons (tVar 0) (tCons (tC (.bl false)) (tCons (tVar 13) tNil)))) (tCons (tVar 17) tNil))) [17]) tNil)) (gName 15))
    (tSq (tAsg (tIf (tTest (tOp (uEq K) (tVar 5) (tVar 12))) (tTup (tCons (tC (.str "int")) (tCons (tTup tNil) (tCons (tC (.int 0)) tNil)))) (tCall (sp_l_kind K) [] E0 (tCons (tVar 0) (tCons (tC (.int 2)) tNil)))) (gName 16))
    (tDrop (tBM K "list" (uAppend) (tVar 11) (tCons (tTup (tCons (tVar 6) (tCons (tC (.int 0)) (tCons (tVar 15) (tCons (tVar 16) (tCons (tCall (sp_l_expr K) [] E0 (tCons (tVar 0) (tCons (tOp (uAdd K) (tC (.int 1)) (tCall (sp_l_draw K) [] E0 (tCons (tVar 0) (tCons (tC (.int 4)) tNil)))) (tCons (tLst (tCons (tC (.int 40)) tNil)) tNil)))) tNil)))))) tNil))))))))))
    (tRet (tTup (tCons (tCB (uTuple K) (tCons (tVar 4) tNil)) (tCons (tOp (uAdd K) (tTup (tCons (tC (.str "Div")) (tCons (tC (.str "Index")) (tCons (tC (.str "Size")) tNil)))) (tCB (uTuple K) (tCons (tVar 10) tNil))) (tCons (tCB (uTuple K) (tCons (tVar 11) tNil)) tNil)))))))))))))))
abbrev n_l_tree : List Str := ["_law_state", "_law_sorts", "_law_cons", "_law_names", "_law_datas", "_law_k", "_law_name_here", "_law_rows", "_law_j", "_law_fields", "_law_exceptions", "_law_functions", "_law_many", "_law_taken", "_law_kinds", "_law_parameters", "_law_result", "_law_kind_here", "_law_m"]
def t_l_changed (K : PySem.W.Frag) (sp_self : PySem.W.Frag → Sp) : TS :=
  (tSq (tAsg (tVar 1) (gTup K 5 (gCons (gName 3) (gCons (gName 4) (gCons (gName 5) (gCons (gName 6) (gCons (gName 7) gNil)))))))
    (tSq (tAugS (tVar 2) (tC (.int 0)) (tC (.int 1)) (uGetL K) (uIpI fun i j => i - j) uSetL)
    (tSq (tIfS (tTest (tOp (uEq K) (tOp (uIx K) (tVar 2) (tC (.int 0))) (tC (.int 0)))) (tSq (tAsg (tCall (sp_l_draw K) [] E0 (tCons (tVar 0) (tCons (tC (.int 3)) tNil))) (gName 8))
    (tIfS (tAnd (tTest (tOp (uEq K) (tVar 8) (tC (.int 0)))) (tTest (tOp (uEq K) (tVar 3) (tC (.str "int"))))) (tAsg (tOp (uXor) (tVar 5) (tC (.int 1))) (gName 5)) (tIfS (tAnd (tTest (tOp (uEq K) (tVar 8) (tC (.int 1)))) (tTest (tOp (uGt) (tCB (uLen K) (tCons (tVar 6) tNil)) (tC (.int 1))))) (tAsg (tSl (uSl K) (tVar 6) tNoPart (tPart (tUn uNeg (tC (.int 1))))) (gName 6)) (tIfS (tAnd (tTest (tOp (uEq K) (tVar 8) (tC (.int 2)))) (uTru K (tVar 7))) (tAsg (tSl (uSl K) (tVar 7) tNoPart (tPart (tUn uNeg (tC (.int 1))))) (gName 7)) (tRet (tTup (tCons (tC (.str "print")) (tCons (tC (.int 0)) (tCons (tC .non) (tCons (tTup (tCons (tVar 1) tNil)) (tCons (tTup tNil) tNil))))))))))) tNext)
    (tSq (tAsg (tCB (uTuple K) (tCons (tLc (uIt K (tVar 6)) (gName 9) tYes (tCall (sp_self K) [] E0 (tCons (tVar 0) (tCons (tVar 9) (tCons (tVar 2) tNil)))) [9]) tNil)) (gName 6))
    (tSq (tAsg (tCB (uTuple K) (tCons (tLc (uIt K (tVar 7)) (gName 10) tYes (tTup (tCons (tOp (uIx K) (tVar 10) (tC (.int 0))) (tCons (tOp (uIx K) (tVar 10) (tC (.int 1))) (tCons (tCall (sp_self K) [] E0 (tCons (tVar 0) (tCons (tOp (uIx K) (tVar 10) (tC (.int 2))) (tCons (tVar 2) tNil)))) tNil)))) [10]) tNil)) (gName 7))
    (tRet (tTup (tCons (tVar 3) (tCons (tCall (sp_l_draw K) [] E0 (tCons (tVar 0) (tCons (tC (.int 50)) tNil))) (tCons (tVar 5) (tCons (tVar 6) (tCons (tVar 7) tNil))))))))))))
abbrev n_l_changed : List Str := ["_law_state", "_law_expr_here", "_law_left", "_law_op", "_law_at", "_law_info", "_law_kids", "_law_arms_here", "_law_pick", "_law_kid", "_law_arm"]
def t_law (K : PySem.W.Frag) : TS :=
  (tSq (tAsg (tCall (sp_l_start K) [] E0 (tCons (tVar 0) tNil)) (gName 1))
    (tSq (tAsg (tCall (sp_l_tree K) [] E0 (tCons (tVar 1) tNil)) (gName 2))
    (tSq (tAsg (tLst (tCons (tOp (uAdd K) (tC (.int 1)) (tCall (sp_l_draw K) [] E0 (tCons (tVar 1) (tCons (tC (.int 30)) tNil)))) tNil)) (gName 3))
    (tSq (tIfS (tTest (tOp (uEq K) (tCall (sp_l_draw K) [] E0 (tCons (tVar 1) (tCons (tC (.int 2)) tNil))) (tC (.int 0)))) (tAsg (tLst (tCons (tC (.int 1000000)) tNil)) (gName 3)) tNext)
    (tSq (tAsg (tLst tNil) (gName 4))
    (tSq (tFor (uIt K (tOp (uIx K) (tVar 2) (tC (.int 2)))) (gTup K 5 (gCons (gName 5) (gCons (gName 6) (gCons (gName 7) (gCons (gName 8) (gCons (gName 9) gNil)))))) (tDrop (tBM K "list" (uAppend) (tVar 4) (tCons (tTup (tCons (tVar 5) (tCons (tCall (sp_l_draw K) [] E0 (tCons (tVar 1) (tCons (tC (.int 50)) tNil))) (tCons (tVar 7) (tCons (tVar 8) (tCons (tCall (sp_l_changed K) [] E0 (tCons (tVar 1) (tCons (tVar 9) (tCons (tVar 3) tNil)))) tNil)))))) tNil))))
    (tSq (tAsg (tTup (tCons (tOp (uIx K) (tVar 2) (tC (.int 0))) (tCons (tOp (uIx K) (tVar 2) (tC (.int 1))) (tCons (tCB (uTuple K) (tCons (tVar 4) tNil)) tNil)))) (gName 10))
    (tSq (tAsg (tOp (uGt) (tOp (uIx K) (tVar 3) (tC (.int 0))) (tC (.int 0))) (gName 11))
    (tSq (tFor (uIt K (tLst (tCons (tCall (sp_same_tree K) [] E0 (tCons (tVar 2) (tCons (tVar 10) tNil))) (tCons (tCall (sp_same_tree K) [] E0 (tCons (tVar 10) (tCons (tVar 2) tNil))) tNil)))) (gName 12) (tIfS (tOr (tNot (uTru K (tCB (uIsi K) (tCons (tVar 12) (tCons (tC (.ty "bool")) tNil))))) (tTest (tOp (uNe K) (tVar 12) (tVar 11)))) (tRet (tC (.bl false))) tNext))
    (tRet (tAndV (tOp (uIsB) (tCall (sp_same_tree K) [] E0 (tCons (tVar 2) (tCons (tVar 2) tNil))) (tC (.bl true))) (tOp (uIsB) (tCall (sp_same_tree K) [] E0 (tCons (tVar 10) (tCons (tVar 10) tNil))) (tC (.bl true))))))))))))))
abbrev n_law : List Str := ["_law_script", "_law_state", "_law_first", "_law_left", "_law_functions", "_law_name_here", "_law_at", "_law_parameters", "_law_result", "_law_body", "_law_second", "_law_expected", "_law_actual"]
section
variable {K : PySem.W.Frag} {vs : List V} {H : Hp} {Q : VK} {E : XK}
theorem rd_l_draw (h : sp_l_draw K vs H Q E) : t_l_draw K { nx := fun _ H' => Q .non H', rt := Q } (start n_l_draw vs) H := by
  obtain ⟨p, l, m, rfl, hm, hm2, ⟨ns, cur, seed, at_, hp, hl, hne, h0⟩, q⟩ := h
  unfold t_l_draw
  refine r_cut (fun σ' H' => H' = H ∧ σ' = [some (.ref p), some (.int m), none] ∧ (cur = 0 → at_ < ns.length)) ?_ ?_
  · walk_at "u"
    refine br_d (fun h1 => ?_) (fun h1 => ?_)
    · walk_at "u"
      refine br_d (fun h2 => ?_) (fun h2 => ?_)
      · walk_at "u"
        refine q _ _ (Int.emod_nonneg _ (by omega)) (Int.emod_lt_of_pos _ hm) ⟨ns, cur, _, at_, upd_same, by rw [upd_ne hne]; exact hl, hne, h0⟩ (fun b hb => upd_ne hb)
      · walk_at "u"
        refine ⟨rfl, rfl, fun _ => by simpa using h2⟩
    · walk_at "u"
      exact ⟨rfl, rfl, fun h => absurd h h1⟩
  rintro σ H1 ⟨e, rfl, hin⟩
  subst e
  refine r_cut (fun σ' H' => σ' = [some (.ref p), some (.int m), none] ∧ (∃ (cur' : Int) (at' : Nat), H' p = some (.lst [.ref l, .int cur', .int at', .int seed]) ∧ 0 ≤ cur') ∧ ∀ b, b ≠ p → H' b = H1 b) ?_ ?_
  · walk_at "u"
    refine br_d (fun h1 => ?_) (fun h1 => ?_)
    · walk_at "u"
      have hi := hin h1
      refine r_ixL (SqL.of hl) (v := .int ns[at_]) (atI_nat (by simp [hi])) ?_
      walk_at "u"
      refine ⟨rfl, ⟨((ns[at_]).natAbs : Int), at_ + 1, ?_, Int.natCast_nonneg _⟩, fun b hb => ?_⟩
      · rw [upd_same]; rfl
      · rw [upd_ne hb, upd_ne hb]
    · walk_at "u"
      exact ⟨rfl, ⟨cur, at_, hp, h0⟩, fun b _ => rfl⟩
  rintro σ H2 ⟨rfl, ⟨cur', at', hp2, h2⟩, hk⟩
  walk_at "u"
  have hl2 : H2 l = some (.lst (ns.map V.int)) := by rw [hk l hne]; exact hl
  refine q _ _ (Int.emod_nonneg _ (by omega)) (Int.emod_lt_of_pos _ hm) ⟨ns, _, seed, at', upd_same, by rw [upd_ne hne]; exact hl2, hne, Int.ediv_nonneg h2 (by omega)⟩ (fun b hb => by rw [upd_ne hb, hk b hb])
theorem rd_l_start (h : sp_l_start K vs H Q E) : t_l_start K { nx := fun _ H' => Q .non H', rt := Q } (start n_l_start vs) H := by
  obtain ⟨a, ns, rfl, hs, hlen, q⟩ := h
  unfold t_l_start
  walk_at "u"
  refine r_cut (fun σ' H' => H' = H ∧ ∃ (seed : Int) (y : Option V), σ' = [some (.ref a), some (.int seed), y]) ?_ ?_
  · walk_at "u"
    refine it_list ?_
    walk_at "u"
    refine ⟨a, rfl, ⟨_, hs⟩, f_list (xs := ns.map V.int) (fun i σ' H' => H' = H ∧ ∃ (seed : Int) (y : Option V), σ' = [some (.ref a), some (.int seed), y]) ⟨rfl, 7, none, rfl⟩ (fun i σ H' h => h.1 ▸ hs) ?_ ?_⟩
    · rintro i x σ H' hx ⟨rfl, seed, y, rfl⟩
      rw [List.getElem?_map] at hx
      obtain ⟨n, hn, rfl⟩ := Option.map_eq_some_iff.mp hx
      walk_at "u"
      exact ⟨rfl, _, _, rfl⟩
    · rintro σ H' h
      walk_at "u"
      exact h
  rintro σ H1 ⟨rfl, seed, y, rfl⟩
  walk_at "u"
  refine r_listL hs fun l hl => ?_
  walk_at "u"
  refine ⟨szl (by simp), fun p hp => ?_⟩
  have hlp : l ≠ p := ne_of_none upd_same hp
  have hp1 : H1 p = none := by rw [upd_ne hlp.symm] at hp; exact hp
  refine q p l _ (same_mut (same_new hl) hp1) hp1 ⟨ns, 0, seed, 0, upd_same, by rw [upd_ne hlp, upd_same], hlp, Int.le_refl _⟩
end
def Asc (z : Str) : Prop := ∀ c ∈ z.cps.toList, c < 128
theorem Asc.cat {a b : Str} (ha : Asc a) (hb : Asc b) : Asc (a ++ b) := fun c hc => by
  rw [str_catL] at hc
  exact (List.mem_append.mp hc).elim (ha c) (hb c)
theorem Asc.lit {z : Str} (h : z.cps.toList.all (fun c => decide (c < 128)) = true) : Asc z := fun c hc => of_decide_eq_true (List.all_eq_true.mp h c hc)
theorem Asc.cut {z : Str} {lo hi : Option Int} (h : Asc z) : Asc (cutS z lo hi) := fun c hc => by
  unfold cutS at hc
  refine h c ?_
  have hc : c ∈ ((((z.cps.toList.drop (HT.sIx z.length 0 lo)).take (HT.sIx z.length z.length hi - HT.sIx z.length 0 lo)).toArray).toList) := hc
  rw [List.toList_toArray] at hc
  exact List.mem_of_mem_drop (List.mem_of_mem_take hc)
theorem joinL_nil : ∀ ps : List (List Nat), TL.joinL [] ps = ps.flatten
  | [] => rfl
  | [p] => by simp [TL.joinL]
  | p :: q :: r => by
    show p ++ ([] ++ TL.joinL [] (q :: r)) = _
    rw [joinL_nil (q :: r)]; simp
theorem join_empty (ys : List Str) : (Txt.join (Str.ofString "") ys).cps.toList = (ys.map fun y => y.cps.toList).flatten := by
  have e := TL.tl_join (Str.ofString "") ys
  have e0 : TL.tl (Str.ofString "") = [] := by decide +kernel
  rw [TL.join_eq]
  show TL.tl _ = _
  rw [e, e0, joinL_nil]
theorem num_asc : ∀ k : Nat, k < 60 → (Str.ofString (toString (k : Int))).cps.toList.all (fun c => decide (c < 128)) = true ∧ (Str.ofString (toString (k : Int))).length ≤ 2 ∧ 0 < (Str.ofString (toString (k : Int))).length := by decide +kernel
theorem up_letters : ((Txt.upper (Str.ofString "abcdefghijklmnopqrstuvwxyz")).cps.toList.all (fun c => decide (c < 128)) = true) ∧ (Txt.upper (Str.ofString "abcdefghijklmnopqrstuvwxyz")).length = 26 := by decide +kernel
theorem up_one : ∀ c ∈ (Str.ofString "abcdefghijklmnopqrstuvwxyz").cps.toList, (Txt.upper ⟨#[c]⟩).cps.toList.all (fun c => decide (c < 128)) = true ∧ (Txt.upper ⟨#[c]⟩).length = 1 := by decide +kernel
theorem len_letters : (Str.ofString "abcdefghijklmnopqrstuvwxyz").length = 26 := by decide +kernel
theorem asc_letters : Asc (Str.ofString "abcdefghijklmnopqrstuvwxyz") := Asc.lit (by decide +kernel)
theorem len_rest : (Str.ofString "0123456789_").length = 11 := by decide +kernel
theorem asc_rest : Asc (Str.ofString "0123456789_") := Asc.lit (by decide +kernel)
theorem NameOk.lit {z : Str} (h : z.cps.toList.all (fun c => decide (c < 128)) = true ∧ 0 < z.length ∧ z.length ≤ 14) : NameOk z := ⟨Asc.lit h.1, h.2⟩
section
variable {K : PySem.W.Frag} {vs : List V} {H : Hp} {Q : VK} {E : XK} {n : Nat}
theorem rd_l_reserved (h : sp_l_reserved K vs H Q E) : t_l_reserved K { nx := fun _ H' => Q .non H', rt := Q } (start n_l_reserved vs) H := by
  obtain ⟨rfl, q⟩ := h
  unfold t_l_reserved
  have l1 : (Str.ofString "data exception fun tuple get let if case fn apply ref deref set array at put len raise handle").length ≤ 200 := by decide +kernel
  have l2 : (Str.ofString " print seq add sub mul div rem equal less true false int bool unit").length ≤ 200 := by decide +kernel
  have l3 : ((Str.ofString " ").length == 0) = false := by decide +kernel
  generalize Str.ofString "data exception fun tuple get let if case fn apply ref deref set array at put len raise handle" = A at l1 ⊢
  generalize Str.ofString " print seq add sub mul div rem equal less true false int bool unit" = B at l2 ⊢
  walk_at "u"
  refine r_split l3 (szl (by rw [str_cat]; omega)) fun p hp => ?_
  exact q p _ _ (same_new hp) upd_same
theorem rd_l_name (h : sp_l_name K vs H Q E) : t_l_name K { nx := fun _ H' => Q .non H', rt := Q } (start n_l_name vs) H := by
  obtain ⟨p, l, g, rfl, hD, q⟩ := h
  unfold t_l_name
  have e26 := len_letters
  have a26 := asc_letters
  have u26 := up_letters
  have o26 := up_one
  have e11 := len_rest
  have a11 := asc_rest
  generalize Str.ofString "abcdefghijklmnopqrstuvwxyz" = L at e26 a26 u26 o26 ⊢
  generalize Str.ofString "0123456789_" = R at e11 a11 ⊢
  walk_at "u"
  refine ⟨p, l, _, rfl, by decide, by decide, hD, fun i H1 i0 i1 hD1 k1 => ?_⟩
  obtain ⟨i, rfl⟩ : ∃ j : Nat, i = (j : Int) := ⟨i.toNat, by omega⟩
  have hi : i < L.cps.toList.length := by rw [← str_len]; omega
  refine r_ixS (szl (by omega)) (atI_nat (List.getElem?_eq_getElem hi)) ?_
  have hc : L.cps.toList[i] ∈ L.cps.toList := List.getElem_mem hi
  generalize L.cps.toList[i] = c at hc
  walk_at "u"
  refine ⟨p, l, _, rfl, by decide, by decide, hD1, fun s H2 s0 s1 hD2 k2 => ?_⟩
  walk_at "u"
  have f2 : Fr p H H2 := (Fr.of k1).trans (Fr.of k2)
  refine r_cut (fun σ' H' => Fr p H H' ∧ Dr H' p l ∧ ∃ z : Int, 0 ≤ z ∧ z < 12 ∧ σ' = [some (.ref p), some (.bl g), some (.str L), some (.str (L ++ R)), some (.str ⟨#[c]⟩), some (.int z), none, none]) ?_ ?_
  · walk_at "u"
    refine ⟨p, l, _, rfl, by decide, by decide, hD2, fun t H3 t0 t1 hD3 k3 => ?_⟩
    walk_at "u"
    refine br_d (fun h1 => ?_) (fun h1 => ?_)
    · walk_at "u"
      refine ⟨p, l, _, rfl, by decide, by decide, hD3, fun t H4 t0 t1 hD4 k4 => ?_⟩
      walk_at "u"
      exact ⟨f2.trans ((Fr.of k3).trans (Fr.of k4)), hD4, t, t0, t1, rfl⟩
    · walk_at "u"
      exact ⟨f2.trans (Fr.of k3), hD3, s, s0, by omega, rfl⟩
  rintro σ H3 ⟨f3, hD3, z, z0, z1, rfl⟩
  refine r_cut (fun σ' H' => H' = H3 ∧ ∃ (r f : Str), Asc r ∧ Asc f ∧ 0 < r.length ∧ r.length ≤ 100 ∧ f.length = 1 ∧ σ' = [some (.ref p), some (.bl g), some (.str L), some (.str r), some (.str f), some (.int z), none, none]) ?_ ?_
  · walk_at "u"
    have l1 : (L ++ R).length = 37 := by rw [str_cat]; omega
    cases g with
    | true =>
      walk_at "u"
      refine r_upper (by omega) ?_
      walk_at "u"
      refine r_upper (by show (#[c] : Array Nat).size ≤ _; simp) ?_
      walk_at "u"
      exact ⟨rfl, _, _, (a26.cat a11).cat (Asc.lit u26.1), Asc.lit (o26 c hc).1, by rw [str_cat]; omega, by rw [str_cat]; omega, (o26 c hc).2, rfl⟩
    | false =>
      walk_at "u"
      exact ⟨rfl, _, _, a26.cat a11, (fun x hx => by
        have : x = c := by simpa using hx
        rw [this]; exact a26 c hc), by omega, by omega, rfl, rfl⟩
  rintro σ H4 ⟨rfl, r, f, ar, af, r0, r1, lf, rfl⟩
  refine r_cut (fun σ' H' => Fr p H H' ∧ Dr H' p l ∧ ∃ m : Str, Asc m ∧ 0 < m.length ∧ m.length ≤ 12 ∧ σ' = [some (.ref p), some (.bl g), some (.str L), some (.str r), some (.str f), some (.int z), some (.str m), none]) ?_ ?_
  · walk_at "u"
    refine ⟨by omega, by omega, fun A hA => c_range (fun i H' => Fr p H4 H' ∧ Dr H' p l ∧ ∃ ys : List Str, H' A = some (.lst (ys.map V.str)) ∧ ys.length = i ∧ ∀ y ∈ ys, y.length = 1 ∧ Asc y) ⟨Fr.new hA, hD3.new hA, [], upd_same, rfl, (fun _ h => nomatch h)⟩ ?_ ?_⟩
    · rintro i H5 hi ⟨f5, hD5, ys, e5, l5, y5⟩
      walk_at "u"
      refine ⟨rfl, ?_⟩
      walk_at "u"
      refine ⟨p, l, _, rfl, by omega, by omega, hD5, fun j H6 j0 j1 hD6 k6 => ?_⟩
      obtain ⟨j, rfl⟩ : ∃ k : Nat, j = (k : Int) := ⟨j.toNat, by omega⟩
      have hj : j < r.cps.toList.length := by rw [← str_len]; omega
      refine r_ixS (szl (by omega)) (atI_nat (List.getElem?_eq_getElem hj)) ?_
      have hc2 : r.cps.toList[j] ∈ r.cps.toList := List.getElem_mem hj
      generalize r.cps.toList[j] = c2 at hc2
      have e6 : H6 A = some (.lst (ys.map V.str)) := by rw [k6 A (hD3.nep hA)]; exact e5
      refine ⟨_, e6, szt (by simp; omega), (f5.trans (Fr.of k6)).mut hA, hD6.upd (hD3.nep hA) (hD3.nel hA), ys ++ [⟨#[c2]⟩], by rw [upd_same]; simp, by simp [l5], ?_⟩
      intro y hy
      rcases List.mem_append.mp hy with h | h
      · exact y5 y h
      · rw [List.mem_singleton.mp h]
        exact ⟨rfl, fun x hx => by
          have : x = c2 := by simpa using hx
          rw [this]; exact ar c2 hc2⟩
    · rintro H5 ⟨f5, hD5, ys, e5, l5, y5⟩
      walk_at "u"
      have hsum : (ys.map (·.length)).sum = ys.length := by
        clear l5 e5
        induction ys with
        | nil => rfl
        | cons y r ih =>
          rw [List.map_cons, List.sum_cons, ih (fun z hz => y5 z (List.mem_cons_of_mem _ hz)), (y5 y (List.mem_cons_self ..)).1, List.length_cons]
          omega
      have hW : (Txt.join (Str.ofString "") ys).length = ys.length := by
        rw [str_len, join_empty, List.length_flatten, List.map_map]
        rw [← hsum]
        congr 1
      have aW : Asc (Txt.join (Str.ofString "") ys) := fun x hx => by
        rw [join_empty] at hx
        obtain ⟨w, hw, hx⟩ := List.mem_flatten.mp hx
        obtain ⟨y, hy, rfl⟩ := List.mem_map.mp hw
        exact (y5 y hy).2 x hx
      have he0 : (Str.ofString "").length = 0 := by decide +kernel
      refine ⟨ys, .inl (SqL.of e5), by rw [hsum, he0]; omega, ?_⟩
      generalize Txt.join (Str.ofString "") ys = W at hW aW ⊢
      walk_at "u"
      exact ⟨f3.trans f5, hD5, _, af.cat aW, by rw [str_cat]; omega, by rw [str_cat]; omega, rfl⟩
  rintro σ H5 ⟨f5, hD5, m, am, m0, m1, rfl⟩
  walk_at "u"
  walk_at "ui"
  refine ⟨rfl, fun b zs H6 s6 e6 => ?_⟩
  refine r_inSL (SqL.of e6) ?_
  walk_at "u"
  have l_ : (Str.ofString "_").length = 1 := by decide +kernel
  refine br_d (fun h1 => ?_) (fun h1 => ?_)
  · walk_at "u"
    exact q _ _ ⟨am.cat (Asc.lit (by decide +kernel)), by rw [str_cat]; omega, by rw [str_cat]; omega⟩ (hD5.same s6) (f5.trans (Fr.same s6))
  · walk_at "u"
    exact q _ _ ⟨am, m0, by omega⟩ (hD5.same s6) (f5.trans (Fr.same s6))
end
section
variable {K : PySem.W.Frag} {vs : List V} {H : Hp} {Q : VK} {E : XK} {n : Nat}
theorem cut9 {z : Str} : (cutS z none (some 9)).length ≤ 9 ∧ (0 < z.length → 0 < (cutS z none (some 9)).length) := by
  have e : (cutS z none (some 9)).length = min 9 z.length := by
    unfold cutS
    rw [str_len]
    show ((((z.cps.toList.drop (HT.sIx z.length 0 none)).take (HT.sIx z.length z.length (some 9) - HT.sIx z.length 0 none)).toArray).toList).length = _
    rw [List.toList_toArray, HT.sIx_none, show HT.sIx z.length z.length (some 9) = min 9 z.length from HT.sIx_nat z.length z.length 9, List.drop_zero, List.length_take, ← str_len]
    omega
  rw [e]
  omega
theorem rd_l_fresh (h : sp_l_fresh K vs H Q E) : t_l_fresh K { nx := fun _ H' => Q .non H', rt := Q } (start n_l_fresh vs) H := by
  obtain ⟨p, l, t, g, zs, rfl, hD, tp, tl, et, hz, q⟩ := h
  unfold t_l_fresh
  walk_at "u"
  refine ⟨p, l, g, rfl, hD, fun z H1 nz hD1 f1 => ?_⟩
  have et1 : H1 t = some (.lst (zs.map V.str)) := f1 _ _ tp et
  walk_at "u"
  refine r_cut (fun σ' H' => H' = H1 ∧ ∃ (m : Str) (y : Option V), NameOk m ∧ σ' = [some (.ref p), some (.bl g), some (.ref t), some (.str m), y]) ?_ ?_
  · walk_at "u"
    refine ⟨by decide, by decide, f_range (fun i σ' H' => H' = H1 ∧ ∃ (m : Str) (y : Option V), NameOk m ∧ σ' = [some (.ref p), some (.bl g), some (.ref t), some (.str m), y]) ⟨rfl, z, none, nz, rfl⟩ ?_ ?_⟩
    · rintro i σ H2 hi ⟨rfl, m, y, nm, rfl⟩
      have hi : i < 60 := hi
      rw [Int.zero_add]
      walk_at "u"
      refine r_inSL (SqL.of et1) ?_
      walk_at "u"
      refine br_d (fun h1 => ?_) (fun h1 => ?_)
      · have c9 := cut9 (z := m)
        have k60 := num_asc i hi
        have hm := nm.2
        walk_at "u"
        refine r_strI (log_ok (by omega)) ?_
        walk_at "u"
        exact ⟨rfl, _, _, ⟨(Asc.cut nm.1).cat (Asc.lit k60.1), by rw [str_cat]; omega, by rw [str_cat]; omega⟩, rfl⟩
      · walk_at "u"
        exact ⟨rfl, m, _, nm, rfl⟩
    · rintro σ H2 h
      walk_at "u"
      exact h
  rintro σ H2 ⟨rfl, m, y, nm, rfl⟩
  walk_at "u"
  refine r_append et1 (szt (by rw [List.length_map]; omega)) ?_
  walk_at "u"
  refine q m _ nm (hD1.upd tp tl) ?_ (by rw [upd_same, List.map_append]; rfl)
  intro c x h1 h2 e
  rw [upd_ne h2]
  exact f1 c x h1 e
theorem lit3 {k : Nat} (h : k < 3) : ∃ x : Str, [V.str "int", .str "bool", .str "unit"][k]? = some (.str x) ∧ x ∈ leafK := by
  match k, h with
  | 0, _ => exact ⟨_, rfl, by simp⟩
  | 1, _ => exact ⟨_, rfl, by simp⟩
  | 2, _ => exact ⟨_, rfl, by simp⟩
theorem lit2 {k : Nat} (h : k < 2) : ∃ x : Str, [V.str "ref", .str "array"][k]? = some (.str x) ∧ x ∈ nodeK := by
  match k, h with
  | 0, _ => exact ⟨_, rfl, by simp⟩
  | 1, _ => exact ⟨_, rfl, by simp⟩
theorem rd_l_kind (h : spr_l_kind (n + 1) K vs H Q E) : t_l_kind K (spr_l_kind n) { nx := fun _ H' => Q .non H', rt := Q } (start n_l_kind vs) H := by
  obtain ⟨p, l, m, rfl, hm, hD, q⟩ := h
  unfold t_l_kind
  walk_at "u"
  refine ⟨p, l, _, rfl, by decide, by decide, hD, fun pk H1 h0 h9 hD1 k1 => ?_⟩
  have f1 : Fr p H H1 := .of k1
  walk_at "u"
  refine r_cut (fun σ' H' => H' = H1 ∧ σ' = [some (.ref p), some (.int m), some (.int pk), none] ∧ 3 ≤ pk ∧ 1 ≤ m) ?_ ?_
  · have leaf : tRet (tTup (tCons (tOp (uIx K) (tLst (tCons (tC (.str "int")) (tCons (tC (.str "bool")) (tCons (tC (.str "unit")) tNil)))) (tOp (uMod) (tVar 2) (tC (.int 3)))) (tCons (tTup tNil) (tCons (tC (.int 0)) tNil)))) { nx := fun σ' H' => H' = H1 ∧ σ' = [some (.ref p), some (.int m), some (.int pk), none] ∧ 3 ≤ pk ∧ 1 ≤ m, rt := Q } [some (.ref p), some (.int m), some (.int pk), none] H1 := by
      walk_at "u"
      refine ⟨szl (by simp), fun a ha => ?_⟩
      walk_at "u"
      obtain ⟨x, hx, x1⟩ := lit3 (k := (pk % 3).toNat) (by omega)
      refine r_ixL (SqL.of upd_same) (v := .str x) (by rw [show pk % 3 = (((pk % 3).toNat : Nat) : Int) by omega]; exact atI_nat hx) ?_
      walk_at "u"
      refine ⟨szl (by simp), fun b hb => ?_⟩
      walk_at "u"
      refine ⟨szl (by simp), fun c hc => ?_⟩
      exact q _ (.tup [.str x, .tup [], .int 0]) _ ⟨x, _, rfl, .inl ⟨x1, rfl⟩⟩ (Td.newT (.cons (.str x) (.cons (Td.newT .nil hb) (.cons (.int 0) .nil))) hc) (((hD1.new ha).new hb).new hc) (f1.trans ((Fr.new ha).trans ((Fr.new hb).trans (Fr.new hc))))
    walk_at "u"
    refine br_d (fun h1 => ?_) (fun h1 => ?_)
    · walk_at "u"
      exact leaf
    · walk_at "u"
      refine br_d (fun h2 => ?_) (fun h2 => ?_)
      · exact leaf
      · walk_at "u"
        exact ⟨rfl, rfl, by omega, by omega⟩
  rintro σ H2 ⟨rfl, rfl, h3, hm1⟩
  have call : ∀ {H' : Hp} {Q' : VK}, Dr H' p l → (∀ v d H'', KF m d → Td K H'' v d → Dr H'' p l → Fr p H' H'' → Q' v H'') → spr_l_kind n K [.ref p, .int ((m : Int) - 1)] H' Q' E0 := fun hD' q' =>
    ⟨p, l, m - 1, by rw [show ((m : Int) - 1) = ((m - 1 : Nat) : Int) by omega], by omega, hD', fun v d H'' kd => by rw [show m - 1 + 1 = m by omega] at kd; exact q' v d H'' kd⟩
  walk_at "u"
  walk_at "ui"
  refine br_d (fun h1 => ?_) (fun h1 => ?_)
  · walk_at "u"
    refine ⟨p, l, false, rfl, hD1, fun z H3 nz hD3 f3 => ?_⟩
    walk_at "u"
    refine ⟨szl (by simp), fun a ha => ?_⟩
    exact q _ (.tup [.str "data", .str z, .int 0]) _ ⟨_, _, rfl, .inr (.inl ⟨rfl, z, rfl, nz⟩)⟩ (Td.newT (.cons (.str _) (.cons (.str z) (.cons (.int 0) .nil))) ha) (hD3.new ha) (f1.trans (f3.trans (Fr.new ha)))
  walk_at "u"
  walk_at "ui"
  refine br_d (fun h2 => ?_) (fun h2 => ?_)
  · walk_at "u"
    refine ⟨p, l, _, rfl, by decide, by decide, hD1, fun i H3 i0 i5 hD3 k3 => ?_⟩
    walk_at "u"
    refine ⟨by omega, by omega, fun A hA => c_range (CD K (fun H => Dr H p l) p A H3 (KF m)) (CD.start (hD3.new hA) hA) ?_ ?_⟩
    · intro j H4 hj c
      walk_at "u"
      refine ⟨rfl, ?_⟩
      walk_at "u"
      refine call c.1 fun v d H5 kd td hD5 f5 => ?_
      exact c.stepL hA (hD3.nep hA) (hD3.nel hA) (by omega) hD5 f5 td kd
    · rintro H4 ⟨hD4, f4, ws, ds, e4, t4, l4, g4⟩
      walk_at "u"
      refine r_tupleD (SqL.of e4) t4 fun u H5 s5 t5 => ?_
      walk_at "u"
      refine ⟨szl (by simp), fun b hb => ?_⟩
      exact q _ (.tup [.str "tuple", .tup ds, .int 0]) _ ⟨_, _, rfl, .inr (.inr ⟨ds, rfl, by simp, by omega, by omega, g4⟩)⟩ (Td.newT (.cons (.str _) (.cons t5 (.cons (.int 0) .nil))) hb) ((hD4.same s5).new hb) (f1.trans ((Fr.of k3).trans (f4.trans ((Fr.same s5).trans (Fr.new hb)))))
  walk_at "u"
  walk_at "ui"
  refine br_d (fun h3 => ?_) (fun h3 => ?_)
  · walk_at "u"
    refine call hD1 fun v d H3 kd td hD3 f3 => ?_
    walk_at "u"
    refine call hD3 fun v2 d2 H4 kd2 td2 hD4 f4 => ?_
    walk_at "u"
    refine ⟨szl (by simp), fun a ha => ?_⟩
    obtain ⟨H5, e5, s5, t5⟩ := Td.lay (K := K) ha (.cons (td.k (hD3.tk f4)) (.cons td2 .nil))
    rw [e5]
    walk_at "u"
    refine ⟨szl (by simp), fun b hb => ?_⟩
    refine q _ (.tup [.str "fn", .tup [d, d2], .int 0]) _ ⟨_, _, rfl, .inr (.inr ⟨[d, d2], rfl, by simp, by simp, by simp, fun e he => ?_⟩)⟩ (Td.newT (.cons (.str _) (.cons t5 (.cons (.int 0) .nil))) hb) ((hD4.same s5).new hb) (f1.trans (f3.trans (f4.trans ((Fr.same s5).trans (Fr.new hb)))))
    simp only [List.mem_cons, List.not_mem_nil, or_false] at he
    rcases he with rfl | rfl <;> assumption
  walk_at "u"
  refine ⟨szl (by simp), fun a ha => ?_⟩
  obtain ⟨H3, e3, s3, ea⟩ := lay_new (o := .lst [.str "ref", .str "array"]) ha
  rw [e3]
  walk_at "u"
  obtain ⟨x, hx, x1⟩ := lit2 (k := (pk % 2).toNat) (by omega)
  refine r_ixL (SqL.of ea) (v := .str x) (by rw [show pk % 2 = (((pk % 2).toNat : Nat) : Int) by omega]; exact atI_nat hx) ?_
  walk_at "u"
  refine call (hD1.same s3) fun v d H4 kd td hD4 f4 => ?_
  walk_at "u"
  refine ⟨szl (by simp), fun b hb => ?_⟩
  obtain ⟨H5, e5, s5, t5⟩ := Td.lay (K := K) hb (.cons td .nil)
  rw [e5]
  walk_at "u"
  refine ⟨szl (by simp), fun c hc => ?_⟩
  exact q _ (.tup [.str x, .tup [d], .int 0]) _ ⟨_, _, rfl, .inr (.inr ⟨[d], rfl, x1, by simp, by simp, fun e he => by rw [List.mem_singleton.mp he]; exact kd⟩)⟩ (Td.newT (.cons (.str _) (.cons t5 (.cons (.int 0) .nil))) hc) ((hD4.same s5).new hc) (f1.trans ((Fr.same s3).trans (f4.trans ((Fr.same s5).trans (Fr.new hc)))))
theorem rd_l_exception (h : sp_l_exception K vs H Q E) : t_l_exception K { nx := fun _ H' => Q .non H', rt := Q } (start n_l_exception vs) H := by
  obtain ⟨p, l, rfl, hD, q⟩ := h
  unfold t_l_exception
  walk_at "u"
  refine ⟨p, l, _, rfl, by decide, by decide, hD, fun i H1 i0 i1 hD1 k1 => ?_⟩
  walk_at "u"
  walk_at "ui"
  refine br_d (fun h1 => ?_) (fun h1 => ?_)
  · walk_at "u"
    refine ⟨szl (by simp), fun a ha => ?_⟩
    obtain ⟨H3, e3, s3, ea⟩ := lay_new (o := .lst [.str "Div", .str "Index", .str "Size"]) ha
    rw [e3]
    walk_at "u"
    obtain ⟨z, hz, nz⟩ : ∃ z : Str, atI [V.str "Div", .str "Index", .str "Size"] i = some (.str z) ∧ NameOk z := by
      rcases (show i = 0 ∨ i = 1 ∨ i = 2 by omega) with e | e | e <;> subst e <;> exact ⟨_, rfl, NameOk.lit (by decide +kernel)⟩
    refine r_ixL (SqL.of ea) hz ?_
    exact q z _ nz (hD1.same s3) ((Fr.of k1).trans (Fr.same s3))
  · walk_at "u"
    refine ⟨p, l, false, rfl, hD1, fun z H3 nz hD3 f3 => ?_⟩
    walk_at "u"
    exact q z _ nz hD3 ((Fr.of k1).trans f3)
theorem rd_l_counts (h : sp_l_counts K vs H Q E) : t_l_counts K { nx := fun _ H' => Q .non H', rt := Q } (start n_l_counts vs) H := by
  obtain ⟨rfl, q⟩ := h
  unfold t_l_counts
  refine r_ret ?_
  intro p H' hp hs e
  exact q p H' hs e
theorem LeafD.mk {op : Str} {info : D} (h1 : NameOk op) (h2 : D.fit 12 info = true) (h3 : op = "int" → ∃ i, info = .int i) : ED 1 (.tup [.str op, .int 0, info, .tup [], .tup []]) :=
  ⟨op, 0, info, [], [], rfl, h1, h2, h3, by simp, by simp, (fun _ h => nomatch h), (fun _ h => nomatch h)⟩
theorem rd_l_leaf (h : sp_l_leaf K vs H Q E) : t_l_leaf K { nx := fun _ H' => Q .non H', rt := Q } (start n_l_leaf vs) H := by
  obtain ⟨p, l, rfl, hD, q⟩ := h
  unfold t_l_leaf
  have fin : ∀ {H1 : Hp} {op : Str} {v : V} {d : D}, Dr H1 p l → Fr p H H1 → Td K H1 v d → NameOk op → D.fit 12 d = true → (op = "int" → ∃ i, d = .int i) → ∀ a, H1 a = none → ∀ b, upd H1 a (.tup []) b = none → ∀ c, upd (upd H1 a (.tup [])) b (.tup []) c = none →
      Q (.ref c) (upd (upd (upd H1 a (.tup [])) b (.tup [])) c (.tup [.str op, .int 0, v, .ref a, .ref b])) := fun {H1 op v d} hD1 f1 t1 h1 h2 h3 a ha b hb c hc => by
    obtain ⟨G1, g1, s1, t2⟩ := Td.lay (K := K) ha .nil
    rw [g1] at hb hc ⊢
    obtain ⟨G2, g2, s2, t3⟩ := Td.lay (K := K) hb .nil
    rw [g2] at hc ⊢
    exact q _ _ _ (LeafD.mk h1 h2 h3) (Td.newT (.cons (.str op) (.cons (.int 0) (.cons (t1.k (Same.tk (s1.trans s2))) (.cons (t2.k (Same.tk s2)) (.cons t3 .nil))))) hc) (((hD1.same s1).same s2).new hc) (f1.trans ((Fr.same s1).trans ((Fr.same s2).trans (Fr.new hc))))
  walk_at "u"
  refine ⟨p, l, _, rfl, by decide, by decide, hD, fun i H1 i0 i1 hD1 k1 => ?_⟩
  have f1 : Fr p H H1 := Fr.of k1
  have niI : NameOk "int" := NameOk.lit (by decide +kernel)
  walk_at "u"
  walk_at "ui"
  refine br_d (fun h1 => ?_) (fun h1 => ?_)
  · walk_at "u"
    refine ⟨szl (by simp), fun a ha => ?_⟩
    obtain ⟨H3, e3, s3, ea⟩ := lay_new (o := .lst [.int 0, .int 1, .int (-1), .int 2147483647, .int (-2147483648), .int 10, .int 6]) ha
    rw [e3]
    have hD3 := hD1.same s3
    walk_at "u"
    refine ⟨p, l, _, rfl, by decide, by decide, hD3, fun j H4 j0 j1 hD4 k4 => ?_⟩
    obtain ⟨z, hz⟩ : ∃ z : Int, atI [V.int 0, .int 1, .int (-1), .int 2147483647, .int (-2147483648), .int 10, .int 6] j = some (.int z) := by
      rcases (show j = 0 ∨ j = 1 ∨ j = 2 ∨ j = 3 ∨ j = 4 ∨ j = 5 ∨ j = 6 by omega) with e | e | e | e | e | e | e <;> subst e <;> exact ⟨_, rfl⟩
    refine r_ixL (SqL.of (by rw [k4 a (hD1.nep ha)]; exact ea)) hz ?_
    walk_at "u"
    refine ⟨szl (by simp), fun b hb => ?_⟩
    walk_at "u"
    refine ⟨szl (by simp), fun c hc => ?_⟩
    walk_at "u"
    refine ⟨szl (by simp), fun d hd => ?_⟩
    exact fin hD4 (f1.trans ((Fr.same s3).trans (Fr.of k4))) (.int z) niI D.fit_int (fun _ => ⟨z, rfl⟩) b hb c hc d hd
  walk_at "u"
  walk_at "ui"
  refine br_d (fun h2 => ?_) (fun h2 => ?_)
  · walk_at "u"
    refine ⟨p, l, _, rfl, by decide, by decide, hD1, fun j H4 j0 j1 hD4 k4 => ?_⟩
    walk_at "u"
    refine ⟨szl (by simp), fun b hb => ?_⟩
    walk_at "u"
    refine ⟨szl (by simp), fun c hc => ?_⟩
    walk_at "u"
    refine ⟨szl (by simp), fun d hd => ?_⟩
    exact fin hD4 (f1.trans (Fr.of k4)) (.int _) niI D.fit_int (fun _ => ⟨_, rfl⟩) b hb c hc d hd
  walk_at "u"
  walk_at "ui"
  refine br_d (fun h3 => ?_) (fun h3 => ?_)
  · walk_at "u"
    refine ⟨p, l, _, rfl, by decide, by decide, hD1, fun j H4 j0 j1 hD4 k4 => ?_⟩
    walk_at "u"
    refine ⟨szl (by simp), fun b hb => ?_⟩
    walk_at "u"
    refine ⟨szl (by simp), fun c hc => ?_⟩
    walk_at "u"
    refine ⟨szl (by simp), fun d hd => ?_⟩
    exact fin hD4 (f1.trans (Fr.of k4)) (.bl _) (NameOk.lit (by decide +kernel)) D.fit_bl (fun e => absurd e (by decide +kernel)) b hb c hc d hd
  walk_at "u"
  walk_at "ui"
  refine br_d (fun h4 => ?_) (fun h4 => ?_)
  · walk_at "u"
    refine ⟨szl (by simp), fun b hb => ?_⟩
    walk_at "u"
    refine ⟨szl (by simp), fun c hc => ?_⟩
    walk_at "u"
    refine ⟨szl (by simp), fun d hd => ?_⟩
    exact fin hD1 f1 .non (NameOk.lit (by decide +kernel)) D.fit_non (fun e => absurd e (by decide +kernel)) b hb c hc d hd
  walk_at "u"
  refine ⟨p, l, false, rfl, hD1, fun z H4 nz hD4 f4 => ?_⟩
  walk_at "u"
  refine ⟨szl (by simp), fun b hb => ?_⟩
  walk_at "u"
  refine ⟨szl (by simp), fun c hc => ?_⟩
  walk_at "u"
  refine ⟨szl (by simp), fun d hd => ?_⟩
  exact fin hD4 (f1.trans f4) (.str z) (NameOk.lit (by decide +kernel)) nz.fit (fun e => absurd e (by decide +kernel)) b hb c hc d hd
end
section
variable {K : PySem.W.Frag} {H H' H1 H2 H3 : Hp} {p l r x B A : Addr} {o : HO}
theorem Fr.two (f : Fr p H H') : Fr2 p r H H' := fun c x h1 _ e => f c x h1 e
theorem Fr2.mut (f : Fr2 p r H H') (h : H x = none) : Fr2 p r H (upd H' x o) := fun c y h1 h2 e => by
  rw [upd_ne (ne_of_none e h)]
  exact f c y h1 h2 e
theorem Fr2.drop (s : Same H1 H2) (hB : H1 B = none) (f : Fr2 p B H2 H3) : Fr p H1 H3 := fun c x h1 e => f c x h1 (ne_of_none e hB) (s c x e)
theorem Dr.nt (h : Dr H p l) : Nt H p := by
  obtain ⟨ns, cur, seed, at_, hp, hl, hne, h0⟩ := h
  exact Nt.lst hp
/-- data built up at A, beside the draws and the room at r -/
def AL (K : PySem.W.Frag) (p l r A : Addr) (H1 : Hp) (G : D → Prop) (i : Nat) (H' : Hp) : Prop :=
  Dr H' p l ∧ Fr2 p r H1 H' ∧ (∃ k : Int, H' r = some (.lst [.int k])) ∧ ∃ vs ds, H' A = some (.lst vs) ∧ TdL K H' vs ds ∧ ds.length = i ∧ ∀ d ∈ ds, G d
theorem AL.tk {G : D → Prop} {i : Nat} (a : AL K p l r A H1 G i H) (f : Fr2 p r H H') : Tk K H H' := by
  obtain ⟨hD, _, ⟨k, hr⟩, _⟩ := a
  exact f.tk hD.nt (Nt.lst hr)
theorem AL.start {G : D → Prop} {k : Int} (hD : Dr H1 p l) (hr : H1 r = some (.lst [.int k])) (hA : H1 A = none) : AL K p l r A H1 G 0 (upd H1 A (.lst [])) :=
  ⟨hD.new hA, Fr2.refl.mut hA, ⟨k, by rw [upd_ne (ne_of_none hr hA)]; exact hr⟩, [], [], upd_same, .nil, rfl, (fun _ h => nomatch h)⟩
theorem AL.step {G : D → Prop} {i : Nat} {y : V} {d : D} (a : AL K p l r A H1 G i H) (hA : H1 A = none) (h1 : A ≠ p) (h2 : A ≠ l) (h3 : A ≠ r) (hi : i < 60000) (hD : Dr H' p l) (f : Fr2 p r H H') (hr : ∃ k : Int, H' r = some (.lst [.int k])) (t : Td K H' y d) (g : G d) :
    LcEnd A (AL K p l r A H1 G (i + 1)) y H' := by
  have tk := a.tk f
  obtain ⟨_, f1, _, vs, ds, e, td, l1, gs⟩ := a
  have e' : H' A = some (.lst vs) := f _ _ h1 h3 e
  obtain ⟨k, hr⟩ := hr
  refine ⟨vs, e', szt (by rw [td.len]; omega), hD.upd h1 h2, (f1.trans f).mut hA, ⟨k, by rw [upd_ne h3.symm]; exact hr⟩, vs ++ [y], ds ++ [d], upd_same, ((td.k tk).append (.one t)).k (Tk.lst e'), by simp [l1], ?_⟩
  intro x hx
  rcases List.mem_append.mp hx with h | h
  · exact gs x h
  · rw [List.mem_singleton.mp h]; exact g
theorem AL.app {G : D → Prop} {i : Nat} {y : V} {d : D} {Q : VK} (a : AL K p l r A H1 G i H) (hA : H1 A = none) (h1 : A ≠ p) (h2 : A ≠ l) (h3 : A ≠ r) (hi : i < 60000) (hD : Dr H' p l) (f : Fr2 p r H H') (hr : ∃ k : Int, H' r = some (.lst [.int k])) (t : Td K H' y d) (g : G d)
    (q : ∀ H'', AL K p l r A H1 G (i + 1) H'' → Q .non H'') : uAppend (.ref A) [y] H' Q := by
  obtain ⟨acc, a1, a2, a3⟩ := a.step hA h1 h2 h3 hi hD f hr t g
  exact ⟨acc, a1, a2, q _ a3⟩
theorem AL.at_ {G : D → Prop} {i : Nat} (a : AL K p l r A H1 G i H) (h1 : A ≠ p) (h3 : A ≠ r) (f : Fr2 p r H H') : ∃ acc, H' A = some (.lst acc) := by
  obtain ⟨_, _, _, vs, _, e, _⟩ := a
  exact ⟨vs, f _ _ h1 h3 e⟩
end
section
variable {K : PySem.W.Frag} {vs : List V} {H : Hp} {Q : VK} {E : XK} {n : Nat}
theorem TdL.strs {K : PySem.W.Frag} {H : Hp} : ∀ {zs : List Str}, TdL K H (zs.map V.str) (zs.map D.str)
  | [] => .nil
  | z :: r => .cons (.str z) TdL.strs
theorem rd_l_arms (h : spr_l_arms (n + 1) K vs H Q E) : t_l_arms K (spr_l_arms n) (spr_l_expr n) { nx := fun _ H' => Q .non H', rt := Q } (start n_l_arms vs) H := by
  obtain ⟨p, l, r, op, m, k, rfl, hm, m1, hD, rp, rl, er, q⟩ := h
  unfold t_l_arms
  have call : ∀ {H' : Hp} {Q' : VK} {k : Int}, Dr H' p l → H' r = some (.lst [.int k]) → (∀ v d (k' : Int) H'', ED m d → Td K H'' v d → Dr H'' p l → Fr2 p r H' H'' → H'' r = some (.lst [.int k']) → Q' v H'') → spr_l_expr n K [.ref p, .int ((m : Int) - 1), .ref r] H' Q' E0 := fun {H' Q' k} hD' hr' q' =>
    ⟨p, l, r, m - 1, k, by rw [show ((m : Int) - 1) = ((m - 1 : Nat) : Int) by omega], by omega, hD', rp, rl, hr', fun v d k' H'' kd => by rw [show m - 1 + 1 = m by omega] at kd; exact q' v d k' H'' kd⟩
  walk_at "u"
  refine ⟨szl (by simp), fun A hA => ?_⟩
  have a0 : AL K p l r A H (ArmD (ED m)) 0 (upd H A (.lst [])) := AL.start hD er hA
  have Ap := hD.nep hA
  have Al := hD.nel hA
  have Ar : A ≠ r := (ne_of_none er hA).symm
  generalize upd H A (.lst []) = H1 at a0
  walk_at "u"
  refine r_cut (fun σ' H' => ∃ i, i ≤ 8 ∧ AL K p l r A H (ArmD (ED m)) i H' ∧ ∃ y5 y6 y7 y8, σ' = [some (.ref p), some (.str op), some (.int m), some (.ref r), some (.ref A), y5, y6, y7, y8]) ?_ ?_
  · walk_at "u"
    refine br_d (fun h1 => ?_) (fun h1 => ?_)
    · walk_at "u"
      refine ⟨p, l, _, rfl, by decide, by decide, a0.1, fun i H2 i0 i1 hD2 k2 => ?_⟩
      walk_at "u"
      refine r_ifCI ?_
      walk_at "u"
      refine ⟨p, l, _, rfl, by split <;> decide, by split <;> decide, hD2, fun N H3 n0 n1 hD3 k3 => ?_⟩
      have N8 : N < 8 := by split at n1 <;> omega
      walk_at "u"
      obtain ⟨hD1, f1, ⟨kr, er1⟩, vs1, ds1, e1, td1, l1, g1⟩ := a0
      have f13 : Fr p H1 H3 := (Fr.of k2).trans (Fr.of k3)
      have a3 : AL K p l r A H (ArmD (ED m)) 0 H3 := ⟨hD3, f1.trans f13.two, ⟨kr, f13 _ _ rp er1⟩, vs1, ds1, f13 _ _ Ap e1, td1.k (f13.two.tk hD1.nt (Nt.lst er1)), l1, g1⟩
      refine ⟨by omega, by omega, f_range (fun i σ' H' => i ≤ 8 ∧ AL K p l r A H (ArmD (ED m)) i H' ∧ ∃ y5 y6 y7 y8, σ' = [some (.ref p), some (.str op), some (.int m), some (.ref r), some (.ref A), y5, y6, y7, y8]) ⟨by omega, a3, _, _, _, _, rfl⟩ ?_ ?_⟩
      · rintro i σ H4 hi ⟨hi8, a4, y5, y6, y7, y8, rfl⟩
        obtain ⟨hD4, _, ⟨kr, er4⟩, _⟩ := id a4
        walk_at "u"
        generalize some (V.int (0 + (i : Int))) = w5
        refine ⟨szl (by simp), fun B hB => ?_⟩
        obtain ⟨H5, e5, s5, eB⟩ := lay_new (o := .lst []) hB
        rw [e5]
        have hD5 := hD4.same s5
        have Bp := hD4.nep hB
        have Bl := hD4.nel hB
        walk_at "u"
        refine ⟨p, l, _, rfl, by decide, by decide, hD5, fun j H6 j0 j1 hD6 k6 => ?_⟩
        walk_at "u"
        have eB6 : H6 B = some (.lst []) := by rw [k6 B Bp]; exact eB
        refine ⟨by omega, by omega, fun C hC => c_range (fun i H' => Dr H' p l ∧ Fr2 p B H6 H' ∧ ∃ zs : List Str, H' B = some (.lst (zs.map V.str)) ∧ H' C = some (.lst (zs.map V.str)) ∧ zs.length = i ∧ ∀ z ∈ zs, NameOk z) ⟨hD6.new hC, Fr2.refl.mut hC, [], by rw [upd_ne (ne_of_none eB6 hC)]; exact eB6, upd_same, rfl, (fun _ h => nomatch h)⟩ ?_ ?_⟩
        · rintro t H7 ht ⟨hD7, f7, zs, eB7, eC7, l7, g7⟩
          walk_at "u"
          refine ⟨rfl, ?_⟩
          walk_at "u"
          have CB : C ≠ B := (ne_of_none eB6 hC).symm
          refine ⟨p, l, B, false, zs, rfl, hD7, Bp, Bl, eB7, by omega, fun z H8 nz hD8 f8 eB8 => ?_⟩
          have eC8 : H8 C = some (.lst (zs.map V.str)) := f8 _ _ (hD6.nep hC) CB eC7
          refine ⟨_, eC8, szt (by simp; omega), hD8.upd (hD6.nep hC) (hD6.nel hC), (f7.trans f8).mut hC, zs ++ [z], by rw [upd_ne CB.symm]; exact eB8, by rw [upd_same, List.map_append]; rfl, by simp [l7], ?_⟩
          intro y hy
          rcases List.mem_append.mp hy with h | h
          · exact g7 y h
          · rw [List.mem_singleton.mp h]; exact nz
        · rintro H7 ⟨hD7, f7, zs, eB7, eC7, l7, g7⟩
          walk_at "u"
          refine r_tupleD (ds := zs.map .str) (SqL.of eC7) TdL.strs fun u H8 s8 t8 => ?_
          have lz : zs.length ≤ 10 := by omega
          have gz := g7
          have f6 : Fr p H4 H8 := (Fr2.drop s5 hB ((Fr.of k6).two.trans f7)).trans (Fr.same s8)
          have tu := t8
          have hD6 := hD7.same s8
          clear hD7 f7 eB7 eC7 l7 g7 t8 s8
          obtain ⟨acc, eA⟩ := a4.at_ Ap Ar f6.two
          walk_at "u"
          refine ⟨p, l, true, rfl, hD6, fun nm H7 nn hD7 f7 => ?_⟩
          walk_at "u"
          have er7 : H7 r = some (.lst [.int kr]) := f7 _ _ rp (f6 _ _ rp er4)
          refine call hD7 er7 fun v d k' H8 ed td hD8 f8 er8 => ?_
          walk_at "u"
          refine ⟨szl (by simp), fun C hC => ?_⟩
          have tu8 : Td K H8 u (.tup (zs.map .str)) := (tu.k (hD6.tk f7)).k (f8.tk hD7.nt (Nt.lst er7))
          obtain ⟨H9, e9, s9, t9⟩ := Td.lay (K := K) hC (.cons (.str nm) (.cons tu8 (.cons td .nil)))
          rw [e9]
          walk_at "u"
          refine a4.app hA Ap Al Ar (by omega) (hD8.same s9) (f6.two.trans (f7.two.trans (f8.trans (Fr2.same s9)))) ⟨k', s9 _ _ er8⟩ t9 ⟨nm, _, d, rfl, nn, by rw [List.length_map]; exact lz, fun x hx => by
            obtain ⟨z, hz, rfl⟩ := List.mem_map.mp hx
            exact ⟨z, rfl, gz z hz⟩, ed⟩ fun H10 a10 => ?_
          walk_at "u"
          exact ⟨by omega, a10, _, _, _, _, rfl⟩
      · rintro σ H4 ⟨hi8, a4, hy⟩
        walk_at "u"
        exact ⟨_, by omega, a4, hy⟩
    · walk_at "u"
      exact ⟨0, by omega, a0, _, _, _, _, rfl⟩
  rintro σ H2 ⟨i2, hi2, a2, y5, y6, y7, y8, rfl⟩
  refine r_cut (fun σ' H' => ∃ i, i ≤ 20 ∧ AL K p l r A H (ArmD (ED m)) i H' ∧ ∃ y5 y6 y7 y8, σ' = [some (.ref p), some (.str op), some (.int m), some (.ref r), some (.ref A), y5, y6, y7, y8]) ?_ ?_
  · walk_at "u"
    refine br_d (fun h1 => ?_) (fun h1 => ?_)
    · walk_at "u"
      refine ⟨p, l, _, rfl, by decide, by decide, a2.1, fun i H3 i0 i1 hD3 k3 => ?_⟩
      walk_at "u"
      refine r_ifCI ?_
      walk_at "u"
      refine ⟨p, l, _, rfl, by split <;> decide, by split <;> decide, hD3, fun N H4 n0 n1 hD4 k4 => ?_⟩
      have N8 : N < 7 := by split at n1 <;> omega
      walk_at "u"
      obtain ⟨hD2, f2, ⟨kr, er2⟩, vs2, ds2, e2, td2, l2, g2⟩ := a2
      have f24 : Fr p H2 H4 := (Fr.of k3).trans (Fr.of k4)
      have a4 : AL K p l r A H (ArmD (ED m)) i2 H4 := ⟨hD4, f2.trans f24.two, ⟨kr, f24 _ _ rp er2⟩, vs2, ds2, f24 _ _ Ap e2, td2.k (f24.two.tk hD2.nt (Nt.lst er2)), l2, g2⟩
      refine ⟨by omega, by omega, f_range (fun i σ' H' => i ≤ 7 ∧ AL K p l r A H (ArmD (ED m)) (i2 + i) H' ∧ ∃ y5 y6 y7 y8, σ' = [some (.ref p), some (.str op), some (.int m), some (.ref r), some (.ref A), y5, y6, y7, y8]) ⟨by omega, a4, _, _, _, _, rfl⟩ ?_ ?_⟩
      · rintro i σ H5 hi ⟨hi8, a5, y5, y6, y7, y8, rfl⟩
        obtain ⟨hD5, _, ⟨kr, er5⟩, _⟩ := id a5
        obtain ⟨acc, eA⟩ := a5.at_ Ap Ar Fr2.refl
        walk_at "u"
        refine ⟨p, l, rfl, hD5, fun nm H6 nn hD6 f6 => ?_⟩
        walk_at "u"
        refine ⟨p, l, false, rfl, hD6, fun z H7 nz hD7 f7 => ?_⟩
        walk_at "u"
        refine ⟨szl (by simp), fun B hB => ?_⟩
        obtain ⟨H8, e8, s8, t8⟩ := Td.lay (K := K) hB (.cons (.str z) .nil)
        rw [e8]
        walk_at "u"
        have er8 : H8 r = some (.lst [.int kr]) := s8 _ _ (f7 _ _ rp (f6 _ _ rp er5))
        refine call (hD7.same s8) er8 fun v d k' H9 ed td hD9 f9 er9 => ?_
        walk_at "u"
        refine ⟨szl (by simp), fun C hC => ?_⟩
        have t9 := t8.k (f9.tk (hD7.same s8).nt (Nt.lst er8))
        obtain ⟨H10, e10, s10, t10⟩ := Td.lay (K := K) hC (.cons (.str nm) (.cons t9 (.cons td .nil)))
        rw [e10]
        walk_at "u"
        refine a5.app hA Ap Al Ar (by omega) (hD9.same s10) (f6.two.trans (f7.two.trans ((Fr2.same s8).trans (f9.trans (Fr2.same s10))))) ⟨k', s10 _ _ er9⟩ t10 ⟨nm, _, d, rfl, nn, by simp, fun x hx => by
          rw [List.mem_singleton.mp hx]
          exact ⟨z, rfl, nz⟩, ed⟩ fun H11 a11 => ?_
        walk_at "u"
        exact ⟨by omega, a11, _, _, _, _, rfl⟩
      · rintro σ H5 ⟨hi8, a5, hy⟩
        walk_at "u"
        exact ⟨_, by omega, a5, hy⟩
    · walk_at "u"
      exact ⟨i2, by omega, a2, _, _, _, _, rfl⟩
  rintro σ H3 ⟨i, hi, ⟨hD3, f3, ⟨kr, er3⟩, vs3, ds3, e3, td3, l3, g3⟩, y5, y6, y7, y8, rfl⟩
  walk_at "u"
  refine r_tupleD (SqL.of e3) td3 fun u H4 s4 t4 => ?_
  exact q u ds3 kr H4 g3 (by omega) t4 (hD3.same s4) (f3.trans (Fr2.same s4)) (s4 _ _ er3)
end
abbrev ksC : List Str := ["tuple", "get", "let", "if", "fn", "apply", "raise", "ref", "deref", "len", "print", "set", "array", "at", "seq", "put", "add", "sub", "mul", "div", "rem", "equal", "less", "call", "make", "case", "handle"]
theorem ksC_ok : ∀ z ∈ ksC, NameOk z ∧ z ≠ "int" := by
  have : ∀ z ∈ ksC, (z.cps.toList.all (fun c => decide (c < 128)) = true ∧ 0 < z.length ∧ z.length ≤ 14) ∧ z ≠ "int" := by decide +kernel
  exact fun z hz => ⟨NameOk.lit (this z hz).1, (this z hz).2⟩
theorem ksC_val : ∀ z ∈ ksC, ∃ k : Nat, valV countsK (.inr z) = some (.int k) ∧ k ≤ 3 := by
  simp only [ksC, List.forall_mem_cons]
  refine ⟨?_, ?_, ?_, ?_, ?_, ?_, ?_, ?_, ?_, ?_, ?_, ?_, ?_, ?_, ?_, ?_, ?_, ?_, ?_, ?_, ?_, ?_, ?_, ?_, ?_, ?_, ?_, (fun _ h => nomatch h)⟩
  · exact ⟨2, by decide +kernel, by decide⟩
  · exact ⟨1, by decide +kernel, by decide⟩
  · exact ⟨2, by decide +kernel, by decide⟩
  · exact ⟨3, by decide +kernel, by decide⟩
  · exact ⟨1, by decide +kernel, by decide⟩
  · exact ⟨2, by decide +kernel, by decide⟩
  · exact ⟨1, by decide +kernel, by decide⟩
  · exact ⟨1, by decide +kernel, by decide⟩
  · exact ⟨1, by decide +kernel, by decide⟩
  · exact ⟨1, by decide +kernel, by decide⟩
  · exact ⟨1, by decide +kernel, by decide⟩
  · exact ⟨2, by decide +kernel, by decide⟩
  · exact ⟨2, by decide +kernel, by decide⟩
  · exact ⟨2, by decide +kernel, by decide⟩
  · exact ⟨2, by decide +kernel, by decide⟩
  · exact ⟨3, by decide +kernel, by decide⟩
  · exact ⟨2, by decide +kernel, by decide⟩
  · exact ⟨2, by decide +kernel, by decide⟩
  · exact ⟨2, by decide +kernel, by decide⟩
  · exact ⟨2, by decide +kernel, by decide⟩
  · exact ⟨2, by decide +kernel, by decide⟩
  · exact ⟨2, by decide +kernel, by decide⟩
  · exact ⟨2, by decide +kernel, by decide⟩
  · exact ⟨0, by decide +kernel, by decide⟩
  · exact ⟨0, by decide +kernel, by decide⟩
  · exact ⟨1, by decide +kernel, by decide⟩
  · exact ⟨1, by decide +kernel, by decide⟩
theorem fit_pair {n : Nat} {a b : D} (h1 : D.fit n a = true) (h2 : D.fit n b = true) : D.fit (n + 1) (.tup [a, b]) = true :=
  D.fit_tup.mpr ⟨by simp, fun e he => by
    simp only [List.mem_cons, List.not_mem_nil, or_false] at he
    rcases he with rfl | rfl <;> assumption⟩
section
variable {K : PySem.W.Frag} {vs : List V} {H : Hp} {Q : VK} {E : XK} {n : Nat}
/-- the state in the middle of an expression: the draws, the room, the info so far -/
def IS (K : PySem.W.Frag) (p l r : Addr) (H : Hp) (H' : Hp) (v : V) : Prop := Dr H' p l ∧ Fr2 p r H H' ∧ (∃ k : Int, H' r = some (.lst [.int k])) ∧ ∃ d, Td K H' v d ∧ D.fit 12 d = true
theorem rd_l_expr (h : spr_l_expr (n + 1) K vs H Q E) : t_l_expr K (spr_l_arms n) (spr_l_expr n) { nx := fun _ H' => Q .non H', rt := Q } (start n_l_expr vs) H := by
  obtain ⟨p, l, r, m, k, rfl, hm, hD, rp, rl, er, q⟩ := h
  unfold t_l_expr
  walk_at "u"
  have hD1 : Dr (upd H r (.lst ([V.int k].set (Int.toNat 0) (.int (k - 1))))) p l := hD.upd rp rl
  have f1 : Fr2 p r H (upd H r (.lst ([V.int k].set (Int.toNat 0) (.int (k - 1))))) := Fr2.refl.mb
  have er1 : upd H r (.lst ([V.int k].set (Int.toNat 0) (.int (k - 1)))) r = some (.lst [.int (k - 1)]) := upd_same
  generalize upd H r (.lst ([V.int k].set (Int.toNat 0) (.int (k - 1)))) = H1 at hD1 f1 er1
  refine ⟨rfl, fun c H2 s2 ec => ?_⟩
  walk_at "u"
  refine ⟨c, countsK, ksC, rfl, .inl ec, rfl, by decide, fun ys b hperm _ hb => ?_⟩
  obtain ⟨H3, e3, s3, eb⟩ := lay_new (o := .lst (ys.map V.str)) hb
  rw [e3]
  have hD3 := (hD1.same s2).same s3
  have er3 : H3 r = some (.lst [.int (k - 1)]) := s3 _ _ (s2 _ _ er1)
  have ec3 := s3 _ _ ec
  walk_at "u"
  refine ⟨p, l, _, rfl, by decide, by decide, hD3, fun pk H4 p0 p1 hD4 k4 => ?_⟩
  have f4 : Fr2 p r H H4 := f1.trans ((Fr2.same s2).trans ((Fr2.same s3).trans (Fr.of k4).two))
  have er4 : H4 r = some (.lst [.int (k - 1)]) := by rw [k4 r rp]; exact er3
  have nelst : ∀ {x : Addr} {xs : List V} {ys : List (Key × V)}, H3 x = some (.lst xs) → H3 c = some (.dK ys) → x ≠ c := fun e1 e2 h => by rw [h, e2] at e1; cases e1
  have cp : c ≠ p := fun h => by
    obtain ⟨ns, cur, seed, at_, hp, _⟩ := hD3
    rw [h, hp] at ec3; cases ec3
  have bp : b ≠ p := (hD1.same s2).nep hb
  have br : b ≠ r := (ne_of_none (s2 _ _ er1) hb).symm
  have cr : c ≠ r := fun h => by rw [h, er3] at ec3; cases ec3
  have ec4 : H4 c = some (.dK countsK) := by rw [k4 c cp]; exact ec3
  have eb4 : H4 b = some (.lst (ys.map V.str)) := by rw [k4 b bp]; exact eb
  have ly : ys.length = 27 := hperm.length_eq
  walk_at "u"
  refine r_cut (fun σ' H' => H' = H4 ∧ σ' = [some (.ref p), some (.int m), some (.ref r), some (.ref c), some (.ref b), some (.int pk), none, none, none, none, none] ∧ 1 ≤ m ∧ pk < 27) ?_ ?_
  · have leaf : sp_l_leaf K [.ref p] H4 Q E0 := by
      refine ⟨p, l, rfl, hD4, fun v d H5 ed td hD5 f5 => ?_⟩
      exact q v d (k - 1) H5 (ed.mono (by omega)) td hD5 (f4.trans f5.two) (f5 _ _ rp er4)
    walk_at "u"
    refine br_d (fun h1 => ?_) (fun h1 => ?_)
    · walk_at "u"
      exact leaf
    · walk_at "u"
      refine br_d (fun h2 => ?_) (fun h2 => ?_)
      · walk_at "u"
        exact leaf
      · walk_at "u"
        rw [List.length_map, ly]
        refine br_d (fun h3 => ?_) (fun h3 => ?_)
        · walk_at "u"
          exact leaf
        · walk_at "u"
          exact ⟨rfl, rfl, by omega, by omega⟩
  rintro σ H5 ⟨rfl, rfl, m1, pk27⟩
  obtain ⟨pk, rfl⟩ : ∃ j : Nat, pk = (j : Int) := ⟨pk.toNat, by omega⟩
  have hpk : pk < ys.length := by omega
  have hop : ys[pk] ∈ ksC := hperm.mem_iff.mp (List.getElem_mem hpk)
  have hget : (ys.map V.str)[pk]? = some (.str ys[pk]) := by rw [List.getElem?_map, List.getElem?_eq_getElem hpk]; rfl
  generalize ys[pk] = op at hop hget
  obtain ⟨mn, hmn, mn3⟩ := ksC_val op hop
  obtain ⟨nop, nint⟩ := ksC_ok op hop
  walk_at "u"
  refine r_ixL (SqL.of eb4) (atI_nat hget) ?_
  walk_at "u"
  refine ⟨c, _, rfl, hmn ▸ DGet.k (k := .inr op) ec4, ?_⟩
  walk_at "u"
  refine r_cut (fun σ' H' => Dr H' p l ∧ Fr2 p r H H' ∧ (∃ k : Int, H' r = some (.lst [.int k])) ∧ ∃ mn' : Int, 0 ≤ mn' ∧ mn' ≤ 9 ∧ σ' = [some (.ref p), some (.int m), some (.ref r), some (.ref c), some (.ref b), some (.int pk), some (.str op), some (.int mn'), none, none, none]) ?_ ?_
  · walk_at "u"
    refine ⟨szl (by simp), fun a ha => ?_⟩
    obtain ⟨H6, e6, s6, ea⟩ := lay_new (o := .tup [.str "call", .str "make", .str "tuple"]) ha
    rw [e6]
    have hD6 := hD4.same s6
    refine r_inS (ss := ["call", "make", "tuple"]) (SqT.of ea) ?_
    walk_at "u"
    refine br_d (fun h1 => ?_) (fun h1 => ?_)
    · walk_at "u"
      refine ⟨p, l, _, rfl, by decide, by decide, hD6, fun i H7 i0 i1 hD7 k7 => ?_⟩
      walk_at "u"
      refine br_d (fun h2 => ?_) (fun h2 => ?_)
      · walk_at "u"
        refine ⟨p, l, _, rfl, by omega, by omega, hD7, fun j H8 j0 j1 hD8 k8 => ?_⟩
        walk_at "u"
        exact ⟨hD8, f4.trans ((Fr2.same s6).trans ((Fr.of k7).two.trans (Fr.of k8).two)), ⟨k - 1, by rw [k8 r rp, k7 r rp]; exact s6 _ _ er4⟩, _, by omega, by omega, rfl⟩
      · walk_at "u"
        refine ⟨p, l, _, rfl, by omega, by omega, hD7, fun j H8 j0 j1 hD8 k8 => ?_⟩
        walk_at "u"
        exact ⟨hD8, f4.trans ((Fr2.same s6).trans ((Fr.of k7).two.trans (Fr.of k8).two)), ⟨k - 1, by rw [k8 r rp, k7 r rp]; exact s6 _ _ er4⟩, _, by omega, by omega, rfl⟩
    · walk_at "u"
      exact ⟨hD6, f4.trans (Fr2.same s6), ⟨k - 1, s6 _ _ er4⟩, _, by omega, by omega, rfl⟩
  rintro σ H6 ⟨hD6, f6, ⟨k6, er6⟩, mn', mn0, mn9, rfl⟩
  walk_at "u"
  have is0 : IS K p l r H H6 .non := ⟨hD6, f6, ⟨k6, er6⟩, .non, .non, D.fit_non⟩
  clear hD6 f6 er6
  have strI : ∀ {H' : Hp} {z : Str} {v : V}, IS K p l r H H' v → NameOk z → ∀ H'', Dr H'' p l → Fr p H' H'' → IS K p l r H H'' (.str z) := fun {H' z v} is nz H'' hD'' f'' => by
    obtain ⟨_, f, ⟨k, hr⟩, _⟩ := is
    exact ⟨hD'', f.trans f''.two, ⟨k, f'' _ _ rp hr⟩, .str z, .str z, nz.fit⟩
  refine r_cut (fun σ' H' => ∃ v, IS K p l r H H' v ∧ σ' = [some (.ref p), some (.int m), some (.ref r), some (.ref c), some (.ref b), some (.int pk), some (.str op), some (.int mn'), some v, none, none]) ?_ ?_
  · walk_at "u"
    have nm : ∀ {R : V → Hp → Prop}, (∀ z H', IS K p l r H H' (.str z) → R (.str z) H') → sp_l_name K [.ref p, .bl false] H6 R E0 := fun {R} h => ⟨p, l, false, rfl, is0.1, fun z H7 nz hD7 f7 => h z H7 (strI is0 nz H7 hD7 f7)⟩
    refine br_d (fun h1 => ?_) (fun h1 => ?_)
    · walk_at "u"
      refine nm fun z H7 is => ?_
      walk_at "u"
      exact ⟨_, is, rfl⟩
    · walk_at "u"
      refine br_d (fun h2 => ?_) (fun h2 => ?_)
      · walk_at "u"
        refine nm fun z H7 is => ?_
        walk_at "u"
        exact ⟨_, is, rfl⟩
      · walk_at "u"
        exact ⟨_, is0, rfl⟩
  rintro σ H7 ⟨v7, is7, rfl⟩
  refine r_cut (fun σ' H' => ∃ v, IS K p l r H H' v ∧ σ' = [some (.ref p), some (.int m), some (.ref r), some (.ref c), some (.ref b), some (.int pk), some (.str op), some (.int mn'), some v, none, none]) ?_ ?_
  · walk_at "u"
    refine br_d (fun h1 => ?_) (fun h1 => ?_)
    · walk_at "u"
      refine ⟨p, l, true, rfl, is7.1, fun z H8 nz hD8 f8 => ?_⟩
      walk_at "u"
      exact ⟨_, strI is7 nz H8 hD8 f8, rfl⟩
    · walk_at "u"
      exact ⟨_, is7, rfl⟩
  clear is7
  rintro σ H8 ⟨v8, is8, rfl⟩
  refine r_cut (fun σ' H' => ∃ v, IS K p l r H H' v ∧ σ' = [some (.ref p), some (.int m), some (.ref r), some (.ref c), some (.ref b), some (.int pk), some (.str op), some (.int mn'), some v, none, none]) ?_ ?_
  · walk_at "u"
    refine br_d (fun h1 => ?_) (fun h1 => ?_)
    · walk_at "u"
      refine ⟨p, l, _, rfl, by decide, by decide, is8.1, fun z H9 z0 z1 hD9 k9 => ?_⟩
      walk_at "u"
      obtain ⟨_, f, ⟨kk, hr⟩, _⟩ := is8
      exact ⟨_, ⟨hD9, f.trans (Fr.of k9).two, ⟨kk, by rw [k9 r rp]; exact hr⟩, .int z, .int z, D.fit_int⟩, rfl⟩
    · walk_at "u"
      exact ⟨_, is8, rfl⟩
  clear is8
  rintro σ H9 ⟨v9, is9, rfl⟩
  have pairI : ∀ {H' : Hp} {v : V}, IS K p l r H H' v → ∀ H2 z, NameOk z → Dr H2 p l → Fr p H' H2 → ∀ w d H3, KF 3 d → Td K H3 w d → Dr H3 p l → Fr p H2 H3 → ∀ a, H3 a = none → IS K p l r H (upd H3 a (.tup [.str z, w])) (.ref a) := fun {H' v} is H2 z nz hD2 f2 w d H3 kd td hD3 f3 a ha => by
    obtain ⟨_, f, ⟨kk, hr⟩, _⟩ := is
    exact ⟨hD3.new ha, f.trans (f2.two.trans (f3.two.trans (Fr2.refl.mut ha))), ⟨kk, by rw [upd_ne (ne_of_none (f3 _ _ rp (f2 _ _ rp hr)) ha)]; exact f3 _ _ rp (f2 _ _ rp hr)⟩, .tup [.str z, d], Td.newT (.cons (.str z) (.cons td .nil)) ha, D.fit_mono _ (by decide) (fit_pair (n := 6) nz.fit kd.fit)⟩
  refine r_cut (fun σ' H' => ∃ v, IS K p l r H H' v ∧ σ' = [some (.ref p), some (.int m), some (.ref r), some (.ref c), some (.ref b), some (.int pk), some (.str op), some (.int mn'), some v, none, none]) ?_ ?_
  · walk_at "u"
    refine br_d (fun h1 => ?_) (fun h1 => ?_)
    · walk_at "u"
      refine ⟨p, l, false, rfl, is9.1, fun z H10 nz hD10 f10 => ?_⟩
      walk_at "u"
      refine ⟨p, l, 2, rfl, by decide, hD10, fun w d H11 kd td hD11 f11 => ?_⟩
      walk_at "u"
      refine ⟨szl (by simp), fun a ha => ?_⟩
      walk_at "u"
      exact ⟨_, pairI is9 H10 z nz hD10 f10 w d H11 kd td hD11 f11 a ha, rfl⟩
    · walk_at "u"
      exact ⟨_, is9, rfl⟩
  clear is9
  rintro σ H10 ⟨v10, is10, rfl⟩
  refine r_cut (fun σ' H' => ∃ v, IS K p l r H H' v ∧ σ' = [some (.ref p), some (.int m), some (.ref r), some (.ref c), some (.ref b), some (.int pk), some (.str op), some (.int mn'), some v, none, none]) ?_ ?_
  · walk_at "u"
    refine br_d (fun h1 => ?_) (fun h1 => ?_)
    · walk_at "u"
      refine ⟨p, l, rfl, is10.1, fun z H11 nz hD11 f11 => ?_⟩
      walk_at "u"
      refine ⟨p, l, 2, rfl, by decide, hD11, fun w d H12 kd td hD12 f12 => ?_⟩
      walk_at "u"
      refine ⟨szl (by simp), fun a ha => ?_⟩
      walk_at "u"
      exact ⟨_, pairI is10 H11 z nz hD11 f11 w d H12 kd td hD12 f12 a ha, rfl⟩
    · walk_at "u"
      exact ⟨_, is10, rfl⟩
  clear is10
  rintro σ H11 ⟨v11, ⟨hD11, f11, ⟨k11, er11⟩, d11, t11, fit11⟩, rfl⟩
  have call : ∀ {H' : Hp} {Q' : VK} {k : Int}, Dr H' p l → H' r = some (.lst [.int k]) → (∀ v d (k' : Int) H'', ED m d → Td K H'' v d → Dr H'' p l → Fr2 p r H' H'' → H'' r = some (.lst [.int k']) → Q' v H'') → spr_l_expr n K [.ref p, .int ((m : Int) - 1), .ref r] H' Q' E0 := fun {H' Q' k} hD' hr' q' =>
    ⟨p, l, r, m - 1, k, by rw [show ((m : Int) - 1) = ((m - 1 : Nat) : Int) by omega], by omega, hD', rp, rl, hr', fun v d k' H'' kd => by rw [show m - 1 + 1 = m by omega] at kd; exact q' v d k' H'' kd⟩
  walk_at "u"
  refine ⟨by omega, by omega, fun A hA => c_range (AL K p l r A H11 (ED m)) (AL.start hD11 er11 hA) ?_ ?_⟩
  · intro i H12 hi a12
    obtain ⟨hD12, _, ⟨k12, er12⟩, _⟩ := id a12
    walk_at "u"
    refine ⟨rfl, ?_⟩
    walk_at "u"
    refine call hD12 er12 fun v d k' H13 ed td hD13 f13 er13 => ?_
    exact a12.step hA (hD11.nep hA) (hD11.nel hA) (ne_of_none er11 hA).symm (by omega) hD13 f13 ⟨k', er13⟩ td ed
  · rintro H12 ⟨hD12, f12, ⟨k12, er12⟩, ws, ds, e12, td12, l12, g12⟩
    walk_at "u"
    refine r_tupleD (SqL.of e12) td12 fun u H13 s13 t13 => ?_
    have hD13 := hD12.same s13
    have er13 := s13 _ _ er12
    walk_at "u"
    refine ⟨p, l, r, op, m, k12, rfl, by omega, m1, hD13, rp, rl, er13, fun v es k' H14 ga lga ta hD14 f14 er14 => ?_⟩
    walk_at "u"
    refine ⟨szl (by simp), fun a ha => ?_⟩
    have tk14 : Tk K H13 H14 := f14.tk hD13.nt (Nt.lst er13)
    have tk12 : Tk K H11 H12 := f12.tk hD11.nt (Nt.lst er11)
    refine q _ (.tup [.str op, .int 0, d11, .tup ds, .tup es]) k' _ ⟨op, 0, d11, ds, es, rfl, nop, fit11, fun h => absurd h nint, by omega, lga, g12, ga⟩ (Td.newT (.cons (.str op) (.cons (.int 0) (.cons (t11.k (tk12.trans ((Same.tk s13).trans tk14))) (.cons (t13.k tk14) (.cons ta .nil))))) ha) (hD14.new ha) (f11.trans (f12.trans ((Fr2.same s13).trans (f14.trans (Fr2.refl.mut ha))))) (by rw [upd_ne (ne_of_none er14 ha)]; exact er14)
end
/-- all but the cells of a list stays -/
def FrN (ls : List Addr) (H H' : Hp) : Prop := ∀ c x, c ∉ ls → H c = some x → H' c = some x
section
variable {K : PySem.W.Frag} {H H' H2 H1 H3 : Hp} {p l t x : Addr} {o : HO} {ls : List Addr} {n : Nat}
theorem FrN.refl : FrN ls H H := fun _ _ _ h => h
theorem FrN.trans (a : FrN ls H H') (b : FrN ls H' H2) : FrN ls H H2 := fun c x hc e => b c x hc (a c x hc e)
theorem FrN.same (s : Same H H') : FrN ls H H' := fun c x _ e => s c x e
theorem FrN.fr (hp : p ∈ ls) (f : Fr p H H') : FrN ls H H' := fun c x hc e => f c x (fun h => hc (h ▸ hp)) e
theorem FrN.fr2 (hp : p ∈ ls) (ht : t ∈ ls) (f : Fr2 p t H H') : FrN ls H H' := fun c x hc e => f c x (fun h => hc (h ▸ hp)) (fun h => hc (h ▸ ht)) e
theorem FrN.mut (f : FrN ls H H') (h : H x = none) : FrN ls H (upd H' x o) := fun c y hc e => by
  rw [upd_ne (ne_of_none e h)]
  exact f c y hc e
theorem FrN.self (f : FrN ls H H') (h : x ∈ ls) : FrN ls H (upd H' x o) := fun c y hc e => by
  by_cases z : c = x
  · subst z; exact absurd h hc
  · rw [upd_ne z]
    exact f c y hc e
theorem FrN.cut (f : FrN (x :: ls) H1 H3) (h : H1 x = none) : FrN ls H1 H3 := fun c y hc e => f c y (fun m => by
  rcases List.mem_cons.mp m with m | m
  · rw [m, h] at e; cases e
  · exact hc m) e
theorem FrN.sub {ls' : List Addr} (f : FrN ls H H') (h : ∀ a ∈ ls, a ∈ ls') : FrN ls' H H' := fun c y hc e => f c y (fun m => hc (h c m)) e
theorem FrN.nix (f : FrN ls H H') (hx : x ∉ ls) (h : H' x = none) : H x = none := by
  cases e : H x with
  | none => rfl
  | some y => rw [f x y hx e] at h; cases h
/-- a cell that is new is no part of what was -/
theorem FrN.drop (f : FrN (x :: ls) H2 H3) (s : FrN ls H1 H2) (h : H1 x = none) : FrN ls H1 H3 := fun c y hc e => f c y (fun m => by
  rcases List.mem_cons.mp m with m | m
  · rw [m, h] at e; cases e
  · exact hc m) (s c y hc e)
theorem FrN.tk (f : FrN ls H H') (h : ∀ a ∈ ls, Nt H a) : Tk K H H' := fun a ys e => by
  rcases e with (e | ⟨ob, e⟩) | e
  · exact .inl (.inl (f _ _ (fun m => (h a m).1 _ e) e))
  · exact .inl (.inr ⟨ob, f _ _ (fun m => (h a m).2 _ _ e) e⟩)
  · exact .inr e
def StrL (H : Hp) (t : Addr) (n : Nat) : Prop := ∃ zs : List Str, H t = some (.lst (zs.map V.str)) ∧ zs.length ≤ n ∧ ∀ z ∈ zs, NameOk z
theorem StrL.keep (s : StrL H t n) (f : FrN ls H H') (h : t ∉ ls) : StrL H' t n := by
  obtain ⟨zs, e, l⟩ := s
  exact ⟨zs, f _ _ h e, l⟩
theorem StrL.off (s : StrL H t n) (h : t ≠ x) : StrL (upd H x o) t n := by
  obtain ⟨zs, e, l⟩ := s
  exact ⟨zs, (upd_ne h).trans e, l⟩
theorem StrL.nt (s : StrL H t n) : Nt H t := by
  obtain ⟨zs, e, l⟩ := s
  exact Nt.lst e
theorem StrL.ne (s : StrL H t n) (h : H x = none) : x ≠ t := by
  obtain ⟨zs, e, l⟩ := s
  exact (ne_of_none e h).symm
theorem StrL.le {m : Nat} (s : StrL H t n) (h : n ≤ m) : StrL H t m := by
  obtain ⟨zs, e, l, g⟩ := s
  exact ⟨zs, e, by omega, g⟩
theorem fresh_call {g : Bool} {R : VK} (hD : Dr H p l) (tp : t ≠ p) (tl : t ≠ l) (s : StrL H t n) (hn : n ≤ 999) (q : ∀ z H', NameOk z → Dr H' p l → Fr2 p t H H' → StrL H' t (n + 1) → R (.str z) H') : sp_l_fresh K [.ref p, .bl g, .ref t] H R E0 := by
  obtain ⟨zs, e, l, gs⟩ := s
  exact ⟨p, _, t, g, zs, rfl, hD, tp, tl, e, by omega, fun z H' nz hD' f e' => q z H' nz hD' f ⟨_, e', by simp; omega, fun x hx => by
    rcases List.mem_append.mp hx with h | h
    · exact gs x h
    · rw [List.mem_singleton.mp h]; exact nz⟩⟩
/-- a list of data at A -/
def DL (K : PySem.W.Frag) (H : Hp) (A : Addr) (G : D → Prop) (i : Nat) : Prop := ∃ vs ds, H A = some (.lst vs) ∧ TdL K H vs ds ∧ ds.length = i ∧ ∀ d ∈ ds, G d
theorem DL.keep {A : Addr} {G : D → Prop} {i : Nat} (a : DL K H A G i) (f : FrN ls H H') (h : A ∉ ls) (tk : Tk K H H') : DL K H' A G i := by
  obtain ⟨vs, ds, e, td, l, g⟩ := a
  exact ⟨vs, ds, f _ _ h e, td.k tk, l, g⟩
theorem DL.nt {A : Addr} {G : D → Prop} {i : Nat} (a : DL K H A G i) : Nt H A := by
  obtain ⟨vs, ds, e, td, l, g⟩ := a
  exact Nt.lst e
theorem DL.ne {A : Addr} {G : D → Prop} {i : Nat} (a : DL K H A G i) (h : H x = none) : x ≠ A := by
  obtain ⟨vs, ds, e, td, l, g⟩ := a
  exact (ne_of_none e h).symm
theorem DL.at_ {A : Addr} {G : D → Prop} {i : Nat} (a : DL K H A G i) : ∃ acc, H A = some (.lst acc) := by
  obtain ⟨vs, ds, e, td, l, g⟩ := a
  exact ⟨vs, e⟩
theorem DL.off {A : Addr} {G : D → Prop} {i : Nat} (a : DL K H A G i) (h : A ≠ x) (tk : Tk K H (upd H x o)) : DL K (upd H x o) A G i := by
  obtain ⟨vs, ds, e, td, l, g⟩ := a
  exact ⟨vs, ds, (upd_ne h).trans e, td.k tk, l, g⟩
theorem DL.new {A : Addr} {G : D → Prop} (h : H A = some (.lst [])) : DL K H A G 0 := ⟨[], [], h, .nil, rfl, (fun _ h => nomatch h)⟩
theorem DL.put {A : Addr} {G : D → Prop} {i : Nat} {y : V} {d : D} (a : DL K H A G i) (hi : i < 60000) (t : Td K H y d) (g : G d) : ∃ acc, H A = some (.lst acc) ∧ acc.length < sizeLine ∧ DL K (upd H A (.lst (acc ++ [y]))) A G (i + 1) := by
  obtain ⟨vs, ds, e, td, l, gs⟩ := a
  refine ⟨vs, e, szt (by rw [td.len]; omega), vs ++ [y], ds ++ [d], upd_same, (td.append (.one t)).k (Tk.lst e), by simp [l], fun x hx => ?_⟩
  rcases List.mem_append.mp hx with h | h
  · exact gs x h
  · rw [List.mem_singleton.mp h]; exact g
theorem DL.app {A : Addr} {G : D → Prop} {i : Nat} {y : V} {d : D} {Q : VK} (a : DL K H A G i) (hi : i < 60000) (t : Td K H y d) (g : G d) (q : ∀ acc, H A = some (.lst acc) → DL K (upd H A (.lst (acc ++ [y]))) A G (i + 1) → Q .non (upd H A (.lst (acc ++ [y])))) : uAppend (.ref A) [y] H Q := by
  obtain ⟨acc, e, l, d'⟩ := a.put hi t g
  exact ⟨acc, e, l, q acc e d'⟩
end
abbrev RowG (d : D) : Prop := D.fit 8 d = true
abbrev DataG (d : D) : Prop := D.fit 10 d = true
abbrev KindG (d : D) : Prop := D.fit 6 d = true
abbrev ParG (d : D) : Prop := D.fit 7 d = true
section
variable {K : PySem.W.Frag} {vs : List V} {H : Hp} {Q : VK} {E : XK} {n : Nat}
theorem rd_l_tree (h : sp_l_tree K vs H Q E) : t_l_tree K { nx := fun _ H' => Q .non H', rt := Q } (start n_l_tree vs) H := by
  obtain ⟨p, l, rfl, hD, q⟩ := h
  unfold t_l_tree
  walk_at "u"
  refine ⟨szl (by simp), fun S hS => ?_⟩
  obtain ⟨H1, e1, s1, eS1⟩ := lay_new (o := .lst []) hS
  rw [e1]
  walk_at "u"
  refine ⟨szl (by simp), fun C hC => ?_⟩
  obtain ⟨H2, e2, s2, eC2⟩ := lay_new (o := .lst []) hC
  rw [e2]
  walk_at "u"
  refine ⟨szl (by simp), fun N hN => ?_⟩
  obtain ⟨H3, e3, s3, eN3⟩ := lay_new (o := .lst [.str "main"]) hN
  rw [e3]
  walk_at "u"
  refine ⟨szl (by simp), fun B hB => ?_⟩
  obtain ⟨H4, e4, s4, eB4⟩ := lay_new (o := .lst []) hB
  rw [e4]
  have hD1 := hD.same s1
  have hD2 := hD1.same s2
  have hD3 := hD2.same s3
  have hD4 := hD3.same s4
  have Sp := hD.nep hS
  have Sl := hD.nel hS
  have Cp := hD1.nep hC
  have Cl := hD1.nel hC
  have Np := hD2.nep hN
  have Nl := hD2.nel hN
  have Bp := hD3.nep hB
  have Bl := hD3.nel hB
  have SC : S ≠ C := ne_of_none eS1 hC
  have SN : S ≠ N := ne_of_none (s2 _ _ eS1) hN
  have CN : C ≠ N := ne_of_none eC2 hN
  have SB : S ≠ B := ne_of_none (s3 _ _ (s2 _ _ eS1)) hB
  have CB : C ≠ B := ne_of_none (s3 _ _ eC2) hB
  have NB : N ≠ B := ne_of_none eN3 hB
  have s14 := (s1.trans s2).trans (s3.trans s4)
  have S4 : StrL H4 S 0 := ⟨[], s4 _ _ (s3 _ _ (s2 _ _ eS1)), by simp, (fun _ h => nomatch h)⟩
  have C4 : StrL H4 C 0 := ⟨[], s4 _ _ (s3 _ _ eC2), by simp, (fun _ h => nomatch h)⟩
  have nMain : NameOk "main" := NameOk.lit (by decide +kernel)
  have N4 : StrL H4 N 1 := ⟨["main"], s4 _ _ eN3, by simp, fun z hz => by rw [List.mem_singleton.mp hz]; exact nMain⟩
  walk_at "u"
  refine r_cut (fun σ' H' => Dr H' p l ∧ Fr p H H' ∧ StrL H' N 1 ∧ (∃ i, i ≤ 3 ∧ DL K H' B DataG i) ∧ ∃ y5 y6 y7 y8 y9, σ' = [some (.ref p), some (.ref S), some (.ref C), some (.ref N), some (.ref B), y5, y6, y7, y8, y9, none, none, none, none, none, none, none, none, none]) ?_ ?_
  · walk_at "u"
    refine ⟨p, l, _, rfl, by decide, by decide, hD4, fun N0 H5 n0 n1 hD5 k5 => ?_⟩
    walk_at "u"
    have f5 : FrN [p, S, C, B] H4 H5 := FrN.fr (by simp) (Fr.of k5)
    refine ⟨by omega, by omega, f_range (fun i σ' H' => i ≤ 3 ∧ Dr H' p l ∧ FrN [p, S, C, B] H4 H' ∧ StrL H' S i ∧ StrL H' C (8 * i) ∧ DL K H' B DataG i ∧ ∃ y5 y6 y7 y8 y9, σ' = [some (.ref p), some (.ref S), some (.ref C), some (.ref N), some (.ref B), y5, y6, y7, y8, y9, none, none, none, none, none, none, none, none, none]) ⟨by omega, hD5, f5, S4.keep (FrN.fr (List.mem_singleton.mpr rfl) (Fr.of k5)) (by simp [Sp]), C4.keep (FrN.fr (List.mem_singleton.mpr rfl) (Fr.of k5)) (by simp [Cp]), DL.new (by rw [k5 B Bp]; exact eB4), none, none, none, none, none, rfl⟩ ?_ ?_⟩
    · rintro i σ H6 hi ⟨hi3, hD6, f6, S6, C6, B6, y5, y6, y7, y8, y9, rfl⟩
      walk_at "u"
      generalize some (V.int (0 + (i : Int))) = w5
      refine fresh_call hD6 Sp Sl S6 (by omega) fun nm H7 nn hD7 f7 S7 => ?_
      walk_at "u"
      refine ⟨szl (by simp), fun R hR => ?_⟩
      obtain ⟨H8, e8, s8, eR8⟩ := lay_new (o := .lst []) hR
      rw [e8]
      have hD8 := hD7.same s8
      have Rp := hD7.nep hR
      have Rl := hD7.nel hR
      have RS : R ≠ S := S7.ne hR
      have f68 : FrN [p, S] H6 H8 := (FrN.fr2 (by simp) (by simp) f7).trans (FrN.same s8)
      have C8 : StrL H8 C (8 * i) := C6.keep f68 (by simp [Cp, SC.symm])
      have RC : R ≠ C := (C6.keep (FrN.fr2 (ls := [p, S]) (by simp) (by simp) f7) (by simp [Cp, SC.symm])).ne hR
      have tk68 : Tk K H6 H8 := f68.tk (fun a ha => by
        simp only [List.mem_cons, List.not_mem_nil, or_false] at ha
        rcases ha with rfl | rfl
        · exact hD6.nt
        · exact S6.nt)
      have B8 : DL K H8 B DataG i := B6.keep f68 (by simp [Bp, SB.symm]) tk68
      have RB : R ≠ B := by
        obtain ⟨vs, ds, e, _⟩ := B6.keep (FrN.fr2 (ls := [p, S]) (by simp) (by simp) f7) (by simp [Bp, SB.symm]) ((FrN.fr2 (ls := [p, S]) (by simp) (by simp) f7).tk (fun a ha => by
          simp only [List.mem_cons, List.not_mem_nil, or_false] at ha
          rcases ha with rfl | rfl
          · exact hD6.nt
          · exact S6.nt))
        exact (ne_of_none e hR).symm
      have S8 : StrL H8 S (i + 1) := S7.keep (ls := []) (FrN.same s8) (by simp)
      walk_at "u"
      refine r_cut (fun σ' H' => Dr H' p l ∧ FrN [p, C, R] H8 H' ∧ StrL H' C (8 * (i + 1)) ∧ (∃ j, j ≤ 8 ∧ DL K H' R RowG j) ∧ ∃ y8 y9, σ' = [some (.ref p), some (.ref S), some (.ref C), some (.ref N), some (.ref B), w5, some (.str nm), some (.ref R), y8, y9, none, none, none, none, none, none, none, none, none]) ?_ ?_
      · walk_at "u"
        refine ⟨p, l, _, rfl, by decide, by decide, hD8, fun a1 H9 a10 a11 hD9 k9 => ?_⟩
        walk_at "u"
        refine r_ifCI ?_
        walk_at "u"
        refine ⟨p, l, _, rfl, by split <;> decide, by split <;> decide, hD9, fun a2 H10 a20 a21 hD10 k10 => ?_⟩
        have A8 : a2 < 8 := by split at a21 <;> omega
        walk_at "u"
        have f10 : Fr p H8 H10 := (Fr.of k9).trans (Fr.of k10)
        have f10n : FrN [p] H8 H10 := FrN.fr (by simp) f10
        refine ⟨by omega, by omega, f_range (fun j σ' H' => j ≤ 8 ∧ Dr H' p l ∧ FrN [p, C, R] H8 H' ∧ StrL H' C (8 * i + j) ∧ DL K H' R RowG j ∧ ∃ y8 y9, σ' = [some (.ref p), some (.ref S), some (.ref C), some (.ref N), some (.ref B), w5, some (.str nm), some (.ref R), y8, y9, none, none, none, none, none, none, none, none, none]) ⟨by omega, hD10, FrN.fr (by simp) f10, C8.keep f10n (by simp [Cp]), DL.new (f10 _ _ Rp eR8), _, _, rfl⟩ ?_ ?_⟩
        · rintro j σ H11 hj ⟨hj8, hD11, f11, C11, R11, y8, y9, rfl⟩
          walk_at "u"
          generalize some (V.int (0 + (j : Int))) = w8
          refine ⟨p, l, _, rfl, by decide, by decide, hD11, fun a1 H12 a10 a11 hD12 k12 => ?_⟩
          walk_at "u"
          refine r_ifCI ?_
          walk_at "u"
          refine ⟨p, l, _, rfl, by split <;> decide, by split <;> decide, hD12, fun a3 H13 a30 a31 hD13 k13 => ?_⟩
          have A7 : a3 < 7 := by split at a31 <;> omega
          walk_at "u"
          refine ⟨by omega, by omega, fun X hX => c_range (CD K (fun H => Dr H p l) p X H13 KindG) (CD.start (hD13.new hX) hX) ?_ ?_⟩
          · intro r H14 hr c
            walk_at "u"
            refine ⟨rfl, ?_⟩
            walk_at "u"
            refine ⟨p, l, 2, rfl, by decide, c.1, fun v d H15 kd td hD15 f15 => ?_⟩
            exact c.stepL hX (hD13.nep hX) (hD13.nel hX) (by omega) hD15 f15 td kd.fit
          · rintro H14 ⟨hD14, f14, ws, ds, e14, t14, l14, g14⟩
            walk_at "u"
            refine r_tupleD (SqL.of e14) t14 fun u H15 s15 t15 => ?_
            have hD15 := hD14.same s15
            have fp : Fr p H11 H15 := ((Fr.of k12).trans (Fr.of k13)).trans (f14.trans (Fr.same s15))
            have C15 := C11.keep (FrN.fr (ls := [p]) (by simp) fp) (by simp [Cp])
            have R15 := R11.keep (FrN.fr (ls := [p]) (by simp) fp) (by simp [Rp]) (hD11.tk fp)
            obtain ⟨accR, eR⟩ : ∃ acc, H15 R = some (.lst acc) := by obtain ⟨vs, ds, e, _⟩ := R15; exact ⟨vs, e⟩
            walk_at "u"
            refine fresh_call hD15 Cp Cl C15 (by omega) fun z H16 nz hD16 f16 C16 => ?_
            walk_at "u"
            refine ⟨szl (by simp), fun Y hY => ?_⟩
            have tk16 : Tk K H15 H16 := f16.tk hD15.nt C15.nt
            obtain ⟨H17, e17, s17, t17⟩ := Td.lay (K := K) hY (.cons (.str z) (.cons (t15.k tk16) .nil))
            rw [e17]
            walk_at "u"
            have f1517 : FrN [p, C] H15 H17 := (FrN.fr2 (by simp) (by simp) f16).trans (FrN.same s17)
            have R17 := R15.keep f1517 (by simp [Rp, RC]) (tk16.trans (Same.tk s17))
            refine R17.app (by omega) t17 (D.fit_mono (n := 8) _ (by omega) (fit_pair (n := 7) nz.fit (D.fit_tup.mpr ⟨by omega, g14⟩))) fun acc ea R18 => ?_
            walk_at "u"
            have C17 : StrL H17 C (8 * i + j + 1) := C16.keep (ls := []) (FrN.same s17) (by simp)
            refine ⟨by omega, (hD16.same s17).upd Rp Rl, ?_, ?_, R18, _, _, rfl⟩
            · exact (f11.trans ((FrN.fr (by simp) fp).trans ((FrN.fr2 (by simp) (by simp) f16).trans (FrN.same s17)))).self (by simp)
            · obtain ⟨zs, e, lz⟩ := C17
              exact ⟨zs, by rw [upd_ne RC.symm]; exact e, lz⟩
        · rintro σ H11 ⟨hj8, hD11, f11, C11, R11, y8, y9, rfl⟩
          walk_at "u"
          exact ⟨hD11, f11, C11.le (by omega), ⟨_, by omega, R11⟩, _, _, rfl⟩
      rintro σ H9 ⟨hD9, f9, C9, ⟨j, hj, R9⟩, y8, y9, rfl⟩
      have tk89 : Tk K H8 H9 := f9.tk (fun a ha => by
        simp only [List.mem_cons, List.not_mem_nil, or_false] at ha
        rcases ha with rfl | rfl | rfl
        · exact hD8.nt
        · exact C8.nt
        · exact Nt.lst eR8)
      have B9 := B8.keep f9 (by simp [Bp, CB.symm, RB.symm]) tk89
      have S9 := S8.keep f9 (by simp [Sp, SC, RS.symm])
      obtain ⟨accB, eB⟩ : ∃ acc, H9 B = some (.lst acc) := by obtain ⟨vs, ds, e, _⟩ := B9; exact ⟨vs, e⟩
      obtain ⟨vR, dR, eR, tR, lR, gR⟩ := R9
      walk_at "u"
      refine r_tupleD (SqL.of eR) tR fun u H10 s10 t10 => ?_
      walk_at "u"
      refine ⟨szl (by simp), fun Y hY => ?_⟩
      obtain ⟨H11, e11, s11, t11⟩ := Td.lay (K := K) hY (.cons (.str nm) (.cons t10 .nil))
      rw [e11]
      have s911 := s10.trans s11
      walk_at "u"
      have B11 := B9.keep (ls := []) (FrN.same s911) (by simp) (Same.tk s911)
      refine B11.app (by omega) t11 (fit_pair (n := 9) nn.fit (D.fit_tup.mpr ⟨by omega, gR⟩)) fun acc ea B12 => ?_
      walk_at "u"
      refine ⟨by omega, (hD9.same s911).upd Bp Bl, ?_, ?_, ?_, B12, _, _, _, _, _, rfl⟩
      · have R4 : H4 R = none := FrN.nix (f6.trans (FrN.fr2 (by simp) (by simp) f7)) (by simp [Rp, RS, RC, RB]) hR
        refine FrN.self (FrN.cut (x := R) ?_ R4) (by simp)
        refine (f6.sub (fun a ha => List.mem_cons_of_mem _ ha)).trans ((f68.sub fun a ha => ?_).trans ((f9.sub fun a ha => ?_).trans (FrN.same s911)))
        · simp only [List.mem_cons, List.not_mem_nil, or_false] at ha ⊢
          rcases ha with h | h <;> simp [h]
        · simp only [List.mem_cons, List.not_mem_nil, or_false] at ha ⊢
          rcases ha with h | h | h <;> simp [h]
      · exact (S9.keep (ls := []) (FrN.same s911) (by simp)).off SB
      · exact (C9.keep (ls := []) (FrN.same s911) (by simp)).off CB
    · rintro σ H6 ⟨hi3, hD6, f6, S6, C6, B6, y5, y6, y7, y8, y9, rfl⟩
      walk_at "u"
      refine ⟨hD6, ?_, N4.keep f6 (by simp [Np, SN.symm, CN.symm, NB]), ⟨_, by omega, B6⟩, _, _, _, _, _, rfl⟩
      intro c x hc e
      refine f6 c x (fun m => ?_) (s14 _ _ e)
      simp only [List.mem_cons, List.not_mem_nil, or_false] at m
      rcases m with m | m | m | m
      · exact hc m
      · rw [m, hS] at e; cases e
      · rw [m, Same.free s1 hC] at e; cases e
      · rw [m, Same.free (s1.trans (s2.trans s3)) hB] at e; cases e
  have N0 : H N = none := Same.free (s1.trans s2) hN
  have NB' := NB
  clear S4 C4 N4 SC SN CN SB CB NB eS1 eC2 eN3 eB4 e1 e2 e3 e4 s14 hD1 hD2 hD3 hD4 s1 s2 s3 s4 hS hC hN hB H4
  rintro σ H5 ⟨hD5, f5, N5, ⟨nb, hnb, B5⟩, y5, y6, y7, y8, y9, rfl⟩
  walk_at "u"
  refine ⟨szl (by simp), fun X hX => ?_⟩
  obtain ⟨H6, e6, s6, eX⟩ := lay_new (o := .lst []) hX
  rw [e6]
  have hD6 := hD5.same s6
  have Xp := hD5.nep hX
  have Xl := hD5.nel hX
  have XN := N5.ne hX
  have XB := B5.ne hX
  have N6 := N5.keep (ls := []) (FrN.same s6) (by simp)
  have B6 := B5.keep (ls := []) (FrN.same s6) (by simp) (Same.tk s6)
  walk_at "u"
  refine r_cut (fun σ' H' => Dr H' p l ∧ Fr p H H' ∧ StrL H' N 1 ∧ DL K H' B DataG nb ∧ StrL H' X 3 ∧ ∃ y5, σ' = [some (.ref p), some (.ref S), some (.ref C), some (.ref N), some (.ref B), y5, y6, y7, y8, y9, some (.ref X), none, none, none, none, none, none, none, none]) ?_ ?_
  · walk_at "u"
    refine ⟨p, l, _, rfl, by decide, by decide, hD6, fun a1 H7 a10 a11 hD7 k7 => ?_⟩
    walk_at "u"
    refine ⟨by omega, by omega, f_range (fun i σ' H' => i ≤ 3 ∧ Dr H' p l ∧ FrN [p, X] H6 H' ∧ StrL H' X i ∧ ∃ y5, σ' = [some (.ref p), some (.ref S), some (.ref C), some (.ref N), some (.ref B), y5, y6, y7, y8, y9, some (.ref X), none, none, none, none, none, none, none, none]) ⟨by omega, hD7, FrN.fr (by simp) (Fr.of k7), ⟨[], by rw [k7 X Xp]; exact eX, by simp, (fun _ h => nomatch h)⟩, _, rfl⟩ ?_ ?_⟩
    · rintro i σ H8 hi ⟨hi3, hD8, f8, X8, y5, rfl⟩
      walk_at "u"
      refine fresh_call hD8 Xp Xl X8 (by omega) fun z H9 nz hD9 f9 X9 => ?_
      walk_at "u"
      exact ⟨by omega, hD9, f8.trans (FrN.fr2 (by simp) (by simp) f9), X9, _, rfl⟩
    · rintro σ H8 ⟨hi3, hD8, f8, X8, y5, rfl⟩
      walk_at "u"
      have tk : Tk K H6 H8 := f8.tk (fun a ha => by
        simp only [List.mem_cons, List.not_mem_nil, or_false] at ha
        rcases ha with rfl | rfl
        · exact hD6.nt
        · exact Nt.lst eX)
      refine ⟨hD8, ?_, N6.keep f8 (by simp [Np, XN.symm]), B6.keep f8 (by simp [Bp, XB.symm]) tk, X8.le (by omega), _, rfl⟩
      exact f5.trans (fun c x hc e => f8 c x (by
        simp only [List.mem_cons, List.not_mem_nil, or_false, not_or]
        exact ⟨hc, ne_of_none e hX⟩) (s6 _ _ e))
  clear N6 B6 N5 B5 hD5 hD6 f5 eX e6 s6 hX H6 H5 y5
  rintro σ H5 ⟨hD5, f5, N5, B5, X5, y5, rfl⟩
  walk_at "u"
  refine ⟨szl (by simp), fun F hF => ?_⟩
  obtain ⟨H6, e6, s6, eF⟩ := lay_new (o := .lst []) hF
  rw [e6]
  have hD6 := hD5.same s6
  have Fp := hD5.nep hF
  have Fl := hD5.nel hF
  have FN := N5.ne hF
  have FB := B5.ne hF
  have FX := X5.ne hF
  have N6 := N5.keep (ls := []) (FrN.same s6) (by simp)
  have B6 := B5.keep (ls := []) (FrN.same s6) (by simp) (Same.tk s6)
  have X6 := X5.keep (ls := []) (FrN.same s6) (by simp)
  have f56 : Fr p H H6 := f5.trans (Fr.same s6)
  walk_at "u"
  refine ⟨p, l, _, rfl, by decide, by decide, hD6, fun mn H7 mn0 mn3 hD7 k7 => ?_⟩
  have fk7 : FrN [p] H6 H7 := FrN.fr (by simp) (Fr.of k7)
  have N7 := N6.keep fk7 (by simp [Np])
  have B7 := B6.keep fk7 (by simp [Bp]) (hD6.tk (Fr.of k7))
  have X7 := X6.keep fk7 (by simp [Xp])
  have eF7 : H7 F = some (.lst []) := by rw [k7 F Fp]; exact eF
  walk_at "u"
  refine r_cut (fun σ' H' => Dr H' p l ∧ FrN [p, N, F] H7 H' ∧ (∃ i, i ≤ 3 ∧ DL K H' F (FuD (ED 5)) i) ∧ ∃ z5 z6 z8 z13 z14 z15 z16 z17 z18, σ' = [some (.ref p), some (.ref S), some (.ref C), some (.ref N), some (.ref B), z5, z6, y7, z8, y9, some (.ref X), some (.ref F), some (.int mn), z13, z14, z15, z16, z17, z18]) ?_ ?_
  · walk_at "u"
    refine ⟨by omega, by omega, f_range (fun i σ' H' => i ≤ 3 ∧ Dr H' p l ∧ FrN [p, N, F] H7 H' ∧ StrL H' N (1 + i) ∧ DL K H' F (FuD (ED 5)) i ∧ ∃ z5 z6 z8 z13 z14 z15 z16 z17 z18, σ' = [some (.ref p), some (.ref S), some (.ref C), some (.ref N), some (.ref B), z5, z6, y7, z8, y9, some (.ref X), some (.ref F), some (.int mn), z13, z14, z15, z16, z17, z18]) ⟨by omega, hD7, FrN.refl, N7, DL.new eF7, _, _, _, _, _, _, _, _, _, rfl⟩ ?_ ?_⟩
    · rintro i σ H8 hi ⟨hi3, hD8, f8, N8, F8, z5, z6, z8, z13, z14, z15, z16, z17, z18, rfl⟩
      walk_at "u"
      refine ⟨szl (by simp), fun T hT => ?_⟩
      obtain ⟨H9, e9, s9, eT⟩ := lay_new (o := .lst []) hT
      rw [e9]
      have hD9 := hD8.same s9
      have Tp := hD8.nep hT
      have Tl := hD8.nel hT
      have TN := N8.ne hT
      have TF := F8.ne hT
      have N9 := N8.keep (ls := []) (FrN.same s9) (by simp)
      have F9 := F8.keep (ls := []) (FrN.same s9) (by simp) (Same.tk s9)
      walk_at "u"
      refine r_cut (fun σ' H' => Dr H' p l ∧ FrN [p, N] H9 H' ∧ StrL H' N (1 + (i + 1)) ∧ ∃ nm, NameOk nm ∧ σ' = [some (.ref p), some (.ref S), some (.ref C), some (.ref N), some (.ref B), some (.int (0 + (i : Int))), some (.str nm), y7, z8, y9, some (.ref X), some (.ref F), some (.int mn), some (.ref T), z14, z15, z16, z17, z18]) ?_ ?_
      · walk_at "u"
        refine br_d (fun h1 => ?_) (fun h1 => ?_)
        · walk_at "u"
          refine fresh_call hD9 Np Nl N9 (by omega) fun nm H10 nn hD10 f10 N10 => ?_
          walk_at "u"
          exact ⟨hD10, FrN.fr2 (by simp) (by simp) f10, N10, nm, nn, rfl⟩
        · walk_at "u"
          exact ⟨hD9, FrN.refl, N9.le (by omega), _, nMain, rfl⟩
      rintro σ H10 ⟨hD10, f10, N10, nm, nn, rfl⟩
      have tk910 : Tk K H9 H10 := f10.tk (fun a ha => by
        simp only [List.mem_cons, List.not_mem_nil, or_false] at ha
        rcases ha with rfl | rfl
        · exact hD9.nt
        · exact N9.nt)
      have F10 := F9.keep f10 (by simp [Fp, FN]) tk910
      have T10 : StrL H10 T 0 := ⟨[], f10 _ _ (by simp [Tp, TN]) eT, by simp, (fun _ h => nomatch h)⟩
      walk_at "u"
      refine ⟨p, l, _, rfl, by decide, by decide, hD10, fun a1 H11 a10 a11 hD11 k11 => ?_⟩
      walk_at "u"
      refine ⟨by omega, by omega, fun Y hY => c_range (CD K (fun H => Dr H p l) p Y H11 KindG) (CD.start (hD11.new hY) hY) ?_ ?_⟩
      · intro r H12 hr c
        walk_at "u"
        refine ⟨rfl, ?_⟩
        walk_at "u"
        refine br_d (fun h1 => ?_) (fun h1 => ?_)
        · walk_at "u"
          refine ⟨szl (by simp), fun a ha => ?_⟩
          obtain ⟨G1, g1, t1, u1⟩ := Td.lay (K := K) ha .nil
          rw [g1]
          walk_at "u"
          refine ⟨szl (by simp), fun b hb => ?_⟩
          obtain ⟨G2, g2, t2, u2⟩ := Td.lay (K := K) hb (.cons (.str "int") (.cons u1 (.cons (.int 0) .nil)))
          rw [g2]
          exact c.stepL hY (hD11.nep hY) (hD11.nel hY) (by omega) ((c.1.same t1).same t2) (Fr.same (t1.trans t2)) u2 (fit_cons3 (n := 5) (D.fit_str.mpr ⟨by decide +kernel, by decide +kernel⟩) fit_nil D.fit_int)
        · walk_at "u"
          refine ⟨p, l, 2, rfl, by decide, c.1, fun v d H13 kd td hD13 f13 => ?_⟩
          exact c.stepL hY (hD11.nep hY) (hD11.nel hY) (by omega) hD13 f13 td kd.fit
      · rintro H12 ⟨hD12, f12, wk, dk, e12, t12, l12, g12⟩
        walk_at "u"
        refine it_list ?_
        walk_at "u"
        have f1012 : FrN [p, T] H10 H12 := FrN.fr (by simp) ((Fr.of k11).trans f12)
        have T12 := T10.keep (FrN.fr (ls := [p]) (by simp) ((Fr.of k11).trans f12)) (by simp [Tp])
        have YT : Y ≠ T := (T10.keep (FrN.fr (ls := [p]) (by simp) (Fr.of k11)) (by simp [Tp])).ne hY
        have Yp := hD11.nep hY
        have lwk : wk.length ≤ 3 := by rw [t12.len, l12]; omega
        refine ⟨Y, rfl, ⟨_, SqL.of e12⟩, fun Z hZ => c_lists (xs := wk) (fun r H' => Dr H' p l ∧ FrN [p, T] H12 H' ∧ StrL H' T r ∧ DL K H' Z ParG r) ⟨hD12.new hZ, FrN.refl.mut hZ, T12.off (T12.ne hZ).symm, DL.new upd_same⟩ (fun r H' P => SqL.of (P.2.1 _ _ (by simp [Yp, YT]) e12)) ?_ ?_⟩
        · rintro r x H13 hx ⟨hD13, f13, T13, Z13⟩
          have rl := (List.getElem?_eq_some_iff.mp hx).1
          obtain ⟨d, hd, td⟩ := t12.getV hx
          have tk13 : Tk K H12 H13 := f13.tk (fun a ha => by
            simp only [List.mem_cons, List.not_mem_nil, or_false] at ha
            rcases ha with rfl | rfl
            · exact hD12.nt
            · exact T12.nt)
          have ZT := T12.ne hZ
          have Zp := hD12.nep hZ
          have Zl := hD12.nel hZ
          walk_at "u"
          refine ⟨rfl, ?_⟩
          walk_at "u"
          refine fresh_call hD13 Tp Tl T13 (by omega) fun z H14 nz hD14 f14 T14 => ?_
          have tk14 := f14.tk (K := K) hD13.nt T13.nt
          walk_at "u"
          refine ⟨szl (by simp), fun a ha => ?_⟩
          obtain ⟨H15, e15, s15, t15⟩ := Td.lay (K := K) ha (.cons (.str z) (.cons ((td.k tk13).k tk14) .nil))
          rw [e15]
          have f1315 : FrN [p, T] H13 H15 := (FrN.fr2 (by simp) (by simp) f14).trans (FrN.same s15)
          have Z15 := Z13.keep f1315 (by simp [Zp, ZT]) (tk14.trans (Same.tk s15))
          obtain ⟨acc, ea, la, Z16⟩ := Z15.put (by omega) t15 (fit_pair (n := 6) nz.fit (g12 d (List.mem_of_getElem? hd)))
          exact ⟨acc, ea, la, (hD14.same s15).upd Zp Zl, (f13.trans f1315).mut hZ, (T14.keep (ls := []) (FrN.same s15) (by simp)).off ZT.symm, Z16⟩
        · rintro H13 ⟨hD13, f13, T13, ⟨wz, dz, ez, tz, lz, gz⟩⟩
          walk_at "u"
          refine r_tupleD (SqL.of ez) tz fun u H14 s14 tu => ?_
          have hD14 := hD13.same s14
          have T14 := T13.keep (ls := []) (FrN.same s14) (by simp)
          have f1014 : FrN [p, T] H10 H14 := f1012.trans (f13.trans (FrN.same s14))
          have pfit : D.fit 8 (.tup dz) = true := D.fit_tup.mpr ⟨by omega, gz⟩
          walk_at "u"
          refine br_d (fun h1 => ?_) (fun h1 => ?_)
          · walk_at "u"
            refine ⟨szl (by simp), fun a ha => ?_⟩
            obtain ⟨G1, g1, t1, u1⟩ := Td.lay (K := K) ha .nil
            rw [g1]
            walk_at "u"
            refine ⟨szl (by simp), fun a2 ha2 => ?_⟩
            obtain ⟨H15, g2, t2, td⟩ := Td.lay (K := K) ha2 (.cons (.str "int") (.cons u1 (.cons (.int 0) .nil)))
            rw [g2]
            obtain ⟨d, hd⟩ : ∃ d : D, d = .tup [.str "int", .tup [], .int 0] := ⟨_, rfl⟩
            rw [← hd] at td
            have kd : D.fit 6 d = true := by rw [hd]; exact fit_cons3 (n := 5) (D.fit_str.mpr ⟨by decide +kernel, by decide +kernel⟩) fit_nil D.fit_int
            have hD15 := (hD14.same t1).same t2
            have f15 : Fr p H14 H15 := Fr.same (t1.trans t2)
            have f1015 : FrN [p, T] H10 H15 := f1014.trans (FrN.fr (by simp) f15)
            have nt10 : ∀ a ∈ [p, T], Nt H10 a := fun a ha => by
              simp only [List.mem_cons, List.not_mem_nil, or_false] at ha
              rcases ha with rfl | rfl
              · exact hD10.nt
              · exact T10.nt
            have F15 := F10.keep f1015 (by simp [Fp, TF.symm]) (f1015.tk nt10)
            obtain ⟨accF, eF15⟩ := F15.at_
            have T15 := T14.keep (FrN.fr (ls := [p]) (by simp) f15) (by simp [Tp])
            have N15 := N10.keep f1015 (by simp [Np, TN.symm])
            walk_at "u"
            refine ⟨p, l, _, rfl, by decide, by decide, hD15, fun dp H16 dp0 dp4 hD16 k16 => ?_⟩
            have f16 : FrN [p] H15 H16 := FrN.fr (by simp) (Fr.of k16)
            have T16 := T15.keep f16 (by simp [Tp])
            have N16 := N15.keep f16 (by simp [Np])
            have F16 := F15.keep f16 (by simp [Fp]) (hD15.tk (Fr.of k16))
            walk_at "u"
            refine ⟨szl (by simp), fun r hr => ?_⟩
            obtain ⟨H17, e17, s17, er⟩ := lay_new (o := .lst [.int 40]) hr
            rw [e17]
            have rp := hD16.nep hr
            have rl := hD16.nel hr
            have rT := T16.ne hr
            have rN := N16.ne hr
            have rF := F16.ne hr
            have hD17 := hD16.same s17
            have N17 := N16.keep (ls := []) (FrN.same s17) (by simp)
            have F17 := F16.keep (ls := []) (FrN.same s17) (by simp) (Same.tk s17)
            walk_at "u"
            refine ⟨p, l, r, 1 + dp.toNat, 40, by rw [show (1 + dp) = ((1 + dp.toNat : Nat) : Int) by omega], by omega, hD17, rp, rl, er, fun v2 d2 k2 H18 ed te hD18 f18 er18 => ?_⟩
            have tk18 : Tk K H17 H18 := f18.tk hD17.nt (Nt.lst er)
            have f18n : FrN [p, r] H17 H18 := FrN.fr2 (by simp) (by simp) f18
            have N18 := N17.keep f18n (by simp [Np, rN.symm])
            have F18 := F17.keep f18n (by simp [Fp, rF.symm]) tk18
            walk_at "u"
            refine ⟨szl (by simp), fun b hb => ?_⟩
            have tk1518 : Tk K H15 H18 := (hD15.tk (Fr.of k16)).trans ((Same.tk s17).trans tk18)
            obtain ⟨H19, e19, s19, t19⟩ := Td.lay (K := K) hb (.cons (.str nm) (.cons (.int 0) (.cons ((tu.k (hD14.tk f15)).k tk1518) (.cons (td.k tk1518) (.cons te .nil)))))
            rw [e19]
            walk_at "u"
            have F19 := F18.keep (ls := []) (FrN.same s19) (by simp) (Same.tk s19)
            refine F19.app (by omega) t19 ⟨nm, 0, _, d, d2, rfl, nn, D.fit_mono _ (by decide) pfit, D.fit_mono (n := 6) _ (by decide) kd, ed.mono (by omega)⟩ fun acc ea F20 => ?_
            walk_at "u"
            have f810 : FrN [p, N] H8 H10 := (FrN.same s9).trans f10
            have f1016 : FrN [p, T] H10 H16 := f1015.trans (FrN.fr (by simp) (Fr.of k16))
            have r8 : H8 r = none := FrN.nix (ls := [p, N, T]) ((f810.sub (fun a ha => by
              simp only [List.mem_cons, List.not_mem_nil, or_false] at ha ⊢
              rcases ha with h | h <;> simp [h])).trans (f1016.sub (fun a ha => by
              simp only [List.mem_cons, List.not_mem_nil, or_false] at ha ⊢
              rcases ha with h | h <;> simp [h]))) (by simp [rp, rN, rT]) hr
            have f819 : FrN [r, T, p, N] H8 H19 := (f810.sub (fun a ha => by
              simp only [List.mem_cons, List.not_mem_nil, or_false] at ha ⊢
              rcases ha with h | h <;> simp [h])).trans ((f1016.sub (fun a ha => by
              simp only [List.mem_cons, List.not_mem_nil, or_false] at ha ⊢
              rcases ha with h | h <;> simp [h])).trans ((FrN.same s17).trans ((f18n.sub (fun a ha => by
              simp only [List.mem_cons, List.not_mem_nil, or_false] at ha ⊢
              rcases ha with h | h <;> simp [h])).trans (FrN.same s19))))
            have f8' := FrN.cut (FrN.cut f819 r8) hT
            refine ⟨by omega, (hD18.same s19).upd Fp Fl, FrN.self (f8.trans (f8'.sub (fun a ha => by
              simp only [List.mem_cons, List.not_mem_nil, or_false] at ha ⊢
              rcases ha with h | h <;> simp [h]))) (by simp), ((N18.keep (ls := []) (FrN.same s19) (by simp)).off FN.symm).le (by omega), F20, _, _, _, _, _, _, _, _, _, rfl⟩
          · walk_at "u"
            refine ⟨p, l, 2, rfl, by decide, hD14, fun v d H15 kd td hD15 f15 => ?_⟩
            have kd : D.fit 6 d = true := kd.fit
            have f1015 : FrN [p, T] H10 H15 := f1014.trans (FrN.fr (by simp) f15)
            have nt10 : ∀ a ∈ [p, T], Nt H10 a := fun a ha => by
              simp only [List.mem_cons, List.not_mem_nil, or_false] at ha
              rcases ha with rfl | rfl
              · exact hD10.nt
              · exact T10.nt
            have F15 := F10.keep f1015 (by simp [Fp, TF.symm]) (f1015.tk nt10)
            obtain ⟨accF, eF15⟩ := F15.at_
            have T15 := T14.keep (FrN.fr (ls := [p]) (by simp) f15) (by simp [Tp])
            have N15 := N10.keep f1015 (by simp [Np, TN.symm])
            walk_at "u"
            refine ⟨p, l, _, rfl, by decide, by decide, hD15, fun dp H16 dp0 dp4 hD16 k16 => ?_⟩
            have f16 : FrN [p] H15 H16 := FrN.fr (by simp) (Fr.of k16)
            have T16 := T15.keep f16 (by simp [Tp])
            have N16 := N15.keep f16 (by simp [Np])
            have F16 := F15.keep f16 (by simp [Fp]) (hD15.tk (Fr.of k16))
            walk_at "u"
            refine ⟨szl (by simp), fun r hr => ?_⟩
            obtain ⟨H17, e17, s17, er⟩ := lay_new (o := .lst [.int 40]) hr
            rw [e17]
            have rp := hD16.nep hr
            have rl := hD16.nel hr
            have rT := T16.ne hr
            have rN := N16.ne hr
            have rF := F16.ne hr
            have hD17 := hD16.same s17
            have N17 := N16.keep (ls := []) (FrN.same s17) (by simp)
            have F17 := F16.keep (ls := []) (FrN.same s17) (by simp) (Same.tk s17)
            walk_at "u"
            refine ⟨p, l, r, 1 + dp.toNat, 40, by rw [show (1 + dp) = ((1 + dp.toNat : Nat) : Int) by omega], by omega, hD17, rp, rl, er, fun v2 d2 k2 H18 ed te hD18 f18 er18 => ?_⟩
            have tk18 : Tk K H17 H18 := f18.tk hD17.nt (Nt.lst er)
            have f18n : FrN [p, r] H17 H18 := FrN.fr2 (by simp) (by simp) f18
            have N18 := N17.keep f18n (by simp [Np, rN.symm])
            have F18 := F17.keep f18n (by simp [Fp, rF.symm]) tk18
            walk_at "u"
            refine ⟨szl (by simp), fun b hb => ?_⟩
            have tk1518 : Tk K H15 H18 := (hD15.tk (Fr.of k16)).trans ((Same.tk s17).trans tk18)
            obtain ⟨H19, e19, s19, t19⟩ := Td.lay (K := K) hb (.cons (.str nm) (.cons (.int 0) (.cons ((tu.k (hD14.tk f15)).k tk1518) (.cons (td.k tk1518) (.cons te .nil)))))
            rw [e19]
            walk_at "u"
            have F19 := F18.keep (ls := []) (FrN.same s19) (by simp) (Same.tk s19)
            refine F19.app (by omega) t19 ⟨nm, 0, _, d, d2, rfl, nn, D.fit_mono _ (by decide) pfit, D.fit_mono (n := 6) _ (by decide) kd, ed.mono (by omega)⟩ fun acc ea F20 => ?_
            walk_at "u"
            have f810 : FrN [p, N] H8 H10 := (FrN.same s9).trans f10
            have f1016 : FrN [p, T] H10 H16 := f1015.trans (FrN.fr (by simp) (Fr.of k16))
            have r8 : H8 r = none := FrN.nix (ls := [p, N, T]) ((f810.sub (fun a ha => by
              simp only [List.mem_cons, List.not_mem_nil, or_false] at ha ⊢
              rcases ha with h | h <;> simp [h])).trans (f1016.sub (fun a ha => by
              simp only [List.mem_cons, List.not_mem_nil, or_false] at ha ⊢
              rcases ha with h | h <;> simp [h]))) (by simp [rp, rN, rT]) hr
            have f819 : FrN [r, T, p, N] H8 H19 := (f810.sub (fun a ha => by
              simp only [List.mem_cons, List.not_mem_nil, or_false] at ha ⊢
              rcases ha with h | h <;> simp [h])).trans ((f1016.sub (fun a ha => by
              simp only [List.mem_cons, List.not_mem_nil, or_false] at ha ⊢
              rcases ha with h | h <;> simp [h])).trans ((FrN.same s17).trans ((f18n.sub (fun a ha => by
              simp only [List.mem_cons, List.not_mem_nil, or_false] at ha ⊢
              rcases ha with h | h <;> simp [h])).trans (FrN.same s19))))
            have f8' := FrN.cut (FrN.cut f819 r8) hT
            refine ⟨by omega, (hD18.same s19).upd Fp Fl, FrN.self (f8.trans (f8'.sub (fun a ha => by
              simp only [List.mem_cons, List.not_mem_nil, or_false] at ha ⊢
              rcases ha with h | h <;> simp [h]))) (by simp), ((N18.keep (ls := []) (FrN.same s19) (by simp)).off FN.symm).le (by omega), F20, _, _, _, _, _, _, _, _, _, rfl⟩
    · rintro σ H8 ⟨hi3, hD8, f8, N8, F8, hy⟩
      walk_at "u"
      exact ⟨hD8, f8, ⟨_, by omega, F8⟩, hy⟩
  rintro σ H8 ⟨hD8, f8, ⟨nf, hnf, F8⟩, z5, z6, z8, z13, z14, z15, z16, z17, z18, rfl⟩
  have tk78 : Tk K H7 H8 := f8.tk (fun a ha => by
    simp only [List.mem_cons, List.not_mem_nil, or_false] at ha
    rcases ha with rfl | rfl | rfl
    · exact hD7.nt
    · exact N7.nt
    · exact Nt.lst eF7)
  have XN' := X7.nt
  obtain ⟨vB, dB, eB, tB, lB, gB⟩ := B7.keep f8 (by simp [Bp, NB'.symm, FB.symm]) tk78
  have XN2 : X ≠ N := XN
  obtain ⟨zs, eX8, lX, gX⟩ := X7.keep f8 (by simp [Xp, XN2, FX.symm])
  obtain ⟨vF, dF, eF8, tF, lF, gF⟩ := F8
  walk_at "u"
  refine r_tupleD (SqL.of eB) tB fun u1 G1 t1 w1 => ?_
  walk_at "u"
  refine ⟨szl (by simp), fun a ha => ?_⟩
  obtain ⟨G2, g2, t2, w2⟩ := Td.lay (K := K) (ds := [.str "Div", .str "Index", .str "Size"]) ha (.cons (.str _) (.cons (.str _) (.cons (.str _) .nil)))
  rw [g2]
  walk_at "u"
  refine r_tupleD (ds := zs.map .str) (SqL.of (t2 _ _ (t1 _ _ eX8))) TdL.strs fun u3 G3 t3 w3 => ?_
  refine r_catD (w2.k (Same.tk t3)) w3 (szl (by rw [List.length_map]; simp only [List.length_cons, List.length_nil]; omega)) fun u4 G4 t4 w4 => ?_
  walk_at "u"
  refine r_tupleD (SqL.of (t4 _ _ (t3 _ _ (t2 _ _ (t1 _ _ eF8))))) (tF.k (Same.tk ((t1.trans t2).trans (t3.trans t4)))) fun u5 G5 t5 w5 => ?_
  walk_at "u"
  refine ⟨szl (by simp), fun b hb => ?_⟩
  have sA := ((t1.trans t2).trans (t3.trans t4)).trans t5
  have fit1 : D.fit 1 (.tup ([.str "Div", .str "Index", .str "Size"] ++ zs.map .str)) = true := D.fit_tup.mpr ⟨by rw [List.length_append, List.length_map]; simp only [List.length_cons, List.length_nil]; omega, fun x hx => by
    rcases List.mem_append.mp hx with hx | hx
    · simp only [List.mem_cons, List.not_mem_nil, or_false] at hx
      rcases hx with rfl | rfl | rfl <;> exact D.fit_str.mpr ⟨by decide +kernel, by decide +kernel⟩
    · obtain ⟨z, hz, rfl⟩ := List.mem_map.mp hx
      exact (gX z hz).fit⟩
  refine q _ (.tup [.tup dB, .tup ([.str "Div", .str "Index", .str "Size"] ++ zs.map .str), .tup dF]) _ ⟨_, _, dF, rfl, D.fit_mono (n := 11) _ (by decide) (D.fit_tup.mpr ⟨by omega, gB⟩), D.fit_mono (n := 1) _ (by decide) fit1, by omega, gF⟩
    (Td.newT (.cons (w1.k (Same.tk ((t2.trans (t3.trans t4)).trans t5))) (.cons (w4.k (Same.tk t5)) (.cons w5 .nil))) hb) ((hD8.same sA).new hb) ?_
  intro c x hc e
  have c6 := f56 c x hc e
  have c7 := (Fr.of k7) c x hc c6
  have hF0 : H F = none := by
    cases e2 : H F with
    | none => rfl
    | some y => rw [f5 _ _ Fp e2] at hF; cases hF
  have c8 := f8 c x (by
    simp only [List.mem_cons, List.not_mem_nil, or_false, not_or]
    exact ⟨hc, ne_of_none e N0, ne_of_none e hF0⟩) c7
  rw [upd_ne (ne_of_none (sA _ _ c8) hb)]
  exact sA _ _ c8
end
section
variable {K : PySem.W.Frag} {vs : List V} {H : Hp} {Q : VK} {E : XK} {n : Nat}
theorem rd_is_integer (h : sp_is_integer K vs H Q E) : t_is_integer K { nx := fun _ H' => Q .non H', rt := Q } (start n_is_integer vs) H := by
  obtain ⟨v, d, rfl, t, q⟩ := h
  unfold t_is_integer
  walk_at "u"
  refine r_isD_int _ t rfl ?_
  walk_at "u"
  cases e : d.isI with
  | true =>
    rw [e] at q
    walk_at "u"
    refine r_isD_bool _ t rfl ?_
    walk_at "u"
    exact q
  | false =>
    rw [e] at q
    walk_at "u"
    exact q
theorem r_gT5 {σ : St} {v : V} {a b c d e : D} {i j k m o : Nat} {R : St → Hp → Prop} (h : Td K H v (.tup [a, b, c, d, e])) (q : ∀ x y z u w, Td K H x a → Td K H y b → Td K H z c → Td K H u d → Td K H w e → R (((((σ.set i (some x)).set j (some y)).set k (some z)).set m (some u)).set o (some w)) H) :
    gTup K 5 (gCons (gName i) (gCons (gName j) (gCons (gName k) (gCons (gName m) (gCons (gName o) gNil))))) v σ H R := by
  obtain ⟨p, vs, rfl, s, t⟩ := h.inv
  cases t with
  | cons h1 t => cases t with
    | cons h2 t => cases t with
      | cons h3 t => cases t with
        | cons h4 t => cases t with
          | cons h5 t => cases t; exact ⟨p, _, rfl, s, rfl, _, _, rfl, _, _, rfl, _, _, rfl, _, _, rfl, _, _, rfl, rfl, q _ _ _ _ _ h1 h2 h3 h4 h5⟩
theorem rd_has_parts (h : sp_has_parts K vs H Q E) : t_has_parts K { nx := fun _ H' => Q .non H', rt := Q } (start n_has_parts vs) H := by
  obtain ⟨v, d, n, rfl, t, ed, q⟩ := h
  cases n with
  | zero => exact ed.elim
  | succ n =>
    obtain ⟨op, at_, info, kids, arms, rfl, h1, h2, h3, h4, h5, h6, h7⟩ := ed
    unfold t_has_parts
    refine r_cut (fun σ' H' => H' = H ∧ σ' = [some v, none]) ?_ ?_
    · walk_at "u"
      refine r_isD_tuple true t rfl ?_
      walk_at "u"
      refine r_lenD t ?_
      walk_at "u"
      refine' br_ny ?hh ?_
      case hh => rfl
      walk_at "u"
      refine r_ixD (k := 1) t rfl fun x tx => ?_
      walk_at "u"
      refine ⟨x, _, rfl, tx, ?_⟩
      refine r_truBl ?_
      show if (!true) = true then _ else _
      walk_at "u"
      exact ⟨rfl, rfl⟩
    rintro σ H1 ⟨rfl, rfl⟩
    refine r_cut (fun σ' H' => H' = H1 ∧ σ' = [some v, none]) ?_ ?_
    · walk_at "u"
      refine r_ixD (k := 3) t rfl fun x tx => ?_
      walk_at "u"
      refine r_isD_tuple true tx rfl ?_
      walk_at "u"
      refine r_ixD (k := 4) t rfl fun x tx => ?_
      walk_at "u"
      refine r_isD_tuple true tx rfl ?_
      walk_at "u"
      exact ⟨rfl, rfl⟩
    rintro σ H2 ⟨rfl, rfl⟩
    walk_at "u"
    refine it_tup ?_
    walk_at "u"
    refine r_ixD (k := 4) t rfl fun y ty => ?_
    obtain ⟨a, xs, rfl, sa, ta⟩ := ty.inv
    refine ⟨a, rfl, ⟨xs, sa⟩, fun A hA => c_tups (xs := xs) (CF A H2 (arms.map fun _ => V.bl true)) (CF.start hA) (fun i H' c => Same.tk c.1 _ _ sa) ?_ ?_⟩
    · intro i z H3 hz c
      obtain ⟨e, he, te⟩ := ta.getV hz
      have hi := (List.getElem?_eq_some_iff.mp he).1
      have te3 := te.k (Same.tk c.1)
      obtain ⟨nm, vars, body, rfl, _⟩ := h7 e (List.mem_of_getElem? he)
      walk_at "u"
      refine ⟨rfl, ?_⟩
      walk_at "u"
      refine r_isD_tuple true te3 rfl ?_
      walk_at "u"
      refine r_lenD te3 ?_
      walk_at "u"
      exact c.step hA (Same.refl _) (by rw [List.getElem?_map, he]; rfl) (by omega)
    · intro H3 c
      rw [ta.len] at c
      have e := CF.done (ys := arms.map fun _ => V.bl true) (by rw [List.length_map]; exact c)
      walk_at "u"
      refine r_allL (bs := arms.map fun _ => true) (SqL.of (by rw [e, List.map_map]; rfl)) ?_
      rw [show ((arms.map fun _ => true).all id) = true by rw [List.all_map]; simp]
      exact q _ c.1
theorem bareF_tup {op : Str} {at_ : Int} {info : D} {kids arms : List D} : bareF (n + 1) (.tup [.str op, .int at_, info, .tup kids, .tup arms]) = .tup [.str op, .int 0, info, .tup (kids.map (bareF n)), .tup (arms.map (setBody (bareF n)))] := rfl
theorem rd_bare_expression (h : spr_bare_expression (n + 1) K vs H Q E) : t_bare_expression K (spr_bare_expression n) { nx := fun _ H' => Q .non H', rt := Q } (start n_bare_expression vs) H := by
  obtain ⟨v, d, rfl, t, ed0, q⟩ := h
  have ed := ed0
  obtain ⟨op, at_, info, kids, arms, rfl, h1, h2, h3, h4, h5, h6, h7⟩ := ed
  rw [bareF_tup] at q
  unfold t_bare_expression
  refine r_cut (fun σ' H' => Same H H' ∧ σ' = [some v, none, none, none, none, none, none, none, none, none, none, none]) ?_ ?_
  · walk_at "u"
    refine ⟨v, _, n + 1, rfl, t, ed0, fun H1 s1 => ?_⟩
    walk_at "u"
    exact ⟨s1, rfl⟩
  rintro σ H1 ⟨s1, rfl⟩
  have t1 := t.k (Same.tk s1)
  walk_at "u"
  refine r_gT5 t1 fun x1 x2 x3 x4 x5 y1 y2 y3 y4 y5 => ?_
  cases y1.invS
  cases y2.invI
  walk_at "u"
  refine it_tup ?_
  walk_at "u"
  obtain ⟨a, xs, rfl, sa, ta⟩ := y4.inv
  refine ⟨a, rfl, ⟨xs, sa⟩, fun A hA => c_tups (xs := xs) (fun i H' => Same H1 H' ∧ ∃ ws, H' A = some (.lst ws) ∧ TdL K H' ws ((kids.take i).map (bareF n))) ⟨same_new hA, [], upd_same, .nil⟩ (fun i H' c => Same.tk c.1 _ _ sa) ?_ ?_⟩
  · rintro i z H2 hz ⟨s2, ws, ew, tw⟩
    obtain ⟨e, he, te⟩ := ta.getV hz
    have hi := (List.getElem?_eq_some_iff.mp he).1
    walk_at "u"
    refine ⟨rfl, ?_⟩
    walk_at "u"
    refine ⟨z, e, rfl, te.k (Same.tk s2), h6 e (List.mem_of_getElem? he), fun u H3 s3 tu => ?_⟩
    refine ⟨ws, s3 _ _ ew, szt (by rw [tw.len, List.length_map, List.length_take]; omega), same_mut (s2.trans s3) hA, _, upd_same, ?_⟩
    rw [List.take_add_one, he, List.map_append]
    exact ((tw.k (Same.tk s3)).append (.one tu)).k (Tk.lst (s3 _ _ ew))
  · rintro H2 ⟨s2, ws, ew, tw⟩
    rw [ta.len, List.take_length] at tw
    walk_at "u"
    refine r_tupleD (SqL.of ew) tw fun u1 H3 s3 t3 => ?_
    walk_at "u"
    refine it_tup ?_
    walk_at "u"
    have s13 := s2.trans s3
    obtain ⟨a2, xs2, rfl, sa2, ta2⟩ := (y5.k (Same.tk s13)).inv
    refine ⟨a2, rfl, ⟨xs2, sa2⟩, fun A2 hA2 => c_tups (xs := xs2) (fun i H' => Same H3 H' ∧ ∃ ws, H' A2 = some (.lst ws) ∧ TdL K H' ws ((arms.take i).map (setBody (bareF n)))) ⟨same_new hA2, [], upd_same, .nil⟩ (fun i H' c => Same.tk c.1 _ _ sa2) ?_ ?_⟩
    · rintro i z H4 hz ⟨s4, ws2, ew2, tw2⟩
      obtain ⟨e, he, te⟩ := ta2.getV hz
      have hi := (List.getElem?_eq_some_iff.mp he).1
      obtain ⟨nm, vars, body, rfl, g1, g2, g3, g4⟩ := h7 e (List.mem_of_getElem? he)
      refine r_gT3 (te.k (Same.tk s4)) fun b1 b2 b3 c1 c2 c3 => ?_
      refine ⟨rfl, ?_⟩
      walk_at "u"
      refine ⟨b3, body, rfl, c3, g4, fun u H5 s5 tu => ?_⟩
      walk_at "u"
      refine ⟨szl (by simp), fun X hX => ?_⟩
      obtain ⟨H6, e6, s6, t6⟩ := Td.lay (K := K) hX (.cons (c1.k (Same.tk s5)) (.cons (c2.k (Same.tk s5)) (.cons tu .nil)))
      rw [e6]
      have s56 := s5.trans s6
      refine ⟨ws2, s56 _ _ ew2, szt (by rw [tw2.len, List.length_map, List.length_take]; omega), same_mut (s4.trans s56) hA2, _, upd_same, ?_⟩
      rw [List.take_add_one, he, List.map_append]
      exact ((tw2.k (Same.tk s56)).append (.one t6)).k (Tk.lst (s56 _ _ ew2))
    · rintro H4 ⟨s4, ws2, ew2, tw2⟩
      rw [ta2.len, List.take_length] at tw2
      walk_at "u"
      refine r_tupleD (SqL.of ew2) tw2 fun u2 H5 s5 t5 => ?_
      walk_at "u"
      refine ⟨szl (by simp), fun X hX => ?_⟩
      have s35 := s4.trans s5
      exact q _ _ ((s1.trans s13).trans (s35.trans (same_new hX))) (Td.newT (.cons (.str op) (.cons (.int 0) (.cons (y3.k (Same.tk (s13.trans s35))) (.cons (t3.k (Same.tk s35)) (.cons t5 .nil))))) hX)
theorem rd_bare_function (h : sp_bare_function K vs H Q E) : t_bare_function K { nx := fun _ H' => Q .non H', rt := Q } (start n_bare_function vs) H := by
  obtain ⟨v, d, rfl, t, fd, q⟩ := h
  obtain ⟨nm, at_, pars, res, body, rfl, h1, h2, h3, h4⟩ := fd
  unfold t_bare_function
  refine r_cut (fun σ' H' => H' = H ∧ σ' = [some v, none, none, none, none, none]) ?_ ?_
  · walk_at "u"
    refine r_isD_tuple true t rfl ?_
    walk_at "u"
    refine r_lenD t ?_
    walk_at "u"
    refine' br_ny ?hh ?_
    case hh => rfl
    walk_at "u"
    refine r_ixD (k := 1) t rfl fun x tx => ?_
    walk_at "u"
    refine ⟨x, _, rfl, tx, ?_⟩
    refine r_truBl ?_
    show if (!true) = true then _ else _
    walk_at "u"
    exact ⟨rfl, rfl⟩
  rintro σ H1 ⟨rfl, rfl⟩
  walk_at "u"
  refine r_gT5 t fun x1 x2 x3 x4 x5 y1 y2 y3 y4 y5 => ?_
  walk_at "u"
  refine ⟨x5, body, rfl, y5, h4, fun u H2 s2 tu => ?_⟩
  walk_at "u"
  refine ⟨szl (by simp), fun X hX => ?_⟩
  exact q _ _ (s2.trans (same_new hX)) (Td.newT (.cons (y1.k (Same.tk s2)) (.cons (.int 0) (.cons (y3.k (Same.tk s2)) (.cons (y4.k (Same.tk s2)) (.cons tu .nil))))) hX)
theorem rd_bare_tree (h : sp_bare_tree K vs H Q E) : t_bare_tree K { nx := fun _ H' => Q .non H', rt := Q } (start n_bare_tree vs) H := by
  obtain ⟨v, d, rfl, t, td, q⟩ := h
  obtain ⟨datas, excs, funs, rfl, h1, h2, h3, h4⟩ := td
  unfold t_bare_tree
  refine r_cut (fun σ' H' => H' = H ∧ σ' = [some v, none, none, none, none]) ?_ ?_
  · walk_at "u"
    refine r_isD_tuple true t rfl ?_
    walk_at "u"
    refine r_lenD t ?_
    walk_at "u"
    refine' br_ny ?hh ?_
    case hh => rfl
    walk_at "u"
    refine r_ixD (k := 2) t rfl fun x tx => ?_
    walk_at "u"
    refine r_isD_tuple true tx rfl ?_
    walk_at "u"
    exact ⟨rfl, rfl⟩
  rintro σ H1 ⟨rfl, rfl⟩
  walk_at "u"
  refine r_gT3 t fun x1 x2 x3 y1 y2 y3 => ?_
  walk_at "u"
  refine it_tup ?_
  walk_at "u"
  obtain ⟨a, xs, rfl, sa, ta⟩ := y3.inv
  refine ⟨a, rfl, ⟨xs, sa⟩, fun A hA => c_tups (xs := xs) (fun i H' => Same H1 H' ∧ ∃ ws, H' A = some (.lst ws) ∧ TdL K H' ws ((funs.take i).map bareFn)) ⟨same_new hA, [], upd_same, .nil⟩ (fun i H' c => Same.tk c.1 _ _ sa) ?_ ?_⟩
  · rintro i z H2 hz ⟨s2, ws, ew, tw⟩
    obtain ⟨e, he, te⟩ := ta.getV hz
    have hi := (List.getElem?_eq_some_iff.mp he).1
    walk_at "u"
    refine ⟨rfl, ?_⟩
    walk_at "u"
    refine ⟨z, e, rfl, te.k (Same.tk s2), h4 e (List.mem_of_getElem? he), fun u H3 s3 tu => ?_⟩
    refine ⟨ws, s3 _ _ ew, szt (by rw [tw.len, List.length_map, List.length_take]; omega), same_mut (s2.trans s3) hA, _, upd_same, ?_⟩
    rw [List.take_add_one, he, List.map_append]
    exact ((tw.k (Same.tk s3)).append (.one tu)).k (Tk.lst (s3 _ _ ew))
  · rintro H2 ⟨s2, ws, ew, tw⟩
    rw [ta.len, List.take_length] at tw
    walk_at "u"
    refine r_tupleD (SqL.of ew) tw fun u1 H3 s3 t3 => ?_
    walk_at "u"
    refine ⟨szl (by simp), fun X hX => ?_⟩
    exact q _ _ ((s2.trans s3).trans (same_new hX)) (Td.newT (.cons (y1.k (Same.tk (s2.trans s3))) (.cons (y2.k (Same.tk (s2.trans s3))) (.cons t3 .nil))) hX)
end
mutual
def D.size : D → Nat
  | .tup ds => 1 + D.sizeL ds
  | _ => 1
def D.sizeL : List D → Nat
  | [] => 0
  | d :: ds => D.size d + D.sizeL ds
end
mutual
theorem D.eqb_size : ∀ a b : D, D.eqb a b = true → D.size a = D.size b
  | .non, b, h => by cases b <;> simp [D.eqb, D.size] at h ⊢
  | .bl _, b, h => by cases b <;> simp [D.eqb, D.size] at h ⊢
  | .int _, b, h => by cases b <;> simp [D.eqb, D.size] at h ⊢
  | .str _, b, h => by cases b <;> simp [D.eqb, D.size] at h ⊢
  | .tup xs, b, h => by
    cases b with
    | tup ys => rw [D.size, D.size, D.eqL_size xs ys (by rw [D.eqb] at h; exact h)]
    | _ => simp [D.eqb] at h
theorem D.eqL_size : ∀ xs ys : List D, D.eqL xs ys = true → D.sizeL xs = D.sizeL ys
  | [], [], _ => rfl
  | [], _ :: _, h => by simp [D.eqL] at h
  | _ :: _, [], h => by simp [D.eqL] at h
  | x :: xs, y :: ys, h => by
    rw [D.eqL, Bool.and_eq_true] at h
    rw [D.sizeL, D.sizeL, D.eqb_size x y h.1, D.eqL_size xs ys h.2]
end
mutual
theorem D.eqb_symm : ∀ a b : D, D.eqb a b = D.eqb b a
  | .non, b => by cases b <;> simp [D.eqb]
  | .bl _, b => by cases b <;> simp [D.eqb, Bool.beq_eq_decide_eq, eq_comm]
  | .int _, b => by cases b <;> simp [D.eqb, Bool.beq_eq_decide_eq, eq_comm]
  | .str _, b => by cases b <;> simp [D.eqb, Bool.beq_eq_decide_eq, eq_comm]
  | .tup xs, b => by
    cases b with
    | tup ys => rw [D.eqb, D.eqb, D.eqL_symm xs ys]
    | _ => simp [D.eqb]
theorem D.eqL_symm : ∀ xs ys : List D, D.eqL xs ys = D.eqL ys xs
  | [], [] => rfl
  | [], _ :: _ => rfl
  | _ :: _, [] => rfl
  | x :: xs, y :: ys => by rw [D.eqL, D.eqL, D.eqb_symm x y, D.eqL_symm xs ys]
end
theorem D.eqb_refl (d : D) : D.eqb d d = true := 
  D.rec (motive_1 := fun d => D.eqb d d = true) (motive_2 := fun ds => D.eqL ds ds = true) (by rfl) (fun b => by simp [D.eqb]) (fun b => by simp [D.eqb]) (fun b => by simp [D.eqb]) (fun ds h => by rw [D.eqb]; exact h) (by rfl) (fun a b h1 h2 => by rw [D.eqL, h1, h2]; rfl) d
theorem D.eqL_refl (ds : List D) : D.eqL ds ds = true := by
  have := D.eqb_refl (.tup ds)
  rw [D.eqb] at this
  exact this
theorem D.eqL_len : ∀ {xs ys : List D}, D.eqL xs ys = true → xs.length = ys.length
  | [], [], _ => rfl
  | [], _ :: _, h => by simp [D.eqL] at h
  | _ :: _, [], h => by simp [D.eqL] at h
  | x :: xs, y :: ys, h => by
    rw [D.eqL, Bool.and_eq_true] at h
    rw [List.length_cons, List.length_cons, D.eqL_len h.2]
theorem D.eqL_snoc : ∀ {xs ys : List D} {x y : D}, xs.length = ys.length → D.eqL (xs ++ [x]) (ys ++ [y]) = (D.eqL xs ys && D.eqb x y)
  | [], [], x, y, _ => by simp [D.eqL]
  | [], _ :: _, _, _, h => by simp at h
  | _ :: _, [], _, _, h => by simp at h
  | a :: xs, b :: ys, x, y, h => by
    rw [List.cons_append, List.cons_append, D.eqL, D.eqL, D.eqL_snoc (by simpa using h), Bool.and_assoc]
theorem bareF_len {m : Nat} {ds es : List D} (h : D.eqL ds es = false ∨ ds.length ≠ es.length) : D.eqL ds es = false := by
  rcases h with h | h
  · exact h
  · cases e : D.eqL ds es with
    | false => rfl
    | true => exact absurd (D.eqL_len e) h
/-- more fuel changes nothing -/
theorem bareF_more : ∀ {n : Nat} {d : D}, ED n d → ∀ m, n ≤ m → bareF m d = bareF n d
  | 0, _, h, _, _ => h.elim
  | n + 1, d, h, m, l => by
    obtain ⟨op, at_, info, kids, arms, rfl, h1, h2, h3, h4, h5, h6, h7⟩ := h
    obtain ⟨m, rfl⟩ : ∃ j, m = j + 1 := ⟨m - 1, by omega⟩
    rw [bareF_tup, bareF_tup]
    have e1 : kids.map (bareF m) = kids.map (bareF n) := List.map_congr_left fun k hk => bareF_more (h6 k hk) m (by omega)
    have e2 : arms.map (setBody (bareF m)) = arms.map (setBody (bareF n)) := List.map_congr_left fun a ha => by
      obtain ⟨nm, vars, body, rfl, _, _, _, g⟩ := h7 a ha
      show D.tup [.str nm, .tup vars, bareF m body] = D.tup [.str nm, .tup vars, bareF n body]
      rw [bareF_more g m (by omega)]
    rw [e1, e2]
/-- d was changed to e under F, the counter going from L to L' -/
def ChF (F : Nat → D → D) (n : Nat) (d e : D) (L L' : Int) : Prop := L' < L ∧ ((0 < L ∧ L' ≤ 0) → ∀ m, n < m → D.eqb (F m d) (F m e) = false) ∧ (¬ (0 < L ∧ L' ≤ 0) → ∀ m, n < m → F m d = F m e)
def ChL (F : Nat → D → D) (n : Nat) (ds es : List D) (L L' : Int) : Prop := ds.length = es.length ∧ L' ≤ L ∧ ((0 < L ∧ L' ≤ 0) → ∀ m, n < m → D.eqL (ds.map (F m)) (es.map (F m)) = false) ∧ (¬ (0 < L ∧ L' ≤ 0) → ∀ m, n < m → ds.map (F m) = es.map (F m))
theorem ChL.nil {F : Nat → D → D} {n : Nat} {L : Int} : ChL F n [] [] L L := ⟨rfl, Int.le_refl _, fun h => by omega, fun _ _ _ => rfl⟩
theorem ChL.snoc {F : Nat → D → D} {n : Nat} {ds es : List D} {d e : D} {L L1 L2 : Int} (h : ChL F n ds es L L1) (c : ChF F n d e L1 L2) : ChL F n (ds ++ [d]) (es ++ [e]) L L2 := by
  obtain ⟨hl, h1, h2, h3⟩ := h
  obtain ⟨c1, c2, c3⟩ := c
  refine ⟨by simp [hl], by omega, fun ⟨a, b⟩ m hm => ?_, fun a m hm => ?_⟩
  · rw [List.map_append, List.map_append]
    show D.eqL (_ ++ [F m d]) (_ ++ [F m e]) = false
    rw [D.eqL_snoc (by simp [hl])]
    by_cases z : L1 ≤ 0
    · rw [h2 ⟨a, z⟩ m hm, Bool.false_and]
    · rw [c2 ⟨by omega, b⟩ m hm, Bool.and_false]
  · rw [List.map_append, List.map_append, h3 (by omega) m hm]
    show _ ++ [F m d] = _ ++ [F m e]
    rw [c3 (by omega) m hm]
theorem Chg.arm {n : Nat} {nm : Str} {vars : List D} {b b' : D} {L L' : Int} (c : Chg n b b' L L') : ChF (fun m => setBody (bareF m)) n (.tup [.str nm, .tup vars, b]) (.tup [.str nm, .tup vars, b']) L L' := by
  obtain ⟨c1, c2, c3⟩ := c
  refine ⟨c1, fun a m hm => ?_, fun a m hm => ?_⟩
  · show D.eqb (.tup [.str nm, .tup vars, bareF m b]) (.tup [.str nm, .tup vars, bareF m b']) = false
    have := c2 a m hm
    simp [D.eqb, D.eqL, this]
  · show D.tup [.str nm, .tup vars, bareF m b] = D.tup [.str nm, .tup vars, bareF m b']
    rw [c3 a m hm]
/-- what was done at a node -/
def Mid (L1 : Int) (info info2 : D) (kids ks : List D) (arms as : List D) : Prop :=
  (L1 ≠ 0 ∧ info2 = info ∧ ks = kids ∧ as = arms) ∨ (L1 = 0 ∧ ((∃ i j, info = .int i ∧ info2 = .int j ∧ i ≠ j) ∨ ks.length ≠ kids.length ∨ as.length ≠ arms.length))
theorem chg_node {n : Nat} {op : Str} {at_ at2 : Int} {info info2 : D} {kids ks ks3 arms as as3 : List D} {L L2 L3 : Int} (md : Mid (L - 1) info info2 kids ks arms as) (hk : ChL bareF n ks ks3 (L - 1) L2) (ha : ChL (fun m => setBody (bareF m)) n as as3 L2 L3) :
    Chg (n + 1) (.tup [.str op, .int at_, info, .tup kids, .tup arms]) (.tup [.str op, .int at2, info2, .tup ks3, .tup as3]) L L3 := by
  obtain ⟨k0, k1, k2, k3⟩ := hk
  obtain ⟨a0, a1, a2, a3⟩ := ha
  refine ⟨by omega, fun ⟨p1, p2⟩ m hm => ?_, fun np m hm => ?_⟩
  · obtain ⟨m, rfl⟩ : ∃ j, m = j + 1 := ⟨m - 1, by omega⟩
    rw [bareF_tup, bareF_tup, D.eqb, D.eqL, D.eqL, D.eqL, D.eqL, D.eqL, D.eqL, D.eqb_refl, D.eqb_refl, Bool.true_and, Bool.true_and, Bool.and_true]
    rw [show D.eqb (.tup (kids.map (bareF m))) (.tup (ks3.map (bareF m))) = D.eqL (kids.map (bareF m)) (ks3.map (bareF m)) from by rw [D.eqb], show D.eqb (.tup (arms.map (setBody (bareF m)))) (.tup (as3.map (setBody (bareF m)))) = D.eqL (arms.map (setBody (bareF m))) (as3.map (setBody (bareF m))) from by rw [D.eqb]]
    rcases md with ⟨q1, rfl, rfl, rfl⟩ | ⟨q1, ⟨i, j, rfl, rfl, ne⟩ | ne | ne⟩
    · by_cases z : L2 ≤ 0
      · rw [k2 ⟨by omega, z⟩ m (by omega), Bool.false_and, Bool.and_false]
      · rw [a2 ⟨by omega, p2⟩ m (by omega), Bool.and_false, Bool.and_false]
    · rw [show D.eqb (.int i) (.int j) = false from (by simp [D.eqb, ne]), Bool.false_and]
    · rw [bareF_len (m := m) (ds := kids.map (bareF m)) (es := ks3.map (bareF m)) (.inr (by rw [List.length_map, List.length_map]; omega)), Bool.false_and, Bool.and_false]
    · rw [bareF_len (m := m) (ds := arms.map (setBody (bareF m))) (es := as3.map (setBody (bareF m))) (.inr (by rw [List.length_map, List.length_map]; omega)), Bool.and_false, Bool.and_false]
  · obtain ⟨m, rfl⟩ : ∃ j, m = j + 1 := ⟨m - 1, by omega⟩
    rw [bareF_tup, bareF_tup]
    rcases md with ⟨q1, rfl, rfl, rfl⟩ | ⟨q1, _⟩
    · rw [k3 (by omega) m (by omega), a3 (by omega) m (by omega)]
    · exact absurd ⟨by omega, by omega⟩ np
theorem chg_print {n : Nat} {d : D} (h : ED (n + 1) d) : Chg (n + 1) d (.tup [.str "print", .int 0, .non, .tup [d], .tup []]) 1 0 := by
  refine ⟨by omega, fun _ m hm => ?_, fun np => absurd ⟨by omega, by omega⟩ np⟩
  obtain ⟨m, rfl⟩ : ∃ j, m = j + 1 := ⟨m - 1, by omega⟩
  rw [show bareF (m + 1) (.tup [.str "print", .int 0, .non, .tup [d], .tup []]) = .tup [.str "print", .int 0, .non, .tup [bareF m d], .tup []] from rfl]
  rw [bareF_more h (m + 1) (by omega), bareF_more h m (by omega)]
  generalize bareF (n + 1) d = x
  cases e : D.eqb x (.tup [.str "print", .int 0, .non, .tup [x], .tup []]) with
  | false => rfl
  | true =>
    have := D.eqb_size _ _ e
    simp only [D.size, D.sizeL] at this
    omega
theorem xor1_ne (i : Int) : Builtin.bitXor i 1 ≠ i := by
  rw [PyProof.Rows.bitXor_and]
  omega
theorem setBody_arm {n : Nat} {a : D} (h : ArmD (ED n) a) (m : Nat) (hm : n ≤ m) : ArmD (ED n) (setBody (bareF m) a) → True := fun _ => trivial
theorem ED.bare : ∀ {n : Nat} {d : D}, ED n d → ED n (bareF n d)
  | 0, _, h => h.elim
  | n + 1, d, h => by
    obtain ⟨op, at_, info, kids, arms, rfl, h1, h2, h3, h4, h5, h6, h7⟩ := h
    rw [bareF_tup]
    refine ⟨op, 0, info, _, _, rfl, h1, h2, h3, by rw [List.length_map]; exact h4, by rw [List.length_map]; exact h5, fun k hk => ?_, fun a ha => ?_⟩
    · obtain ⟨x, hx, rfl⟩ := List.mem_map.mp hk
      exact ED.bare (h6 x hx)
    · obtain ⟨x, hx, rfl⟩ := List.mem_map.mp ha
      obtain ⟨nm, vars, body, rfl, g1, g2, g3, g4⟩ := h7 x hx
      exact ⟨nm, vars, bareF n body, rfl, g1, g2, g3, ED.bare g4⟩
theorem TreeD.fitB {d : D} (h : TreeD (ED 8) d) : D.fit 50 (bareT d) = true := by
  obtain ⟨datas, excs, funs, rfl, h1, h2, h3, h4⟩ := h
  show D.fit 50 (.tup [datas, excs, .tup (funs.map bareFn)]) = true
  refine fit_cons3 (n := 49) (D.fit_mono _ (by decide) h1) (D.fit_mono _ (by decide) h2) (D.fit_tup.mpr ⟨by rw [List.length_map]; omega, fun e he => ?_⟩)
  obtain ⟨f, hf, rfl⟩ := List.mem_map.mp he
  obtain ⟨nm, at_, pars, res, body, rfl, g1, g2, g3, g4⟩ := h4 f hf
  show D.fit 48 (.tup [.str nm, .int 0, pars, res, bareF 8 body]) = true
  exact fit_cons5 (n := 47) g1.fit D.fit_int (D.fit_mono _ (by decide) g2) (D.fit_mono _ (by decide) g3) (D.fit_mono _ (by decide) (ED.bare g4).fit)
section
variable {K : PySem.W.Frag} {vs : List V} {H : Hp} {Q : VK} {E : XK} {n : Nat}
theorem rd_same_tree (h : sp_same_tree K vs H Q E) : t_same_tree K { nx := fun _ H' => Q .non H', rt := Q } (start n_same_tree vs) H := by
  obtain ⟨v, w, d, e, rfl, tv, tw, hd, he, q⟩ := h
  unfold t_same_tree
  walk_at "u"
  refine ⟨v, d, rfl, tv, hd, fun u1 H1 s1 t1 => ?_⟩
  walk_at "u"
  refine ⟨w, e, rfl, tw.k (Same.tk s1), he, fun u2 H2 s2 t2 => ?_⟩
  refine r_eqD (n := 50) (t1.k (Same.tk s2)) t2 hd.fitB he.fitB (by decide) ?_
  exact q _ (s1.trans s2)
theorem neg1 {ds : List D} (h : 0 < ds.length) : (cutD ds none (some (-1))).length = ds.length - 1 := by
  unfold cutD
  rw [HT.sIx_none]
  rw [show HT.sIx ds.length ds.length (some (-1)) = ds.length - 1 from by
    show (if (-1 : Int) < 0 then ((-1 : Int) + (ds.length : Int)).toNat else min (-1 : Int).toNat ds.length) = ds.length - 1
    rw [if_pos (by decide)]
    omega]
  rw [List.drop_zero, List.length_take]
  omega
theorem cut_mem {ds : List D} {lo hi : Option Int} {e : D} (h : e ∈ cutD ds lo hi) : e ∈ ds := List.mem_of_mem_drop (List.mem_of_mem_take h)
theorem rd_l_changed (h : spr_l_changed (n + 1) K vs H Q E) : t_l_changed K (spr_l_changed n) { nx := fun _ H' => Q .non H', rt := Q } (start n_l_changed vs) H := by
  obtain ⟨p, l, r, v, d, L, rfl, ed0, hn6, t, hD, rp, rl, er, q⟩ := h
  have ed := ed0
  obtain ⟨op, at_, info, kids, arms, rfl, h1, h2, h3, h4, h5, h6, h7⟩ := ed
  unfold t_l_changed
  walk_at "u"
  refine r_gT5 t fun x1 x2 x3 x4 x5 y1 y2 y3 y4 y5 => ?_
  cases y1.invS
  cases y2.invI
  walk_at "u"
  have hD1 : Dr (upd H r (.lst ([V.int L].set (Int.toNat 0) (.int (L - 1))))) p l := hD.upd rp rl
  have f1 : Fr2 p r H (upd H r (.lst ([V.int L].set (Int.toNat 0) (.int (L - 1))))) := Fr2.refl.mb
  have er1 : upd H r (.lst ([V.int L].set (Int.toNat 0) (.int (L - 1)))) r = some (.lst [.int (L - 1)]) := upd_same
  generalize upd H r (.lst ([V.int L].set (Int.toNat 0) (.int (L - 1)))) = H1 at hD1 f1 er1
  have tk1 : Tk K H H1 := f1.tk hD.nt (Nt.lst er)
  have t1 := t.k tk1
  have y3 := y3.k tk1
  have y4 := y4.k tk1
  have y5 := y5.k tk1
  obtain ⟨NX, hNX⟩ : ∃ NX : St → Hp → Prop, NX = (fun σ' H' => Dr H' p l ∧ Fr p H1 H' ∧ ∃ (x3 x4 x5 : V) (info2 : D) (ks as : List D) (y8 : Option V), Td K H' x3 info2 ∧ Td K H' x4 (.tup ks) ∧ Td K H' x5 (.tup as) ∧ Mid (L - 1) info info2 kids ks arms as ∧ D.fit 12 info2 = true ∧ (op = "int" → ∃ i, info2 = .int i) ∧ (∀ k ∈ ks, k ∈ kids) ∧ (∀ a ∈ as, a ∈ arms) ∧ ks.length ≤ 20 ∧ as.length ≤ 20 ∧
      σ' = [some (.ref p), some v, some (.ref r), some (.str op), some (.int at_), some x3, some x4, some x5, y8, none, none]) := ⟨_, rfl⟩
  refine r_cut NX ?_ ?_
  · walk_at "u"
    refine br_d (fun c0 => ?_) (fun c0 => ?_)
    · have eL : L = 1 := by omega
      subst eL
      walk_at "u"
      refine ⟨p, l, _, rfl, by decide, by decide, hD1, fun pk H2 p0 p1 hD2 k2 => ?_⟩
      have f2 : Fr p H1 H2 := Fr.of k2
      have tk2 : Tk K H1 H2 := hD1.tk f2
      have t2 := t1.k tk2
      have y3 := y3.k tk2
      have y4 := y4.k tk2
      have y5 := y5.k tk2
      have er2 : H2 r = some (.lst [.int (1 - 1)]) := f2 _ _ rp er1
      have prn : ∀ {Q' : VK}, Q' = Q → ∀ a, H2 a = none → ∀ b, upd H2 a (.tup [v]) b = none → ∀ c, upd (upd H2 a (.tup [v])) b (.tup []) c = none →
          Q' (.ref c) (upd (upd (upd H2 a (.tup [v])) b (.tup [])) c (.tup [.str "print", .int 0, .non, .ref a, .ref b])) := fun {Q'} hq a ha b hb c hc => by
        subst hq
        obtain ⟨G1, g1, s1, u1⟩ := Td.lay (K := K) ha (.cons t2 .nil)
        rw [g1] at hb hc ⊢
        obtain ⟨G2, g2, s2, u2⟩ := Td.lay (K := K) hb .nil
        rw [g2] at hc ⊢
        refine q _ (.tup [.str "print", .int 0, .non, .tup [.tup [.str op, .int at_, info, .tup kids, .tup arms]], .tup []]) 0 _ ⟨"print", 0, .non, _, _, rfl, NameOk.lit (by decide +kernel), D.fit_non, (fun e => absurd e (by decide +kernel)), by simp, by simp, fun k hk => ?_, (fun _ h => nomatch h)⟩ (chg_print ed0) (Td.newT (.cons (.str _) (.cons (.int 0) (.cons .non (.cons (u1.k (Same.tk s2)) (.cons u2 .nil))))) hc) (((hD2.same s1).same s2).new hc) (f1.trans (f2.two.trans ((Fr2.same s1).trans ((Fr2.same s2).trans (Fr2.refl.mut hc))))) ?_
        · rw [List.mem_singleton.mp hk]; exact ed0
        · have := s2 _ _ (s1 _ _ er2)
          rw [upd_ne (ne_of_none this hc)]
          exact this
      have tail3 : tIfS (tAnd (tTest (tOp (uEq K) (tVar 8) (tC (.int 2)))) (uTru K (tVar 7))) (tAsg (tSl (uSl K) (tVar 7) tNoPart (tPart (tUn uNeg (tC (.int 1))))) (gName 7)) (tRet (tTup (tCons (tC (.str "print")) (tCons (tC (.int 0)) (tCons (tC .non) (tCons (tTup (tCons (tVar 1) tNil)) (tCons (tTup tNil) tNil)))))))
          { nx := NX, rt := Q } [some (.ref p), some v, some (.ref r), some (.str op), some (.int at_), some x3, some x4, some x5, some (.int pk), none, none] H2 := by
        walk_at "u"
        refine br_d (fun c1 => ?_) (fun c1 => ?_)
        · walk_at "u"
          obtain ⟨a, xs, rfl, sa, ta⟩ := y5.inv
          refine ⟨_, .inr (.inl ⟨xs, sa, rfl⟩), ?_⟩
          have lx := ta.len
          cases xs with
          | nil =>
            show if false = true then _ else _
            walk_at "u"
            refine ⟨szl (by simp), fun a ha => ?_⟩
            walk_at "u"
            refine ⟨szl (by simp), fun b hb => ?_⟩
            walk_at "u"
            refine ⟨szl (by simp), fun c hc => ?_⟩
            exact prn rfl a ha b hb c hc
          | cons z zs =>
            show if true = true then _ else _
            walk_at "u"
            have l0 : 0 < arms.length := by rw [← lx]; simp
            refine r_slD (y5) fun u H3 s3 u3 => ?_
            walk_at "u"
            rw [hNX]
            refine ⟨hD2.same s3, f2.trans (Fr.same s3), x3, x4, u, info, kids, _, _, y3.k (Same.tk s3), y4.k (Same.tk s3), u3, .inr ⟨by omega, .inr (.inr ?_)⟩, h2, h3, (fun k hk => hk), (fun a ha => cut_mem ha), h4, ?_, rfl⟩
            · have e := neg1 l0
              show (cutD arms none (some (-1))).length ≠ arms.length
              omega
            · have e := neg1 l0
              show (cutD arms none (some (-1))).length ≤ 20
              omega
        · walk_at "u"
          refine ⟨szl (by simp), fun a ha => ?_⟩
          walk_at "u"
          refine ⟨szl (by simp), fun b hb => ?_⟩
          walk_at "u"
          refine ⟨szl (by simp), fun c hc => ?_⟩
          exact prn rfl a ha b hb c hc
      have tail2 : tIfS (tAnd (tTest (tOp (uEq K) (tVar 8) (tC (.int 1)))) (tTest (tOp (uGt) (tCB (uLen K) (tCons (tVar 6) tNil)) (tC (.int 1))))) (tAsg (tSl (uSl K) (tVar 6) tNoPart (tPart (tUn uNeg (tC (.int 1))))) (gName 6)) (tIfS (tAnd (tTest (tOp (uEq K) (tVar 8) (tC (.int 2)))) (uTru K (tVar 7))) (tAsg (tSl (uSl K) (tVar 7) tNoPart (tPart (tUn uNeg (tC (.int 1))))) (gName 7)) (tRet (tTup (tCons (tC (.str "print")) (tCons (tC (.int 0)) (tCons (tC .non) (tCons (tTup (tCons (tVar 1) tNil)) (tCons (tTup tNil) tNil))))))))
          { nx := NX, rt := Q } [some (.ref p), some v, some (.ref r), some (.str op), some (.int at_), some x3, some x4, some x5, some (.int pk), none, none] H2 := by
        refine r_ifS ?_
        refine r_and ?_
        walk_at "u"
        refine br_d (fun c1 => ?_) (fun c1 => ?_)
        · walk_at "u"
          refine r_lenD y4 ?_
          walk_at "u"
          refine br_d (fun c2 => ?_) (fun c2 => ?_)
          · walk_at "u"
            refine r_slD (y4) fun u H3 s3 u3 => ?_
            walk_at "u"
            rw [hNX]
            have e := neg1 (ds := kids) (by omega)
            refine ⟨hD2.same s3, f2.trans (Fr.same s3), x3, u, x5, info, _, arms, _, y3.k (Same.tk s3), u3, y5.k (Same.tk s3), .inr ⟨by omega, .inr (.inl ?_)⟩, h2, h3, (fun k hk => cut_mem hk), (fun a ha => ha), ?_, h5, rfl⟩
            · show (cutD kids none (some (-1))).length ≠ kids.length
              omega
            · show (cutD kids none (some (-1))).length ≤ 20
              omega
          · exact tail3
        · exact tail3
      refine r_ifS ?_
      refine r_and ?_
      walk_at "u"
      refine br_d (fun c1 => ?_) (fun c1 => ?_)
      · walk_at "u"
        refine br_d (fun c2 => ?_) (fun c2 => ?_)
        · obtain ⟨i, rfl⟩ := h3 c2
          cases y3.invI
          walk_at "u"
          rw [hNX]
          exact ⟨hD2, f2, _, x4, x5, _, kids, arms, _, .int _, y4, y5, .inr ⟨by omega, .inl ⟨i, _, rfl, rfl, (xor1_ne i).symm⟩⟩, D.fit_int, (fun _ => ⟨_, rfl⟩), (fun k hk => hk), (fun a ha => ha), h4, h5, rfl⟩
        · exact tail2
      · exact tail2
    · walk_at "u"
      rw [hNX]
      exact ⟨hD1, Fr.refl, x3, x4, x5, info, kids, arms, none, y3, y4, y5, .inl ⟨c0, rfl, rfl, rfl⟩, h2, h3, (fun k hk => hk), (fun a ha => ha), h4, h5, rfl⟩
  subst hNX
  rintro σ H2 ⟨hD2, f2, x3, x4, x5, info2, ks, as, y8, y3, y4, y5, md, g2, g3, gk, ga, lk, la, rfl⟩
  have er2 := f2 _ _ rp er1
  have call : ∀ {H' : Hp} {Q' : VK} {k : Int} {u : V} {d : D}, Dr H' p l → H' r = some (.lst [.int k]) → ED n d → Td K H' u d → (∀ w e (k' : Int) H'', ED (n + 1) e → Chg n d e k k' → Td K H'' w e → Dr H'' p l → Fr2 p r H' H'' → H'' r = some (.lst [.int k']) → Q' w H'') → spr_l_changed n K [.ref p, u, .ref r] H' Q' E0 := fun {H' Q' k u d} hD' hr' hd' ht' q' =>
    ⟨p, l, r, u, d, k, rfl, hd', by omega, ht', hD', rp, rl, hr', q'⟩
  obtain ⟨a, xs, rfl, sa, ta⟩ := y4.inv
  walk_at "u"
  refine it_tup ?_
  walk_at "u"
  refine ⟨a, rfl, ⟨xs, sa⟩, fun A hA => c_tups (xs := xs) (fun i H' => Dr H' p l ∧ Fr2 p r H2 H' ∧ ∃ (L2 : Int) (ws : List V) (es : List D), H' r = some (.lst [.int L2]) ∧ H' A = some (.lst ws) ∧ TdL K H' ws es ∧ ChL bareF n (ks.take i) es (L - 1) L2 ∧ ∀ e ∈ es, ED (n + 1) e) ⟨hD2.new hA, Fr2.refl.mut hA, L - 1, [], [], by rw [upd_ne (ne_of_none er2 hA)]; exact er2, upd_same, .nil, ChL.nil, (fun _ h => nomatch h)⟩ (fun i H' P => P.2.1.tk hD2.nt (Nt.lst er2) _ _ sa) ?_ ?_⟩
  · rintro i z H3 hz ⟨hD3, f3, L2, ws, es, er3, eA, tw, ch, ge⟩
    obtain ⟨e, he, te⟩ := ta.getV hz
    have hi := (List.getElem?_eq_some_iff.mp he).1
    have Ap := hD2.nep hA
    have Al := hD2.nel hA
    have Ar : A ≠ r := (ne_of_none er2 hA).symm
    walk_at "u"
    refine ⟨rfl, ?_⟩
    walk_at "u"
    refine call hD3 er3 (h6 e (gk e (List.mem_of_getElem? he))) (te.k (f3.tk hD2.nt (Nt.lst er2))) fun w e2 L3 H4 ed2 cg td hD4 f4 er4 => ?_
    have tk4 : Tk K H3 H4 := f4.tk hD3.nt (Nt.lst er3)
    have eA4 := f4 _ _ Ap Ar eA
    refine ⟨ws, eA4, szt (by rw [tw.len, ← ch.1, List.length_take]; omega), hD4.upd Ap Al, (f3.trans f4).mut hA, L3, _, es ++ [e2], by rw [upd_ne Ar.symm]; exact er4, upd_same, ((tw.k tk4).append (.one td)).k (Tk.lst eA4), ?_, fun x hx => ?_⟩
    · rw [List.take_add_one, he]
      exact ch.snoc cg
    · rcases List.mem_append.mp hx with h | h
      · exact ge x h
      · rw [List.mem_singleton.mp h]; exact ed2
  · rintro H3 ⟨hD3, f3, L2, ws, es, er3, eA, tw, ch, ge⟩
    rw [ta.len, List.take_length] at ch
    walk_at "u"
    refine r_tupleD (SqL.of eA) tw fun u1 H4 s4 t4 => ?_
    have hD4 := hD3.same s4
    have er4 := s4 _ _ er3
    have tk24 : Tk K H2 H4 := (f3.tk hD2.nt (Nt.lst er2)).trans (Same.tk s4)
    obtain ⟨a2, xs2, rfl, sa2, ta2⟩ := (y5.k tk24).inv
    walk_at "u"
    refine it_tup ?_
    walk_at "u"
    refine ⟨a2, rfl, ⟨xs2, sa2⟩, fun A2 hA2 => c_tups (xs := xs2) (fun i H' => Dr H' p l ∧ Fr2 p r H4 H' ∧ ∃ (L3 : Int) (ws : List V) (fs : List D), H' r = some (.lst [.int L3]) ∧ H' A2 = some (.lst ws) ∧ TdL K H' ws fs ∧ ChL (fun m => setBody (bareF m)) n (as.take i) fs L2 L3 ∧ ∀ e ∈ fs, ArmD (ED (n + 1)) e) ⟨hD4.new hA2, Fr2.refl.mut hA2, L2, [], [], by rw [upd_ne (ne_of_none er4 hA2)]; exact er4, upd_same, .nil, ChL.nil, (fun _ h => nomatch h)⟩ (fun i H' P => P.2.1.tk hD4.nt (Nt.lst er4) _ _ sa2) ?_ ?_⟩
    · rintro i z H5 hz ⟨hD5, f5, L3, ws2, fs, er5, eA5, tw2, ch2, gf⟩
      obtain ⟨e, he, te⟩ := ta2.getV hz
      have hi := (List.getElem?_eq_some_iff.mp he).1
      have Ap := hD4.nep hA2
      have Al := hD4.nel hA2
      have Ar : A2 ≠ r := (ne_of_none er4 hA2).symm
      have te5 := te.k (f5.tk hD4.nt (Nt.lst er4))
      obtain ⟨nm, vars, body, rfl, b1, b2, b3, b4⟩ := h7 e (ga e (List.mem_of_getElem? he))
      walk_at "u"
      refine ⟨rfl, ?_⟩
      walk_at "u"
      refine r_ixD (k := 0) te5 rfl fun n0 tn0 => ?_
      walk_at "u"
      refine r_ixD (k := 1) te5 rfl fun n1 tn1 => ?_
      walk_at "u"
      refine r_ixD (k := 2) te5 rfl fun n2 tn2 => ?_
      walk_at "u"
      refine call hD5 er5 b4 tn2 fun w e2 L4 H6 ed2 cg td hD6 f6 er6 => ?_
      have tk6 : Tk K H5 H6 := f6.tk hD5.nt (Nt.lst er5)
      walk_at "u"
      refine ⟨szl (by simp), fun X hX => ?_⟩
      obtain ⟨H7, e7, s7, t7⟩ := Td.lay (K := K) hX (.cons (tn0.k tk6) (.cons (tn1.k tk6) (.cons td .nil)))
      rw [e7]
      have eA7 := s7 _ _ (f6 _ _ Ap Ar eA5)
      refine ⟨ws2, eA7, szt (by rw [tw2.len, ← ch2.1, List.length_take]; omega), (hD6.same s7).upd Ap Al, (f5.trans (f6.trans (Fr2.same s7))).mut hA2, L4, _, fs ++ [_], by rw [upd_ne Ar.symm]; exact s7 _ _ er6, upd_same, ((tw2.k (tk6.trans (Same.tk s7))).append (.one t7)).k (Tk.lst eA7), ?_, fun x hx => ?_⟩
      · rw [List.take_add_one, he]
        exact ch2.snoc (Chg.arm cg)
      · rcases List.mem_append.mp hx with h | h
        · exact gf x h
        · rw [List.mem_singleton.mp h]
          exact ⟨nm, vars, e2, rfl, b1, b2, b3, ed2⟩
    · rintro H5 ⟨hD5, f5, L3, ws2, fs, er5, eA5, tw2, ch2, gf⟩
      rw [ta2.len, List.take_length] at ch2
      walk_at "u"
      refine r_tupleD (SqL.of eA5) tw2 fun u2 H6 s6 t6 => ?_
      have hD6 := hD5.same s6
      have er6 := s6 _ _ er5
      walk_at "u"
      refine ⟨p, l, _, rfl, by decide, by decide, hD6, fun at2 H7 _ _ hD7 k7 => ?_⟩
      walk_at "u"
      refine ⟨szl (by simp), fun X hX => ?_⟩
      have tk47 : Tk K H4 H7 := (f5.tk hD4.nt (Nt.lst er4)).trans ((Same.tk s6).trans (hD6.tk (Fr.of k7)))
      have er7 : H7 r = some (.lst [.int L3]) := by rw [k7 r rp]; exact er6
      refine q _ (.tup [.str op, .int at2, info2, .tup es, .tup fs]) L3 _ ⟨op, at2, info2, es, fs, rfl, h1, g2, g3, by rw [← ch.1]; exact lk, by rw [← ch2.1]; exact la, ge, gf⟩ (chg_node md ch ch2) (Td.newT (.cons (.str op) (.cons (.int at2) (.cons (y3.k (tk24.trans tk47)) (.cons (t4.k tk47) (.cons (t6.k (hD6.tk (Fr.of k7))) .nil))))) hX) (hD7.new hX) (f1.trans (f2.two.trans (f3.trans ((Fr2.same s4).trans (f5.trans ((Fr2.same s6).trans ((Fr.of k7).two.trans (Fr2.refl.mut hX)))))))) (by rw [upd_ne (ne_of_none er7 hX)]; exact er7)
end
theorem Chg.fn {nm : Str} {at_ at2 : Int} {pars res b b' : D} {L L' : Int} (c : Chg 6 b b' L L') : ChF (fun _ => bareFn) 0 (.tup [.str nm, .int at_, pars, res, b]) (.tup [.str nm, .int at2, pars, res, b']) L L' := by
  obtain ⟨c1, c2, c3⟩ := c
  refine ⟨c1, fun a m hm => ?_, fun a m hm => ?_⟩
  · show D.eqb (.tup [.str nm, .int 0, pars, res, bareF 8 b]) (.tup [.str nm, .int 0, pars, res, bareF 8 b']) = false
    have := c2 a 8 (by decide)
    simp [D.eqb, D.eqL, this]
  · show D.tup [.str nm, .int 0, pars, res, bareF 8 b] = D.tup [.str nm, .int 0, pars, res, bareF 8 b']
    rw [c3 a 8 (by decide)]
theorem bareT_eqb {datas excs : D} {funs es : List D} {L L' : Int} (h0 : 0 < L) (c : ChL (fun _ => bareFn) 0 funs es L L') : D.eqb (bareT (.tup [datas, excs, .tup funs])) (bareT (.tup [datas, excs, .tup es])) = decide (0 < L') := by
  show D.eqb (.tup [datas, excs, .tup (funs.map bareFn)]) (.tup [datas, excs, .tup (es.map bareFn)]) = _
  have e : D.eqb (.tup [datas, excs, .tup (funs.map bareFn)]) (.tup [datas, excs, .tup (es.map bareFn)]) = D.eqL (funs.map bareFn) (es.map bareFn) := by
    rw [D.eqb, D.eqL, D.eqL, D.eqL, D.eqL, D.eqb_refl, D.eqb_refl, Bool.true_and, Bool.true_and, Bool.and_true, D.eqb]
  rw [e]
  obtain ⟨c0, c1, c2, c3⟩ := c
  by_cases z : 0 < L'
  · rw [decide_eq_true z, c3 (by omega) 1 (by decide)]
    exact D.eqL_refl _
  · rw [decide_eq_false z]
    exact c2 ⟨h0, by omega⟩ 1 (by decide)
section
variable {K : PySem.W.Frag} {vs : List V} {H : Hp} {Q : VK} {E : XK} {n : Nat}
theorem rd_law (h : sp_law K vs H Q E) : t_law K { nx := fun _ H' => Q .non H', rt := Q } (start n_law vs) H := by
  obtain ⟨a, ns, rfl, hs, hlen, q⟩ := h
  unfold t_law
  walk_at "u"
  refine ⟨a, ns, rfl, hs, hlen, fun p l H1 _ _ hD1 => ?_⟩
  walk_at "u"
  refine ⟨p, l, rfl, hD1, fun v d H2 td t2 hD2 f2 => ?_⟩
  obtain ⟨datas, excs, funs, rfl, g1, g2, g3, g4⟩ := td
  walk_at "u"
  refine ⟨p, l, _, rfl, by decide, by decide, hD2, fun i H3 i0 i1 hD3 k3 => ?_⟩
  walk_at "u"
  refine ⟨szl (by simp), fun r0 hr0 => ?_⟩
  obtain ⟨H4, e4, s4, er4⟩ := lay_new (o := .lst [.int (1 + i)]) hr0
  rw [e4]
  have hD4 := hD3.same s4
  have r0p := hD3.nep hr0
  have r0l := hD3.nel hr0
  have t4 := (t2.k (hD2.tk (Fr.of k3))).k (Same.tk s4)
  walk_at "u"
  refine r_cut (fun σ' H' => Dr H' p l ∧ Fr p H4 H' ∧ ∃ (r : Addr) (L : Int), H' r = some (.lst [.int L]) ∧ 0 < L ∧ r ≠ p ∧ r ≠ l ∧ σ' = [some (.ref a), some (.ref p), some v, some (.ref r), none, none, none, none, none, none, none, none, none]) ?_ ?_
  · walk_at "u"
    refine ⟨p, l, _, rfl, by decide, by decide, hD4, fun j H5 j0 j1 hD5 k5 => ?_⟩
    walk_at "u"
    refine br_d (fun h1 => ?_) (fun h1 => ?_)
    · walk_at "u"
      refine ⟨szl (by simp), fun r1 hr1 => ?_⟩
      obtain ⟨H6, e6, s6, er6⟩ := lay_new (o := .lst [.int 1000000]) hr1
      rw [e6]
      walk_at "u"
      exact ⟨hD5.same s6, (Fr.of k5).trans (Fr.same s6), r1, 1000000, er6, by decide, hD5.nep hr1, hD5.nel hr1, rfl⟩
    · walk_at "u"
      exact ⟨hD5, Fr.of k5, r0, 1 + i, by rw [k5 r0 r0p]; exact er4, by omega, r0p, r0l, rfl⟩
  rintro σ H5 ⟨hD5, f5, r, L, er5, L0, rp, rl, rfl⟩
  have t5 := t4.k (hD4.tk f5)
  walk_at "u"
  refine ⟨szl (by simp), fun A hA => ?_⟩
  obtain ⟨H6, e6, s6, eA6⟩ := lay_new (o := .lst []) hA
  rw [e6]
  have hD6 := hD5.same s6
  have er6 := s6 _ _ er5
  have t6 := t5.k (Same.tk s6)
  have Ap := hD5.nep hA
  have Al := hD5.nel hA
  have Ar : A ≠ r := (ne_of_none er5 hA).symm
  have nt6 : ∀ a ∈ [p, r, A], Nt H6 a := fun a ha => by
    simp only [List.mem_cons, List.not_mem_nil, or_false] at ha
    rcases ha with rfl | rfl | rfl
    · exact hD6.nt
    · exact Nt.lst er6
    · exact Nt.lst eA6
  walk_at "u"
  refine r_cut (fun σ' H' => Dr H' p l ∧ FrN [p, r, A] H6 H' ∧ (∃ (L' : Int) (ws : List V) (es : List D), H' r = some (.lst [.int L']) ∧ H' A = some (.lst ws) ∧ TdL K H' ws es ∧ ChL (fun _ => bareFn) 0 funs es L L' ∧ ∀ e ∈ es, FuD (ED 8) e) ∧ ∃ y5 y6 y7 y8 y9, σ' = [some (.ref a), some (.ref p), some v, some (.ref r), some (.ref A), y5, y6, y7, y8, y9, none, none, none]) ?_ ?_
  · walk_at "u"
    refine it_tup ?_
    walk_at "u"
    refine r_ixD (k := 2) t6 rfl fun y ty => ?_
    obtain ⟨b, xs, rfl, sb, tb⟩ := ty.inv
    refine ⟨b, rfl, ⟨xs, sb⟩, f_tup (xs := xs) (fun i σ' H' => Dr H' p l ∧ FrN [p, r, A] H6 H' ∧ (∃ (L' : Int) (ws : List V) (es : List D), H' r = some (.lst [.int L']) ∧ H' A = some (.lst ws) ∧ TdL K H' ws es ∧ ChL (fun _ => bareFn) 0 (funs.take i) es L L' ∧ ∀ e ∈ es, FuD (ED 8) e) ∧ ∃ y5 y6 y7 y8 y9, σ' = [some (.ref a), some (.ref p), some v, some (.ref r), some (.ref A), y5, y6, y7, y8, y9, none, none, none]) ⟨hD6, FrN.refl, ⟨L, [], [], er6, eA6, .nil, ChL.nil, (fun _ h => nomatch h)⟩, _, _, _, _, _, rfl⟩ (fun i σ H' P => P.2.1.tk nt6 _ _ sb) ?_ ?_⟩
    · rintro i z σ H7 hz ⟨hD7, f7, ⟨L', ws, es, er7, eA7, tw, ch, ge⟩, y5, y6, y7, y8, y9, rfl⟩
      obtain ⟨e, he, te⟩ := tb.getV hz
      have hi := (List.getElem?_eq_some_iff.mp he).1
      have te7 := te.k (f7.tk nt6)
      obtain ⟨nm, at_, pars, res, body, rfl, b1, b2, b3, b4⟩ := g4 e (List.mem_of_getElem? he)
      refine r_gT5 te7 fun z1 z2 z3 z4 z5 u1 u2 u3 u4 u5 => ?_
      cases u1.invS
      walk_at "u"
      refine ⟨p, l, _, rfl, by decide, by decide, hD7, fun at2 H8 _ _ hD8 k8 => ?_⟩
      have er8 : H8 r = some (.lst [.int L']) := by rw [k8 r rp]; exact er7
      have eA8 : H8 A = some (.lst ws) := by rw [k8 A Ap]; exact eA7
      have tk8 : Tk K H7 H8 := hD7.tk (Fr.of k8)
      walk_at "u"
      refine ⟨p, l, r, z5, body, L', rfl, b4.mono (by decide), by decide, u5.k tk8, hD8, rp, rl, er8, fun w e2 L2 H9 ed cg tw2 hD9 f9 er9 => ?_⟩
      have tk9 : Tk K H8 H9 := f9.tk hD8.nt (Nt.lst er8)
      walk_at "u"
      refine ⟨szl (by simp), fun X hX => ?_⟩
      obtain ⟨H10, e10, s10, t10⟩ := Td.lay (K := K) hX (.cons (.str nm) (.cons (.int at2) (.cons ((u3.k tk8).k tk9) (.cons ((u4.k tk8).k tk9) (.cons tw2 .nil)))))
      rw [e10]
      have eA10 := s10 _ _ (f9 _ _ Ap Ar eA8)
      walk_at "u"
      refine r_append eA10 (szt (by rw [tw.len, ← ch.1, List.length_take]; omega)) ?_
      walk_at "u"
      refine ⟨(hD9.same s10).upd Ap Al, FrN.self (f7.trans ((FrN.fr (by simp) (Fr.of k8)).trans ((FrN.fr2 (by simp) (by simp) f9).trans (FrN.same s10)))) (by simp), ⟨L2, _, es ++ [_], by rw [upd_ne Ar.symm]; exact s10 _ _ er9, upd_same, ((tw.k (tk8.trans (tk9.trans (Same.tk s10)))).append (.one t10)).k (Tk.lst eA10), ?_, fun x hx => ?_⟩, _, _, _, _, _, rfl⟩
      · rw [List.take_add_one, he]
        exact ch.snoc (Chg.fn cg)
      · rcases List.mem_append.mp hx with h | h
        · exact ge x h
        · rw [List.mem_singleton.mp h]
          exact ⟨nm, at2, pars, res, e2, rfl, b1, b2, b3, ed.mono (by decide)⟩
    · rintro σ H7 ⟨hD7, f7, ⟨L', ws, es, er7, eA7, tw, ch, ge⟩, hy⟩
      walk_at "u"
      rw [tb.len, List.take_length] at ch
      exact ⟨hD7, f7, ⟨L', ws, es, er7, eA7, tw, ch, ge⟩, hy⟩
  rintro σ H7 ⟨hD7, f7, ⟨L', ws, es, er7, eA7, tw, ch, ge⟩, y5, y6, y7, y8, y9, rfl⟩
  have t7 := t6.k (f7.tk nt6)
  have T1 : TreeD (ED 8) (.tup [datas, excs, .tup funs]) := ⟨datas, excs, funs, rfl, g1, g2, g3, fun f hf => by
    obtain ⟨nm, at_, pars, res, body, rfl, b1, b2, b3, b4⟩ := g4 f hf
    exact ⟨nm, at_, pars, res, body, rfl, b1, b2, b3, b4.mono (by decide)⟩⟩
  have T2 : TreeD (ED 8) (.tup [datas, excs, .tup es]) := ⟨datas, excs, es, rfl, g1, g2, by rw [← ch.1]; exact g3, ge⟩
  have E12 := bareT_eqb (datas := datas) (excs := excs) L0 ch
  have E21 : D.eqb (bareT (.tup [datas, excs, .tup es])) (bareT (.tup [datas, excs, .tup funs])) = decide (0 < L') := by rw [D.eqb_symm]; exact E12
  walk_at "u"
  refine r_ixD (k := 0) t7 rfl fun z0 tz0 => ?_
  walk_at "u"
  refine r_ixD (k := 1) t7 rfl fun z1 tz1 => ?_
  walk_at "u"
  refine r_tupleD (SqL.of eA7) tw fun u H8 s8 t8 => ?_
  walk_at "u"
  refine ⟨szl (by simp), fun X hX => ?_⟩
  obtain ⟨H9, e9, s9, t9⟩ := Td.lay (K := K) hX (.cons (tz0.k (Same.tk s8)) (.cons (tz1.k (Same.tk s8)) (.cons t8 .nil)))
  rw [e9]
  have t79 := t7.k (Same.tk (s8.trans s9))
  have er9 := s9 _ _ (s8 _ _ er7)
  walk_at "u"
  refine r_cut (fun σ' H' => Same H9 H' ∧ ∃ y12, σ' = [some (.ref a), some (.ref p), some v, some (.ref r), some (.ref A), y5, y6, y7, y8, y9, some (.ref X), some (.bl (decide (0 < L'))), y12]) ?_ ?_
  · walk_at "u"
    refine it_list ?_
    walk_at "u"
    refine ⟨v, _, _, _, rfl, t79, t9, T1, T2, fun H10 s10 => ?_⟩
    walk_at "u"
    refine ⟨_, v, _, _, rfl, t9.k (Same.tk s10), t79.k (Same.tk s10), T2, T1, fun H11 s11 => ?_⟩
    rw [E12, E21]
    walk_at "u"
    refine ⟨szl (by simp), fun Y hY => ?_⟩
    obtain ⟨H12, e12, s12, eY⟩ := lay_new (o := .lst [.bl (decide (0 < L')), .bl (decide (0 < L'))]) hY
    rw [e12]
    refine ⟨Y, rfl, ⟨_, SqL.of eY⟩, f_list (xs := [.bl (decide (0 < L')), .bl (decide (0 < L'))]) (fun i σ' H' => H' = H12 ∧ ∃ y12, σ' = [some (.ref a), some (.ref p), some v, some (.ref r), some (.ref A), y5, y6, y7, y8, y9, some (.ref X), some (.bl (decide (0 < L'))), y12]) ⟨rfl, none, rfl⟩ (fun i σ H' P => P.1 ▸ SqL.of eY) ?_ ?_⟩
    · rintro i z σ H13 hz ⟨rfl, y12, rfl⟩
      have ez : z = .bl (decide (0 < L')) := by
        match i, hz with
        | 0, hz => cases hz; rfl
        | 1, hz => cases hz; rfl
        | k + 2, hz => cases hz
      subst ez
      generalize decide (0 < L') = bb
      walk_at "u"
      exact ⟨rfl, _, rfl⟩
    · rintro σ H13 ⟨rfl, y12, rfl⟩
      walk_at "u"
      exact ⟨(s10.trans s11).trans s12, _, rfl⟩
  rintro σ H10 ⟨s10, y12, rfl⟩
  walk_at "u"
  have t10 := t79.k (Same.tk s10)
  have u10 := t9.k (Same.tk s10)
  refine ⟨v, v, _, _, rfl, t10, t10, T1, T1, fun H11 s11 => ?_⟩
  rw [D.eqb_refl]
  walk_at "u"
  refine ⟨_, _, _, _, rfl, u10.k (Same.tk s11), u10.k (Same.tk s11), T2, T2, fun H12 s12 => ?_⟩
  rw [D.eqb_refl]
  walk_at "u"
  exact q _
end
section
variable {K : PySem.W.Frag} {vs : List V} {H : Hp} {Q : VK} {E : XK} {n : Nat}
theorem len_is_integer (h : sp_is_integer K vs H Q E) : vs.length = (["value"] : List Str).length := by
  first | (obtain ⟨rfl, _⟩ := h; rfl) | (obtain ⟨_, rfl, _⟩ := h; rfl) | (obtain ⟨_, _, rfl, _⟩ := h; rfl) | (obtain ⟨_, _, _, rfl, _⟩ := h; rfl) | (obtain ⟨_, _, _, _, rfl, _⟩ := h; rfl) | (obtain ⟨_, _, _, _, _, rfl, _⟩ := h; rfl) | (obtain ⟨_, _, _, _, _, _, rfl, _⟩ := h; rfl) | (obtain ⟨_, _, _, _, _, _, _, rfl, _⟩ := h; rfl) | (obtain ⟨_, _, _, _, _, _, _, _, rfl, _⟩ := h; rfl)
theorem len_has_parts (h : sp_has_parts K vs H Q E) : vs.length = (["value"] : List Str).length := by
  first | (obtain ⟨rfl, _⟩ := h; rfl) | (obtain ⟨_, rfl, _⟩ := h; rfl) | (obtain ⟨_, _, rfl, _⟩ := h; rfl) | (obtain ⟨_, _, _, rfl, _⟩ := h; rfl) | (obtain ⟨_, _, _, _, rfl, _⟩ := h; rfl) | (obtain ⟨_, _, _, _, _, rfl, _⟩ := h; rfl) | (obtain ⟨_, _, _, _, _, _, rfl, _⟩ := h; rfl) | (obtain ⟨_, _, _, _, _, _, _, rfl, _⟩ := h; rfl) | (obtain ⟨_, _, _, _, _, _, _, _, rfl, _⟩ := h; rfl)
theorem len_bare_expression (h : spr_bare_expression (n + 1) K vs H Q E) : vs.length = (["expression"] : List Str).length := by
  first | (obtain ⟨rfl, _⟩ := h; rfl) | (obtain ⟨_, rfl, _⟩ := h; rfl) | (obtain ⟨_, _, rfl, _⟩ := h; rfl) | (obtain ⟨_, _, _, rfl, _⟩ := h; rfl) | (obtain ⟨_, _, _, _, rfl, _⟩ := h; rfl) | (obtain ⟨_, _, _, _, _, rfl, _⟩ := h; rfl) | (obtain ⟨_, _, _, _, _, _, rfl, _⟩ := h; rfl) | (obtain ⟨_, _, _, _, _, _, _, rfl, _⟩ := h; rfl) | (obtain ⟨_, _, _, _, _, _, _, _, rfl, _⟩ := h; rfl)
theorem len_bare_function (h : sp_bare_function K vs H Q E) : vs.length = (["function"] : List Str).length := by
  first | (obtain ⟨rfl, _⟩ := h; rfl) | (obtain ⟨_, rfl, _⟩ := h; rfl) | (obtain ⟨_, _, rfl, _⟩ := h; rfl) | (obtain ⟨_, _, _, rfl, _⟩ := h; rfl) | (obtain ⟨_, _, _, _, rfl, _⟩ := h; rfl) | (obtain ⟨_, _, _, _, _, rfl, _⟩ := h; rfl) | (obtain ⟨_, _, _, _, _, _, rfl, _⟩ := h; rfl) | (obtain ⟨_, _, _, _, _, _, _, rfl, _⟩ := h; rfl) | (obtain ⟨_, _, _, _, _, _, _, _, rfl, _⟩ := h; rfl)
theorem len_bare_tree (h : sp_bare_tree K vs H Q E) : vs.length = (["tree"] : List Str).length := by
  first | (obtain ⟨rfl, _⟩ := h; rfl) | (obtain ⟨_, rfl, _⟩ := h; rfl) | (obtain ⟨_, _, rfl, _⟩ := h; rfl) | (obtain ⟨_, _, _, rfl, _⟩ := h; rfl) | (obtain ⟨_, _, _, _, rfl, _⟩ := h; rfl) | (obtain ⟨_, _, _, _, _, rfl, _⟩ := h; rfl) | (obtain ⟨_, _, _, _, _, _, rfl, _⟩ := h; rfl) | (obtain ⟨_, _, _, _, _, _, _, rfl, _⟩ := h; rfl) | (obtain ⟨_, _, _, _, _, _, _, _, rfl, _⟩ := h; rfl)
theorem len_same_tree (h : sp_same_tree K vs H Q E) : vs.length = (["first", "second"] : List Str).length := by
  first | (obtain ⟨rfl, _⟩ := h; rfl) | (obtain ⟨_, rfl, _⟩ := h; rfl) | (obtain ⟨_, _, rfl, _⟩ := h; rfl) | (obtain ⟨_, _, _, rfl, _⟩ := h; rfl) | (obtain ⟨_, _, _, _, rfl, _⟩ := h; rfl) | (obtain ⟨_, _, _, _, _, rfl, _⟩ := h; rfl) | (obtain ⟨_, _, _, _, _, _, rfl, _⟩ := h; rfl) | (obtain ⟨_, _, _, _, _, _, _, rfl, _⟩ := h; rfl) | (obtain ⟨_, _, _, _, _, _, _, _, rfl, _⟩ := h; rfl)
theorem len_l_start (h : sp_l_start K vs H Q E) : vs.length = (["_law_script"] : List Str).length := by
  first | (obtain ⟨rfl, _⟩ := h; rfl) | (obtain ⟨_, rfl, _⟩ := h; rfl) | (obtain ⟨_, _, rfl, _⟩ := h; rfl) | (obtain ⟨_, _, _, rfl, _⟩ := h; rfl) | (obtain ⟨_, _, _, _, rfl, _⟩ := h; rfl) | (obtain ⟨_, _, _, _, _, rfl, _⟩ := h; rfl) | (obtain ⟨_, _, _, _, _, _, rfl, _⟩ := h; rfl) | (obtain ⟨_, _, _, _, _, _, _, rfl, _⟩ := h; rfl) | (obtain ⟨_, _, _, _, _, _, _, _, rfl, _⟩ := h; rfl)
theorem len_l_draw (h : sp_l_draw K vs H Q E) : vs.length = (["_law_state", "_law_many"] : List Str).length := by
  first | (obtain ⟨rfl, _⟩ := h; rfl) | (obtain ⟨_, rfl, _⟩ := h; rfl) | (obtain ⟨_, _, rfl, _⟩ := h; rfl) | (obtain ⟨_, _, _, rfl, _⟩ := h; rfl) | (obtain ⟨_, _, _, _, rfl, _⟩ := h; rfl) | (obtain ⟨_, _, _, _, _, rfl, _⟩ := h; rfl) | (obtain ⟨_, _, _, _, _, _, rfl, _⟩ := h; rfl) | (obtain ⟨_, _, _, _, _, _, _, rfl, _⟩ := h; rfl) | (obtain ⟨_, _, _, _, _, _, _, _, rfl, _⟩ := h; rfl)
theorem len_l_reserved (h : sp_l_reserved K vs H Q E) : vs.length = ([] : List Str).length := by
  first | (obtain ⟨rfl, _⟩ := h; rfl) | (obtain ⟨_, rfl, _⟩ := h; rfl) | (obtain ⟨_, _, rfl, _⟩ := h; rfl) | (obtain ⟨_, _, _, rfl, _⟩ := h; rfl) | (obtain ⟨_, _, _, _, rfl, _⟩ := h; rfl) | (obtain ⟨_, _, _, _, _, rfl, _⟩ := h; rfl) | (obtain ⟨_, _, _, _, _, _, rfl, _⟩ := h; rfl) | (obtain ⟨_, _, _, _, _, _, _, rfl, _⟩ := h; rfl) | (obtain ⟨_, _, _, _, _, _, _, _, rfl, _⟩ := h; rfl)
theorem len_l_name (h : sp_l_name K vs H Q E) : vs.length = (["_law_state", "_law_great"] : List Str).length := by
  first | (obtain ⟨rfl, _⟩ := h; rfl) | (obtain ⟨_, rfl, _⟩ := h; rfl) | (obtain ⟨_, _, rfl, _⟩ := h; rfl) | (obtain ⟨_, _, _, rfl, _⟩ := h; rfl) | (obtain ⟨_, _, _, _, rfl, _⟩ := h; rfl) | (obtain ⟨_, _, _, _, _, rfl, _⟩ := h; rfl) | (obtain ⟨_, _, _, _, _, _, rfl, _⟩ := h; rfl) | (obtain ⟨_, _, _, _, _, _, _, rfl, _⟩ := h; rfl) | (obtain ⟨_, _, _, _, _, _, _, _, rfl, _⟩ := h; rfl)
theorem len_l_fresh (h : sp_l_fresh K vs H Q E) : vs.length = (["_law_state", "_law_great", "_law_taken"] : List Str).length := by
  first | (obtain ⟨rfl, _⟩ := h; rfl) | (obtain ⟨_, rfl, _⟩ := h; rfl) | (obtain ⟨_, _, rfl, _⟩ := h; rfl) | (obtain ⟨_, _, _, rfl, _⟩ := h; rfl) | (obtain ⟨_, _, _, _, rfl, _⟩ := h; rfl) | (obtain ⟨_, _, _, _, _, rfl, _⟩ := h; rfl) | (obtain ⟨_, _, _, _, _, _, rfl, _⟩ := h; rfl) | (obtain ⟨_, _, _, _, _, _, _, rfl, _⟩ := h; rfl) | (obtain ⟨_, _, _, _, _, _, _, _, rfl, _⟩ := h; rfl)
theorem len_l_kind (h : spr_l_kind (n + 1) K vs H Q E) : vs.length = (["_law_state", "_law_deep"] : List Str).length := by
  first | (obtain ⟨rfl, _⟩ := h; rfl) | (obtain ⟨_, rfl, _⟩ := h; rfl) | (obtain ⟨_, _, rfl, _⟩ := h; rfl) | (obtain ⟨_, _, _, rfl, _⟩ := h; rfl) | (obtain ⟨_, _, _, _, rfl, _⟩ := h; rfl) | (obtain ⟨_, _, _, _, _, rfl, _⟩ := h; rfl) | (obtain ⟨_, _, _, _, _, _, rfl, _⟩ := h; rfl) | (obtain ⟨_, _, _, _, _, _, _, rfl, _⟩ := h; rfl) | (obtain ⟨_, _, _, _, _, _, _, _, rfl, _⟩ := h; rfl)
theorem len_l_exception (h : sp_l_exception K vs H Q E) : vs.length = (["_law_state"] : List Str).length := by
  first | (obtain ⟨rfl, _⟩ := h; rfl) | (obtain ⟨_, rfl, _⟩ := h; rfl) | (obtain ⟨_, _, rfl, _⟩ := h; rfl) | (obtain ⟨_, _, _, rfl, _⟩ := h; rfl) | (obtain ⟨_, _, _, _, rfl, _⟩ := h; rfl) | (obtain ⟨_, _, _, _, _, rfl, _⟩ := h; rfl) | (obtain ⟨_, _, _, _, _, _, rfl, _⟩ := h; rfl) | (obtain ⟨_, _, _, _, _, _, _, rfl, _⟩ := h; rfl) | (obtain ⟨_, _, _, _, _, _, _, _, rfl, _⟩ := h; rfl)
theorem len_l_leaf (h : sp_l_leaf K vs H Q E) : vs.length = (["_law_state"] : List Str).length := by
  first | (obtain ⟨rfl, _⟩ := h; rfl) | (obtain ⟨_, rfl, _⟩ := h; rfl) | (obtain ⟨_, _, rfl, _⟩ := h; rfl) | (obtain ⟨_, _, _, rfl, _⟩ := h; rfl) | (obtain ⟨_, _, _, _, rfl, _⟩ := h; rfl) | (obtain ⟨_, _, _, _, _, rfl, _⟩ := h; rfl) | (obtain ⟨_, _, _, _, _, _, rfl, _⟩ := h; rfl) | (obtain ⟨_, _, _, _, _, _, _, rfl, _⟩ := h; rfl) | (obtain ⟨_, _, _, _, _, _, _, _, rfl, _⟩ := h; rfl)
theorem len_l_counts (h : sp_l_counts K vs H Q E) : vs.length = ([] : List Str).length := by
  first | (obtain ⟨rfl, _⟩ := h; rfl) | (obtain ⟨_, rfl, _⟩ := h; rfl) | (obtain ⟨_, _, rfl, _⟩ := h; rfl) | (obtain ⟨_, _, _, rfl, _⟩ := h; rfl) | (obtain ⟨_, _, _, _, rfl, _⟩ := h; rfl) | (obtain ⟨_, _, _, _, _, rfl, _⟩ := h; rfl) | (obtain ⟨_, _, _, _, _, _, rfl, _⟩ := h; rfl) | (obtain ⟨_, _, _, _, _, _, _, rfl, _⟩ := h; rfl) | (obtain ⟨_, _, _, _, _, _, _, _, rfl, _⟩ := h; rfl)
theorem len_l_arms (h : spr_l_arms (n + 1) K vs H Q E) : vs.length = (["_law_state", "_law_op", "_law_deep", "_law_room"] : List Str).length := by
  first | (obtain ⟨rfl, _⟩ := h; rfl) | (obtain ⟨_, rfl, _⟩ := h; rfl) | (obtain ⟨_, _, rfl, _⟩ := h; rfl) | (obtain ⟨_, _, _, rfl, _⟩ := h; rfl) | (obtain ⟨_, _, _, _, rfl, _⟩ := h; rfl) | (obtain ⟨_, _, _, _, _, rfl, _⟩ := h; rfl) | (obtain ⟨_, _, _, _, _, _, rfl, _⟩ := h; rfl) | (obtain ⟨_, _, _, _, _, _, _, rfl, _⟩ := h; rfl) | (obtain ⟨_, _, _, _, _, _, _, _, rfl, _⟩ := h; rfl)
theorem len_l_expr (h : spr_l_expr (n + 1) K vs H Q E) : vs.length = (["_law_state", "_law_deep", "_law_room"] : List Str).length := by
  first | (obtain ⟨rfl, _⟩ := h; rfl) | (obtain ⟨_, rfl, _⟩ := h; rfl) | (obtain ⟨_, _, rfl, _⟩ := h; rfl) | (obtain ⟨_, _, _, rfl, _⟩ := h; rfl) | (obtain ⟨_, _, _, _, rfl, _⟩ := h; rfl) | (obtain ⟨_, _, _, _, _, rfl, _⟩ := h; rfl) | (obtain ⟨_, _, _, _, _, _, rfl, _⟩ := h; rfl) | (obtain ⟨_, _, _, _, _, _, _, rfl, _⟩ := h; rfl) | (obtain ⟨_, _, _, _, _, _, _, _, rfl, _⟩ := h; rfl)
theorem len_l_tree (h : sp_l_tree K vs H Q E) : vs.length = (["_law_state"] : List Str).length := by
  first | (obtain ⟨rfl, _⟩ := h; rfl) | (obtain ⟨_, rfl, _⟩ := h; rfl) | (obtain ⟨_, _, rfl, _⟩ := h; rfl) | (obtain ⟨_, _, _, rfl, _⟩ := h; rfl) | (obtain ⟨_, _, _, _, rfl, _⟩ := h; rfl) | (obtain ⟨_, _, _, _, _, rfl, _⟩ := h; rfl) | (obtain ⟨_, _, _, _, _, _, rfl, _⟩ := h; rfl) | (obtain ⟨_, _, _, _, _, _, _, rfl, _⟩ := h; rfl) | (obtain ⟨_, _, _, _, _, _, _, _, rfl, _⟩ := h; rfl)
theorem len_l_changed (h : spr_l_changed (n + 1) K vs H Q E) : vs.length = (["_law_state", "_law_expr_here", "_law_left"] : List Str).length := by
  first | (obtain ⟨rfl, _⟩ := h; rfl) | (obtain ⟨_, rfl, _⟩ := h; rfl) | (obtain ⟨_, _, rfl, _⟩ := h; rfl) | (obtain ⟨_, _, _, rfl, _⟩ := h; rfl) | (obtain ⟨_, _, _, _, rfl, _⟩ := h; rfl) | (obtain ⟨_, _, _, _, _, rfl, _⟩ := h; rfl) | (obtain ⟨_, _, _, _, _, _, rfl, _⟩ := h; rfl) | (obtain ⟨_, _, _, _, _, _, _, rfl, _⟩ := h; rfl) | (obtain ⟨_, _, _, _, _, _, _, _, rfl, _⟩ := h; rfl)
theorem len_law (h : sp_law K vs H Q E) : vs.length = (["_law_script"] : List Str).length := by
  first | (obtain ⟨rfl, _⟩ := h; rfl) | (obtain ⟨_, rfl, _⟩ := h; rfl) | (obtain ⟨_, _, rfl, _⟩ := h; rfl) | (obtain ⟨_, _, _, rfl, _⟩ := h; rfl) | (obtain ⟨_, _, _, _, rfl, _⟩ := h; rfl) | (obtain ⟨_, _, _, _, _, rfl, _⟩ := h; rfl) | (obtain ⟨_, _, _, _, _, _, rfl, _⟩ := h; rfl) | (obtain ⟨_, _, _, _, _, _, _, rfl, _⟩ := h; rfl) | (obtain ⟨_, _, _, _, _, _, _, _, rfl, _⟩ := h; rfl)
end
theorem law_in {K : PySem.W.Frag} {H : Hp} (a : Addr) (ns : List Int) (hl : ns.length ≤ 63) (h : SqL K H a (ns.map V.int)) : sp_law K [.ref a] H (fun v _ => v = .bl true) (fun _ _ _ => False) := ⟨a, ns, rfl, h, hl, fun _ => rfl⟩
def topS (i : Nat) : Stmt := PySem.Challenge.pw_escheat_k07_same_tree.main.body.getD i (.Pass ⟨0, 0, 0, 0⟩)
abbrev s_is_integer : Stmt := topS 1
theorem sc_is_integer : FnScope n_is_integer ["value"] (defScope s_is_integer) := ⟨rfl, rfl, rfl, by decide +kernel, rfl, by decide +kernel, by decide +kernel⟩
abbrev s_has_parts : Stmt := topS 3
theorem sc_has_parts : FnScope n_has_parts ["value"] (defScope s_has_parts) := ⟨rfl, rfl, rfl, by decide +kernel, rfl, by decide +kernel, by decide +kernel⟩
abbrev s_bare_expression : Stmt := topS 4
theorem sc_bare_expression : FnScope n_bare_expression ["expression"] (defScope s_bare_expression) := ⟨rfl, rfl, rfl, by decide +kernel, rfl, by decide +kernel, by decide +kernel⟩
abbrev s_bare_function : Stmt := topS 5
theorem sc_bare_function : FnScope n_bare_function ["function"] (defScope s_bare_function) := ⟨rfl, rfl, rfl, by decide +kernel, rfl, by decide +kernel, by decide +kernel⟩
abbrev s_bare_tree : Stmt := topS 6
theorem sc_bare_tree : FnScope n_bare_tree ["tree"] (defScope s_bare_tree) := ⟨rfl, rfl, rfl, by decide +kernel, rfl, by decide +kernel, by decide +kernel⟩
abbrev s_same_tree : Stmt := topS 8
theorem sc_same_tree : FnScope n_same_tree ["first", "second"] (defScope s_same_tree) := ⟨rfl, rfl, rfl, by decide +kernel, rfl, by decide +kernel, by decide +kernel⟩
abbrev s_l_start : Stmt := topS 10
theorem sc_l_start : FnScope n_l_start ["_law_script"] (defScope s_l_start) := ⟨rfl, rfl, rfl, by decide +kernel, rfl, by decide +kernel, by decide +kernel⟩
abbrev s_l_draw : Stmt := topS 11
theorem sc_l_draw : FnScope n_l_draw ["_law_state", "_law_many"] (defScope s_l_draw) := ⟨rfl, rfl, rfl, by decide +kernel, rfl, by decide +kernel, by decide +kernel⟩
abbrev s_l_reserved : Stmt := topS 12
theorem sc_l_reserved : FnScope n_l_reserved [] (defScope s_l_reserved) := ⟨rfl, rfl, rfl, by decide +kernel, rfl, by decide +kernel, by decide +kernel⟩
abbrev s_l_name : Stmt := topS 13
theorem sc_l_name : FnScope n_l_name ["_law_state", "_law_great"] (defScope s_l_name) := ⟨rfl, rfl, rfl, by decide +kernel, rfl, by decide +kernel, by decide +kernel⟩
abbrev s_l_fresh : Stmt := topS 14
theorem sc_l_fresh : FnScope n_l_fresh ["_law_state", "_law_great", "_law_taken"] (defScope s_l_fresh) := ⟨rfl, rfl, rfl, by decide +kernel, rfl, by decide +kernel, by decide +kernel⟩
abbrev s_l_kind : Stmt := topS 15
theorem sc_l_kind : FnScope n_l_kind ["_law_state", "_law_deep"] (defScope s_l_kind) := ⟨rfl, rfl, rfl, by decide +kernel, rfl, by decide +kernel, by decide +kernel⟩
abbrev s_l_exception : Stmt := topS 16
theorem sc_l_exception : FnScope n_l_exception ["_law_state"] (defScope s_l_exception) := ⟨rfl, rfl, rfl, by decide +kernel, rfl, by decide +kernel, by decide +kernel⟩
abbrev s_l_leaf : Stmt := topS 17
theorem sc_l_leaf : FnScope n_l_leaf ["_law_state"] (defScope s_l_leaf) := ⟨rfl, rfl, rfl, by decide +kernel, rfl, by decide +kernel, by decide +kernel⟩
abbrev s_l_counts : Stmt := topS 18
theorem sc_l_counts : FnScope n_l_counts [] (defScope s_l_counts) := ⟨rfl, rfl, rfl, by decide +kernel, rfl, by decide +kernel, by decide +kernel⟩
abbrev s_l_arms : Stmt := topS 19
theorem sc_l_arms : FnScope n_l_arms ["_law_state", "_law_op", "_law_deep", "_law_room"] (defScope s_l_arms) := ⟨rfl, rfl, rfl, by decide +kernel, rfl, by decide +kernel, by decide +kernel⟩
abbrev s_l_expr : Stmt := topS 20
theorem sc_l_expr : FnScope n_l_expr ["_law_state", "_law_deep", "_law_room"] (defScope s_l_expr) := ⟨rfl, rfl, rfl, by decide +kernel, rfl, by decide +kernel, by decide +kernel⟩
abbrev s_l_tree : Stmt := topS 21
theorem sc_l_tree : FnScope n_l_tree ["_law_state"] (defScope s_l_tree) := ⟨rfl, rfl, rfl, by decide +kernel, rfl, by decide +kernel, by decide +kernel⟩
abbrev s_l_changed : Stmt := topS 22
theorem sc_l_changed : FnScope n_l_changed ["_law_state", "_law_expr_here", "_law_left"] (defScope s_l_changed) := ⟨rfl, rfl, rfl, by decide +kernel, rfl, by decide +kernel, by decide +kernel⟩
abbrev s_law : Stmt := topS 23
theorem sc_law : FnScope n_law ["_law_script"] (defScope s_law) := ⟨rfl, rfl, rfl, by decide +kernel, rfl, by decide +kernel, by decide +kernel⟩
/-- what the top has left -/
structure Txt (K : PySem.W.Frag) (mg : Str → Option Value) : Prop where
  b_isinstance : mg "isinstance" = none
  b_int : mg "int" = none
  b_bool : mg "bool" = none
  b_tuple : mg "tuple" = none
  b_len : mg "len" = none
  b_all : mg "all" = none
  b_list : mg "list" = none
  b_abs : mg "abs" = none
  b_range : mg "range" = none
  b_str : mg "str" = none
  b_sorted : mg "sorted" = none
  g_is_integer : mg "is_integer" = some (.ref (He.ga K "is_integer"))
  F_is_integer : ∃ fd, FunD K "is_integer" "is_integer" (defArgs s_is_integer) (defBody s_is_integer) (defScope s_is_integer) [] [] (He.ga K "is_integer") fd
  g_has_parts : mg "has_parts" = some (.ref (He.ga K "has_parts"))
  F_has_parts : ∃ fd, FunD K "has_parts" "has_parts" (defArgs s_has_parts) (defBody s_has_parts) (defScope s_has_parts) [] [] (He.ga K "has_parts") fd
  g_bare_expression : mg "bare_expression" = some (.ref (He.ga K "bare_expression"))
  F_bare_expression : ∃ fd, FunD K "bare_expression" "bare_expression" (defArgs s_bare_expression) (defBody s_bare_expression) (defScope s_bare_expression) [] [] (He.ga K "bare_expression") fd
  g_bare_function : mg "bare_function" = some (.ref (He.ga K "bare_function"))
  F_bare_function : ∃ fd, FunD K "bare_function" "bare_function" (defArgs s_bare_function) (defBody s_bare_function) (defScope s_bare_function) [] [] (He.ga K "bare_function") fd
  g_bare_tree : mg "bare_tree" = some (.ref (He.ga K "bare_tree"))
  F_bare_tree : ∃ fd, FunD K "bare_tree" "bare_tree" (defArgs s_bare_tree) (defBody s_bare_tree) (defScope s_bare_tree) [] [] (He.ga K "bare_tree") fd
  g_same_tree : mg "same_tree" = some (.ref (He.ga K "same_tree"))
  F_same_tree : ∃ fd, FunD K "same_tree" "same_tree" (defArgs s_same_tree) (defBody s_same_tree) (defScope s_same_tree) [] [] (He.ga K "same_tree") fd
  g_l_start : mg "_law_start" = some (.ref (He.ga K "_law_start"))
  F_l_start : ∃ fd, FunD K "_law_start" "_law_start" (defArgs s_l_start) (defBody s_l_start) (defScope s_l_start) [] [] (He.ga K "_law_start") fd
  g_l_draw : mg "_law_draw" = some (.ref (He.ga K "_law_draw"))
  F_l_draw : ∃ fd, FunD K "_law_draw" "_law_draw" (defArgs s_l_draw) (defBody s_l_draw) (defScope s_l_draw) [] [] (He.ga K "_law_draw") fd
  g_l_reserved : mg "_law_reserved" = some (.ref (He.ga K "_law_reserved"))
  F_l_reserved : ∃ fd, FunD K "_law_reserved" "_law_reserved" (defArgs s_l_reserved) (defBody s_l_reserved) (defScope s_l_reserved) [] [] (He.ga K "_law_reserved") fd
  g_l_name : mg "_law_name" = some (.ref (He.ga K "_law_name"))
  F_l_name : ∃ fd, FunD K "_law_name" "_law_name" (defArgs s_l_name) (defBody s_l_name) (defScope s_l_name) [] [] (He.ga K "_law_name") fd
  g_l_fresh : mg "_law_fresh" = some (.ref (He.ga K "_law_fresh"))
  F_l_fresh : ∃ fd, FunD K "_law_fresh" "_law_fresh" (defArgs s_l_fresh) (defBody s_l_fresh) (defScope s_l_fresh) [] [] (He.ga K "_law_fresh") fd
  g_l_kind : mg "_law_kind" = some (.ref (He.ga K "_law_kind"))
  F_l_kind : ∃ fd, FunD K "_law_kind" "_law_kind" (defArgs s_l_kind) (defBody s_l_kind) (defScope s_l_kind) [] [] (He.ga K "_law_kind") fd
  g_l_exception : mg "_law_exception" = some (.ref (He.ga K "_law_exception"))
  F_l_exception : ∃ fd, FunD K "_law_exception" "_law_exception" (defArgs s_l_exception) (defBody s_l_exception) (defScope s_l_exception) [] [] (He.ga K "_law_exception") fd
  g_l_leaf : mg "_law_leaf" = some (.ref (He.ga K "_law_leaf"))
  F_l_leaf : ∃ fd, FunD K "_law_leaf" "_law_leaf" (defArgs s_l_leaf) (defBody s_l_leaf) (defScope s_l_leaf) [] [] (He.ga K "_law_leaf") fd
  g_l_counts : mg "_law_counts" = some (.ref (He.ga K "_law_counts"))
  F_l_counts : ∃ fd, FunD K "_law_counts" "_law_counts" (defArgs s_l_counts) (defBody s_l_counts) (defScope s_l_counts) [] [] (He.ga K "_law_counts") fd
  g_l_arms : mg "_law_arms" = some (.ref (He.ga K "_law_arms"))
  F_l_arms : ∃ fd, FunD K "_law_arms" "_law_arms" (defArgs s_l_arms) (defBody s_l_arms) (defScope s_l_arms) [] [] (He.ga K "_law_arms") fd
  g_l_expr : mg "_law_expr" = some (.ref (He.ga K "_law_expr"))
  F_l_expr : ∃ fd, FunD K "_law_expr" "_law_expr" (defArgs s_l_expr) (defBody s_l_expr) (defScope s_l_expr) [] [] (He.ga K "_law_expr") fd
  g_l_tree : mg "_law_tree" = some (.ref (He.ga K "_law_tree"))
  F_l_tree : ∃ fd, FunD K "_law_tree" "_law_tree" (defArgs s_l_tree) (defBody s_l_tree) (defScope s_l_tree) [] [] (He.ga K "_law_tree") fd
  g_l_changed : mg "_law_changed" = some (.ref (He.ga K "_law_changed"))
  F_l_changed : ∃ fd, FunD K "_law_changed" "_law_changed" (defArgs s_l_changed) (defBody s_l_changed) (defScope s_l_changed) [] [] (He.ga K "_law_changed") fd
  g_law : mg "law" = some (.ref (He.ga K "law"))
  F_law : ∃ fd, FunD K "law" "law" (defArgs s_law) (defBody s_law) (defScope s_law) [] [] (He.ga K "law") fd
section
variable {P : Program} {w : World} {K : PySem.W.Frag} {mg : Str → Option Value} {base : Heap}
theorem ok_is_integer (T : Txt K mg)  : OkF P w K mg base 1 "is_integer" ["value"] (sp_is_integer K) := by
  obtain ⟨fd, F⟩ := T.F_is_integer
  refine ⟨_, fd, T.g_is_integer, F.ok sc_is_integer (fun vs H Q E h => len_is_integer h) (fun cdv A outer s H vs Q E hr h => ⟨t_is_integer K, PSs.nox ?_, rd_is_integer h⟩), FunD.bindsN F fun _ _ _ _ _ _ us hl => match us, hl with | [_], _ => rfl, F.kp⟩
  exact (pss_one (ps_ret (pe_and (pe_callB c_isi (by rfl) T.b_isinstance (by decide +kernel) (pa_cons (pv 0) (pa_cons (pe_ty rfl T.b_int (by decide +kernel)) pa_nil))) (pe_one (pe_not (pe_callB c_isi (by rfl) T.b_isinstance (by decide +kernel) (pa_cons (pv 0) (pa_cons (pe_ty rfl T.b_bool (by decide +kernel)) pa_nil))))))))
theorem ok_has_parts (T : Txt K mg) (O_is_integer : OkF P w K mg base 1 "is_integer" ["value"] (sp_is_integer K)) : OkF P w K mg base 2 "has_parts" ["value"] (sp_has_parts K) := by
  obtain ⟨fd, F⟩ := T.F_has_parts
  refine ⟨_, fd, T.g_has_parts, F.ok sc_has_parts (fun vs H Q E h => len_has_parts h) (fun cdv A outer s H vs Q E hr h => ⟨t_has_parts K, PSs.nox ?_, rd_has_parts h⟩), FunD.bindsN F fun _ _ _ _ _ _ us hl => match us, hl with | [_], _ => rfl, F.kp⟩
  exact (pss_c (ps_if (PW.pt (pw_or (pt_not (pt_tru (pe_callB c_isi (by rfl) T.b_isinstance (by decide +kernel) (pa_cons (pv 0) (pa_cons (pe_ty rfl T.b_tuple (by decide +kernel)) pa_nil))))) (pw_or (pt_cmpR (o_ne hr.units) (pe_callB c_len (by rfl) T.b_len (by decide +kernel) (pa_cons (pv 0) pa_nil)) pe_int (nomark _)) (pw_or1 (pt_not (pt_tru (pe_fn O_is_integer (hr.mono (by omega)) rfl (pa_cons (pe_ix i_x (pv 0) pe_int (fun _ _ => rfl)) pa_nil)))))))) (pss_one (ps_ret pe_bl)) pss_nil)
    (pss_c (ps_if (PW.pt (pw_or (pt_not (pt_tru (pe_callB c_isi (by rfl) T.b_isinstance (by decide +kernel) (pa_cons (pe_ix i_x (pv 0) pe_int (fun _ _ => rfl)) (pa_cons (pe_ty rfl T.b_tuple (by decide +kernel)) pa_nil))))) (pw_or1 (pt_not (pt_tru (pe_callB c_isi (by rfl) T.b_isinstance (by decide +kernel) (pa_cons (pe_ix i_x (pv 0) pe_int (fun _ _ => rfl)) (pa_cons (pe_ty rfl T.b_tuple (by decide +kernel)) pa_nil)))))))) (pss_one (ps_ret pe_bl)) pss_nil)
    (pss_one (ps_ret (pe_callB (c_all rfl) (by rfl) T.b_all (by decide +kernel) (pa_cons (pe_lc (own := [("arm", 1)]) (g := (gName 1)) (tt := tYes) rfl sc_has_parts.nd (pi_any (pe_ix i_x (pv 0) pe_int (fun _ _ => rfl))) (blkOk_by (own := [("arm", 1)]) (N := n_has_parts) (sc := defScope s_has_parts) (by first | decide +kernel | rfl)) (fun _ _ _ _ _ => pg_name (i := 1) sc_has_parts.nd rfl (Or.inl rfl)) (fun _ _ _ _ _ => pts_nil) (fun _ _ _ _ _ => (pe_and (pe_callB c_isi (by rfl) T.b_isinstance (by decide +kernel) (pa_cons (pv 1) (pa_cons (pe_ty rfl T.b_tuple (by decide +kernel)) pa_nil))) (pe_one (pe_cmpR (o_eq hr.units) (pe_callB c_len (by rfl) T.b_len (by decide +kernel) (pa_cons (pv 1) pa_nil)) pe_int (nomark _)))))) pa_nil))))))
theorem okr_bare_expression (T : Txt K mg) (O_has_parts : OkF P w K mg base 2 "has_parts" ["value"] (sp_has_parts K)) : ∀ n, OkF P w K mg base (3 + n) "bare_expression" ["expression"] (spr_bare_expression n K) := by
  intro n
  obtain ⟨fd, F⟩ := T.F_bare_expression
  induction n with
  | zero => exact ⟨_, fd, T.g_bare_expression, (F.ok (k := 2) sc_bare_expression (fun vs H Q E h => (no_bare_expression h).elim) (fun cdv A outer s H vs Q E hr h => (no_bare_expression h).elim)), FunD.bindsN F fun _ _ _ _ _ _ us hl => match us, hl with | [_], _ => rfl, F.kp⟩
  | succ n O_bare_expression =>
    refine ⟨_, fd, T.g_bare_expression, F.ok (k := 3 + n) sc_bare_expression (fun vs H Q E h => len_bare_expression h) (fun cdv A outer s H vs Q E hr h => ⟨t_bare_expression K (spr_bare_expression n), PSs.nox ?_, rd_bare_expression h⟩), FunD.bindsN F fun _ _ _ _ _ _ us hl => match us, hl with | [_], _ => rfl, F.kp⟩
    exact (pss_c (ps_if (pt_not (pt_tru (pe_fn O_has_parts (hr.mono (by omega)) rfl (pa_cons (pv 0) pa_nil)))) (pss_one (ps_ret (pv 0))) pss_nil)
    (pss_c (ps_asg (pv 0) (pg_tup rfl (pgs_cons (pg_name (i := 1) sc_bare_expression.nd rfl (Or.inl rfl)) (pgs_cons (pg_name (i := 2) sc_bare_expression.nd rfl (Or.inl rfl)) (pgs_cons (pg_name (i := 3) sc_bare_expression.nd rfl (Or.inl rfl)) (pgs_cons (pg_name (i := 4) sc_bare_expression.nd rfl (Or.inl rfl)) (pgs_cons (pg_name (i := 5) sc_bare_expression.nd rfl (Or.inl rfl)) pgs_nil)))))))
    (pss_c (ps_set (i := 6) sc_bare_expression.nd rfl (Or.inl rfl) (pe_callTy c_tuple (by rfl) T.b_tuple (by decide +kernel) (pa_cons (pe_lc (own := [("kid", 8)]) (g := (gName 8)) (tt := tYes) rfl sc_bare_expression.nd (pi_any (pv 4)) (blkOk_by (own := [("kid", 8)]) (N := n_bare_expression) (sc := defScope s_bare_expression) (by first | decide +kernel | rfl)) (fun _ _ _ _ _ => pg_name (i := 8) sc_bare_expression.nd rfl (Or.inl rfl)) (fun _ _ _ _ _ => pts_nil) (fun _ _ _ _ _ => (pe_fn O_bare_expression (hr.mono (by omega)) rfl (pa_cons (pv 8) pa_nil)))) pa_nil)))
    (pss_c (ps_set (i := 7) sc_bare_expression.nd rfl (Or.inl rfl) (pe_callTy c_tuple (by rfl) T.b_tuple (by decide +kernel) (pa_cons (pe_lc (own := [("name", 9), ("variables", 10), ("body", 11)]) (g := (gTup K 3 (gCons (gName 9) (gCons (gName 10) (gCons (gName 11) gNil))))) (tt := tYes) rfl sc_bare_expression.nd (pi_any (pv 5)) (blkOk_by (own := [("name", 9), ("variables", 10), ("body", 11)]) (N := n_bare_expression) (sc := defScope s_bare_expression) (by first | decide +kernel | rfl)) (fun _ _ _ _ _ => (pg_tup rfl (pgs_cons (pg_name (i := 9) sc_bare_expression.nd rfl (Or.inl rfl)) (pgs_cons (pg_name (i := 10) sc_bare_expression.nd rfl (Or.inl rfl)) (pgs_cons (pg_name (i := 11) sc_bare_expression.nd rfl (Or.inl rfl)) pgs_nil))))) (fun _ _ _ _ _ => pts_nil) (fun _ _ _ _ _ => (pe_tup (pa_cons (pv 9) (pa_cons (pv 10) (pa_cons (pe_fn O_bare_expression (hr.mono (by omega)) rfl (pa_cons (pv 11) pa_nil)) pa_nil)))))) pa_nil)))
    (pss_one (ps_ret (pe_tup (pa_cons (pv 1) (pa_cons pe_int (pa_cons (pv 3) (pa_cons (pv 6) (pa_cons (pv 7) pa_nil))))))))))))
theorem ok_bare_expression (T : Txt K mg) (O_has_parts : OkF P w K mg base 2 "has_parts" ["value"] (sp_has_parts K)) : OkF P w K mg base 11 "bare_expression" ["expression"] (sp_bare_expression K) := okr_bare_expression T O_has_parts 8
theorem ok_bare_function (T : Txt K mg) (O_is_integer : OkF P w K mg base 1 "is_integer" ["value"] (sp_is_integer K)) (O_bare_expression : OkF P w K mg base 11 "bare_expression" ["expression"] (sp_bare_expression K)) : OkF P w K mg base 13 "bare_function" ["function"] (sp_bare_function K) := by
  obtain ⟨fd, F⟩ := T.F_bare_function
  refine ⟨_, fd, T.g_bare_function, F.ok sc_bare_function (fun vs H Q E h => len_bare_function h) (fun cdv A outer s H vs Q E hr h => ⟨t_bare_function K, PSs.nox ?_, rd_bare_function h⟩), FunD.bindsN F fun _ _ _ _ _ _ us hl => match us, hl with | [_], _ => rfl, F.kp⟩
  exact (pss_c (ps_if (PW.pt (pw_or (pt_not (pt_tru (pe_callB c_isi (by rfl) T.b_isinstance (by decide +kernel) (pa_cons (pv 0) (pa_cons (pe_ty rfl T.b_tuple (by decide +kernel)) pa_nil))))) (pw_or (pt_cmpR (o_ne hr.units) (pe_callB c_len (by rfl) T.b_len (by decide +kernel) (pa_cons (pv 0) pa_nil)) pe_int (nomark _)) (pw_or1 (pt_not (pt_tru (pe_fn O_is_integer (hr.mono (by omega)) rfl (pa_cons (pe_ix i_x (pv 0) pe_int (fun _ _ => rfl)) pa_nil)))))))) (pss_one (ps_ret (pv 0))) pss_nil)
    (pss_c (ps_asg (pv 0) (pg_tup rfl (pgs_cons (pg_name (i := 1) sc_bare_function.nd rfl (Or.inl rfl)) (pgs_cons (pg_name (i := 2) sc_bare_function.nd rfl (Or.inl rfl)) (pgs_cons (pg_name (i := 3) sc_bare_function.nd rfl (Or.inl rfl)) (pgs_cons (pg_name (i := 4) sc_bare_function.nd rfl (Or.inl rfl)) (pgs_cons (pg_name (i := 5) sc_bare_function.nd rfl (Or.inl rfl)) pgs_nil)))))))
    (pss_one (ps_ret (pe_tup (pa_cons (pv 1) (pa_cons pe_int (pa_cons (pv 3) (pa_cons (pv 4) (pa_cons (pe_fn O_bare_expression (hr.mono (by omega)) rfl (pa_cons (pv 5) pa_nil)) pa_nil))))))))))
theorem ok_bare_tree (T : Txt K mg) (O_bare_function : OkF P w K mg base 13 "bare_function" ["function"] (sp_bare_function K)) : OkF P w K mg base 14 "bare_tree" ["tree"] (sp_bare_tree K) := by
  obtain ⟨fd, F⟩ := T.F_bare_tree
  refine ⟨_, fd, T.g_bare_tree, F.ok sc_bare_tree (fun vs H Q E h => len_bare_tree h) (fun cdv A outer s H vs Q E hr h => ⟨t_bare_tree K, PSs.nox ?_, rd_bare_tree h⟩), FunD.bindsN F fun _ _ _ _ _ _ us hl => match us, hl with | [_], _ => rfl, F.kp⟩
  exact (pss_c (ps_if (PW.pt (pw_or (pt_not (pt_tru (pe_callB c_isi (by rfl) T.b_isinstance (by decide +kernel) (pa_cons (pv 0) (pa_cons (pe_ty rfl T.b_tuple (by decide +kernel)) pa_nil))))) (pw_or (pt_cmpR (o_ne hr.units) (pe_callB c_len (by rfl) T.b_len (by decide +kernel) (pa_cons (pv 0) pa_nil)) pe_int (nomark _)) (pw_or1 (pt_not (pt_tru (pe_callB c_isi (by rfl) T.b_isinstance (by decide +kernel) (pa_cons (pe_ix i_x (pv 0) pe_int (fun _ _ => rfl)) (pa_cons (pe_ty rfl T.b_tuple (by decide +kernel)) pa_nil))))))))) (pss_one (ps_ret (pv 0))) pss_nil)
    (pss_c (ps_asg (pv 0) (pg_tup rfl (pgs_cons (pg_name (i := 1) sc_bare_tree.nd rfl (Or.inl rfl)) (pgs_cons (pg_name (i := 2) sc_bare_tree.nd rfl (Or.inl rfl)) (pgs_cons (pg_name (i := 3) sc_bare_tree.nd rfl (Or.inl rfl)) pgs_nil)))))
    (pss_one (ps_ret (pe_tup (pa_cons (pv 1) (pa_cons (pv 2) (pa_cons (pe_callTy c_tuple (by rfl) T.b_tuple (by decide +kernel) (pa_cons (pe_lc (own := [("function", 4)]) (g := (gName 4)) (tt := tYes) rfl sc_bare_tree.nd (pi_any (pv 3)) (blkOk_by (own := [("function", 4)]) (N := n_bare_tree) (sc := defScope s_bare_tree) (by first | decide +kernel | rfl)) (fun _ _ _ _ _ => pg_name (i := 4) sc_bare_tree.nd rfl (Or.inl rfl)) (fun _ _ _ _ _ => pts_nil) (fun _ _ _ _ _ => (pe_fn O_bare_function (hr.mono (by omega)) rfl (pa_cons (pv 4) pa_nil)))) pa_nil)) pa_nil))))))))
theorem ok_same_tree (T : Txt K mg) (O_bare_tree : OkF P w K mg base 14 "bare_tree" ["tree"] (sp_bare_tree K)) : OkF P w K mg base 15 "same_tree" ["first", "second"] (sp_same_tree K) := by
  obtain ⟨fd, F⟩ := T.F_same_tree
  refine ⟨_, fd, T.g_same_tree, F.ok sc_same_tree (fun vs H Q E h => len_same_tree h) (fun cdv A outer s H vs Q E hr h => ⟨t_same_tree K, PSs.nox ?_, rd_same_tree h⟩), FunD.bindsN F fun _ _ _ _ _ _ us hl => match us, hl with | [_, _], _ => rfl, F.kp⟩
  exact (pss_one (ps_ret (pe_cmpR (o_eq hr.units) (pe_fn O_bare_tree (hr.mono (by omega)) rfl (pa_cons (pv 0) pa_nil)) (pe_fn O_bare_tree (hr.mono (by omega)) rfl (pa_cons (pv 1) pa_nil)) (nomark _))))
theorem ok_l_start (T : Txt K mg)  : OkF P w K mg base 1 "_law_start" ["_law_script"] (sp_l_start K) := by
  obtain ⟨fd, F⟩ := T.F_l_start
  refine ⟨_, fd, T.g_l_start, F.ok sc_l_start (fun vs H Q E h => len_l_start h) (fun cdv A outer s H vs Q E hr h => ⟨t_l_start K, PSs.nox ?_, rd_l_start h⟩), FunD.bindsN F fun _ _ _ _ _ _ us hl => match us, hl with | [_], _ => rfl, F.kp⟩
  exact (pss_c (ps_set (i := 1) sc_l_start.nd rfl (Or.inl rfl) pe_int)
    (pss_c (ps_for PassesOwn.never rfl (pi_any (pv 0)) (pg_name (i := 2) sc_l_start.nd rfl (Or.inl rfl)) (pss_one (ps_set (i := 1) sc_l_start.nd rfl (Or.inl rfl) (pe_op o_add (pe_op o_mod (pe_callTy c_int (by rfl) T.b_int (by decide +kernel) (pa_cons (pe_op o_add (pe_op o_mul (pv 1) pe_int) (pv 2)) pa_nil)) pe_int) pe_int))))
    (pss_one (ps_ret (pe_lst (pa_cons (pe_callTy c_list (by rfl) T.b_list (by decide +kernel) (pa_cons (pv 0) pa_nil)) (pa_cons pe_int (pa_cons pe_int (pa_cons (pv 1) pa_nil)))))))))
theorem ok_l_draw (T : Txt K mg)  : OkF P w K mg base 1 "_law_draw" ["_law_state", "_law_many"] (sp_l_draw K) := by
  obtain ⟨fd, F⟩ := T.F_l_draw
  refine ⟨_, fd, T.g_l_draw, F.ok sc_l_draw (fun vs H Q E h => len_l_draw h) (fun cdv A outer s H vs Q E hr h => ⟨t_l_draw K, PSs.nox ?_, rd_l_draw h⟩), FunD.bindsN F fun _ _ _ _ _ _ us hl => match us, hl with | [_, _], _ => rfl, F.kp⟩
  exact (pss_c (ps_if (PW.pt (pw_and (pt_cmpR (o_eq hr.units) (pe_ix i_x (pv 0) pe_int (fun _ _ => rfl)) pe_int (nomark _)) (pw_and1 (pt_cmpR o_ge (pe_ix i_x (pv 0) pe_int (fun _ _ => rfl)) (pe_callB c_len (by rfl) T.b_len (by decide +kernel) (pa_cons (pe_ix i_x (pv 0) pe_int (fun _ _ => rfl)) pa_nil)) (nomark _))))) (pss_c (ps_asg (pe_op o_mod (pe_callTy c_int (by rfl) T.b_int (by decide +kernel) (pa_cons (pe_op o_add (pe_op o_mul (pe_ix i_x (pv 0) pe_int (fun _ _ => rfl)) pe_int) pe_int) pa_nil)) pe_int) (pg_sub (pv 0) pe_int p_list))
    (pss_one (ps_ret (pe_op o_mod (pe_callTy c_int (by rfl) T.b_int (by decide +kernel) (pa_cons (pe_op o_fdiv (pe_ix i_x (pv 0) pe_int (fun _ _ => rfl)) pe_int) pa_nil)) (pv 1))))) pss_nil)
    (pss_c (ps_if (pt_cmpR (o_eq hr.units) (pe_ix i_x (pv 0) pe_int (fun _ _ => rfl)) pe_int (nomark _)) (pss_c (ps_asg (pe_callB c_abs (by rfl) T.b_abs (by decide +kernel) (pa_cons (pe_ix i_x (pe_ix i_x (pv 0) pe_int (fun _ _ => rfl)) (pe_ix i_x (pv 0) pe_int (fun _ _ => rfl)) (fun _ _ => rfl)) pa_nil)) (pg_sub (pv 0) pe_int p_list))
    (pss_one (ps_augS (pv 0) pe_int g_list pe_int a_add p_list))) pss_nil)
    (pss_c (ps_set (i := 2) sc_l_draw.nd rfl (Or.inl rfl) (pe_op o_mod (pe_callTy c_int (by rfl) T.b_int (by decide +kernel) (pa_cons (pe_ix i_x (pv 0) pe_int (fun _ _ => rfl)) pa_nil)) (pv 1)))
    (pss_c (ps_asg (pe_op o_fdiv (pe_ix i_x (pv 0) pe_int (fun _ _ => rfl)) (pv 1)) (pg_sub (pv 0) pe_int p_list))
    (pss_one (ps_ret (pv 2)))))))
theorem ok_l_reserved (T : Txt K mg)  : OkF P w K mg base 1 "_law_reserved" [] (sp_l_reserved K) := by
  obtain ⟨fd, F⟩ := T.F_l_reserved
  refine ⟨_, fd, T.g_l_reserved, F.ok sc_l_reserved (fun vs H Q E h => len_l_reserved h) (fun cdv A outer s H vs Q E hr h => ⟨t_l_reserved K, PSs.nox ?_, rd_l_reserved h⟩), FunD.bindsN F fun _ _ _ _ _ _ us hl => match us, hl with | [], _ => rfl, F.kp⟩
  exact (pss_c (ps_set (i := 0) sc_l_reserved.nd rfl (Or.inl rfl) pe_str)
    (pss_c (ps_set (i := 0) sc_l_reserved.nd rfl (Or.inl rfl) (pe_op o_add (pv 0) pe_str))
    (pss_one (ps_ret (pe_bm PySem.F.plainAttrs_str PySem.F.slot_str_split PySem.F.type_str_split m_split (pv 0) (pa_cons pe_str pa_nil))))))
theorem ok_l_name (T : Txt K mg) (O_l_draw : OkF P w K mg base 1 "_law_draw" ["_law_state", "_law_many"] (sp_l_draw K)) (O_l_reserved : OkF P w K mg base 1 "_law_reserved" [] (sp_l_reserved K)) : OkF P w K mg base 2 "_law_name" ["_law_state", "_law_great"] (sp_l_name K) := by
  obtain ⟨fd, F⟩ := T.F_l_name
  refine ⟨_, fd, T.g_l_name, F.ok sc_l_name (fun vs H Q E h => len_l_name h) (fun cdv A outer s H vs Q E hr h => ⟨t_l_name K, PSs.nox ?_, rd_l_name h⟩), FunD.bindsN F fun _ _ _ _ _ _ us hl => match us, hl with | [_, _], _ => rfl, F.kp⟩
  exact (pss_c (ps_set (i := 2) sc_l_name.nd rfl (Or.inl rfl) pe_str)
    (pss_c (ps_set (i := 3) sc_l_name.nd rfl (Or.inr rfl) (pe_op o_add (pv 2) pe_str))
    (pss_c (ps_set (i := 4) sc_l_name.nd rfl (Or.inl rfl) (pe_ix i_x (pv 2) (pe_fn O_l_draw (hr.mono (by omega)) rfl (pa_cons (pv 0) (pa_cons pe_int pa_nil))) (fun _ _ => rfl)))
    (pss_c (ps_set (i := 5) sc_l_name.nd rfl (Or.inl rfl) (pe_fn O_l_draw (hr.mono (by omega)) rfl (pa_cons (pv 0) (pa_cons pe_int pa_nil))))
    (pss_c (ps_if (pt_cmpR (o_eq hr.units) (pe_fn O_l_draw (hr.mono (by omega)) rfl (pa_cons (pv 0) (pa_cons pe_int pa_nil))) pe_int (nomark _)) (pss_one (ps_set (i := 5) sc_l_name.nd rfl (Or.inl rfl) (pe_fn O_l_draw (hr.mono (by omega)) rfl (pa_cons (pv 0) (pa_cons pe_int pa_nil))))) pss_nil)
    (pss_c (ps_if (pt_tru (pv 1)) (pss_c (ps_set (i := 3) sc_l_name.nd rfl (Or.inr rfl) (pe_op o_add (pv 3) (pe_bm0 PySem.F.plainAttrs_str PySem.F.slot_str_upper PySem.F.type_str_upper m_upper (pv 2))))
    (pss_one (ps_set (i := 4) sc_l_name.nd rfl (Or.inl rfl) (pe_bm0 PySem.F.plainAttrs_str PySem.F.slot_str_upper PySem.F.type_str_upper m_upper (pv 4))))) pss_nil)
    (pss_c (ps_set (i := 6) sc_l_name.nd rfl (Or.inl rfl) (pe_op o_add (pv 4) (pe_bm PySem.F.plainAttrs_str PySem.F.slot_str_join PySem.F.type_str_join m_join pe_str (pa_cons (pe_lc (own := [("_law_k", 7)]) (g := (gName 7)) (tt := tYes) rfl sc_l_name.nd (pi_range1 rfl T.b_range (pa_cons (pv 5) pa_nil)) (blkOk_by (own := [("_law_k", 7)]) (N := n_l_name) (sc := defScope s_l_name) (by first | decide +kernel | rfl)) (fun _ _ _ _ _ => pg_name (i := 7) sc_l_name.nd rfl (Or.inl rfl)) (fun _ _ _ _ _ => pts_nil) (fun _ _ _ _ _ => (pe_ix i_x (pv 3) (pe_fn O_l_draw (hr.mono (by omega)) rfl (pa_cons (pv 0) (pa_cons (pe_callB c_len (by rfl) T.b_len (by decide +kernel) (pa_cons (pv 3) pa_nil)) pa_nil))) (fun _ _ => rfl)))) pa_nil))))
    (pss_c (ps_if (pt_cmpR o_in (pv 6) (pe_fn0 O_l_reserved (hr.mono (by omega)) rfl) (by rfl)) (pss_one (ps_ret (pe_op o_add (pv 6) pe_str))) pss_nil)
    (pss_one (ps_ret (pv 6)))))))))))
theorem ok_l_fresh (T : Txt K mg) (O_l_name : OkF P w K mg base 2 "_law_name" ["_law_state", "_law_great"] (sp_l_name K)) : OkF P w K mg base 3 "_law_fresh" ["_law_state", "_law_great", "_law_taken"] (sp_l_fresh K) := by
  obtain ⟨fd, F⟩ := T.F_l_fresh
  refine ⟨_, fd, T.g_l_fresh, F.ok sc_l_fresh (fun vs H Q E h => len_l_fresh h) (fun cdv A outer s H vs Q E hr h => ⟨t_l_fresh K, PSs.nox ?_, rd_l_fresh h⟩), FunD.bindsN F fun _ _ _ _ _ _ us hl => match us, hl with | [_, _, _], _ => rfl, F.kp⟩
  exact (pss_c (ps_set (i := 3) sc_l_fresh.nd rfl (Or.inl rfl) (pe_fn O_l_name (hr.mono (by omega)) rfl (pa_cons (pv 0) (pa_cons (pv 1) pa_nil))))
    (pss_c (ps_for PassesOwn.never rfl (pi_range1 rfl T.b_range (pa_cons pe_int pa_nil)) (pg_name (i := 4) sc_l_fresh.nd rfl (Or.inl rfl)) (pss_one (ps_if (pt_cmpR o_in (pv 3) (pv 2) (by rfl)) (pss_one (ps_set (i := 3) sc_l_fresh.nd rfl (Or.inl rfl) (pe_op o_add (pe_slice s_l (pv 3) po_none (po_some pe_int)) (pe_callTy c_str (by rfl) T.b_str (by decide +kernel) (pa_cons (pv 4) pa_nil))))) pss_nil)))
    (pss_c (ps_expr (pe_bm PySem.F.plainAttrs_list PySem.F.slot_list_append PySem.F.type_list_append m_append (pv 2) (pa_cons (pv 3) pa_nil)))
    (pss_one (ps_ret (pv 3))))))
theorem okr_l_kind (T : Txt K mg) (O_l_draw : OkF P w K mg base 1 "_law_draw" ["_law_state", "_law_many"] (sp_l_draw K)) (O_l_name : OkF P w K mg base 2 "_law_name" ["_law_state", "_law_great"] (sp_l_name K)) : ∀ n, OkF P w K mg base (3 + n) "_law_kind" ["_law_state", "_law_deep"] (spr_l_kind n K) := by
  intro n
  obtain ⟨fd, F⟩ := T.F_l_kind
  induction n with
  | zero => exact ⟨_, fd, T.g_l_kind, (F.ok (k := 2) sc_l_kind (fun vs H Q E h => (no_l_kind h).elim) (fun cdv A outer s H vs Q E hr h => (no_l_kind h).elim)), FunD.bindsN F fun _ _ _ _ _ _ us hl => match us, hl with | [_, _], _ => rfl, F.kp⟩
  | succ n O_l_kind =>
    refine ⟨_, fd, T.g_l_kind, F.ok (k := 3 + n) sc_l_kind (fun vs H Q E h => len_l_kind h) (fun cdv A outer s H vs Q E hr h => ⟨t_l_kind K (spr_l_kind n), PSs.nox ?_, rd_l_kind h⟩), FunD.bindsN F fun _ _ _ _ _ _ us hl => match us, hl with | [_, _], _ => rfl, F.kp⟩
    exact (pss_c (ps_set (i := 2) sc_l_kind.nd rfl (Or.inl rfl) (pe_fn O_l_draw (hr.mono (by omega)) rfl (pa_cons (pv 0) (pa_cons pe_int pa_nil))))
    (pss_c (ps_if (PW.pt (pw_or (pt_cmpR o_lt (pv 1) pe_int (nomark _)) (pw_or1 (pt_cmpR o_lt (pv 2) pe_int (nomark _))))) (pss_one (ps_ret (pe_tup (pa_cons (pe_ix i_x (pe_lst (pa_cons pe_str (pa_cons pe_str (pa_cons pe_str pa_nil)))) (pe_op o_mod (pv 2) pe_int) (fun _ _ => rfl)) (pa_cons (pe_tup pa_nil) (pa_cons pe_int pa_nil)))))) pss_nil)
    (pss_c (ps_if (pt_cmpR (o_eq hr.units) (pv 2) pe_int (nomark _)) (pss_one (ps_ret (pe_tup (pa_cons pe_str (pa_cons (pe_fn O_l_name (hr.mono (by omega)) rfl (pa_cons (pv 0) (pa_cons pe_bl pa_nil))) (pa_cons pe_int pa_nil)))))) pss_nil)
    (pss_c (ps_if (pt_cmpR (o_eq hr.units) (pv 2) pe_int (nomark _)) (pss_one (ps_ret (pe_tup (pa_cons pe_str (pa_cons (pe_callTy c_tuple (by rfl) T.b_tuple (by decide +kernel) (pa_cons (pe_lc (own := [("_law_k", 3)]) (g := (gName 3)) (tt := tYes) rfl sc_l_kind.nd (pi_range1 rfl T.b_range (pa_cons (pe_op o_add pe_int (pe_fn O_l_draw (hr.mono (by omega)) rfl (pa_cons (pv 0) (pa_cons pe_int pa_nil)))) pa_nil)) (blkOk_by (own := [("_law_k", 3)]) (N := n_l_kind) (sc := defScope s_l_kind) (by first | decide +kernel | rfl)) (fun _ _ _ _ _ => pg_name (i := 3) sc_l_kind.nd rfl (Or.inl rfl)) (fun _ _ _ _ _ => pts_nil) (fun _ _ _ _ _ => (pe_fn O_l_kind (hr.mono (by omega)) rfl (pa_cons (pv 0) (pa_cons (pe_op o_sub (pv 1) pe_int) pa_nil))))) pa_nil)) (pa_cons pe_int pa_nil)))))) pss_nil)
    (pss_c (ps_if (pt_cmpR (o_eq hr.units) (pv 2) pe_int (nomark _)) (pss_one (ps_ret (pe_tup (pa_cons pe_str (pa_cons (pe_tup (pa_cons (pe_fn O_l_kind (hr.mono (by omega)) rfl (pa_cons (pv 0) (pa_cons (pe_op o_sub (pv 1) pe_int) pa_nil))) (pa_cons (pe_fn O_l_kind (hr.mono (by omega)) rfl (pa_cons (pv 0) (pa_cons (pe_op o_sub (pv 1) pe_int) pa_nil))) pa_nil))) (pa_cons pe_int pa_nil)))))) pss_nil)
    (pss_one (ps_ret (pe_tup (pa_cons (pe_ix i_x (pe_lst (pa_cons pe_str (pa_cons pe_str pa_nil))) (pe_op o_mod (pv 2) pe_int) (fun _ _ => rfl)) (pa_cons (pe_tup (pa_cons (pe_fn O_l_kind (hr.mono (by omega)) rfl (pa_cons (pv 0) (pa_cons (pe_op o_sub (pv 1) pe_int) pa_nil))) pa_nil)) (pa_cons pe_int pa_nil)))))))))))
theorem ok_l_kind (T : Txt K mg) (O_l_draw : OkF P w K mg base 1 "_law_draw" ["_law_state", "_law_many"] (sp_l_draw K)) (O_l_name : OkF P w K mg base 2 "_law_name" ["_law_state", "_law_great"] (sp_l_name K)) : OkF P w K mg base 6 "_law_kind" ["_law_state", "_law_deep"] (sp_l_kind K) := okr_l_kind T O_l_draw O_l_name 3
theorem ok_l_exception (T : Txt K mg) (O_l_draw : OkF P w K mg base 1 "_law_draw" ["_law_state", "_law_many"] (sp_l_draw K)) (O_l_name : OkF P w K mg base 2 "_law_name" ["_law_state", "_law_great"] (sp_l_name K)) : OkF P w K mg base 3 "_law_exception" ["_law_state"] (sp_l_exception K) := by
  obtain ⟨fd, F⟩ := T.F_l_exception
  refine ⟨_, fd, T.g_l_exception, F.ok sc_l_exception (fun vs H Q E h => len_l_exception h) (fun cdv A outer s H vs Q E hr h => ⟨t_l_exception K, PSs.nox ?_, rd_l_exception h⟩), FunD.bindsN F fun _ _ _ _ _ _ us hl => match us, hl with | [_], _ => rfl, F.kp⟩
  exact (pss_c (ps_set (i := 1) sc_l_exception.nd rfl (Or.inl rfl) (pe_fn O_l_draw (hr.mono (by omega)) rfl (pa_cons (pv 0) (pa_cons pe_int pa_nil))))
    (pss_c (ps_if (pt_cmpR o_lt (pv 1) pe_int (nomark _)) (pss_one (ps_ret (pe_ix i_x (pe_lst (pa_cons pe_str (pa_cons pe_str (pa_cons pe_str pa_nil)))) (pv 1) (fun _ _ => rfl)))) pss_nil)
    (pss_one (ps_ret (pe_fn O_l_name (hr.mono (by omega)) rfl (pa_cons (pv 0) (pa_cons pe_bl pa_nil)))))))
theorem ok_l_leaf (T : Txt K mg) (O_l_draw : OkF P w K mg base 1 "_law_draw" ["_law_state", "_law_many"] (sp_l_draw K)) (O_l_name : OkF P w K mg base 2 "_law_name" ["_law_state", "_law_great"] (sp_l_name K)) : OkF P w K mg base 3 "_law_leaf" ["_law_state"] (sp_l_leaf K) := by
  obtain ⟨fd, F⟩ := T.F_l_leaf
  refine ⟨_, fd, T.g_l_leaf, F.ok sc_l_leaf (fun vs H Q E h => len_l_leaf h) (fun cdv A outer s H vs Q E hr h => ⟨t_l_leaf K, PSs.nox ?_, rd_l_leaf h⟩), FunD.bindsN F fun _ _ _ _ _ _ us hl => match us, hl with | [_], _ => rfl, F.kp⟩
  exact (pss_c (ps_set (i := 1) sc_l_leaf.nd rfl (Or.inl rfl) (pe_fn O_l_draw (hr.mono (by omega)) rfl (pa_cons (pv 0) (pa_cons pe_int pa_nil))))
    (pss_c (ps_if (pt_cmpR o_lt (pv 1) pe_int (nomark _)) (pss_one (ps_ret (pe_tup (pa_cons pe_str (pa_cons pe_int (pa_cons (pe_ix i_x (pe_lst (pa_cons pe_int (pa_cons pe_int (pa_cons (pe_un u_neg pe_int) (pa_cons pe_int (pa_cons (pe_un u_neg pe_int) (pa_cons pe_int (pa_cons pe_int pa_nil)))))))) (pe_fn O_l_draw (hr.mono (by omega)) rfl (pa_cons (pv 0) (pa_cons pe_int pa_nil))) (fun _ _ => rfl)) (pa_cons (pe_tup pa_nil) (pa_cons (pe_tup pa_nil) pa_nil)))))))) pss_nil)
    (pss_c (ps_if (pt_cmpR (o_eq hr.units) (pv 1) pe_int (nomark _)) (pss_one (ps_ret (pe_tup (pa_cons pe_str (pa_cons pe_int (pa_cons (pe_op o_sub (pe_fn O_l_draw (hr.mono (by omega)) rfl (pa_cons (pv 0) (pa_cons pe_int pa_nil))) pe_int) (pa_cons (pe_tup pa_nil) (pa_cons (pe_tup pa_nil) pa_nil)))))))) pss_nil)
    (pss_c (ps_if (pt_cmpR (o_eq hr.units) (pv 1) pe_int (nomark _)) (pss_one (ps_ret (pe_tup (pa_cons pe_str (pa_cons pe_int (pa_cons (pe_cmpR (o_eq hr.units) (pe_fn O_l_draw (hr.mono (by omega)) rfl (pa_cons (pv 0) (pa_cons pe_int pa_nil))) pe_int (nomark _)) (pa_cons (pe_tup pa_nil) (pa_cons (pe_tup pa_nil) pa_nil)))))))) pss_nil)
    (pss_c (ps_if (pt_cmpR (o_eq hr.units) (pv 1) pe_int (nomark _)) (pss_one (ps_ret (pe_tup (pa_cons pe_str (pa_cons pe_int (pa_cons pe_non (pa_cons (pe_tup pa_nil) (pa_cons (pe_tup pa_nil) pa_nil)))))))) pss_nil)
    (pss_one (ps_ret (pe_tup (pa_cons pe_str (pa_cons pe_int (pa_cons (pe_fn O_l_name (hr.mono (by omega)) rfl (pa_cons (pv 0) (pa_cons pe_bl pa_nil))) (pa_cons (pe_tup pa_nil) (pa_cons (pe_tup pa_nil) pa_nil)))))))))))))
theorem ok_l_counts (T : Txt K mg)  : OkF P w K mg base 1 "_law_counts" [] (sp_l_counts K) := by
  obtain ⟨fd, F⟩ := T.F_l_counts
  refine ⟨_, fd, T.g_l_counts, F.ok sc_l_counts (fun vs H Q E h => len_l_counts h) (fun cdv A outer s H vs Q E hr h => ⟨t_l_counts K, PSs.nox ?_, rd_l_counts h⟩), FunD.bindsN F fun _ _ _ _ _ _ us hl => match us, hl with | [], _ => rfl, F.kp⟩
  exact (pss_one (ps_ret (pe_dispL (kvs := [(.inr "tuple", .int 2), (.inr "get", .int 1), (.inr "let", .int 2), (.inr "if", .int 3), (.inr "fn", .int 1), (.inr "apply", .int 2), (.inr "raise", .int 1), (.inr "ref", .int 1), (.inr "deref", .int 1), (.inr "len", .int 1), (.inr "print", .int 1), (.inr "set", .int 2), (.inr "array", .int 2), (.inr "at", .int 2), (.inr "seq", .int 2), (.inr "put", .int 3), (.inr "add", .int 2), (.inr "sub", .int 2), (.inr "mul", .int 2), (.inr "div", .int 2), (.inr "rem", .int 2), (.inr "equal", .int 2), (.inr "less", .int 2), (.inr "call", .int 0), (.inr "make", .int 0), (.inr "case", .int 1), (.inr "handle", .int 1)]) (.cons pe_str pe_int (.cons pe_str pe_int (.cons pe_str pe_int (.cons pe_str pe_int (.cons pe_str pe_int (.cons pe_str pe_int (.cons pe_str pe_int (.cons pe_str pe_int (.cons pe_str pe_int (.cons pe_str pe_int (.cons pe_str pe_int (.cons pe_str pe_int (.cons pe_str pe_int (.cons pe_str pe_int (.cons pe_str pe_int (.cons pe_str pe_int (.cons pe_str pe_int (.cons pe_str pe_int (.cons pe_str pe_int (.cons pe_str pe_int (.cons pe_str pe_int (.cons pe_str pe_int (.cons pe_str pe_int (.cons pe_str pe_int (.cons pe_str pe_int (.cons pe_str pe_int (.cons pe_str pe_int .nil))))))))))))))))))))))))))) (by decide))))
theorem okg_l_arms (T : Txt K mg) (O_l_draw : OkF P w K mg base 1 "_law_draw" ["_law_state", "_law_many"] (sp_l_draw K)) (O_l_fresh : OkF P w K mg base 3 "_law_fresh" ["_law_state", "_law_great", "_law_taken"] (sp_l_fresh K)) (O_l_name : OkF P w K mg base 2 "_law_name" ["_law_state", "_law_great"] (sp_l_name K)) (O_l_exception : OkF P w K mg base 3 "_law_exception" ["_law_state"] (sp_l_exception K)) (O_l_counts : OkF P w K mg base 1 "_law_counts" [] (sp_l_counts K)) (O_l_leaf : OkF P w K mg base 3 "_law_leaf" ["_law_state"] (sp_l_leaf K)) (O_l_kind : OkF P w K mg base 6 "_law_kind" ["_law_state", "_law_deep"] (sp_l_kind K)) : ∀ n, OkF P w K mg base (8 + n) "_law_arms" ["_law_state", "_law_op", "_law_deep", "_law_room"] (spr_l_arms n K) ∧ OkF P w K mg base (8 + n) "_law_expr" ["_law_state", "_law_deep", "_law_room"] (spr_l_expr n K) := by
  intro n
  obtain ⟨fd_l_arms, F_l_arms⟩ := T.F_l_arms
  obtain ⟨fd_l_expr, F_l_expr⟩ := T.F_l_expr
  induction n with
  | zero => exact ⟨⟨⟨_, fd_l_arms, T.g_l_arms, (F_l_arms.ok (k := 7) sc_l_arms (fun vs H Q E h => (no_l_arms h).elim) (fun cdv A outer s H vs Q E hr h => (no_l_arms h).elim)), FunD.bindsN F_l_arms fun _ _ _ _ _ _ us hl => match us, hl with | [_, _, _, _], _ => rfl, F_l_arms.kp⟩⟩, ⟨⟨_, fd_l_expr, T.g_l_expr, (F_l_expr.ok (k := 7) sc_l_expr (fun vs H Q E h => (no_l_expr h).elim) (fun cdv A outer s H vs Q E hr h => (no_l_expr h).elim)), FunD.bindsN F_l_expr fun _ _ _ _ _ _ us hl => match us, hl with | [_, _, _], _ => rfl, F_l_expr.kp⟩⟩⟩
  | succ n ih =>
    obtain ⟨O_l_arms, O_l_expr⟩ := ih
    refine ⟨⟨⟨_, fd_l_arms, T.g_l_arms, F_l_arms.ok (k := 8 + n) sc_l_arms (fun vs H Q E h => len_l_arms h) (fun cdv A outer s H vs Q E hr h => ⟨t_l_arms K (spr_l_arms n) (spr_l_expr n), PSs.nox ?_, rd_l_arms h⟩), FunD.bindsN F_l_arms fun _ _ _ _ _ _ us hl => match us, hl with | [_, _, _, _], _ => rfl, F_l_arms.kp⟩⟩, ⟨⟨_, fd_l_expr, T.g_l_expr, F_l_expr.ok (k := 8 + n) sc_l_expr (fun vs H Q E h => len_l_expr h) (fun cdv A outer s H vs Q E hr h => ⟨t_l_expr K (spr_l_arms n) (spr_l_expr n), PSs.nox ?_, rd_l_expr h⟩), FunD.bindsN F_l_expr fun _ _ _ _ _ _ us hl => match us, hl with | [_, _, _], _ => rfl, F_l_expr.kp⟩⟩⟩
    · exact (pss_c (ps_set (i := 4) sc_l_arms.nd rfl (Or.inl rfl) (pe_lst pa_nil))
    (pss_c (ps_if (pt_cmpR (o_eq hr.units) (pv 1) pe_str (nomark _)) (pss_one (ps_for PassesOwn.never rfl (pi_range1 rfl T.b_range (pa_cons (pe_op o_add pe_int (pe_fn O_l_draw (hr.mono (by omega)) rfl (pa_cons (pv 0) (pa_cons (pe_ifExp (pt_cmpR (o_eq hr.units) (pe_fn O_l_draw (hr.mono (by omega)) rfl (pa_cons (pv 0) (pa_cons pe_int pa_nil))) pe_int (nomark _)) pe_int pe_int) pa_nil)))) pa_nil)) (pg_name (i := 5) sc_l_arms.nd rfl (Or.inl rfl)) (pss_c (ps_set (i := 6) sc_l_arms.nd rfl (Or.inr rfl) (pe_lst pa_nil))
    (pss_c (ps_set (i := 7) sc_l_arms.nd rfl (Or.inl rfl) (pe_callTy c_tuple (by rfl) T.b_tuple (by decide +kernel) (pa_cons (pe_lc (own := [("_law_j", 8)]) (g := (gName 8)) (tt := tYes) rfl sc_l_arms.nd (pi_range1 rfl T.b_range (pa_cons (pe_fn O_l_draw (hr.mono (by omega)) rfl (pa_cons (pv 0) (pa_cons pe_int pa_nil))) pa_nil)) (blkOk_by (own := [("_law_j", 8)]) (N := n_l_arms) (sc := defScope s_l_arms) (by first | decide +kernel | rfl)) (fun _ _ _ _ _ => pg_name (i := 8) sc_l_arms.nd rfl (Or.inl rfl)) (fun _ _ _ _ _ => pts_nil) (fun _ _ _ _ _ => (pe_fn O_l_fresh (hr.mono (by omega)) rfl (pa_cons (pv 0) (pa_cons pe_bl (pa_cons (pv 6) pa_nil)))))) pa_nil)))
    (pss_one (ps_expr (pe_bm PySem.F.plainAttrs_list PySem.F.slot_list_append PySem.F.type_list_append m_append (pv 4) (pa_cons (pe_tup (pa_cons (pe_fn O_l_name (hr.mono (by omega)) rfl (pa_cons (pv 0) (pa_cons pe_bl pa_nil))) (pa_cons (pv 7) (pa_cons (pe_fn O_l_expr (hr.mono (by omega)) rfl (pa_cons (pv 0) (pa_cons (pe_op o_sub (pv 2) pe_int) (pa_cons (pv 3) pa_nil)))) pa_nil)))) pa_nil)))))))) pss_nil)
    (pss_c (ps_if (pt_cmpR (o_eq hr.units) (pv 1) pe_str (nomark _)) (pss_one (ps_for PassesOwn.never rfl (pi_range1 rfl T.b_range (pa_cons (pe_fn O_l_draw (hr.mono (by omega)) rfl (pa_cons (pv 0) (pa_cons (pe_ifExp (pt_cmpR (o_eq hr.units) (pe_fn O_l_draw (hr.mono (by omega)) rfl (pa_cons (pv 0) (pa_cons pe_int pa_nil))) pe_int (nomark _)) pe_int pe_int) pa_nil))) pa_nil)) (pg_name (i := 5) sc_l_arms.nd rfl (Or.inl rfl)) (pss_one (ps_expr (pe_bm PySem.F.plainAttrs_list PySem.F.slot_list_append PySem.F.type_list_append m_append (pv 4) (pa_cons (pe_tup (pa_cons (pe_fn O_l_exception (hr.mono (by omega)) rfl (pa_cons (pv 0) pa_nil)) (pa_cons (pe_tup (pa_cons (pe_fn O_l_name (hr.mono (by omega)) rfl (pa_cons (pv 0) (pa_cons pe_bl pa_nil))) pa_nil)) (pa_cons (pe_fn O_l_expr (hr.mono (by omega)) rfl (pa_cons (pv 0) (pa_cons (pe_op o_sub (pv 2) pe_int) (pa_cons (pv 3) pa_nil)))) pa_nil)))) pa_nil)))))) pss_nil)
    (pss_one (ps_ret (pe_callTy c_tuple (by rfl) T.b_tuple (by decide +kernel) (pa_cons (pv 4) pa_nil)))))))
    · exact (pss_c (ps_augS (pv 2) pe_int g_list pe_int a_sub p_list)
    (pss_c (ps_set (i := 3) sc_l_expr.nd rfl (Or.inl rfl) (pe_fn0 O_l_counts (hr.mono (by omega)) rfl))
    (pss_c (ps_set (i := 4) sc_l_expr.nd rfl (Or.inl rfl) (pe_callB (c_sortD rfl) (by rfl) T.b_sorted (by decide +kernel) (pa_cons (pv 3) pa_nil)))
    (pss_c (ps_set (i := 5) sc_l_expr.nd rfl (Or.inl rfl) (pe_fn O_l_draw (hr.mono (by omega)) rfl (pa_cons (pv 0) (pa_cons pe_int pa_nil))))
    (pss_c (ps_if (PW.pt (pw_or (pt_cmpR o_lt (pv 1) pe_int (nomark _)) (pw_or (pt_cmpR o_lt (pe_ix i_x (pv 2) pe_int (fun _ _ => rfl)) pe_int (nomark _)) (pw_or1 (pt_cmpR o_ge (pv 5) (pe_callB c_len (by rfl) T.b_len (by decide +kernel) (pa_cons (pv 4) pa_nil)) (nomark _)))))) (pss_one (ps_ret (pe_fn O_l_leaf (hr.mono (by omega)) rfl (pa_cons (pv 0) pa_nil)))) pss_nil)
    (pss_c (ps_set (i := 6) sc_l_expr.nd rfl (Or.inl rfl) (pe_ix i_x (pv 4) (pv 5) (fun _ _ => rfl)))
    (pss_c (ps_set (i := 7) sc_l_expr.nd rfl (Or.inl rfl) (pe_dget (hu_of hr) (pv 3) (pv 6) (fun _ _ => rfl)))
    (pss_c (ps_if (pt_cmpR o_in (pv 6) (pe_tup (pa_cons pe_str (pa_cons pe_str (pa_cons pe_str pa_nil)))) (by rfl)) (pss_one (ps_aug (i := 7) sc_l_expr.nd rfl (Or.inl rfl) (pe_fn O_l_draw (hr.mono (by omega)) rfl (pa_cons (pv 0) (pa_cons (pe_ifExp (pt_cmpR (o_eq hr.units) (pe_fn O_l_draw (hr.mono (by omega)) rfl (pa_cons (pv 0) (pa_cons pe_int pa_nil))) pe_int (nomark _)) (pe_op o_sub pe_int (pv 7)) pe_int) pa_nil))) a_add)) pss_nil)
    (pss_c (ps_set (i := 8) sc_l_expr.nd rfl (Or.inl rfl) pe_non)
    (pss_c (ps_if (PW.pt (pw_or (pt_cmpR (o_eq hr.units) (pv 6) pe_str (nomark _)) (pw_or1 (pt_cmpR (o_eq hr.units) (pv 6) pe_str (nomark _))))) (pss_one (ps_set (i := 8) sc_l_expr.nd rfl (Or.inl rfl) (pe_fn O_l_name (hr.mono (by omega)) rfl (pa_cons (pv 0) (pa_cons pe_bl pa_nil))))) pss_nil)
    (pss_c (ps_if (pt_cmpR (o_eq hr.units) (pv 6) pe_str (nomark _)) (pss_one (ps_set (i := 8) sc_l_expr.nd rfl (Or.inl rfl) (pe_fn O_l_name (hr.mono (by omega)) rfl (pa_cons (pv 0) (pa_cons pe_bl pa_nil))))) pss_nil)
    (pss_c (ps_if (pt_cmpR (o_eq hr.units) (pv 6) pe_str (nomark _)) (pss_one (ps_set (i := 8) sc_l_expr.nd rfl (Or.inl rfl) (pe_fn O_l_draw (hr.mono (by omega)) rfl (pa_cons (pv 0) (pa_cons pe_int pa_nil))))) pss_nil)
    (pss_c (ps_if (pt_cmpR (o_eq hr.units) (pv 6) pe_str (nomark _)) (pss_one (ps_set (i := 8) sc_l_expr.nd rfl (Or.inl rfl) (pe_tup (pa_cons (pe_fn O_l_name (hr.mono (by omega)) rfl (pa_cons (pv 0) (pa_cons pe_bl pa_nil))) (pa_cons (pe_fn O_l_kind (hr.mono (by omega)) rfl (pa_cons (pv 0) (pa_cons pe_int pa_nil))) pa_nil))))) pss_nil)
    (pss_c (ps_if (pt_cmpR (o_eq hr.units) (pv 6) pe_str (nomark _)) (pss_one (ps_set (i := 8) sc_l_expr.nd rfl (Or.inl rfl) (pe_tup (pa_cons (pe_fn O_l_exception (hr.mono (by omega)) rfl (pa_cons (pv 0) pa_nil)) (pa_cons (pe_fn O_l_kind (hr.mono (by omega)) rfl (pa_cons (pv 0) (pa_cons pe_int pa_nil))) pa_nil))))) pss_nil)
    (pss_c (ps_set (i := 9) sc_l_expr.nd rfl (Or.inl rfl) (pe_callTy c_tuple (by rfl) T.b_tuple (by decide +kernel) (pa_cons (pe_lc (own := [("_law_k", 10)]) (g := (gName 10)) (tt := tYes) rfl sc_l_expr.nd (pi_range1 rfl T.b_range (pa_cons (pv 7) pa_nil)) (blkOk_by (own := [("_law_k", 10)]) (N := n_l_expr) (sc := defScope s_l_expr) (by first | decide +kernel | rfl)) (fun _ _ _ _ _ => pg_name (i := 10) sc_l_expr.nd rfl (Or.inl rfl)) (fun _ _ _ _ _ => pts_nil) (fun _ _ _ _ _ => (pe_fn O_l_expr (hr.mono (by omega)) rfl (pa_cons (pv 0) (pa_cons (pe_op o_sub (pv 1) pe_int) (pa_cons (pv 2) pa_nil)))))) pa_nil)))
    (pss_one (ps_ret (pe_tup (pa_cons (pv 6) (pa_cons pe_int (pa_cons (pv 8) (pa_cons (pv 9) (pa_cons (pe_fn O_l_arms (hr.mono (by omega)) rfl (pa_cons (pv 0) (pa_cons (pv 6) (pa_cons (pv 1) (pa_cons (pv 2) pa_nil))))) pa_nil)))))))))))))))))))))))
theorem ok_l_arms (T : Txt K mg) (O_l_draw : OkF P w K mg base 1 "_law_draw" ["_law_state", "_law_many"] (sp_l_draw K)) (O_l_fresh : OkF P w K mg base 3 "_law_fresh" ["_law_state", "_law_great", "_law_taken"] (sp_l_fresh K)) (O_l_name : OkF P w K mg base 2 "_law_name" ["_law_state", "_law_great"] (sp_l_name K)) (O_l_exception : OkF P w K mg base 3 "_law_exception" ["_law_state"] (sp_l_exception K)) (O_l_counts : OkF P w K mg base 1 "_law_counts" [] (sp_l_counts K)) (O_l_leaf : OkF P w K mg base 3 "_law_leaf" ["_law_state"] (sp_l_leaf K)) (O_l_kind : OkF P w K mg base 6 "_law_kind" ["_law_state", "_law_deep"] (sp_l_kind K)) : OkF P w K mg base 18 "_law_arms" ["_law_state", "_law_op", "_law_deep", "_law_room"] (sp_l_arms K) := (okg_l_arms T O_l_draw O_l_fresh O_l_name O_l_exception O_l_counts O_l_leaf O_l_kind 10).1
theorem ok_l_expr (T : Txt K mg) (O_l_draw : OkF P w K mg base 1 "_law_draw" ["_law_state", "_law_many"] (sp_l_draw K)) (O_l_fresh : OkF P w K mg base 3 "_law_fresh" ["_law_state", "_law_great", "_law_taken"] (sp_l_fresh K)) (O_l_name : OkF P w K mg base 2 "_law_name" ["_law_state", "_law_great"] (sp_l_name K)) (O_l_exception : OkF P w K mg base 3 "_law_exception" ["_law_state"] (sp_l_exception K)) (O_l_counts : OkF P w K mg base 1 "_law_counts" [] (sp_l_counts K)) (O_l_leaf : OkF P w K mg base 3 "_law_leaf" ["_law_state"] (sp_l_leaf K)) (O_l_kind : OkF P w K mg base 6 "_law_kind" ["_law_state", "_law_deep"] (sp_l_kind K)) : OkF P w K mg base 18 "_law_expr" ["_law_state", "_law_deep", "_law_room"] (sp_l_expr K) := (okg_l_arms T O_l_draw O_l_fresh O_l_name O_l_exception O_l_counts O_l_leaf O_l_kind 10).2
theorem ok_l_tree (T : Txt K mg) (O_l_draw : OkF P w K mg base 1 "_law_draw" ["_law_state", "_law_many"] (sp_l_draw K)) (O_l_fresh : OkF P w K mg base 3 "_law_fresh" ["_law_state", "_law_great", "_law_taken"] (sp_l_fresh K)) (O_l_kind : OkF P w K mg base 6 "_law_kind" ["_law_state", "_law_deep"] (sp_l_kind K)) (O_l_expr : OkF P w K mg base 18 "_law_expr" ["_law_state", "_law_deep", "_law_room"] (sp_l_expr K)) : OkF P w K mg base 20 "_law_tree" ["_law_state"] (sp_l_tree K) := by
  obtain ⟨fd, F⟩ := T.F_l_tree
  refine ⟨_, fd, T.g_l_tree, F.ok sc_l_tree (fun vs H Q E h => len_l_tree h) (fun cdv A outer s H vs Q E hr h => ⟨t_l_tree K, PSs.nox ?_, rd_l_tree h⟩), FunD.bindsN F fun _ _ _ _ _ _ us hl => match us, hl with | [_], _ => rfl, F.kp⟩
  exact (pss_c (ps_set (i := 1) sc_l_tree.nd rfl (Or.inl rfl) (pe_lst pa_nil))
    (pss_c (ps_set (i := 2) sc_l_tree.nd rfl (Or.inl rfl) (pe_lst pa_nil))
    (pss_c (ps_set (i := 3) sc_l_tree.nd rfl (Or.inl rfl) (pe_lst (pa_cons pe_str pa_nil)))
    (pss_c (ps_set (i := 4) sc_l_tree.nd rfl (Or.inl rfl) (pe_lst pa_nil))
    (pss_c (ps_for PassesOwn.never rfl (pi_range1 rfl T.b_range (pa_cons (pe_fn O_l_draw (hr.mono (by omega)) rfl (pa_cons (pv 0) (pa_cons pe_int pa_nil))) pa_nil)) (pg_name (i := 5) sc_l_tree.nd rfl (Or.inr rfl)) (pss_c (ps_set (i := 6) sc_l_tree.nd rfl (Or.inl rfl) (pe_fn O_l_fresh (hr.mono (by omega)) rfl (pa_cons (pv 0) (pa_cons pe_bl (pa_cons (pv 1) pa_nil)))))
    (pss_c (ps_set (i := 7) sc_l_tree.nd rfl (Or.inl rfl) (pe_lst pa_nil))
    (pss_c (ps_for PassesOwn.never rfl (pi_range1 rfl T.b_range (pa_cons (pe_op o_add pe_int (pe_fn O_l_draw (hr.mono (by omega)) rfl (pa_cons (pv 0) (pa_cons (pe_ifExp (pt_cmpR (o_eq hr.units) (pe_fn O_l_draw (hr.mono (by omega)) rfl (pa_cons (pv 0) (pa_cons pe_int pa_nil))) pe_int (nomark _)) pe_int pe_int) pa_nil)))) pa_nil)) (pg_name (i := 8) sc_l_tree.nd rfl (Or.inl rfl)) (pss_c (ps_set (i := 9) sc_l_tree.nd rfl (Or.inl rfl) (pe_callTy c_tuple (by rfl) T.b_tuple (by decide +kernel) (pa_cons (pe_lc (own := [("_law_m", 18)]) (g := (gName 18)) (tt := tYes) rfl sc_l_tree.nd (pi_range1 rfl T.b_range (pa_cons (pe_fn O_l_draw (hr.mono (by omega)) rfl (pa_cons (pv 0) (pa_cons (pe_ifExp (pt_cmpR (o_eq hr.units) (pe_fn O_l_draw (hr.mono (by omega)) rfl (pa_cons (pv 0) (pa_cons pe_int pa_nil))) pe_int (nomark _)) pe_int pe_int) pa_nil))) pa_nil)) (blkOk_by (own := [("_law_m", 18)]) (N := n_l_tree) (sc := defScope s_l_tree) (by first | decide +kernel | rfl)) (fun _ _ _ _ _ => pg_name (i := 18) sc_l_tree.nd rfl (Or.inl rfl)) (fun _ _ _ _ _ => pts_nil) (fun _ _ _ _ _ => (pe_fn O_l_kind (hr.mono (by omega)) rfl (pa_cons (pv 0) (pa_cons pe_int pa_nil))))) pa_nil)))
    (pss_one (ps_expr (pe_bm PySem.F.plainAttrs_list PySem.F.slot_list_append PySem.F.type_list_append m_append (pv 7) (pa_cons (pe_tup (pa_cons (pe_fn O_l_fresh (hr.mono (by omega)) rfl (pa_cons (pv 0) (pa_cons pe_bl (pa_cons (pv 2) pa_nil)))) (pa_cons (pv 9) pa_nil))) pa_nil))))))
    (pss_one (ps_expr (pe_bm PySem.F.plainAttrs_list PySem.F.slot_list_append PySem.F.type_list_append m_append (pv 4) (pa_cons (pe_tup (pa_cons (pv 6) (pa_cons (pe_callTy c_tuple (by rfl) T.b_tuple (by decide +kernel) (pa_cons (pv 7) pa_nil)) pa_nil))) pa_nil))))))))
    (pss_c (ps_set (i := 10) sc_l_tree.nd rfl (Or.inl rfl) (pe_lst pa_nil))
    (pss_c (ps_for PassesOwn.never rfl (pi_range1 rfl T.b_range (pa_cons (pe_fn O_l_draw (hr.mono (by omega)) rfl (pa_cons (pv 0) (pa_cons pe_int pa_nil))) pa_nil)) (pg_name (i := 5) sc_l_tree.nd rfl (Or.inr rfl)) (pss_one (ps_expr (pe_fn O_l_fresh (hr.mono (by omega)) rfl (pa_cons (pv 0) (pa_cons pe_bl (pa_cons (pv 10) pa_nil)))))))
    (pss_c (ps_set (i := 11) sc_l_tree.nd rfl (Or.inl rfl) (pe_lst pa_nil))
    (pss_c (ps_set (i := 12) sc_l_tree.nd rfl (Or.inr rfl) (pe_fn O_l_draw (hr.mono (by omega)) rfl (pa_cons (pv 0) (pa_cons pe_int pa_nil))))
    (pss_c (ps_for PassesOwn.never rfl (pi_range1 rfl T.b_range (pa_cons (pe_op o_add (pv 12) pe_int) pa_nil)) (pg_name (i := 5) sc_l_tree.nd rfl (Or.inr rfl)) (pss_c (ps_set (i := 13) sc_l_tree.nd rfl (Or.inr rfl) (pe_lst pa_nil))
    (pss_c (ps_set (i := 6) sc_l_tree.nd rfl (Or.inl rfl) pe_str)
    (pss_c (ps_if (pt_cmpR o_lt (pv 5) (pv 12) (nomark _)) (pss_one (ps_set (i := 6) sc_l_tree.nd rfl (Or.inl rfl) (pe_fn O_l_fresh (hr.mono (by omega)) rfl (pa_cons (pv 0) (pa_cons pe_bl (pa_cons (pv 3) pa_nil)))))) pss_nil)
    (pss_c (ps_setLc (i := 14) (own := [("_law_j", 8)]) (g := (gName 8)) (tt := tYes) rfl sc_l_tree.nd rfl rfl (sw_true rfl rfl rfl (by decide +kernel)) (pi_range1 rfl T.b_range (pa_cons (pe_fn O_l_draw (hr.mono (by omega)) rfl (pa_cons (pv 0) (pa_cons pe_int pa_nil))) pa_nil)) (blkOk_by (own := [("_law_j", 8)]) (N := n_l_tree) (sc := defScope s_l_tree) (by first | decide +kernel | rfl)) (fun _ _ _ _ _ => pg_name (i := 8) sc_l_tree.nd rfl (Or.inl rfl)) (fun _ _ _ _ _ => pts_nil) (fun _ _ _ _ _ => (pe_ifExp (pt_cmpR (o_eq hr.units) (pv 5) (pv 12) (nomark _)) (pe_tup (pa_cons pe_str (pa_cons (pe_tup pa_nil) (pa_cons pe_int pa_nil)))) (pe_fn O_l_kind (hr.mono (by omega)) rfl (pa_cons (pv 0) (pa_cons pe_int pa_nil))))))
    (pss_c (ps_set (i := 15) sc_l_tree.nd rfl (Or.inl rfl) (pe_callTy c_tuple (by rfl) T.b_tuple (by decide +kernel) (pa_cons (pe_lc (own := [("_law_kind_here", 17)]) (g := (gName 17)) (tt := tYes) rfl sc_l_tree.nd (pi_any (pv 14)) (blkOk_by (own := [("_law_kind_here", 17)]) (N := n_l_tree) (sc := defScope s_l_tree) (by first | decide +kernel | rfl)) (fun _ _ _ _ _ => pg_name (i := 17) sc_l_tree.nd rfl (Or.inl rfl)) (fun _ _ _ _ _ => pts_nil) (fun _ _ _ _ _ => (pe_tup (pa_cons (pe_fn O_l_fresh (hr.mono (by omega)) rfl (pa_cons (pv 0) (pa_cons pe_bl (pa_cons (pv 13) pa_nil)))) (pa_cons (pv 17) pa_nil))))) pa_nil)))
    (pss_c (ps_set (i := 16) sc_l_tree.nd rfl (Or.inl rfl) (pe_ifExp (pt_cmpR (o_eq hr.units) (pv 5) (pv 12) (nomark _)) (pe_tup (pa_cons pe_str (pa_cons (pe_tup pa_nil) (pa_cons pe_int pa_nil)))) (pe_fn O_l_kind (hr.mono (by omega)) rfl (pa_cons (pv 0) (pa_cons pe_int pa_nil)))))
    (pss_one (ps_expr (pe_bm PySem.F.plainAttrs_list PySem.F.slot_list_append PySem.F.type_list_append m_append (pv 11) (pa_cons (pe_tup (pa_cons (pv 6) (pa_cons pe_int (pa_cons (pv 15) (pa_cons (pv 16) (pa_cons (pe_fn O_l_expr (hr.mono (by omega)) rfl (pa_cons (pv 0) (pa_cons (pe_op o_add pe_int (pe_fn O_l_draw (hr.mono (by omega)) rfl (pa_cons (pv 0) (pa_cons pe_int pa_nil)))) (pa_cons (pe_lst (pa_cons pe_int pa_nil)) pa_nil)))) pa_nil)))))) pa_nil)))))))))))
    (pss_one (ps_ret (pe_tup (pa_cons (pe_callTy c_tuple (by rfl) T.b_tuple (by decide +kernel) (pa_cons (pv 4) pa_nil)) (pa_cons (pe_op o_add (pe_tup (pa_cons pe_str (pa_cons pe_str (pa_cons pe_str pa_nil)))) (pe_callTy c_tuple (by rfl) T.b_tuple (by decide +kernel) (pa_cons (pv 10) pa_nil))) (pa_cons (pe_callTy c_tuple (by rfl) T.b_tuple (by decide +kernel) (pa_cons (pv 11) pa_nil)) pa_nil))))))))))))))))
theorem okr_l_changed (T : Txt K mg) (O_l_draw : OkF P w K mg base 1 "_law_draw" ["_law_state", "_law_many"] (sp_l_draw K)) : ∀ n, OkF P w K mg base (2 + n) "_law_changed" ["_law_state", "_law_expr_here", "_law_left"] (spr_l_changed n K) := by
  intro n
  obtain ⟨fd, F⟩ := T.F_l_changed
  induction n with
  | zero => exact ⟨_, fd, T.g_l_changed, (F.ok (k := 1) sc_l_changed (fun vs H Q E h => (no_l_changed h).elim) (fun cdv A outer s H vs Q E hr h => (no_l_changed h).elim)), FunD.bindsN F fun _ _ _ _ _ _ us hl => match us, hl with | [_, _, _], _ => rfl, F.kp⟩
  | succ n O_l_changed =>
    refine ⟨_, fd, T.g_l_changed, F.ok (k := 2 + n) sc_l_changed (fun vs H Q E h => len_l_changed h) (fun cdv A outer s H vs Q E hr h => ⟨t_l_changed K (spr_l_changed n), PSs.nox ?_, rd_l_changed h⟩), FunD.bindsN F fun _ _ _ _ _ _ us hl => match us, hl with | [_, _, _], _ => rfl, F.kp⟩
    exact (pss_c (ps_asg (pv 1) (pg_tup rfl (pgs_cons (pg_name (i := 3) sc_l_changed.nd rfl (Or.inl rfl)) (pgs_cons (pg_name (i := 4) sc_l_changed.nd rfl (Or.inl rfl)) (pgs_cons (pg_name (i := 5) sc_l_changed.nd rfl (Or.inl rfl)) (pgs_cons (pg_name (i := 6) sc_l_changed.nd rfl (Or.inl rfl)) (pgs_cons (pg_name (i := 7) sc_l_changed.nd rfl (Or.inl rfl)) pgs_nil)))))))
    (pss_c (ps_augS (pv 2) pe_int g_list pe_int a_sub p_list)
    (pss_c (ps_if (pt_cmpR (o_eq hr.units) (pe_ix i_x (pv 2) pe_int (fun _ _ => rfl)) pe_int (nomark _)) (pss_c (ps_set (i := 8) sc_l_changed.nd rfl (Or.inl rfl) (pe_fn O_l_draw (hr.mono (by omega)) rfl (pa_cons (pv 0) (pa_cons pe_int pa_nil))))
    (pss_one (ps_if (PW.pt (pw_and (pt_cmpR (o_eq hr.units) (pv 8) pe_int (nomark _)) (pw_and1 (pt_cmpR (o_eq hr.units) (pv 3) pe_str (nomark _))))) (pss_one (ps_set (i := 5) sc_l_changed.nd rfl (Or.inl rfl) (pe_op o_xor (pv 5) pe_int))) (pss_one (ps_if (PW.pt (pw_and (pt_cmpR (o_eq hr.units) (pv 8) pe_int (nomark _)) (pw_and1 (pt_cmpR o_gt (pe_callB c_len (by rfl) T.b_len (by decide +kernel) (pa_cons (pv 6) pa_nil)) pe_int (nomark _))))) (pss_one (ps_set (i := 6) sc_l_changed.nd rfl (Or.inl rfl) (pe_slice s_l (pv 6) po_none (po_some (pe_un u_neg pe_int))))) (pss_one (ps_if (PW.pt (pw_and (pt_cmpR (o_eq hr.units) (pv 8) pe_int (nomark _)) (pw_and1 (pt_tru (pv 7))))) (pss_one (ps_set (i := 7) sc_l_changed.nd rfl (Or.inl rfl) (pe_slice s_l (pv 7) po_none (po_some (pe_un u_neg pe_int))))) (pss_one (ps_ret (pe_tup (pa_cons pe_str (pa_cons pe_int (pa_cons pe_non (pa_cons (pe_tup (pa_cons (pv 1) pa_nil)) (pa_cons (pe_tup pa_nil) pa_nil))))))))))))))) pss_nil)
    (pss_c (ps_set (i := 6) sc_l_changed.nd rfl (Or.inl rfl) (pe_callTy c_tuple (by rfl) T.b_tuple (by decide +kernel) (pa_cons (pe_lc (own := [("_law_kid", 9)]) (g := (gName 9)) (tt := tYes) rfl sc_l_changed.nd (pi_any (pv 6)) (blkOk_by (own := [("_law_kid", 9)]) (N := n_l_changed) (sc := defScope s_l_changed) (by first | decide +kernel | rfl)) (fun _ _ _ _ _ => pg_name (i := 9) sc_l_changed.nd rfl (Or.inl rfl)) (fun _ _ _ _ _ => pts_nil) (fun _ _ _ _ _ => (pe_fn O_l_changed (hr.mono (by omega)) rfl (pa_cons (pv 0) (pa_cons (pv 9) (pa_cons (pv 2) pa_nil)))))) pa_nil)))
    (pss_c (ps_set (i := 7) sc_l_changed.nd rfl (Or.inl rfl) (pe_callTy c_tuple (by rfl) T.b_tuple (by decide +kernel) (pa_cons (pe_lc (own := [("_law_arm", 10)]) (g := (gName 10)) (tt := tYes) rfl sc_l_changed.nd (pi_any (pv 7)) (blkOk_by (own := [("_law_arm", 10)]) (N := n_l_changed) (sc := defScope s_l_changed) (by first | decide +kernel | rfl)) (fun _ _ _ _ _ => pg_name (i := 10) sc_l_changed.nd rfl (Or.inl rfl)) (fun _ _ _ _ _ => pts_nil) (fun _ _ _ _ _ => (pe_tup (pa_cons (pe_ix i_x (pv 10) pe_int (fun _ _ => rfl)) (pa_cons (pe_ix i_x (pv 10) pe_int (fun _ _ => rfl)) (pa_cons (pe_fn O_l_changed (hr.mono (by omega)) rfl (pa_cons (pv 0) (pa_cons (pe_ix i_x (pv 10) pe_int (fun _ _ => rfl)) (pa_cons (pv 2) pa_nil)))) pa_nil)))))) pa_nil)))
    (pss_one (ps_ret (pe_tup (pa_cons (pv 3) (pa_cons (pe_fn O_l_draw (hr.mono (by omega)) rfl (pa_cons (pv 0) (pa_cons pe_int pa_nil))) (pa_cons (pv 5) (pa_cons (pv 6) (pa_cons (pv 7) pa_nil)))))))))))))
theorem ok_l_changed (T : Txt K mg) (O_l_draw : OkF P w K mg base 1 "_law_draw" ["_law_state", "_law_many"] (sp_l_draw K)) : OkF P w K mg base 8 "_law_changed" ["_law_state", "_law_expr_here", "_law_left"] (sp_l_changed K) := okr_l_changed T O_l_draw 6
theorem okf_law (T : Txt K mg) (O_l_start : OkF P w K mg base 1 "_law_start" ["_law_script"] (sp_l_start K)) (O_l_tree : OkF P w K mg base 20 "_law_tree" ["_law_state"] (sp_l_tree K)) (O_l_draw : OkF P w K mg base 1 "_law_draw" ["_law_state", "_law_many"] (sp_l_draw K)) (O_l_changed : OkF P w K mg base 8 "_law_changed" ["_law_state", "_law_expr_here", "_law_left"] (sp_l_changed K)) (O_same_tree : OkF P w K mg base 15 "same_tree" ["first", "second"] (sp_same_tree K)) {fd : FuncData} (F : FunD K "law" "law" (defArgs s_law) (defBody s_law) (defScope s_law) [] [] (He.ga K "law") fd) : FnOk P w K mg base CX0 21 (He.ga K "law") fd ["_law_script"] (sp_law K) := by
  refine F.ok sc_law (fun vs H Q E h => len_law h) (fun cdv A outer s H vs Q E hr h => ⟨t_law K, PSs.nox ?_, rd_law h⟩)
  exact (pss_c (ps_set (i := 1) sc_law.nd rfl (Or.inl rfl) (pe_fn O_l_start (hr.mono (by omega)) rfl (pa_cons (pv 0) pa_nil)))
    (pss_c (ps_set (i := 2) sc_law.nd rfl (Or.inl rfl) (pe_fn O_l_tree (hr.mono (by omega)) rfl (pa_cons (pv 1) pa_nil)))
    (pss_c (ps_set (i := 3) sc_law.nd rfl (Or.inl rfl) (pe_lst (pa_cons (pe_op o_add pe_int (pe_fn O_l_draw (hr.mono (by omega)) rfl (pa_cons (pv 1) (pa_cons pe_int pa_nil)))) pa_nil)))
    (pss_c (ps_if (pt_cmpR (o_eq hr.units) (pe_fn O_l_draw (hr.mono (by omega)) rfl (pa_cons (pv 1) (pa_cons pe_int pa_nil))) pe_int (nomark _)) (pss_one (ps_set (i := 3) sc_law.nd rfl (Or.inl rfl) (pe_lst (pa_cons pe_int pa_nil)))) pss_nil)
    (pss_c (ps_set (i := 4) sc_law.nd rfl (Or.inl rfl) (pe_lst pa_nil))
    (pss_c (ps_for PassesOwn.never rfl (pi_any (pe_ix i_x (pv 2) pe_int (fun _ _ => rfl))) (pg_tup rfl (pgs_cons (pg_name (i := 5) sc_law.nd rfl (Or.inl rfl)) (pgs_cons (pg_name (i := 6) sc_law.nd rfl (Or.inl rfl)) (pgs_cons (pg_name (i := 7) sc_law.nd rfl (Or.inl rfl)) (pgs_cons (pg_name (i := 8) sc_law.nd rfl (Or.inl rfl)) (pgs_cons (pg_name (i := 9) sc_law.nd rfl (Or.inl rfl)) pgs_nil)))))) (pss_one (ps_expr (pe_bm PySem.F.plainAttrs_list PySem.F.slot_list_append PySem.F.type_list_append m_append (pv 4) (pa_cons (pe_tup (pa_cons (pv 5) (pa_cons (pe_fn O_l_draw (hr.mono (by omega)) rfl (pa_cons (pv 1) (pa_cons pe_int pa_nil))) (pa_cons (pv 7) (pa_cons (pv 8) (pa_cons (pe_fn O_l_changed (hr.mono (by omega)) rfl (pa_cons (pv 1) (pa_cons (pv 9) (pa_cons (pv 3) pa_nil)))) pa_nil)))))) pa_nil)))))
    (pss_c (ps_set (i := 10) sc_law.nd rfl (Or.inl rfl) (pe_tup (pa_cons (pe_ix i_x (pv 2) pe_int (fun _ _ => rfl)) (pa_cons (pe_ix i_x (pv 2) pe_int (fun _ _ => rfl)) (pa_cons (pe_callTy c_tuple (by rfl) T.b_tuple (by decide +kernel) (pa_cons (pv 4) pa_nil)) pa_nil)))))
    (pss_c (ps_set (i := 11) sc_law.nd rfl (Or.inl rfl) (pe_cmpR o_gt (pe_ix i_x (pv 3) pe_int (fun _ _ => rfl)) pe_int (nomark _)))
    (pss_c (ps_for PassesOwn.never rfl (pi_any (pe_lst (pa_cons (pe_fn O_same_tree (hr.mono (by omega)) rfl (pa_cons (pv 2) (pa_cons (pv 10) pa_nil))) (pa_cons (pe_fn O_same_tree (hr.mono (by omega)) rfl (pa_cons (pv 10) (pa_cons (pv 2) pa_nil))) pa_nil)))) (pg_name (i := 12) sc_law.nd rfl (Or.inl rfl)) (pss_one (ps_if (PW.pt (pw_or (pt_not (pt_tru (pe_callB c_isi (by rfl) T.b_isinstance (by decide +kernel) (pa_cons (pv 12) (pa_cons (pe_ty rfl T.b_bool (by decide +kernel)) pa_nil))))) (pw_or1 (pt_cmpR (o_ne hr.units) (pv 12) (pv 11) (nomark _))))) (pss_one (ps_ret pe_bl)) pss_nil)))
    (pss_one (ps_ret (pe_and (pe_cmpR op_isBl (pe_fn O_same_tree (hr.mono (by omega)) rfl (pa_cons (pv 2) (pa_cons (pv 2) pa_nil))) pe_bl (nomark _)) (pe_one (pe_cmpR op_isBl (pe_fn O_same_tree (hr.mono (by omega)) rfl (pa_cons (pv 10) (pa_cons (pv 10) pa_nil))) pe_bl (nomark _)))))))))))))))
end
/-! ### the head -/
def d_is_integer : He.DefD := ⟨("is_integer", none), "is_integer", "is_integer", defArgs s_is_integer, defBody s_is_integer, defScope s_is_integer, [], []⟩
def d_has_parts : He.DefD := ⟨("has_parts", none), "has_parts", "has_parts", defArgs s_has_parts, defBody s_has_parts, defScope s_has_parts, [], []⟩
def d_bare_expression : He.DefD := ⟨("bare_expression", none), "bare_expression", "bare_expression", defArgs s_bare_expression, defBody s_bare_expression, defScope s_bare_expression, [], []⟩
def d_bare_function : He.DefD := ⟨("bare_function", none), "bare_function", "bare_function", defArgs s_bare_function, defBody s_bare_function, defScope s_bare_function, [], []⟩
def d_bare_tree : He.DefD := ⟨("bare_tree", none), "bare_tree", "bare_tree", defArgs s_bare_tree, defBody s_bare_tree, defScope s_bare_tree, [], []⟩
def d_same_tree : He.DefD := ⟨("same_tree", none), "same_tree", "same_tree", defArgs s_same_tree, defBody s_same_tree, defScope s_same_tree, [], []⟩
def d_l_start : He.DefD := ⟨("_law_start", none), "_law_start", "_law_start", defArgs s_l_start, defBody s_l_start, defScope s_l_start, [], []⟩
def d_l_draw : He.DefD := ⟨("_law_draw", none), "_law_draw", "_law_draw", defArgs s_l_draw, defBody s_l_draw, defScope s_l_draw, [], []⟩
def d_l_reserved : He.DefD := ⟨("_law_reserved", none), "_law_reserved", "_law_reserved", defArgs s_l_reserved, defBody s_l_reserved, defScope s_l_reserved, [], []⟩
def d_l_name : He.DefD := ⟨("_law_name", none), "_law_name", "_law_name", defArgs s_l_name, defBody s_l_name, defScope s_l_name, [], []⟩
def d_l_fresh : He.DefD := ⟨("_law_fresh", none), "_law_fresh", "_law_fresh", defArgs s_l_fresh, defBody s_l_fresh, defScope s_l_fresh, [], []⟩
def d_l_kind : He.DefD := ⟨("_law_kind", none), "_law_kind", "_law_kind", defArgs s_l_kind, defBody s_l_kind, defScope s_l_kind, [], []⟩
def d_l_exception : He.DefD := ⟨("_law_exception", none), "_law_exception", "_law_exception", defArgs s_l_exception, defBody s_l_exception, defScope s_l_exception, [], []⟩
def d_l_leaf : He.DefD := ⟨("_law_leaf", none), "_law_leaf", "_law_leaf", defArgs s_l_leaf, defBody s_l_leaf, defScope s_l_leaf, [], []⟩
def d_l_counts : He.DefD := ⟨("_law_counts", none), "_law_counts", "_law_counts", defArgs s_l_counts, defBody s_l_counts, defScope s_l_counts, [], []⟩
def d_l_arms : He.DefD := ⟨("_law_arms", none), "_law_arms", "_law_arms", defArgs s_l_arms, defBody s_l_arms, defScope s_l_arms, [], []⟩
def d_l_expr : He.DefD := ⟨("_law_expr", none), "_law_expr", "_law_expr", defArgs s_l_expr, defBody s_l_expr, defScope s_l_expr, [], []⟩
def d_l_tree : He.DefD := ⟨("_law_tree", none), "_law_tree", "_law_tree", defArgs s_l_tree, defBody s_l_tree, defScope s_l_tree, [], []⟩
def d_l_changed : He.DefD := ⟨("_law_changed", none), "_law_changed", "_law_changed", defArgs s_l_changed, defBody s_l_changed, defScope s_l_changed, [], []⟩
def d_law : He.DefD := ⟨("law", none), "law", "law", defArgs s_law, defBody s_law, defScope s_law, [], []⟩
def fn : List He.DefD := [d_is_integer, d_has_parts, d_bare_expression, d_bare_function, d_bare_tree, d_same_tree, d_l_start, d_l_draw, d_l_reserved, d_l_name, d_l_fresh, d_l_kind, d_l_exception, d_l_leaf, d_l_counts, d_l_arms, d_l_expr, d_l_tree, d_l_changed, d_law]
def fa : List He.Fa := [.free "isinstance", .free "int", .free "bool", .free "tuple", .free "len", .free "all", .free "list", .free "abs", .free "range", .free "str", .free "sorted", .glo "is_integer", .glo "has_parts", .glo "bare_expression", .glo "bare_function", .glo "bare_tree", .glo "same_tree", .glo "_law_start", .glo "_law_draw", .glo "_law_reserved", .glo "_law_name", .glo "_law_fresh", .glo "_law_kind", .glo "_law_exception", .glo "_law_leaf", .glo "_law_counts", .glo "_law_arms", .glo "_law_expr", .glo "_law_tree", .glo "_law_changed", .glo "law"]
abbrev R : PySem.W.OpenRow := PySem.W.OpenLaw.row PySem.Challenge.rw_escheat_k07_same_tree
abbrev hk : PySem.W.Hook := He.hookD 5 fa fn
def ob (s : PySem.W.SharedT) : He.AlD := He.obsDG 5 fa fn (HandSHeadRun.getT s)
theorem ob_eq (s : PySem.W.SharedT) : ob s = hk.obs s.abs := He.obsDG_eq (HandSHeadRun.getT_eq s)
theorem txt {K : PySem.W.Frag} {h : Heap} {mg : Str → Option Value} (X : K.In h) (G : h.Ns mainGlobals mg) (c : He.SaysD fa fn K) : Txt K mg :=
  ⟨He.free_ok X G (c.fact 0 (f := .free "isinstance") rfl),
   He.free_ok X G (c.fact 1 (f := .free "int") rfl),
   He.free_ok X G (c.fact 2 (f := .free "bool") rfl),
   He.free_ok X G (c.fact 3 (f := .free "tuple") rfl),
   He.free_ok X G (c.fact 4 (f := .free "len") rfl),
   He.free_ok X G (c.fact 5 (f := .free "all") rfl),
   He.free_ok X G (c.fact 6 (f := .free "list") rfl),
   He.free_ok X G (c.fact 7 (f := .free "abs") rfl),
   He.free_ok X G (c.fact 8 (f := .free "range") rfl),
   He.free_ok X G (c.fact 9 (f := .free "str") rfl),
   He.free_ok X G (c.fact 10 (f := .free "sorted") rfl),
   He.glo_ok X G (c.fact 11 (f := .glo "is_integer") rfl),
   c.def_ 0 (d := d_is_integer) rfl,
   He.glo_ok X G (c.fact 12 (f := .glo "has_parts") rfl),
   c.def_ 1 (d := d_has_parts) rfl,
   He.glo_ok X G (c.fact 13 (f := .glo "bare_expression") rfl),
   c.def_ 2 (d := d_bare_expression) rfl,
   He.glo_ok X G (c.fact 14 (f := .glo "bare_function") rfl),
   c.def_ 3 (d := d_bare_function) rfl,
   He.glo_ok X G (c.fact 15 (f := .glo "bare_tree") rfl),
   c.def_ 4 (d := d_bare_tree) rfl,
   He.glo_ok X G (c.fact 16 (f := .glo "same_tree") rfl),
   c.def_ 5 (d := d_same_tree) rfl,
   He.glo_ok X G (c.fact 17 (f := .glo "_law_start") rfl),
   c.def_ 6 (d := d_l_start) rfl,
   He.glo_ok X G (c.fact 18 (f := .glo "_law_draw") rfl),
   c.def_ 7 (d := d_l_draw) rfl,
   He.glo_ok X G (c.fact 19 (f := .glo "_law_reserved") rfl),
   c.def_ 8 (d := d_l_reserved) rfl,
   He.glo_ok X G (c.fact 20 (f := .glo "_law_name") rfl),
   c.def_ 9 (d := d_l_name) rfl,
   He.glo_ok X G (c.fact 21 (f := .glo "_law_fresh") rfl),
   c.def_ 10 (d := d_l_fresh) rfl,
   He.glo_ok X G (c.fact 22 (f := .glo "_law_kind") rfl),
   c.def_ 11 (d := d_l_kind) rfl,
   He.glo_ok X G (c.fact 23 (f := .glo "_law_exception") rfl),
   c.def_ 12 (d := d_l_exception) rfl,
   He.glo_ok X G (c.fact 24 (f := .glo "_law_leaf") rfl),
   c.def_ 13 (d := d_l_leaf) rfl,
   He.glo_ok X G (c.fact 25 (f := .glo "_law_counts") rfl),
   c.def_ 14 (d := d_l_counts) rfl,
   He.glo_ok X G (c.fact 26 (f := .glo "_law_arms") rfl),
   c.def_ 15 (d := d_l_arms) rfl,
   He.glo_ok X G (c.fact 27 (f := .glo "_law_expr") rfl),
   c.def_ 16 (d := d_l_expr) rfl,
   He.glo_ok X G (c.fact 28 (f := .glo "_law_tree") rfl),
   c.def_ 17 (d := d_l_tree) rfl,
   He.glo_ok X G (c.fact 29 (f := .glo "_law_changed") rfl),
   c.def_ 18 (d := d_l_changed) rfl,
   He.glo_ok X G (c.fact 30 (f := .glo "law") rfl),
   c.def_ 19 (d := d_law) rfl⟩
theorem run (w : World) : HandSHeadRun.RunEq R (PySem.W.view R.prog [23]) hk ob 4000 ["is_integer", "has_parts", "bare_expression", "bare_function", "bare_tree", "same_tree", "_law_start", "_law_draw", "_law_reserved", "_law_name", "_law_fresh", "_law_kind", "_law_exception", "_law_leaf", "_law_counts", "_law_arms", "_law_expr", "_law_tree", "_law_changed"] w := by
  intro os
  kernel_rfl
theorem facts {P : Program} {w : World} {K : PySem.W.Frag} {h : Heap} {mg : Str → Option Value} {f : Addr} (X : K.In h) (G : h.Ns mainGlobals mg) (hfa : mg ("law" : Str) = some (.ref f)) (c : He.SaysD fa fn K) :
    ∃ fd : FuncData, (∀ (s : Shared) (v : Value), BindsTo s fd ⟨[v], []⟩ [("_law_script", v)]) ∧ ∀ base : Heap, K.In base → base.Ns mainGlobals mg → FnOk P w K mg base CX0 21 f fd ["_law_script"] (sp_law K) := by
  have T : Txt K mg := txt X G c
  obtain ⟨fd, F⟩ := T.F_law
  have e := hfa.symm.trans T.g_law
  cases e
  have b := FunD.bindsA (ps := ["_law_script"]) F fun _ _ _ _ _ _ us hl => match us, hl with | [_], _ => rfl
  refine ⟨fd, fun s v => b s [v] rfl, fun base _ _ => ?_⟩
  have O_l_start : OkF P w K mg base 1 "_law_start" ["_law_script"] (sp_l_start K) := ok_l_start T 
  have O_l_draw : OkF P w K mg base 1 "_law_draw" ["_law_state", "_law_many"] (sp_l_draw K) := ok_l_draw T 
  have O_l_reserved : OkF P w K mg base 1 "_law_reserved" [] (sp_l_reserved K) := ok_l_reserved T 
  have O_l_name : OkF P w K mg base 2 "_law_name" ["_law_state", "_law_great"] (sp_l_name K) := ok_l_name T O_l_draw O_l_reserved
  have O_l_fresh : OkF P w K mg base 3 "_law_fresh" ["_law_state", "_law_great", "_law_taken"] (sp_l_fresh K) := ok_l_fresh T O_l_name
  have O_l_kind : OkF P w K mg base 6 "_law_kind" ["_law_state", "_law_deep"] (sp_l_kind K) := ok_l_kind T O_l_draw O_l_name
  have O_l_exception : OkF P w K mg base 3 "_law_exception" ["_law_state"] (sp_l_exception K) := ok_l_exception T O_l_draw O_l_name
  have O_l_counts : OkF P w K mg base 1 "_law_counts" [] (sp_l_counts K) := ok_l_counts T 
  have O_l_leaf : OkF P w K mg base 3 "_law_leaf" ["_law_state"] (sp_l_leaf K) := ok_l_leaf T O_l_draw O_l_name
  have O_l_expr : OkF P w K mg base 18 "_law_expr" ["_law_state", "_law_deep", "_law_room"] (sp_l_expr K) := ok_l_expr T O_l_draw O_l_fresh O_l_name O_l_exception O_l_counts O_l_leaf O_l_kind
  have O_l_tree : OkF P w K mg base 20 "_law_tree" ["_law_state"] (sp_l_tree K) := ok_l_tree T O_l_draw O_l_fresh O_l_kind O_l_expr
  have O_l_changed : OkF P w K mg base 8 "_law_changed" ["_law_state", "_law_expr_here", "_law_left"] (sp_l_changed K) := ok_l_changed T O_l_draw
  have O_is_integer : OkF P w K mg base 1 "is_integer" ["value"] (sp_is_integer K) := ok_is_integer T 
  have O_has_parts : OkF P w K mg base 2 "has_parts" ["value"] (sp_has_parts K) := ok_has_parts T O_is_integer
  have O_bare_expression : OkF P w K mg base 11 "bare_expression" ["expression"] (sp_bare_expression K) := ok_bare_expression T O_has_parts
  have O_bare_function : OkF P w K mg base 13 "bare_function" ["function"] (sp_bare_function K) := ok_bare_function T O_is_integer O_bare_expression
  have O_bare_tree : OkF P w K mg base 14 "bare_tree" ["tree"] (sp_bare_tree K) := ok_bare_tree T O_bare_function
  have O_same_tree : OkF P w K mg base 15 "same_tree" ["first", "second"] (sp_same_tree K) := ok_same_tree T O_bare_tree
  exact okf_law (base := base) (P := P) (w := w) T O_l_start O_l_tree O_l_draw O_l_changed O_same_tree F
end U
open PySem PySem.W PySem.Calls PyProof.Rows
set_option maxHeartbeats 0 in
theorem PySem.Challenge.cw_escheat_k07_same_tree_holds : PySem.Challenge.rw_escheat_k07_same_tree.Holds := by
  w_on; o_law
  refine HandSHeadRun.head_any (r := OpenLaw.row PySem.Challenge.rw_escheat_k07_same_tree) (q := view (OpenLaw.row PySem.Challenge.rw_escheat_k07_same_tree).prog [23]) (H := U.hk) (ob := U.ob) (M := 4000) (loose := ["is_integer", "has_parts", "bare_expression", "bare_function", "bare_tree", "same_tree", "_law_start", "_law_draw", "_law_reserved", "_law_name", "_law_fresh", "_law_kind", "_law_exception", "_law_leaf", "_law_counts", "_law_arms", "_law_expr", "_law_tree", "_law_changed"]) (d := HandSHeadRun.topDef (OpenLaw.row PySem.Challenge.rw_escheat_k07_same_tree).prog 23) (kwd := []) U.ob_eq
    (by kernel_rfl) (fun s => by kernel_rfl) U.run (by kernel_rfl) (by kernel_rfl) (by kernel_rfl) (by rfl) (by first | assumption | decide +kernel) (by decide +kernel) ⟨rfl, rfl, rfl, rfl, rfl, by decide +kernel⟩ ?hw ?hc
  case hw => w_witness2
  case hc =>
    refine L2.walk_ofE (l := PySem.Challenge.rw_escheat_k07_same_tree) (n := 63) (k := 21) (x := "_law_script") (CX := L2.CX0) rfl (by decide) (by kernel_rfl) ⟨rfl, by decide, by decide⟩ ?F (fun _ _ _ _ z => z)
    intro w mg fa h Y G hmg0
    obtain ⟨K, KX, c⟩ := Y
    have hmg : mg ("law" : PySem.Str) = some (.ref fa) := by
      have e : (HandSHeadRun.topDef (OpenLaw.row PySem.Challenge.rw_escheat_k07_same_tree).prog 23).name = ("law" : PySem.Str) := by kernel_rfl
      rw [← e]
      exact hmg0
    obtain ⟨fd, hb, hF⟩ := U.facts (P := (PySem.Challenge.rw_escheat_k07_same_tree).prog) (w := w) KX G hmg c
    exact ⟨K, fd, U.sp_law K, KX, hb, fun H a ns hl _ hS => U.law_in a ns hl hS, hF⟩


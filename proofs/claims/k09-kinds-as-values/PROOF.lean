import PyProof.Rows.All
import Wide.All
import OpenK.AllK
import Wide.FinOn
import HandS.ForMost
import HandS.Flow
import HandS.Wide
import HandS.IsInst
import HandS.TupAny
import HandS.StrMore
import HandS.Defaults
import HandS.Head0
import HandS.Head1
import HandS.Head2
import HandS.HeadEnd
import HandS.HeadHook1
import HandS.HeadHook2
import PySem.Challenge.RW_escheat_k09_kinds_as_values
set_option Elab.async false
set_option linter.all false
set_option maxRecDepth 100000
set_option maxHeartbeats 4000000
/-! U: operators by value, as functions of the values' shapes (so that a reading computes), and the steps of a reading. -/
namespace U
open PySem PySem.Spec PyProof.Rows L2

/-! ### operators by value -/
section
variable {X : Cx}
def uAdd (K : PySem.W.Frag) : R2 := fun x y H Q => match x, y with
  | .int i, .int j => Q (.int (i + j)) H
  | .str a, .str b => a.length + b.length ≤ sizeLine ∧ Q (.str (a ++ b)) H
  | .ref a, .ref b => (∃ xs ys, H a = some (.lst xs) ∧ H b = some (.lst ys) ∧ xs.length + ys.length ≤ sizeLine ∧ ∀ p, H p = none → Q (.ref p) (upd H p (.lst (xs ++ ys)))) ∨ rCatA K x y H Q
  | _, _ => False
theorem o_add : OpR X (binaryOp .Add) (uAdd X.K) := by
  intro pins s σ H x y v u Q I rx ry h
  cases x <;> cases y <;> first | exact (show False from h).elim | skip
  · exact op_add pins s σ H _ _ v u Q I rx ry ⟨_, _, rfl, rfl, h⟩
  · exact op_add_str pins s σ H _ _ v u Q I rx ry ⟨_, _, rfl, rfl, h.1, h.2⟩
  · rcases h with h | h
    · obtain ⟨xs, ys, h1, h2, h3, h4⟩ := h
      exact op_cat pins s σ H _ _ v u Q I rx ry ⟨_, _, xs, ys, rfl, rfl, h1, h2, h3, h4⟩
    · exact op_catA pins s σ H _ _ v u Q I rx ry h
def uSub : R2 := fun x y H Q => match x, y with
  | .int i, .int j => Q (.int (i - j)) H
  | _, _ => False
theorem o_sub : OpR X (binaryOp .Sub) uSub := by
  intro pins s σ H x y v u Q I rx ry h
  cases x <;> cases y <;> first | exact (show False from h).elim | skip
  exact op_sub pins s σ H _ _ v u Q I rx ry ⟨_, _, rfl, rfl, h⟩
def uMul : R2 := fun x y H Q => match x, y with
  | .int i, .int j => (CMul i j ∨ CMulW i j) ∧ Q (.int (i * j)) H
  | .str z, .int k => z.length * k.toNat ≤ 1000000 ∧ k ≤ 1000000 ∧ -(2 ^ 63) ≤ k ∧ Q (.str (Txt.mul z k)) H
  | .ref a, .int k => ∃ xs, H a = some (.lst xs) ∧ -(2 ^ 63) ≤ k ∧ k < 2 ^ 63 ∧ xs.length * k.toNat ≤ sizeLine ∧ ∀ p, H p = none → Q (.ref p) (upd H p (.lst (List.replicate k.toNat xs).flatten))
  | _, _ => False
theorem o_mul : OpR X (binaryOp .Mult) uMul := by
  intro pins s σ H x y v u Q I rx ry h
  cases x <;> cases y <;> first | exact (show False from h).elim | skip
  · rcases h.1 with c | c
    · exact op_mul pins s σ H _ _ v u Q I rx ry ⟨_, _, rfl, rfl, c, h.2⟩
    · exact op_mulW pins s σ H _ _ v u Q I rx ry ⟨_, _, rfl, rfl, c, h.2⟩
  · rename_i z k
    obtain ⟨h1, h2, h3, q⟩ := h
    obtain ⟨t, rfl⟩ := rx
    obtain ⟨t', rfl⟩ := ry
    have hok : PySem.MulOk z k := by
      refine ⟨?_, fun h _ => ?_, fun h _ => ?_⟩
      · have a1 : ¬ k < -(2 ^ 63 : Int) := by omega
        have a2 : ¬ k ≥ (2 ^ 63 : Int) := by omega
        rw [decide_eq_false a1, decide_eq_false a2]; rfl
      · have hpos : 0 < k := by omega
        have e : ((z.length * k.toNat : Nat) : Int) = (z.length : Int) * k := by
          rw [Int.natCast_mul, Int.toNat_of_nonneg (by omega)]
        have h3 : (z.length : Int) * k ≤ 2 ^ 63 - 1 := by rw [← e]; omega
        have h4 : (z.length : Int) ≤ (2 ^ 63 - 1) / k := (Int.le_ediv_iff_mul_le hpos).mpr h3
        omega
      · exact PyProof.Rows.short24 (by omega)
    exact SB.mul hok fun t' n => ⟨.str _, H, I.tok _, ⟨_, rfl⟩, q⟩
  · obtain ⟨xs, h1, h2, h3, h4, h5⟩ := h
    exact op_rep pins s σ H _ _ v u Q I rx ry ⟨_, _, xs, rfl, rfl, h1, h2, h3, h4, h5⟩
def uFdiv : R2 := fun x y H Q => match x, y with
  | .int i, .int j => CDivW i j ∧ Q (.int (i / j)) H
  | _, _ => False
theorem o_fdiv : OpR X (binaryOp .FloorDiv) uFdiv := by
  intro pins s σ H x y v u Q I rx ry h
  cases x <;> cases y <;> first | exact (show False from h).elim | skip
  exact op_fdivW pins s σ H _ _ v u Q I rx ry ⟨_, _, rfl, rfl, h.1, h.2⟩
def uMod : R2 := fun x y H Q => match x, y with
  | .int i, .int j => 0 < j ∧ Q (.int (i % j)) H
  | _, _ => False
theorem o_mod : OpR X (binaryOp .Mod) uMod := by
  intro pins s σ H x y v u Q I rx ry h
  cases x <;> cases y <;> first | exact (show False from h).elim | skip
  exact op_mod pins s σ H _ _ v u Q I rx ry ⟨_, _, rfl, rfl, h.1, h.2⟩
def uPow : R2 := fun x y H Q => match x, y with
  | .int i, .int j => CPow i j ∧ Q (.int (i ^ j.toNat)) H
  | _, _ => False
theorem o_pow : OpR X (binaryOp .Pow) uPow := by
  intro pins s σ H x y v u Q I rx ry h
  cases x <;> cases y <;> first | exact (show False from h).elim | skip
  exact op_pow pins s σ H _ _ v u Q I rx ry ⟨_, _, rfl, rfl, h.1, h.2⟩
def uNeg : V → Hp → VK → Prop := fun x H Q => match x with
  | .int i => Q (.int (-i)) H
  | _ => False
theorem u_neg : UnR X (unaryOp .USub) uNeg := by
  intro pins s σ H x v Q I rx h
  cases x <;> first | exact (show False from h).elim | skip
  exact un_neg pins s σ H _ v Q I rx ⟨_, rfl, h⟩
/-! comparisons -/
def uEq (K : PySem.W.Frag) : R2 := fun x y H Q => (scal x y = true ∧ Q (.bl (decide (x = y))) H) ∨ rEqD K x y H Q
theorem o_eq (hu : X.A.units + 64 < cLine) : OpR X (compareOp .Eq) (uEq X.K) := op_eq.or (op_eqD hu)
def uNe (K : PySem.W.Frag) : R2 := fun x y H Q => (scal x y = true ∧ Q (.bl (!decide (x = y))) H) ∨ rNeD K x y H Q
theorem o_ne (hu : X.A.units + 64 < cLine) : OpR X (compareOp .NotEq) (uNe X.K) := op_ne.or (op_neD hu)
def uCmpI (p : Int → Int → Bool) : R2 := fun x y H Q => match x, y with
  | .int i, .int j => Q (.bl (p i j)) H
  | _, _ => False
abbrev uLt : R2 := uCmpI fun i j => decide (i < j)
abbrev uLe : R2 := uCmpI fun i j => decide (i ≤ j)
abbrev uGt : R2 := uCmpI fun i j => decide (j < i)
abbrev uGe : R2 := uCmpI fun i j => decide (j ≤ i)
theorem o_lt : OpR X (compareOp .Lt) uLt := by
  intro pins s σ H x y v u Q I rx ry h
  cases x <;> cases y <;> first | exact (show False from h).elim | skip
  exact op_lt pins s σ H _ _ v u Q I rx ry ⟨_, _, rfl, rfl, h⟩
theorem o_le : OpR X (compareOp .LtE) uLe := by
  intro pins s σ H x y v u Q I rx ry h
  cases x <;> cases y <;> first | exact (show False from h).elim | skip
  exact op_le pins s σ H _ _ v u Q I rx ry ⟨_, _, rfl, rfl, h⟩
theorem o_gt : OpR X (compareOp .Gt) uGt := by
  intro pins s σ H x y v u Q I rx ry h
  cases x <;> cases y <;> first | exact (show False from h).elim | skip
  exact op_gt pins s σ H _ _ v u Q I rx ry ⟨_, _, rfl, rfl, h⟩
theorem o_ge : OpR X (compareOp .GtE) uGe := by
  intro pins s σ H x y v u Q I rx ry h
  cases x <;> cases y <;> first | exact (show False from h).elim | skip
  exact op_ge pins s σ H _ _ v u Q I rx ry ⟨_, _, rfl, rfl, h⟩
/-- one sign in a text | a flat thing in a list, a tuple -/
def uIn (K : PySem.W.Frag) (f : Bool → Bool) : R2 := fun x y H Q => match y with
  | .str z => ∃ c : Nat, x = .str ⟨#[c]⟩ ∧ Q (.bl (f (decide (c ∈ z.cps.toList)))) H
  | .ref p => ∃ xs, (SqL K H p xs ∨ SqT K H p xs) ∧ flatV x = true ∧ xs.all flatV = true ∧ Q (.bl (f (inV x xs))) H
  | _ => False
theorem o_in : OpR X (compareOp .In) (uIn X.K id) := by
  intro pins s σ H x y v u Q I rx ry h
  cases y <;> first | exact (show False from h).elim | skip
  · obtain ⟨c, e, q⟩ := h
    exact op_in_sign pins s σ H _ _ v u Q I rx ry ⟨c, _, e, rfl, q⟩
  · obtain ⟨xs, h1, h2, h3, q⟩ := h
    exact op_in_seq pins s σ H _ _ v u Q I rx ry ⟨_, xs, rfl, h1, h2, h3, q⟩
theorem o_notIn : OpR X (compareOp .NotIn) (uIn X.K not) := by
  intro pins s σ H x y v u Q I rx ry h
  cases y <;> first | exact (show False from h).elim | skip
  · obtain ⟨c, e, q⟩ := h
    exact op_notIn_sign pins s σ H _ _ v u Q I rx ry ⟨c, _, e, rfl, q⟩
  · obtain ⟨xs, h1, h2, h3, q⟩ := h
    exact op_notIn_seq pins s σ H _ _ v u Q I rx ry ⟨_, xs, rfl, h1, h2, h3, q⟩
/-- is None (the right one), by the left one's shape -/
def isNonV : V → Bool
  | .non => true
  | _ => false
theorem isNonV_eq (x : V) : isNonV x = decide (x = .non) := by cases x <;> simp [isNonV]
def uIsN (f : Bool → Bool) : R2 := fun x y H Q => match y with
  | .non => Q (.bl (f (isNonV x))) H
  | _ => False
theorem o_is : OpR X (compareOp .Is) (uIsN id) := by
  intro pins s σ H x y v u Q I rx ry h
  cases y <;> first | exact (show False from h).elim | skip
  exact op_isN pins s σ H _ _ v u Q I rx ry ⟨rfl, by rw [← isNonV_eq]; exact h⟩
theorem o_isNot : OpR X (compareOp .IsNot) (uIsN not) := by
  intro pins s σ H x y v u Q I rx ry h
  cases y <;> first | exact (show False from h).elim | skip
  exact op_notN pins s σ H _ _ v u Q I rx ry ⟨rfl, by rw [← isNonV_eq]; exact h⟩
/-! subscripts -/
def uIx (K : PySem.W.Frag) : R2 := fun x y H Q => match x, y with
  | .ref a, .int i => ∃ xs v, (SqL K H a xs ∨ SqT K H a xs) ∧ atI xs i = some v ∧ Q v H
  | .str z, .int i => ∃ c, z.length ≤ sizeLine ∧ atI z.cps.toList i = some c ∧ Q (.str ⟨#[c]⟩) H
  | _, _ => False
theorem i_x : IxR X (uIx X.K) := by
  intro value slice pins s σ H x y v u Q I rx ry h hs
  cases x <;> cases y <;> first | exact (show False from h).elim | skip
  · obtain ⟨c, h1, h2, q⟩ := h
    exact ix_str value slice pins s σ H _ _ v u Q I rx ry ⟨_, _, c, rfl, rfl, h1, h2, q⟩ hs
  · obtain ⟨xs, w, h1, h2, q⟩ := h
    rcases h1 with h1 | h1
    · exact ix_list value slice pins s σ H _ _ v u Q I rx ry ⟨_, xs, _, w, rfl, rfl, h1, h2, q⟩ hs
    · exact ix_tup value slice pins s σ H _ _ v u Q I rx ry ⟨_, xs, _, w, rfl, rfl, h1, h2, q⟩ hs
def uSl (K : PySem.W.Frag) : V → Option Int → Option Int → Hp → VK → Prop := fun x lo hi H Q => match x with
  | .str z => z.length ≤ sizeLine ∧ Q (.str (cutS z lo hi)) H
  | .ref _ => rSlL K x lo hi H Q ∨ rSlA K x lo hi H Q
  | _ => False
theorem s_l : SlR X (uSl X.K) := by
  intro pins s σ H x v vl vu lo hi sl Q I rx hs pl pu q
  cases x <;> first | exact (show False from q).elim | skip
  · exact sl_str pins s σ H _ v vl vu lo hi sl Q I rx hs pl pu ⟨_, rfl, q.1, q.2⟩
  · rcases q with q | q
    · exact sl_list pins s σ H _ v vl vu lo hi sl Q I rx hs pl pu q
    · exact sl_tupA pins s σ H _ v vl vu lo hi sl Q I rx hs pl pu q
/-! calls of built-ins -/
abbrev RC : Type := List V → Hp → VK → Prop
def uLen (K : PySem.W.Frag) : RC := fun xs H Q => match xs with
  | [.str z] => z.length ≤ sizeLine ∧ Q (.int (z.length : Int)) H
  | [.ref a] => ∃ ys, (SqL K H a ys ∨ SqT K H a ys) ∧ Q (.int (ys.length : Int)) H
  | _ => False
theorem c_len : CallR X (.builtin "len") (uLen X.K) := by
  intro pins s σ H xs us Q I r h
  unfold uLen at h
  split at h
  · exact call_len_str pins s σ H _ us Q I r ⟨_, rfl, h.1, h.2⟩
  · obtain ⟨ys, h1, q⟩ := h
    exact call_len_seq pins s σ H _ us Q I r ⟨_, ys, rfl, h1, q⟩
  · exact h.elim
def uAbs : RC := fun xs H Q => match xs with
  | [.int i] => Q (.int (i.natAbs : Int)) H
  | _ => False
theorem abs_ite (i : Int) : (if i < 0 then -i else i) = (i.natAbs : Int) := by split <;> omega
theorem c_abs : CallR X (.builtin "abs") uAbs := by
  intro pins s σ H xs us Q I r h
  unfold uAbs at h
  split at h
  · exact call_abs pins s σ H _ us Q I r ⟨_, rfl, by rw [abs_ite]; exact h⟩
  · exact h.elim
def uInt : RC := fun xs H Q => match xs with
  | [.int i] => Q (.int i) H
  | [.bl k] => Q (.int (if k then 1 else 0)) H
  | [.str a] => a.length ≤ 640 ∧ ∃ n, PySem.intText? a = some n ∧ Q (.int n) H
  | _ => False
theorem c_int : CallR X (.type "int") uInt := by
  intro pins s σ H xs us Q I r h
  unfold uInt at h
  split at h
  · exact call_int1 pins s σ H _ us Q I r (.inl ⟨_, rfl, h⟩)
  · exact call_int1 pins s σ H _ us Q I r (.inr ⟨_, rfl, h⟩)
  · obtain ⟨h1, n, h2, q⟩ := h
    exact call_int_str pins s σ H _ us Q I r ⟨_, n, rfl, h2, h1, q⟩
  · exact h.elim
def uStr : RC := fun xs H Q => match xs with
  | [.int i] => i.natAbs.log2 < 1920 ∧ Q (.str (toString i)) H
  | _ => False
theorem c_str : CallR X (.type "str") uStr := by
  intro pins s σ H xs us Q I r h
  unfold uStr at h
  split at h
  · exact call_str_int pins s σ H _ us Q I r ⟨_, rfl, h.1, h.2⟩
  · exact h.elim
def uList (K : PySem.W.Frag) : RC := fun xs H Q => match xs with
  | [.ref p] => ∃ ys, (SqL K H p ys ∨ SqT K H p ys) ∧ ∀ l, H l = none → Q (.ref l) (upd H l (.lst ys))
  | _ => False
theorem c_list : CallR X (.type "list") (uList X.K) := by
  intro pins s σ H xs us Q I r h
  unfold uList at h
  split at h
  · obtain ⟨ys, h1, q⟩ := h
    exact call_list_of pins s σ H _ us Q I r ⟨_, ys, rfl, h1, q⟩
  · exact h.elim
def uTuple (K : PySem.W.Frag) : RC := fun xs H Q => match xs with
  | [.ref p] => ∃ ys, (SqL K H p ys ∧ ∀ l, H l = none → Q (.ref l) (upd H l (.tup ys))) ∨ (SqT K H p ys ∧ Q (.ref p) H)
  | _ => False
theorem c_tuple : CallR X (.type "tuple") (uTuple X.K) := by
  intro pins s σ H xs us Q I r h
  unfold uTuple at h
  split at h
  · obtain ⟨ys, h⟩ := h
    exact call_tuple_of pins s σ H _ us Q I r ⟨_, ys, rfl, h⟩
  · exact h.elim
def uAll (K : PySem.W.Frag) : RC := fun xs H Q => match xs with
  | [.ref a] => ∃ bs : List Bool, SqL K H a (bs.map V.bl) ∧ Q (.bl (bs.all id)) H
  | _ => False
theorem c_all (hc : X.calm = true) : CallR X (.builtin "all") (uAll X.K) := by
  intro pins s σ H xs us Q I r h
  unfold uAll at h
  split at h
  · obtain ⟨bs, h1, q⟩ := h
    exact cr_all hc pins s σ H _ us Q I r ⟨_, bs, rfl, h1, q⟩
  · exact h.elim
def uAny (K : PySem.W.Frag) : RC := fun xs H Q => match xs with
  | [.ref a] => ∃ bs : List Bool, SqL K H a (bs.map V.bl) ∧ Q (.bl (bs.any id)) H
  | _ => False
theorem c_any (hc : X.calm = true) : CallR X (.builtin "any") (uAny X.K) := by
  intro pins s σ H xs us Q I r h
  unfold uAny at h
  split at h
  · obtain ⟨bs, h1, q⟩ := h
    exact cr_any hc pins s σ H _ us Q I r ⟨_, bs, rfl, h1, q⟩
  · exact h.elim
def uSum (K : PySem.W.Frag) : RC := fun xs H Q => match xs with
  | [.ref a] => ∃ ns : List Int, SqL K H a (ns.map V.int) ∧ Q (.int ns.sum) H
  | _ => False
theorem c_sum (hc : X.calm = true) : CallR X (.builtin "sum") (uSum X.K) := by
  intro pins s σ H xs us Q I r h
  unfold uSum at h
  split at h
  · obtain ⟨bs, h1, q⟩ := h
    exact cr_sum hc pins s σ H _ us Q I r ⟨_, bs, rfl, h1, q⟩
  · exact h.elim
def uMax : RC := fun xs H Q => match xs with
  | [.int i, .int j] => Q (.int (max i j)) H
  | _ => False
theorem c_max (hc : X.calm = true) : CallR X (.builtin "max") uMax := by
  intro pins s σ H xs us Q I r h
  unfold uMax at h
  split at h
  · rename_i i j
    refine call_max2 hc pins s σ H _ us Q I r ⟨_, _, rfl, ?_⟩
    have e : (if j > i then j else i) = max i j := by
      rw [Int.max_def]; split <;> split <;> omega
    rw [e]; exact h
  · exact h.elim
def uMin : RC := fun xs H Q => match xs with
  | [.int i, .int j] => Q (.int (min i j)) H
  | _ => False
theorem c_min (hc : X.calm = true) : CallR X (.builtin "min") uMin := by
  intro pins s σ H xs us Q I r h
  unfold uMin at h
  split at h
  · rename_i i j
    refine call_min2 hc pins s σ H _ us Q I r ⟨_, _, rfl, ?_⟩
    have e : (if j < i then j else i) = min i j := by
      rw [Int.min_def]; split <;> split <;> omega
    rw [e]; exact h
  · exact h.elim
/-- isinstance(x, T), T a built-in type: by the value's shape; an object's type is told -/
def tyName : V → Option String
  | .non => some "NoneType"
  | .bl _ => some "bool"
  | .int _ => some "int"
  | .str _ => some "str"
  | _ => none
def uIsi (K : PySem.W.Frag) : RC := fun xs H Q => match xs with
  | [x, .ty T] => ∃ t b, (match tyName x with | some n => t = n | none => TyX K H x (.type t)) ∧ kitB t T = some b ∧ Q (.bl b) H
  | [x, .ref C] => ∃ t b, TyX K H x t ∧ PySem.W.kitOne K t (.ref C) = some b ∧ Q (.bl b) H
  | _ => False
theorem c_isi : CallR X (.builtin "isinstance") (uIsi X.K) := by
  intro pins s σ H xs us Q I r h
  unfold uIsi at h
  split at h
  · rename_i x T
    obtain ⟨t, b, h1, h2, q⟩ := h
    have ty : TyX X.K H x (.type t) := by
      cases x with
      | non => have e : t = "NoneType" := h1; subst e; exact .base .non
      | bl b => have e : t = "bool" := h1; subst e; exact .base (.bl b)
      | int i => have e : t = "int" := h1; subst e; exact .base (.int i)
      | str z => have e : t = "str" := h1; subst e; exact .base (.str z)
      | _ => exact h1
    exact call_isi pins s σ H _ us Q I r ⟨x, _, _, _, b, rfl, .ty T, ty, kit_ty h2, q⟩
  · obtain ⟨t, b, h1, h2, q⟩ := h
    exact call_isi pins s σ H _ us Q I r ⟨_, _, t, _, b, rfl, .own _, h1, h2, q⟩
  · exact h.elim
/-! methods of built-in types -/
abbrev RM : Type := V → List V → Hp → VK → Prop
def uStarts : RM := fun x xs H Q => match x, xs with
  | .str a, [.str b] => Q (.bl (Txt.startswith a b)) H
  | _, _ => False
theorem m_starts : MtR X "str.startswith" uStarts := by
  intro pins s σ H x xs v us Q I rx rs h
  unfold uStarts at h
  split at h
  · exact mt_startswith pins s σ H _ _ v us Q I rx rs ⟨_, _, rfl, rfl, h⟩
  · exact h.elim
def uJoin (K : PySem.W.Frag) : RM := fun x xs H Q => match x, xs with
  | .str a, [.ref p] => ∃ ys : List Str, (SqL K H p (ys.map V.str) ∨ SqT K H p (ys.map V.str)) ∧ (ys.map (·.length)).sum + ys.length * a.length ≤ 16777216 ∧ Q (.str (Txt.join a ys)) H
  | _, _ => False
theorem m_join : MtR X "str.join" (uJoin X.K) := by
  intro pins s σ H x xs v us Q I rx rs h
  unfold uJoin at h
  split at h
  · obtain ⟨ys, h1, h2, q⟩ := h
    exact mt_join pins s σ H _ _ v us Q I rx rs ⟨_, _, ys, rfl, rfl, h1, h2, q⟩
  · exact h.elim
def uAppend : RM := fun x vs H Q => match x, vs with
  | .ref l, [y] => ∃ xs, H l = some (.lst xs) ∧ xs.length < sizeLine ∧ Q .non (upd H l (.lst (xs ++ [y])))
  | _, _ => False
theorem m_append : MtM X "list.append" uAppend := by
  intro pins s σ H x xs v us Q I rx rs h
  unfold uAppend at h
  split at h
  · obtain ⟨ys, h1, h2, q⟩ := h
    exact mt_append pins s σ H _ _ v us Q I rx rs ⟨_, ys, _, rfl, rfl, h1, h2, q⟩
  · exact h.elim
end
end U
/-! R: the steps of a reading (each a row that holds by what its left side means). -/
namespace U
open PySem PySem.Spec L2
section
variable {σ : St} {H : Hp} {Q : VK} {D : Ends} {v x y : V} {ta tb tc te tv : TE} {K : PySem.W.Frag} {t u : TT} {QB : Bool → Hp → Prop}
theorem szl {n : Nat} (h : n ≤ 16777216) : n ≤ sizeLine := by rw [sizeLine_eq]; exact h
theorem szt {n : Nat} (h : n < 16777216) : n < sizeLine := by rw [sizeLine_eq]; exact h
/-! statements -/
theorem r_seq {s1 s2 : TS} (h : s1 { D with nx := s2 D } σ H) : tSeq s1 s2 D σ H := h
theorem r_next (h : D.nx σ H) : tNext D σ H := h
theorem r_brk (h : D.bk σ H) : tBreak D σ H := h
theorem r_cont (h : D.ct σ H) : tCont D σ H := h
theorem r_drop (h : te σ H fun _ H1 => D.nx σ H1) : tDrop te D σ H := h
theorem r_ret (h : te σ H D.rt) : tRet te D σ H := h
theorem r_retN (h : D.rt .non H) : tRetN D σ H := h
theorem r_ifS {c : TT} {s1 s2 : TS} (h : c σ H fun b H1 => if b = true then s1 D σ H1 else s2 D σ H1) : tIfS c s1 s2 D σ H := h
theorem r_asg {g : TG} (h : te σ H fun x H1 => g x σ H1 D.nx) : tAsg te g D σ H := h
theorem r_gname {i : Nat} {R : St → Hp → Prop} (h : R (σ.set i (some v)) H) : gName i v σ H R := h
theorem r_aug {i : Nat} {ti : TIp} (hx : σ[i]? = some (some x)) (h : te σ H fun y H1 => ti x y H1 fun z H2 => D.nx (σ.set i (some z)) H2) : tAug i te ti D σ H := ⟨x, hx, h⟩
theorem r_nx {a : St → Hp → Prop} {b : VK} {c d : St → Hp → Prop} (h : a σ H) : (Ends.mk a b c d).nx σ H := h
theorem r_rt {a : St → Hp → Prop} {b : VK} {c d : St → Hp → Prop} (h : b v H) : (Ends.mk a b c d).rt v H := h
/-! expressions -/
theorem r_var {i : Nat} (hx : σ[i]? = some (some v)) (h : Q v H) : tVar i σ H Q := ⟨v, hx, h⟩
theorem r_c (h : Q v H) : tC v σ H Q := h
theorem r_op {r : R2} (h : ta σ H fun x H1 => tb σ H1 fun y H2 => r x y H2 Q) : tOp r ta tb σ H Q := h
theorem r_un {r : V → Hp → VK → Prop} (h : ta σ H fun x H1 => r x H1 Q) : tUn r ta σ H Q := h
theorem r_cons {tr : TA} {QA : List V → Hp → Prop} (h : ta σ H fun x H1 => tr σ H1 fun xs H2 => QA (x :: xs) H2) : tCons ta tr σ H QA := h
theorem r_nil {QA : List V → Hp → Prop} (h : QA [] H) : tNil σ H QA := h
theorem r_cb {r : RC} {t : TA} (h : t σ H fun vs H1 => r vs H1 Q) : tCB r t σ H Q := h
theorem r_bm {T : String} {r : RM} {t : TA} (h : ta σ H fun x H1 => tyV K T x H1 ∧ t σ H1 fun xs H2 => r x xs H2 Q) : tBM K T r ta t σ H Q := h
theorem r_bm0 {T : String} {r : RM} (h : ta σ H fun x H1 => tyV K T x H1 ∧ r x [] H1 Q) : tBM0 K T r ta σ H Q := h
theorem r_sl {r : V → Option Int → Option Int → Hp → VK → Prop} {tl th : TO} (h : te σ H fun x H1 => tl σ H1 fun l H2 => th σ H2 fun u H3 => r x l u H3 Q) : tSl r te tl th σ H Q := h
theorem r_nop {QO : Option Int → Hp → Prop} (h : QO none H) : tNoPart σ H QO := h
theorem r_part {QO : Option Int → Hp → Prop} (h : te σ H fun x H1 => ∃ i, x = .int i ∧ QO (some i) H1) : tPart te σ H QO := h
theorem r_partI {i : Int} {P : Int → Prop} (h : P i) : ∃ j, V.int i = .int j ∧ P j := ⟨i, rfl, h⟩
theorem r_tup {ta : TA} (h : ta σ H fun xs H1 => xs.length ≤ sizeLine ∧ ∀ p, H1 p = none → Q (.ref p) (upd H1 p (.tup xs))) : tTup ta σ H Q := h
theorem r_lst {ta : TA} (h : ta σ H fun xs H1 => xs.length ≤ sizeLine ∧ ∀ p, H1 p = none → Q (.ref p) (upd H1 p (.lst xs))) : tLst ta σ H Q := h
theorem r_if {c : TT} (h : c σ H fun b H1 => if b = true then ta σ H1 Q else tb σ H1 Q) : tIf c ta tb σ H Q := h
theorem r_call {sp : Sp} {E : XK} {t : TA} (h : t σ H fun vs H1 => sp vs H1 Q E) : tCall sp [] E t σ H Q := by
  have e : (fun vs H1 => sp (vs ++ []) H1 Q E) = fun vs H1 => sp vs H1 Q E := by
    funext vs H1
    rw [List.append_nil]
  show t σ H fun vs H1 => sp (vs ++ []) H1 Q E
  rw [e]
  exact h
theorem r_andV (h : ta σ H fun x H1 => ∃ c, x = .bl c ∧ if c = true then tb σ H1 Q else Q (.bl false) H1) : tAndV ta tb σ H Q := h
theorem r_orV (h : ta σ H fun x H1 => ∃ c, x = .bl c ∧ if c = true then Q (.bl true) H1 else tb σ H1 Q) : tOrV ta tb σ H Q := h
theorem r_notV (h : ta σ H fun x H1 => ∃ c, x = .bl c ∧ Q (.bl (!c)) H1) : tNotV ta σ H Q := h
theorem r_bl {c : Bool} {P : Bool → Prop} (h : P c) : ∃ k, V.bl c = .bl k ∧ P k := ⟨c, rfl, h⟩
theorem r_chain {r r' : R2} (h : ta σ H fun x H1 => tb σ H1 fun y H2 => r x y H2 fun z H3 => ∃ k, z = .bl k ∧ (if k = true then tc σ H3 fun w' H4 => r' y w' H4 Q else Q (.bl false) H3)) : tChain r r' ta tb tc σ H Q := h
/-! tests -/
theorem r_test (h : te σ H fun x H' => ∃ k, x = .bl k ∧ QB k H') : tTest te σ H QB := h
theorem r_tb (h : te σ H fun x H' => ∃ k, x = .bl k ∧ QB k H') : tB te σ H QB := h
theorem r_and (h : t σ H fun c H1 => if c = true then u σ H1 QB else QB false H1) : tAnd t u σ H QB := h
theorem r_or (h : t σ H fun c H1 => if c = true then QB true H1 else u σ H1 QB) : tOr t u σ H QB := h
theorem r_not (h : t σ H fun c H1 => QB (!c) H1) : tNot t σ H QB := h
/-! truth of a value -/
def uTru (K : PySem.W.Frag) (te : TE) : TT := fun σ H Q => te σ H fun x H' => ∃ k, TruV K x H' k ∧ Q k H'
theorem pt_tru {X : Cx} {a : Expr} {ta : TE} (ha : PE X a ta) (he : ∀ whole, isTrue a X.env whole = (do let v ← whole; standAt a.pos; holding [v] (truthy v)) := by intro _; rfl) : PT X a (uTru X.K ta) := pt_truth ha he
theorem r_tru (h : te σ H fun x H' => ∃ k, TruV K x H' k ∧ QB k H') : uTru K te σ H QB := h
theorem r_truBl {c : Bool} {P : Bool → Prop} (h : P c) : ∃ k, TruV K (.bl c) H k ∧ P k := ⟨c, rfl, h⟩
theorem r_truInt {i : Int} {P : Bool → Prop} (h : P (decide (i ≠ 0))) : ∃ k, TruV K (.int i) H k ∧ P k := ⟨_, by simp [TruV, bne, Bool.beq_eq_decide_eq], h⟩
theorem r_truNon {P : Bool → Prop} (h : P false) : ∃ k, TruV K .non H k ∧ P k := ⟨_, rfl, h⟩
/-! operators -/
variable {i j : Int} {a b : Str}
theorem r_addI (h : Q (.int (i + j)) H) : uAdd K (.int i) (.int j) H Q := h
theorem r_addS (hl : a.length + b.length ≤ sizeLine) (h : Q (.str (a ++ b)) H) : uAdd K (.str a) (.str b) H Q := ⟨hl, h⟩
theorem r_sub (h : Q (.int (i - j)) H) : uSub (.int i) (.int j) H Q := h
theorem r_mul (hc : CMul i j ∨ CMulW i j) (h : Q (.int (i * j)) H) : uMul (.int i) (.int j) H Q := ⟨hc, h⟩
theorem r_fdiv (hc : CDivW i j) (h : Q (.int (i / j)) H) : uFdiv (.int i) (.int j) H Q := ⟨hc, h⟩
theorem r_mod (hc : 0 < j) (h : Q (.int (i % j)) H) : uMod (.int i) (.int j) H Q := ⟨hc, h⟩
theorem r_neg (h : Q (.int (-i)) H) : uNeg (.int i) H Q := h
theorem r_cmpI {p : Int → Int → Bool} (h : Q (.bl (p i j)) H) : uCmpI p (.int i) (.int j) H Q := h
theorem dec_int : decide (V.int i = .int j) = decide (i = j) := by simp
theorem dec_str : decide (V.str a = .str b) = decide (a = b) := by simp
theorem dec_bl {c d : Bool} : decide (V.bl c = .bl d) = decide (c = d) := by simp
theorem r_eqI (h : Q (.bl (decide (i = j))) H) : uEq K (.int i) (.int j) H Q := .inl ⟨rfl, by rw [dec_int]; exact h⟩
theorem r_eqS (h : Q (.bl (decide (a = b))) H) : uEq K (.str a) (.str b) H Q := .inl ⟨rfl, by rw [dec_str]; exact h⟩
theorem r_eqB {c d : Bool} (h : Q (.bl (decide (c = d))) H) : uEq K (.bl c) (.bl d) H Q := .inl ⟨rfl, by rw [dec_bl]; exact h⟩
theorem r_neI (h : Q (.bl (!decide (i = j))) H) : uNe K (.int i) (.int j) H Q := .inl ⟨rfl, by rw [dec_int]; exact h⟩
theorem r_neS (h : Q (.bl (!decide (a = b))) H) : uNe K (.str a) (.str b) H Q := .inl ⟨rfl, by rw [dec_str]; exact h⟩
theorem r_neB {c d : Bool} (h : Q (.bl (!decide (c = d))) H) : uNe K (.bl c) (.bl d) H Q := .inl ⟨rfl, by rw [dec_bl]; exact h⟩
theorem r_isNN (h : Q (.bl true) H) : uIsN id .non .non H Q := h
theorem r_isNI (h : Q (.bl false) H) : uIsN id (.int i) .non H Q := h
theorem r_isNB {c : Bool} (h : Q (.bl false) H) : uIsN id (.bl c) .non H Q := h
theorem r_isNS (h : Q (.bl false) H) : uIsN id (.str a) .non H Q := h
theorem r_isNR {p : Addr} (h : Q (.bl false) H) : uIsN id (.ref p) .non H Q := h
theorem r_notNN (h : Q (.bl false) H) : uIsN not .non .non H Q := h
theorem r_notNI (h : Q (.bl true) H) : uIsN not (.int i) .non H Q := h
theorem r_notNB {c : Bool} (h : Q (.bl true) H) : uIsN not (.bl c) .non H Q := h
theorem r_notNS (h : Q (.bl true) H) : uIsN not (.str a) .non H Q := h
theorem r_notNR {p : Addr} (h : Q (.bl true) H) : uIsN not (.ref p) .non H Q := h
theorem r_inC {c : Nat} (h : Q (.bl (decide (c ∈ a.cps.toList))) H) : uIn K id (.str ⟨#[c]⟩) (.str a) H Q := ⟨c, rfl, h⟩
theorem r_notInC {c : Nat} (h : Q (.bl (!decide (c ∈ a.cps.toList))) H) : uIn K not (.str ⟨#[c]⟩) (.str a) H Q := ⟨c, rfl, h⟩
theorem r_mulS {k : Int} (h1 : a.length * k.toNat ≤ 1000000) (h2 : k ≤ 1000000) (h3 : -(2 ^ 63) ≤ k) (h : Q (.str (Txt.mul a k)) H) : uMul (.str a) (.int k) H Q := ⟨h1, h2, h3, h⟩
theorem r_ixS {c : Nat} (h1 : a.length ≤ sizeLine) (h2 : atI a.cps.toList i = some c) (h : Q (.str ⟨#[c]⟩) H) : uIx K (.str a) (.int i) H Q := ⟨c, h1, h2, h⟩
theorem r_ixL {p : Addr} {xs : List V} (h1 : SqL K H p xs) (h2 : atI xs i = some v) (h : Q v H) : uIx K (.ref p) (.int i) H Q := ⟨xs, v, .inl h1, h2, h⟩
theorem r_ixT {p : Addr} {xs : List V} (h1 : SqT K H p xs) (h2 : atI xs i = some v) (h : Q v H) : uIx K (.ref p) (.int i) H Q := ⟨xs, v, .inr h1, h2, h⟩
theorem r_slS {lo hi : Option Int} (hl : a.length ≤ sizeLine) (h : Q (.str (cutS a lo hi)) H) : uSl K (.str a) lo hi H Q := ⟨hl, h⟩
theorem r_lenL {p : Addr} {xs : List V} (h1 : SqL K H p xs) (h : Q (.int (xs.length : Int)) H) : uLen K [.ref p] H Q := ⟨xs, .inl h1, h⟩
theorem r_lenT {p : Addr} {xs : List V} (h1 : SqT K H p xs) (h : Q (.int (xs.length : Int)) H) : uLen K [.ref p] H Q := ⟨xs, .inr h1, h⟩
theorem r_allL {p : Addr} {bs : List Bool} (h1 : SqL K H p (bs.map V.bl)) (h : Q (.bl (bs.all id)) H) : uAll K [.ref p] H Q := ⟨bs, h1, h⟩
theorem r_listL {p : Addr} {xs : List V} (h1 : SqL K H p xs) (h : ∀ l, H l = none → Q (.ref l) (upd H l (.lst xs))) : uList K [.ref p] H Q := ⟨xs, .inl h1, h⟩
theorem r_listT {p : Addr} {xs : List V} (h1 : SqT K H p xs) (h : ∀ l, H l = none → Q (.ref l) (upd H l (.lst xs))) : uList K [.ref p] H Q := ⟨xs, .inr h1, h⟩
theorem r_tupleL {p : Addr} {xs : List V} (h1 : SqL K H p xs) (h : ∀ l, H l = none → Q (.ref l) (upd H l (.tup xs))) : uTuple K [.ref p] H Q := ⟨xs, .inl ⟨h1, h⟩⟩
theorem r_append {p : Addr} {xs : List V} (h1 : H p = some (.lst xs)) (h2 : xs.length < sizeLine) (h : Q .non (upd H p (.lst (xs ++ [v])))) : uAppend (.ref p) [v] H Q := ⟨xs, h1, h2, h⟩
theorem r_tyStr {A : Prop} (h : A) : tyV K "str" (.str a) H ∧ A := ⟨rfl, h⟩
theorem r_tyLst {p : Addr} {xs : List V} {A : Prop} (h1 : H p = some (.lst xs)) (h : A) : tyV K "list" (.ref p) H ∧ A := ⟨.inl ⟨rfl, _, SqL.of h1⟩, h⟩
theorem r_lenS (hl : a.length ≤ sizeLine) (h : Q (.int (a.length : Int)) H) : uLen K [.str a] H Q := ⟨hl, h⟩
theorem r_abs (h : Q (.int (i.natAbs : Int)) H) : uAbs [.int i] H Q := h
theorem r_intI (h : Q (.int i) H) : uInt [.int i] H Q := h
theorem r_intB {c : Bool} (h : Q (.int (if c then 1 else 0)) H) : uInt [.bl c] H Q := h
theorem r_strI (hl : i.natAbs.log2 < 1920) (h : Q (.str (toString i)) H) : uStr [.int i] H Q := ⟨hl, h⟩
theorem r_maxI (h : Q (.int (max i j)) H) : uMax [.int i, .int j] H Q := h
theorem r_minI (h : Q (.int (min i j)) H) : uMin [.int i, .int j] H Q := h
theorem r_starts (h : Q (.bl (Txt.startswith a b)) H) : uStarts (.str a) [.str b] H Q := h
theorem r_iI_int (h : Q (.bl true) H) : uIsi K [(.int i), .ty "int"] H Q := ⟨"int", true, rfl, by decide +kernel, h⟩
theorem r_iI_bool (h : Q (.bl false) H) : uIsi K [(.int i), .ty "bool"] H Q := ⟨"int", false, rfl, by decide +kernel, h⟩
theorem r_iI_str (h : Q (.bl false) H) : uIsi K [(.int i), .ty "str"] H Q := ⟨"int", false, rfl, by decide +kernel, h⟩
theorem r_iI_tuple (h : Q (.bl false) H) : uIsi K [(.int i), .ty "tuple"] H Q := ⟨"int", false, rfl, by decide +kernel, h⟩
theorem r_iI_list (h : Q (.bl false) H) : uIsi K [(.int i), .ty "list"] H Q := ⟨"int", false, rfl, by decide +kernel, h⟩
theorem r_iB_int {d : Bool} (h : Q (.bl true) H) : uIsi K [(.bl d), .ty "int"] H Q := ⟨"bool", true, rfl, by decide +kernel, h⟩
theorem r_iB_bool {d : Bool} (h : Q (.bl true) H) : uIsi K [(.bl d), .ty "bool"] H Q := ⟨"bool", true, rfl, by decide +kernel, h⟩
theorem r_iB_str {d : Bool} (h : Q (.bl false) H) : uIsi K [(.bl d), .ty "str"] H Q := ⟨"bool", false, rfl, by decide +kernel, h⟩
theorem r_iB_tuple {d : Bool} (h : Q (.bl false) H) : uIsi K [(.bl d), .ty "tuple"] H Q := ⟨"bool", false, rfl, by decide +kernel, h⟩
theorem r_iB_list {d : Bool} (h : Q (.bl false) H) : uIsi K [(.bl d), .ty "list"] H Q := ⟨"bool", false, rfl, by decide +kernel, h⟩
theorem r_iS_int (h : Q (.bl false) H) : uIsi K [(.str a), .ty "int"] H Q := ⟨"str", false, rfl, by decide +kernel, h⟩
theorem r_iS_bool (h : Q (.bl false) H) : uIsi K [(.str a), .ty "bool"] H Q := ⟨"str", false, rfl, by decide +kernel, h⟩
theorem r_iS_str (h : Q (.bl true) H) : uIsi K [(.str a), .ty "str"] H Q := ⟨"str", true, rfl, by decide +kernel, h⟩
theorem r_iS_tuple (h : Q (.bl false) H) : uIsi K [(.str a), .ty "tuple"] H Q := ⟨"str", false, rfl, by decide +kernel, h⟩
theorem r_iS_list (h : Q (.bl false) H) : uIsi K [(.str a), .ty "list"] H Q := ⟨"str", false, rfl, by decide +kernel, h⟩
theorem r_iN_int (h : Q (.bl false) H) : uIsi K [.non, .ty "int"] H Q := ⟨"NoneType", false, rfl, by decide +kernel, h⟩
theorem r_iN_bool (h : Q (.bl false) H) : uIsi K [.non, .ty "bool"] H Q := ⟨"NoneType", false, rfl, by decide +kernel, h⟩
theorem r_iN_str (h : Q (.bl false) H) : uIsi K [.non, .ty "str"] H Q := ⟨"NoneType", false, rfl, by decide +kernel, h⟩
theorem r_iN_tuple (h : Q (.bl false) H) : uIsi K [.non, .ty "tuple"] H Q := ⟨"NoneType", false, rfl, by decide +kernel, h⟩
theorem r_iN_list (h : Q (.bl false) H) : uIsi K [.non, .ty "list"] H Q := ⟨"NoneType", false, rfl, by decide +kernel, h⟩
theorem r_iT_int {p : Addr} {xs : List V} (hp : H p = some (.tup xs)) (h : Q (.bl false) H) : uIsi K [.ref p, .ty "int"] H Q := ⟨"tuple", false, .base (.tup hp), by decide +kernel, h⟩
theorem r_iL_int {p : Addr} {xs : List V} (hp : H p = some (.lst xs)) (h : Q (.bl false) H) : uIsi K [.ref p, .ty "int"] H Q := ⟨"list", false, .base (.lst hp), by decide +kernel, h⟩
theorem r_iT_bool {p : Addr} {xs : List V} (hp : H p = some (.tup xs)) (h : Q (.bl false) H) : uIsi K [.ref p, .ty "bool"] H Q := ⟨"tuple", false, .base (.tup hp), by decide +kernel, h⟩
theorem r_iL_bool {p : Addr} {xs : List V} (hp : H p = some (.lst xs)) (h : Q (.bl false) H) : uIsi K [.ref p, .ty "bool"] H Q := ⟨"list", false, .base (.lst hp), by decide +kernel, h⟩
theorem r_iT_str {p : Addr} {xs : List V} (hp : H p = some (.tup xs)) (h : Q (.bl false) H) : uIsi K [.ref p, .ty "str"] H Q := ⟨"tuple", false, .base (.tup hp), by decide +kernel, h⟩
theorem r_iL_str {p : Addr} {xs : List V} (hp : H p = some (.lst xs)) (h : Q (.bl false) H) : uIsi K [.ref p, .ty "str"] H Q := ⟨"list", false, .base (.lst hp), by decide +kernel, h⟩
theorem r_iT_tuple {p : Addr} {xs : List V} (hp : H p = some (.tup xs)) (h : Q (.bl true) H) : uIsi K [.ref p, .ty "tuple"] H Q := ⟨"tuple", true, .base (.tup hp), by decide +kernel, h⟩
theorem r_iL_tuple {p : Addr} {xs : List V} (hp : H p = some (.lst xs)) (h : Q (.bl false) H) : uIsi K [.ref p, .ty "tuple"] H Q := ⟨"list", false, .base (.lst hp), by decide +kernel, h⟩
theorem r_iT_list {p : Addr} {xs : List V} (hp : H p = some (.tup xs)) (h : Q (.bl false) H) : uIsi K [.ref p, .ty "list"] H Q := ⟨"tuple", false, .base (.tup hp), by decide +kernel, h⟩
theorem r_iL_list {p : Addr} {xs : List V} (hp : H p = some (.lst xs)) (h : Q (.bl true) H) : uIsi K [.ref p, .ty "list"] H Q := ⟨"list", true, .base (.lst hp), by decide +kernel, h⟩
/-! branches -/
theorem br_t {A B : Prop} (h : A) : if true = true then A else B := by rw [if_pos rfl]; exact h
theorem br_f {A B : Prop} (h : B) : if false = true then A else B := by rw [if_neg Bool.false_ne_true]; exact h
theorem br {c : Bool} {A B : Prop} (h1 : c = true → A) (h2 : c = false → B) : if c = true then A else B := by
  cases c with
  | true => exact br_t (h1 rfl)
  | false => exact br_f (h2 rfl)
theorem br_y {p : Prop} [Decidable p] {A B : Prop} (hp : p) (h : A) : if decide p = true then A else B := by rw [decide_eq_true hp]; exact br_t h
theorem br_n {p : Prop} [Decidable p] {A B : Prop} (hp : ¬ p) (h : B) : if decide p = true then A else B := by rw [decide_eq_false hp]; exact br_f h
theorem br_ny {p : Prop} [Decidable p] {A B : Prop} (hp : p) (h : B) : if (!decide p) = true then A else B := by rw [decide_eq_true hp]; exact br_f h
theorem br_nn {p : Prop} [Decidable p] {A B : Prop} (hp : ¬ p) (h : A) : if (!decide p) = true then A else B := by rw [decide_eq_false hp]; exact br_t h
theorem br_nt {A B : Prop} (h : B) : if (!true) = true then A else B := br_f h
theorem br_nf {A B : Prop} (h : A) : if (!false) = true then A else B := br_t h
/-- a bool by its two ways (an open test) -/
theorem br_d {p : Prop} [Decidable p] {A B : Prop} (h1 : p → A) (h2 : ¬ p → B) : if decide p = true then A else B := by
  by_cases h : p
  · rw [decide_eq_true h]; exact br_t (h1 h)
  · rw [decide_eq_false h]; exact br_f (h2 h)
theorem br_nd {p : Prop} [Decidable p] {A B : Prop} (h1 : ¬ p → A) (h2 : p → B) : if (!decide p) = true then A else B := by
  by_cases h : p
  · rw [decide_eq_true h]; exact br_f (h2 h)
  · rw [decide_eq_false h]; exact br_t (h1 h)
end
end U
/-! U2: a def taken by name; constants; stores; loops and comprehensions over what yields one thing after another. -/
namespace U
open PySem PySem.Spec L2
section
variable {X : Cx} {x : Str} {p pos : Pos} {e : Expr} {es : List Expr} {t : TA}
/-- a def of the module's, by its name: where it stands, that it keeps its promise -/
structure OkF (P : Program) (w : World) (K : PySem.W.Frag) (mg : Str → Option Value) (base : Heap) (k : Nat) (x : Str) (ps : List Str) (sp : Sp) : Prop where
  ex : ∃ (f : Addr) (fd : FuncData), mg x = some (.ref f) ∧ FnOk P w K mg base CX0 k f fd ps sp ∧ Binds K fd ps [] ∧ PySem.W.keepIn K (.ref f) = true
theorem pe_fn {k : Nat} {ps : List Str} {sp : Sp} (O : OkF X.prog X.w X.K X.mg X.base k x ps sp) (hr : Room k X.A) (hg : Gl X x) (ha : PA X (e :: es) t) (hdb : (x == ("__debug__" : Str)) = false := by decide)
    (he : starEach (e :: es) X.env = (false, eval e X.env) :: starEach es X.env := by rfl) (hpl : (backTo pos (starEach es X.env)).any (·.1) = false := by rfl) : PE X (.Call (.Name x p) (e :: es) [] pos) (tCall sp [] E0 t) := by
  obtain ⟨f, fd, hm, F, hb, hk⟩ := O.ex
  exact pe_call F hr hg hm hk hb .nil pass0 ha hdb he hpl
theorem pe_fn0 {k : Nat} {ps : List Str} {sp : Sp} (O : OkF X.prog X.w X.K X.mg X.base k x ps sp) (hr : Room k X.A) (hg : Gl X x) (hdb : (x == ("__debug__" : Str)) = false := by decide) : PE X (.Call (.Name x p) [] [] pos) (tCall sp [] E0 tNil) := by
  obtain ⟨f, fd, hm, F, hb, hk⟩ := O.ex
  exact pe_call0 F hr hg hm hk hb .nil pass0 hdb
theorem pe_gint {i : Int} (hg : Gl X x) (h : ∃ t, X.mg x = some (.int i t)) (hd : (x == ("__debug__" : Str)) = false := by decide) : PE X (.Name x pos) (tC (.int i)) := by
  obtain ⟨t, h⟩ := h
  exact pe_glob hg h ⟨_, rfl⟩ hd
theorem pe_gstr {z : Str} (hg : Gl X x) (h : ∃ t, X.mg x = some (.str z t)) (hd : (x == ("__debug__" : Str)) = false := by decide) : PE X (.Name x pos) (tC (.str z)) := by
  obtain ⟨t, h⟩ := h
  exact pe_glob hg h ⟨_, rfl⟩ hd
theorem pe_gref {a : Addr} (hg : Gl X x) (h : X.mg x = some (.ref a)) (hd : (x == ("__debug__" : Str)) = false := by decide) : PE X (.Name x pos) (tC (.ref a)) := pe_glob hg h rfl hd
theorem pe_ty {T : String} (hg : Gl X x) (hm : X.mg x = none) (hv : bootBuiltins x = some (.type T)) (hn : x ≠ "__name__" := by decide) (hd : (x == ("__debug__" : Str)) = false := by decide) : PE X (.Name x pos) (tC (.ty T)) := pe_bltn hg hm hv rfl hn hd
/-- a block: what holds between its first statement and the rest -/
def tSq (t u : TS) : TS := fun D σ H => ∃ M : St → Hp → Prop, t { D with nx := M } σ H ∧ ∀ σ' H', M σ' H' → u D σ' H'
theorem pss_c {st : Stmt} {rest : List Stmt} {t u : TS} (h1 : PS X st t) (h2 : PSs X rest u) : PSs X (st :: rest) (tSq t u) := by
  refine ⟨fun pins s σ H D I h => ?_⟩
  obtain ⟨M, hm, hu⟩ := h
  refine wpAny_execs_cons (thn (h1.run pins s σ H { D with nx := M } I hm) fun f s1 q => ?_)
  cases f with
  | next =>
    obtain ⟨σ', H', I', q⟩ := q
    exact h2.run pins s1 σ' H' D I' (hu σ' H' q)
  | ret v => exact q
  | brk => exact q
  | cont => exact q
/-- what is walked: a list, a tuple, a text -/
def uIt (K : PySem.W.Frag) (te : TE) : TI := fun σ H R => iList K te σ H R ∨ iTup K te σ H R ∨ iStr te σ H R
theorem pi_any {tg : Expr} {te : TE} (he : PE X e te) : PI X tg e (uIt X.K te) := ⟨fun pins s σ H R I h => by
  rcases h with h | h | h
  · exact (pi_list he).run pins s σ H R I h
  · exact (pi_tup he).run pins s σ H R I h
  · exact (pi_str he).run pins s σ H R I h⟩
/-- isinstance(x, (T1, T2, ..)), built-in types -/
def kitL (t : String) : List String → Option Bool
  | [] => some false
  | T :: Ts => match kitB t T with
    | some true => some true
    | some false => kitL t Ts
    | none => none
theorem kitL_any {K : PySem.W.Frag} {t : String} : ∀ {Ts : List String} {b : Bool}, kitL t Ts = some b → PySem.W.kitAny K (.type t) (Ts.map Value.type) = some b
  | [], b, h => by cases h; rfl
  | T :: Ts, b, h => by
    unfold kitL at h
    cases e : kitB t T with
    | none => rw [e] at h; cases h
    | some c =>
      rw [e] at h
      cases c with
      | true => cases h; exact kitAny_cons (b := true) (kit_ty e) (fun z => by cases z) (fun _ => rfl)
      | false => exact kitAny_cons (b := false) (kit_ty e) (fun _ => kitL_any h) (fun z => by cases z)
theorem clsL : ∀ Ts : List String, Paired ClsV (Ts.map V.ty) (Ts.map Value.type)
  | [] => .nil
  | T :: Ts => .cons (.ty T) (clsL Ts)
def uIsiT (K : PySem.W.Frag) : RC := fun xs H Q => match xs with
  | [x, .ref p] => ∃ (t : String) (Ts : List String) (b : Bool), H p = some (.tup (Ts.map V.ty)) ∧ (match tyName x with | some n => t = n | none => TyX K H x (.type t)) ∧ kitL t Ts = some b ∧ Q (.bl b) H
  | _ => False
theorem c_isiT : CallR X (.builtin "isinstance") (uIsiT X.K) := by
  intro pins s σ H xs us Q I r h
  unfold uIsiT at h
  split at h
  · rename_i x p
    obtain ⟨t, Ts, b, h0, h1, h2, q⟩ := h
    have ty : TyX X.K H x (.type t) := by
      cases x with
      | non => have e : t = "NoneType" := h1; subst e; exact .base .non
      | bl b => have e : t = "bool" := h1; subst e; exact .base (.bl b)
      | int i => have e : t = "int" := h1; subst e; exact .base (.int i)
      | str z => have e : t = "str" := h1; subst e; exact .base (.str z)
      | _ => exact h1
    exact call_isiT pins s σ H _ us Q I r ⟨x, p, _, _, _, b, rfl, h0, clsL Ts, ty, kitL_any h2, q⟩
  · exact h.elim
/-! stores -/
def uGetL (K : PySem.W.Frag) (o i : V) (H : Hp) (Q : VK) : Prop := match o, i with
  | .ref a, .int k => ∃ xs v, SqL K H a xs ∧ 0 ≤ k ∧ xs[k.toNat]? = some v ∧ Q v H
  | _, _ => False
theorem g_list : PGet X (uGetL X.K) := by
  intro pins s σ H o i ov iv Q I r1 r2 h
  cases o <;> cases i <;> first | exact (show False from h).elim | skip
  obtain ⟨xs, v, h1, h2, h3, q⟩ := h
  cases r1
  obtain ⟨t, rfl⟩ := r2
  obtain ⟨its, r, pl, hz⟩ := I.list h1
  obtain ⟨w, ew, rw'⟩ := r.get h3
  have hl := line63
  have hj := (List.getElem?_eq_some_iff.mp h3).1
  exact wpAny_getItem_list pl.isList h2 (by omega) (by simpa using ew) ⟨v, H, I, rw', q⟩
def uSetL (o i v : V) (H : Hp) (Q : Hp → Prop) : Prop := match o, i with
  | .ref a, .int k => ∃ xs j, H a = some (.lst xs) ∧ ixN xs.length k = some j ∧ Q (upd H a (.lst (xs.set j v)))
  | _, _ => False
theorem p_list : PSet X uSetL := by
  intro pins s σ H o i v ov iv u Q I r1 r2 r3 h
  cases o <;> cases i <;> first | exact (show False from h).elim | skip
  obtain ⟨xs, j, h1, h2, q⟩ := h
  exact set_list pins s σ H _ _ v ov iv u Q I r1 r2 r3 ⟨_, xs, _, j, rfl, rfl, h1, h2, q⟩
def uIpI (f : Int → Int → Int) (x y : V) (H : Hp) (Q : VK) : Prop := match x, y with
  | .int i, .int j => Q (.int (f i j)) H
  | _, _ => False
theorem a_add : PIp X .Add (uIpI fun i j => i + j) := by
  intro pins s σ H x y v u Q I r1 r2 h
  cases x <;> cases y <;> first | exact (show False from h).elim | skip
  exact ip_add pins s σ H _ _ v u Q I r1 r2 ⟨_, _, rfl, rfl, h⟩
theorem a_sub : PIp X .Sub (uIpI fun i j => i - j) := by
  intro pins s σ H x y v u Q I r1 r2 h
  cases x <;> cases y <;> first | exact (show False from h).elim | skip
  exact ip_sub pins s σ H _ _ v u Q I r1 r2 ⟨_, _, rfl, rfl, h⟩
end
section
variable {σ : St} {H : Hp} {Q : VK} {D : Ends} {K : PySem.W.Frag} {i j : Int}
theorem r_sq {t u : TS} (h : t { D with nx := u D } σ H) : tSq t u D σ H := ⟨u D, h, fun _ _ x => x⟩
theorem r_cut {t u : TS} (M : St → Hp → Prop) (h : t { D with nx := M } σ H) (k : ∀ σ' H', M σ' H' → u D σ' H') : tSq t u D σ H := ⟨M, h, k⟩
theorem r_sqA {te : TE} {g : TG} {u : TS} (h : te σ H fun x H1 => g x σ H1 (u D)) : tSq (tAsg te g) u D σ H := r_sq h
theorem r_sqD {te : TE} {u : TS} (h : te σ H fun _ H1 => u D σ H1) : tSq (tDrop te) u D σ H := r_sq h
theorem r_sqG {x : V} {i : Nat} {te : TE} {ti : TIp} {u : TS} (hx : σ[i]? = some (some x)) (h : te σ H fun y H1 => ti x y H1 fun z H2 => u D (σ.set i (some z)) H2) : tSq (tAug i te ti) u D σ H := r_sq ⟨x, hx, h⟩
theorem r_sqS {to ti te : TE} {tg : V → V → Hp → VK → Prop} {tp : TIp} {ts : TSet} {u : TS} (h : to σ H fun o H1 => ti σ H1 fun k H2 => tg o k H2 fun x H3 => te σ H3 fun y H4 => tp x y H4 fun z H5 => ts o k z H5 fun H6 => u D σ H6) : tSq (tAugS to ti te tg tp ts) u D σ H := r_sq h
theorem r_yes {QB : Bool → Hp → Prop} (h : QB true H) : tYes σ H QB := h
theorem same_new {p : Addr} {o : HO} (h : H p = none) : Same H (upd H p o) := fun b x e => by
  rw [upd_ne (ne_of_none e h)]
  exact e
theorem same_mut {H' : Hp} {p : Addr} {o : HO} (e : Same H H') (h : H p = none) : Same H (upd H' p o) := fun b x eb => by
  rw [upd_ne (ne_of_none eb h)]
  exact e b x eb
theorem r_sub3 {to ti : TE} {ts : TSet} {v : V} {R : St → Hp → Prop} (h : to σ H fun o H1 => ti σ H1 fun k H2 => ts o k v H2 fun H3 => R σ H3) : gSub to ti ts v σ H R := h
theorem r_augS {to ti te : TE} {tg : V → V → Hp → VK → Prop} {tp : TIp} {ts : TSet} (h : to σ H fun o H1 => ti σ H1 fun k H2 => tg o k H2 fun x H3 => te σ H3 fun y H4 => tp x y H4 fun z H5 => ts o k z H5 fun H6 => D.nx σ H6) : tAugS to ti te tg tp ts D σ H := h
theorem r_ipI {f : Int → Int → Int} (h : Q (.int (f i j)) H) : uIpI f (.int i) (.int j) H Q := h
theorem r_getL {a : Addr} {k : Int} {xs : List V} {v : V} (h1 : SqL K H a xs) (h2 : 0 ≤ k) (h3 : xs[k.toNat]? = some v) (h : Q v H) : uGetL K (.ref a) (.int k) H Q := ⟨xs, v, h1, h2, h3, h⟩
theorem r_setL {a : Addr} {k : Int} {xs : List V} {m : Nat} {v : V} {R : Hp → Prop} (h1 : H a = some (.lst xs)) (h2 : ixN xs.length k = some m) (h : R (upd H a (.lst (xs.set m v)))) : uSetL (.ref a) (.int k) v H R := ⟨xs, m, h1, h2, h⟩
/-! loops -/
/-- a loop over n things: P holds ahead of each turn -/
theorem l_for {J : It} {n : Nat} {g : TG} {tb : TS} (P : Nat → St → Hp → Prop) (h0 : P 0 σ H) (go : ∀ i σ H, i < n → P i σ H → J.go i H) (stop : ∀ σ H, P n σ H → J.stop n H)
    (step : ∀ i σ H, i < n → P i σ H → ∀ x H', J.yld i H x H' → g x σ H' fun σ2 H2 => tb { D with nx := P (i + 1), ct := P (i + 1), bk := D.nx } σ2 H2) (done : ∀ σ H, P n σ H → D.nx σ H) :
    ∃ W : Nat → Nat → St → Hp → Prop, (∃ m, W 0 m σ H) ∧ ∀ i m σ H, W i m σ H →
      (J.stop i H ∧ D.nx σ H) ∨ (J.go i H ∧ ∃ N : St → Hp → Prop, (∀ σ' H', N σ' H' → ∃ m', m' < m ∧ W (i + 1) m' σ' H') ∧ ∀ x H', J.yld i H x H' → g x σ H' fun σ2 H2 => tb { D with nx := N, ct := N, bk := D.nx } σ2 H2) := by
  refine ⟨fun i m σ H => m = n - i ∧ i ≤ n ∧ P i σ H, ⟨n, by simp, Nat.zero_le _, h0⟩, ?_⟩
  rintro i m σ H ⟨rfl, hi, p⟩
  by_cases hlt : i < n
  · exact .inr ⟨go i σ H hlt p, P (i + 1), fun σ' H' p' => ⟨n - (i + 1), by omega, rfl, hlt, p'⟩, fun x H' y => step i σ H hlt p x H' y⟩
  · have e : i = n := by omega
    subst e
    exact .inl ⟨stop σ H p, done σ H p⟩
theorem r_for {wi : TI} {g : TG} {tb : TS} (h : wi σ H fun J H1 => ∃ W : Nat → Nat → St → Hp → Prop, (∃ m, W 0 m σ H1) ∧ ∀ i m σ H, W i m σ H →
  (J.stop i H ∧ D.nx σ H) ∨ (J.go i H ∧ ∃ N : St → Hp → Prop, (∀ σ' H', N σ' H' → ∃ m', m' < m ∧ W (i + 1) m' σ' H') ∧ ∀ x H', J.yld i H x H' → g x σ H' fun σ2 H2 => tb { D with nx := N, ct := N, bk := D.nx } σ2 H2)) : tFor wi g tb D σ H := h
theorem it_list {te : TE} {R : It → Hp → Prop} (h : te σ H fun x H1 => ∃ a, x = .ref a ∧ (∃ xs, SqL K H1 a xs) ∧ R (Itl K a) H1) : uIt K te σ H R := .inl h
theorem it_tup {te : TE} {R : It → Hp → Prop} (h : te σ H fun x H1 => ∃ a, x = .ref a ∧ (∃ xs, SqT K H1 a xs) ∧ R (Itt K a) H1) : uIt K te σ H R := .inr (.inl h)
theorem it_str {te : TE} {R : It → Hp → Prop} (h : te σ H fun v H1 => ∃ x, v = .str x ∧ R (Its x) H1) : uIt K te σ H R := .inr (.inr h)
theorem r_rng1 {ta : TA} {R : It → Hp → Prop} (h : ta σ H fun vs H1 => ∃ j : Int, vs = [.int j] ∧ -(2 ^ 62) ≤ j ∧ j < 2 ^ 62 ∧ R (Itr 0 j.toNat) H1) : iRng1 ta σ H R := h
theorem r_rng1v {k : Int} {P : Int → Prop} (h : P k) : ∃ j : Int, [V.int k] = [V.int j] ∧ P j := ⟨k, rfl, h⟩
theorem r_rng2 {ta : TA} {R : It → Hp → Prop} (h : ta σ H fun vs H1 => ∃ i j : Int, vs = [.int i, .int j] ∧ (-(2 ^ 62) ≤ i ∧ i < 2 ^ 62 ∧ -(2 ^ 62) ≤ j ∧ j < 2 ^ 62) ∧ R (Itr i (j - i).toNat) H1) : iRng2 ta σ H R := h
theorem r_rng2v {a b : Int} {P : Int → Int → Prop} (h : P a b) : ∃ i j : Int, [V.int a, V.int b] = [V.int i, V.int j] ∧ P i j := ⟨a, b, rfl, h⟩
/-- over a range that is told by its number of turns -/
theorem f_range {lo : Int} {n : Nat} {g : TG} {tb : TS} (P : Nat → St → Hp → Prop) (h0 : P 0 σ H)
    (step : ∀ i σ H, i < n → P i σ H → g (.int (lo + i)) σ H fun σ2 H2 => tb { D with nx := P (i + 1), ct := P (i + 1), bk := D.nx } σ2 H2) (done : ∀ σ H, P n σ H → D.nx σ H) :
    ∃ W : Nat → Nat → St → Hp → Prop, (∃ m, W 0 m σ H) ∧ ∀ i m σ H, W i m σ H →
      ((Itr lo n).stop i H ∧ D.nx σ H) ∨ ((Itr lo n).go i H ∧ ∃ N : St → Hp → Prop, (∀ σ' H', N σ' H' → ∃ m', m' < m ∧ W (i + 1) m' σ' H') ∧ ∀ x H', (Itr lo n).yld i H x H' → g x σ H' fun σ2 H2 => tb { D with nx := N, ct := N, bk := D.nx } σ2 H2) :=
  l_for P h0 (fun i σ H h _ => h) (fun _ _ _ => Nat.le_refl _) (fun i σ H h p x H' y => by
    obtain ⟨e1, e2⟩ := y
    subst e1 e2
    exact step i σ H' h p) done
/-- over a text, sign by sign -/
theorem f_str {z : Str} {g : TG} {tb : TS} (P : Nat → St → Hp → Prop) (h0 : P 0 σ H)
    (step : ∀ i (c : Nat) σ H, z.cps.toList[i]? = some c → P i σ H → g (.str ⟨#[c]⟩) σ H fun σ2 H2 => tb { D with nx := P (i + 1), ct := P (i + 1), bk := D.nx } σ2 H2) (done : ∀ σ H, P z.cps.toList.length σ H → D.nx σ H) :
    ∃ W : Nat → Nat → St → Hp → Prop, (∃ m, W 0 m σ H) ∧ ∀ i m σ H, W i m σ H →
      ((Its z).stop i H ∧ D.nx σ H) ∨ ((Its z).go i H ∧ ∃ N : St → Hp → Prop, (∀ σ' H', N σ' H' → ∃ m', m' < m ∧ W (i + 1) m' σ' H') ∧ ∀ x H', (Its z).yld i H x H' → g x σ H' fun σ2 H2 => tb { D with nx := N, ct := N, bk := D.nx } σ2 H2) :=
  l_for P h0 (fun i σ H h _ => by show i < z.cps.size; simpa using h) (fun _ _ _ => by show z.cps.size ≤ _; simp) (fun i σ H h p x H' y => by
    obtain ⟨e1, c, e, e2⟩ := y
    subst e1 e2
    exact step i c σ H' (by simpa using e) p) done
/-- over a list that stays -/
theorem f_list {a : Addr} {xs : List V} {g : TG} {tb : TS} (P : Nat → St → Hp → Prop) (h0 : P 0 σ H) (hl : ∀ i σ H, P i σ H → SqL K H a xs)
    (step : ∀ i x σ H, xs[i]? = some x → P i σ H → g x σ H fun σ2 H2 => tb { D with nx := P (i + 1), ct := P (i + 1), bk := D.nx } σ2 H2) (done : ∀ σ H, P xs.length σ H → D.nx σ H) :
    ∃ W : Nat → Nat → St → Hp → Prop, (∃ m, W 0 m σ H) ∧ ∀ i m σ H, W i m σ H →
      ((Itl K a).stop i H ∧ D.nx σ H) ∨ ((Itl K a).go i H ∧ ∃ N : St → Hp → Prop, (∀ σ' H', N σ' H' → ∃ m', m' < m ∧ W (i + 1) m' σ' H') ∧ ∀ x H', (Itl K a).yld i H x H' → g x σ H' fun σ2 H2 => tb { D with nx := N, ct := N, bk := D.nx } σ2 H2) :=
  for_list P h0 (fun i σ H _ p => hl i σ H p) step done
theorem f_tup {a : Addr} {xs : List V} {g : TG} {tb : TS} (P : Nat → St → Hp → Prop) (h0 : P 0 σ H) (hl : ∀ i σ H, P i σ H → SqT K H a xs)
    (step : ∀ i x σ H, xs[i]? = some x → P i σ H → g x σ H fun σ2 H2 => tb { D with nx := P (i + 1), ct := P (i + 1), bk := D.nx } σ2 H2) (done : ∀ σ H, P xs.length σ H → D.nx σ H) :
    ∃ W : Nat → Nat → St → Hp → Prop, (∃ m, W 0 m σ H) ∧ ∀ i m σ H, W i m σ H →
      ((Itt K a).stop i H ∧ D.nx σ H) ∨ ((Itt K a).go i H ∧ ∃ N : St → Hp → Prop, (∀ σ' H', N σ' H' → ∃ m', m' < m ∧ W (i + 1) m' σ' H') ∧ ∀ x H', (Itt K a).yld i H x H' → g x σ H' fun σ2 H2 => tb { D with nx := N, ct := N, bk := D.nx } σ2 H2) :=
  for_tup P h0 (fun i σ H _ p => hl i σ H p) step done
/-! comprehensions: P by the turn and what the new list holds so far -/
/-- what is wanted behind an element -/
abbrev LcEnd (D : Addr) (N : Hp → Prop) (y : V) (H4 : Hp) : Prop := ∃ acc, H4 D = some (.lst acc) ∧ acc.length < sizeLine ∧ N (upd H4 D (.lst (acc ++ [y])))
theorem l_lc {J : It} {n : Nat} {g : TG} {tt : TT} {te : TE} {vs : List Nat} {D : Addr} {H1 : Hp} {Qd : Hp → Prop} (P : Nat → Hp → Prop) (h0 : P 0 (upd H1 D (.lst [])))
    (go : ∀ i H, i < n → P i H → J.go i H) (stop : ∀ H, P n H → J.stop n H)
    (step : ∀ i H, i < n → P i H → ∀ x H', J.yld i H x H' → g x (wipe σ vs) H' fun σ2 H2 => wipe σ2 vs = wipe σ vs ∧ tt σ2 H2 fun b H3 => if b = true then te σ2 H3 (LcEnd D (P (i + 1))) else P (i + 1) H3) (done : ∀ H, P n H → Qd H) :
    ∃ W : Nat → Nat → Hp → Prop, (∃ m, W 0 m (upd H1 D (.lst []))) ∧ ∀ i m H, W i m H →
      (J.stop i H ∧ Qd H) ∨ (J.go i H ∧ ∃ Nx : Hp → Prop, (∀ H', Nx H' → ∃ m', m' < m ∧ W (i + 1) m' H') ∧ ∀ x H', J.yld i H x H' → g x (wipe σ vs) H' fun σ2 H2 => wipe σ2 vs = wipe σ vs ∧ tt σ2 H2 fun b H3 =>
        if b = true then te σ2 H3 fun y H4 => ∃ acc, H4 D = some (.lst acc) ∧ acc.length < sizeLine ∧ Nx (upd H4 D (.lst (acc ++ [y]))) else Nx H3) := by
  refine ⟨fun i m H => m = n - i ∧ i ≤ n ∧ P i H, ⟨n, by simp, Nat.zero_le _, h0⟩, ?_⟩
  rintro i m H ⟨rfl, hi, p⟩
  by_cases hlt : i < n
  · exact .inr ⟨go i H hlt p, P (i + 1), fun H' p' => ⟨n - (i + 1), by omega, rfl, hlt, p'⟩, fun x H' y => step i H hlt p x H' y⟩
  · have e : i = n := by omega
    subst e
    exact .inl ⟨stop H p, done H p⟩
theorem r_lc {wi : TI} {g : TG} {tt : TT} {te : TE} {vs : List Nat} (h : wi σ H fun J H1 => ∀ D, H1 D = none → ∃ W : Nat → Nat → Hp → Prop, (∃ m, W 0 m (upd H1 D (.lst []))) ∧ ∀ i m H, W i m H →
  (J.stop i H ∧ Q (.ref D) H) ∨ (J.go i H ∧ ∃ Nx : Hp → Prop, (∀ H', Nx H' → ∃ m', m' < m ∧ W (i + 1) m' H') ∧ ∀ x H', J.yld i H x H' → g x (wipe σ vs) H' fun σ2 H2 => wipe σ2 vs = wipe σ vs ∧ tt σ2 H2 fun b H3 =>
    if b = true then te σ2 H3 fun y H4 => ∃ acc, H4 D = some (.lst acc) ∧ acc.length < sizeLine ∧ Nx (upd H4 D (.lst (acc ++ [y]))) else Nx H3)) : tLc wi g tt te vs σ H Q := h
/-- a comprehension over a range of n turns -/
theorem c_range {lo : Int} {n : Nat} {g : TG} {tt : TT} {te : TE} {vs : List Nat} {D : Addr} {H1 : Hp} {Qd : Hp → Prop} (P : Nat → Hp → Prop) (h0 : P 0 (upd H1 D (.lst [])))
    (step : ∀ i H, i < n → P i H → g (.int (lo + i)) (wipe σ vs) H fun σ2 H2 => wipe σ2 vs = wipe σ vs ∧ tt σ2 H2 fun b H3 => if b = true then te σ2 H3 (LcEnd D (P (i + 1))) else P (i + 1) H3) (done : ∀ H, P n H → Qd H) :
    ∃ W : Nat → Nat → Hp → Prop, (∃ m, W 0 m (upd H1 D (.lst []))) ∧ ∀ i m H, W i m H →
      ((Itr lo n).stop i H ∧ Qd H) ∨ ((Itr lo n).go i H ∧ ∃ Nx : Hp → Prop, (∀ H', Nx H' → ∃ m', m' < m ∧ W (i + 1) m' H') ∧ ∀ x H', (Itr lo n).yld i H x H' → g x (wipe σ vs) H' fun σ2 H2 => wipe σ2 vs = wipe σ vs ∧ tt σ2 H2 fun b H3 =>
        if b = true then te σ2 H3 fun y H4 => ∃ acc, H4 D = some (.lst acc) ∧ acc.length < sizeLine ∧ Nx (upd H4 D (.lst (acc ++ [y]))) else Nx H3) :=
  l_lc P h0 (fun i H h _ => h) (fun _ _ => Nat.le_refl _) (fun i H h p x H' y => by
    obtain ⟨e1, e2⟩ := y
    subst e1 e2
    exact step i H' h p) done
theorem c_strs {z : Str} {g : TG} {tt : TT} {te : TE} {vs : List Nat} {D : Addr} {H1 : Hp} {Qd : Hp → Prop} (P : Nat → Hp → Prop) (h0 : P 0 (upd H1 D (.lst [])))
    (step : ∀ i (c : Nat) H, z.cps.toList[i]? = some c → P i H → g (.str ⟨#[c]⟩) (wipe σ vs) H fun σ2 H2 => wipe σ2 vs = wipe σ vs ∧ tt σ2 H2 fun b H3 => if b = true then te σ2 H3 (LcEnd D (P (i + 1))) else P (i + 1) H3) (done : ∀ H, P z.cps.toList.length H → Qd H) :
    ∃ W : Nat → Nat → Hp → Prop, (∃ m, W 0 m (upd H1 D (.lst []))) ∧ ∀ i m H, W i m H →
      ((Its z).stop i H ∧ Qd H) ∨ ((Its z).go i H ∧ ∃ Nx : Hp → Prop, (∀ H', Nx H' → ∃ m', m' < m ∧ W (i + 1) m' H') ∧ ∀ x H', (Its z).yld i H x H' → g x (wipe σ vs) H' fun σ2 H2 => wipe σ2 vs = wipe σ vs ∧ tt σ2 H2 fun b H3 =>
        if b = true then te σ2 H3 fun y H4 => ∃ acc, H4 D = some (.lst acc) ∧ acc.length < sizeLine ∧ Nx (upd H4 D (.lst (acc ++ [y]))) else Nx H3) :=
  l_lc P h0 (fun i H h _ => by show i < z.cps.size; simpa using h) (fun _ _ => by show z.cps.size ≤ _; simp) (fun i H h p x H' y => by
    obtain ⟨e1, c, e, e2⟩ := y
    subst e1 e2
    exact step i c H' (by simpa using e) p) done
theorem c_lists {a : Addr} {xs : List V} {g : TG} {tt : TT} {te : TE} {vs : List Nat} {D : Addr} {H1 : Hp} {Qd : Hp → Prop} (P : Nat → Hp → Prop) (h0 : P 0 (upd H1 D (.lst []))) (hl : ∀ i H, P i H → SqL K H a xs)
    (step : ∀ i x H, xs[i]? = some x → P i H → g x (wipe σ vs) H fun σ2 H2 => wipe σ2 vs = wipe σ vs ∧ tt σ2 H2 fun b H3 => if b = true then te σ2 H3 (LcEnd D (P (i + 1))) else P (i + 1) H3) (done : ∀ H, P xs.length H → Qd H) :
    ∃ W : Nat → Nat → Hp → Prop, (∃ m, W 0 m (upd H1 D (.lst []))) ∧ ∀ i m H, W i m H →
      ((Itl K a).stop i H ∧ Qd H) ∨ ((Itl K a).go i H ∧ ∃ Nx : Hp → Prop, (∀ H', Nx H' → ∃ m', m' < m ∧ W (i + 1) m' H') ∧ ∀ x H', (Itl K a).yld i H x H' → g x (wipe σ vs) H' fun σ2 H2 => wipe σ2 vs = wipe σ vs ∧ tt σ2 H2 fun b H3 =>
        if b = true then te σ2 H3 fun y H4 => ∃ acc, H4 D = some (.lst acc) ∧ acc.length < sizeLine ∧ Nx (upd H4 D (.lst (acc ++ [y]))) else Nx H3) :=
  l_lc P h0 (fun i H h p => ⟨xs, xs[i], hl i H p, by simp [h]⟩) (fun H p => ⟨xs, hl _ H p, Nat.le_refl _⟩) (fun i H h p x H' y => by
    obtain ⟨e1, e2⟩ := y
    subst e1
    exact step i x H' (e2 xs (hl i _ p)) p) done
theorem c_tups {a : Addr} {xs : List V} {g : TG} {tt : TT} {te : TE} {vs : List Nat} {D : Addr} {H1 : Hp} {Qd : Hp → Prop} (P : Nat → Hp → Prop) (h0 : P 0 (upd H1 D (.lst []))) (hl : ∀ i H, P i H → SqT K H a xs)
    (step : ∀ i x H, xs[i]? = some x → P i H → g x (wipe σ vs) H fun σ2 H2 => wipe σ2 vs = wipe σ vs ∧ tt σ2 H2 fun b H3 => if b = true then te σ2 H3 (LcEnd D (P (i + 1))) else P (i + 1) H3) (done : ∀ H, P xs.length H → Qd H) :
    ∃ W : Nat → Nat → Hp → Prop, (∃ m, W 0 m (upd H1 D (.lst []))) ∧ ∀ i m H, W i m H →
      ((Itt K a).stop i H ∧ Qd H) ∨ ((Itt K a).go i H ∧ ∃ Nx : Hp → Prop, (∀ H', Nx H' → ∃ m', m' < m ∧ W (i + 1) m' H') ∧ ∀ x H', (Itt K a).yld i H x H' → g x (wipe σ vs) H' fun σ2 H2 => wipe σ2 vs = wipe σ vs ∧ tt σ2 H2 fun b H3 =>
        if b = true then te σ2 H3 fun y H4 => ∃ acc, H4 D = some (.lst acc) ∧ acc.length < sizeLine ∧ Nx (upd H4 D (.lst (acc ++ [y]))) else Nx H3) :=
  l_lc P h0 (fun i H h p => ⟨xs, xs[i], hl i H p, by simp [h]⟩) (fun H p => ⟨xs, hl _ H p, Nat.le_refl _⟩) (fun i H h p x H' y => by
    obtain ⟨e1, e2⟩ := y
    subst e1
    exact step i x H' (e2 xs (hl i _ p)) p) done
end
end U
/-! U3: data of tuples, and how a heap bears them. -/
namespace U
open PySem PySem.Spec L2
/-- data of tuples -/
inductive D where
  | non | bl (b : Bool) | int (i : Int) | str (x : Str) | tup (ds : List D)
mutual
def D.py : D → PyData
  | .non => .none
  | .bl b => .bool b
  | .int i => .int i
  | .str x => .str x
  | .tup ds => .tuple (D.pyL ds)
def D.pyL : List D → List PyData
  | [] => []
  | d :: ds => D.py d :: D.pyL ds
end
theorem D.pyL_map : ∀ ds : List D, D.pyL ds = ds.map D.py
  | [] => rfl
  | d :: ds => by rw [D.pyL, D.pyL_map ds]; rfl
mutual
inductive Td (K : PySem.W.Frag) (H : Hp) : V → D → Prop
  | non : Td K H .non .non
  | bl (b : Bool) : Td K H (.bl b) (.bl b)
  | int (i : Int) : Td K H (.int i) (.int i)
  | str (x : Str) : Td K H (.str x) (.str x)
  | tup {a : Addr} {vs : List V} {ds : List D} : SqT K H a vs → TdL K H vs ds → Td K H (.ref a) (.tup ds)
inductive TdL (K : PySem.W.Frag) (H : Hp) : List V → List D → Prop
  | nil : TdL K H [] []
  | cons {v : V} {vs : List V} {d : D} {ds : List D} : Td K H v d → TdL K H vs ds → TdL K H (v :: vs) (d :: ds)
end
/-- the tuples stay -/
def Tk (K : PySem.W.Frag) (H H' : Hp) : Prop := ∀ a xs, SqT K H a xs → SqT K H' a xs
section
variable {K : PySem.W.Frag} {H H' H2 : Hp}
theorem Tk.refl : Tk K H H := fun _ _ h => h
theorem Tk.trans (a : Tk K H H') (b : Tk K H' H2) : Tk K H H2 := fun x xs h => b x xs (a x xs h)
theorem Same.tk (e : Same H H') : Tk K H H' := fun a xs h => by
  rcases h with (h | ⟨o, h⟩) | h
  · exact .inl (.inl (e _ _ h))
  · exact .inl (.inr ⟨o, e _ _ h⟩)
  · exact .inr h
/-- what is no tuple may change -/
theorem Tk.mut {p : Addr} {o : HO} (h1 : ∀ xs, H p ≠ some (.tup xs)) (h2 : ∀ ob xs, H p ≠ some (.frz ob (.tup xs))) : Tk K H (upd H p o) := fun a xs h => by
  rcases h with (h | ⟨ob, h⟩) | h
  · have n : a ≠ p := fun e => h1 xs (e ▸ h)
    exact .inl (.inl (by rw [upd_ne n]; exact h))
  · have n : a ≠ p := fun e => h2 ob xs (e ▸ h)
    exact .inl (.inr ⟨ob, by rw [upd_ne n]; exact h⟩)
  · exact .inr h
theorem Tk.new {p : Addr} {o : HO} (h : H p = none) : Tk K H (upd H p o) := Tk.mut (fun xs e => by rw [h] at e; cases e) (fun _ xs e => by rw [h] at e; cases e)
theorem Tk.lst {p : Addr} {xs : List V} {o : HO} (h : H p = some (.lst xs)) : Tk K H (upd H p o) := Tk.mut (fun ys e => by rw [h] at e; cases e) (fun _ ys e => by rw [h] at e; cases e)
theorem Tk.dK {p : Addr} {xs : List (Key × V)} {o : HO} (h : H p = some (.dK xs)) : Tk K H (upd H p o) := Tk.mut (fun ys e => by rw [h] at e; cases e) (fun _ ys e => by rw [h] at e; cases e)
theorem Tk.ins {p C dx : Addr} {fs : List (Str × V)} {o : HO} (h : H p = some (.ins C dx fs)) : Tk K H (upd H p o) := Tk.mut (fun ys e => by rw [h] at e; cases e) (fun _ ys e => by rw [h] at e; cases e)
mutual
theorem Td.mono (e : Tk K H H') : ∀ (d : D) (v : V), Td K H v d → Td K H' v d
  | .non, _, h => by cases h; exact .non
  | .bl _, _, h => by cases h; exact .bl _
  | .int _, _, h => by cases h; exact .int _
  | .str _, _, h => by cases h; exact .str _
  | .tup ds, _, h => by
    cases h with
    | tup h1 h2 => exact .tup (e _ _ h1) (TdL.mono e ds _ h2)
theorem TdL.mono (e : Tk K H H') : ∀ (ds : List D) (vs : List V), TdL K H vs ds → TdL K H' vs ds
  | [], _, h => by cases h; exact .nil
  | d :: ds, _, h => by
    cases h with
    | cons h1 h2 => exact .cons (Td.mono e d _ h1) (TdL.mono e ds _ h2)
end
theorem Td.k {d : D} {v : V} (h : Td K H v d) (e : Tk K H H') : Td K H' v d := Td.mono e d v h
theorem TdL.k {ds : List D} {vs : List V} (h : TdL K H vs ds) (e : Tk K H H') : TdL K H' vs ds := TdL.mono e ds vs h
mutual
theorem Td.dp : ∀ (d : D) (v : V), Td K H v d → Dp K H v d.py
  | .non, _, h => by cases h; exact .non
  | .bl _, _, h => by cases h; exact .bl _
  | .int _, _, h => by cases h; exact .int _
  | .str _, _, h => by cases h; exact .str _
  | .tup ds, _, h => by
    cases h with
    | tup h1 h2 => rw [D.py]; exact .tup h1 (TdL.dp ds _ h2)
theorem TdL.dp : ∀ (ds : List D) (vs : List V), TdL K H vs ds → DpAll K H vs (D.pyL ds)
  | [], _, h => by cases h; exact .nil
  | d :: ds, _, h => by
    cases h with
    | cons h1 h2 => rw [D.pyL]; exact .cons (Td.dp d _ h1) (TdL.dp ds _ h2)
end
theorem TdL.len : ∀ {vs : List V} {ds : List D}, TdL K H vs ds → vs.length = ds.length
  | _, _, .nil => rfl
  | _, _, .cons _ t => by rw [List.length_cons, List.length_cons, TdL.len t]
theorem TdL.get : ∀ {vs : List V} {ds : List D} {i : Nat} {d : D}, TdL K H vs ds → ds[i]? = some d → ∃ v, vs[i]? = some v ∧ Td K H v d
  | _, _, i, _, .nil, h => by simp at h
  | _, _, 0, _, .cons h t, e => by simp at e; subst e; exact ⟨_, rfl, h⟩
  | _, _, i + 1, _, .cons h t, e => by
    obtain ⟨v, h1, h2⟩ := TdL.get (i := i) t (by simpa using e)
    exact ⟨v, by simpa using h1, h2⟩
theorem TdL.append : ∀ {vs ws : List V} {ds es : List D}, TdL K H vs ds → TdL K H ws es → TdL K H (vs ++ ws) (ds ++ es)
  | _, _, _, _, .nil, s => s
  | _, _, _, _, .cons h t, s => .cons h (TdL.append t s)
theorem TdL.take : ∀ {vs : List V} {ds : List D} (n : Nat), TdL K H vs ds → TdL K H (vs.take n) (ds.take n)
  | _, _, 0, _ => .nil
  | _, _, _ + 1, .nil => .nil
  | _, _, n + 1, .cons h t => .cons h (TdL.take n t)
theorem TdL.drop : ∀ {vs : List V} {ds : List D} (n : Nat), TdL K H vs ds → TdL K H (vs.drop n) (ds.drop n)
  | _, _, 0, r => r
  | _, _, _ + 1, .nil => .nil
  | _, _, n + 1, .cons _ t => TdL.drop n t
theorem TdL.one {v : V} {d : D} (h : Td K H v d) : TdL K H [v] [d] := .cons h .nil
/-- a tuple that was just made -/
theorem Td.made {p : Addr} {vs : List V} {ds : List D} (h : TdL K H vs ds) (hp : H p = some (.tup vs)) : Td K H (.ref p) (.tup ds) := .tup (SqT.of hp) h
theorem Td.newT {p : Addr} {vs : List V} {ds : List D} (h : TdL K H vs ds) (hp : H p = none) : Td K (upd H p (.tup vs)) (.ref p) (.tup ds) := .tup (SqT.of upd_same) (h.k (Tk.new hp))
end
/-! equality -/
mutual
def D.eqb : D → D → Bool
  | .non, .non => true
  | .bl a, .bl b => a == b
  | .bl a, .int j => (if a then 1 else 0) == j
  | .int i, .bl b => i == (if b then 1 else 0)
  | .int i, .int j => i == j
  | .str x, .str y => x == y
  | .tup xs, .tup ys => D.eqL xs ys
  | _, _ => false
def D.eqL : List D → List D → Bool
  | [], [] => true
  | x :: xs, y :: ys => D.eqb x y && D.eqL xs ys
  | _, _ => false
end
mutual
theorem D.eqb_py : ∀ a b : D, PyData.eqv a.py b.py = D.eqb a b
  | .non, b => by cases b <;> simp [D.py, PyData.eqv, D.eqb]
  | .bl _, b => by cases b <;> simp [D.py, PyData.eqv, D.eqb]
  | .int _, b => by cases b <;> simp [D.py, PyData.eqv, D.eqb]
  | .str _, b => by cases b <;> simp [D.py, PyData.eqv, D.eqb]
  | .tup xs, b => by
    cases b with
    | tup ys => rw [D.py, D.py, PyData.eqv, D.eqb, D.eqL_py xs ys]
    | _ => simp [D.py, PyData.eqv, D.eqb]
theorem D.eqL_py : ∀ xs ys : List D, PyData.eqvAll (D.pyL xs) (D.pyL ys) = D.eqL xs ys
  | [], [] => by simp [D.pyL, PyData.eqvAll, D.eqL]
  | [], _ :: _ => by simp [D.pyL, PyData.eqvAll, D.eqL]
  | _ :: _, [] => by simp [D.pyL, PyData.eqvAll, D.eqL]
  | x :: xs, y :: ys => by rw [D.pyL, D.pyL, PyData.eqvAll, D.eqL, D.eqb_py x y, D.eqL_py xs ys]
end
/-! fit to be compared: sound texts, no deeper than n, no wider than 60000 -/
mutual
def D.fit : Nat → D → Bool
  | _, .str x => PyData.strOk x && decide (x.length ≤ 60000)
  | 0, .tup _ => false
  | n + 1, .tup ds => decide (ds.length ≤ 60000) && D.fitL n ds
  | _, _ => true
def D.fitL : Nat → List D → Bool
  | _, [] => true
  | n, d :: ds => D.fit n d && D.fitL n ds
end
theorem D.fitL_iff {n : Nat} : ∀ {ds : List D}, D.fitL n ds = true ↔ ∀ d ∈ ds, D.fit n d = true
  | [] => by simp [D.fitL]
  | d :: ds => by rw [D.fitL, Bool.and_eq_true, D.fitL_iff (ds := ds)]; simp
theorem D.fit_tup {n : Nat} {ds : List D} : D.fit (n + 1) (.tup ds) = true ↔ ds.length ≤ 60000 ∧ ∀ d ∈ ds, D.fit n d = true := by
  rw [D.fit, Bool.and_eq_true, decide_eq_true_eq, D.fitL_iff]
theorem D.fit_str {n : Nat} {x : Str} : D.fit n (.str x) = true ↔ PyData.strOk x = true ∧ x.length ≤ 60000 := by
  cases n <;> rw [D.fit, Bool.and_eq_true, decide_eq_true_eq]
theorem D.fit_int {n : Nat} {i : Int} : D.fit n (.int i) = true := by cases n <;> rfl
theorem D.fit_bl {n : Nat} {b : Bool} : D.fit n (.bl b) = true := by cases n <;> rfl
theorem D.fit_non {n : Nat} : D.fit n .non = true := by cases n <;> rfl
mutual
theorem D.fit_lay : ∀ (d : D) (n : Nat), D.fit n d = true → d.py.canLay0 = true ∧ d.py.depth ≤ n + 1
  | .non, n, _ => by simp [D.py, PyData.canLay0, PyData.depth]
  | .bl _, n, _ => by simp [D.py, PyData.canLay0, PyData.depth]
  | .int _, n, _ => by simp [D.py, PyData.canLay0, PyData.depth]
  | .str x, n, h => by
    have h' : PyData.strOk x = true := (D.fit_str.mp h).1
    simp [D.py, PyData.canLay0, PyData.depth, h']
  | .tup ds, 0, h => by simp [D.fit] at h
  | .tup ds, n + 1, h => by
    have h' : D.fitL n ds = true := by
      rw [D.fit, Bool.and_eq_true] at h
      exact h.2
    obtain ⟨h1, h2⟩ := D.fitL_lay ds n h'
    simp only [D.py, PyData.canLay0, PyData.depth]
    exact ⟨h1, by omega⟩
theorem D.fitL_lay : ∀ (ds : List D) (n : Nat), D.fitL n ds = true → PyData.canLayAll0 (D.pyL ds) = true ∧ PyData.depthAll (D.pyL ds) ≤ n + 1
  | [], n, _ => by simp [D.pyL, PyData.canLayAll0, PyData.depthAll]
  | d :: ds, n, h => by
    have h' : (D.fit n d && D.fitL n ds) = true := by simpa [D.fitL] using h
    obtain ⟨a, b⟩ := Bool.and_eq_true_iff.mp h'
    obtain ⟨a1, a2⟩ := D.fit_lay d n a
    obtain ⟨b1, b2⟩ := D.fitL_lay ds n b
    simp only [D.pyL, PyData.canLayAll0, PyData.depthAll, a1, b1]
    exact ⟨rfl, by omega⟩
end
theorem D.shaped {d : D} {n : Nat} (h : D.fit n d = true) (hn : n ≤ 63) : SeqAt.shaped d.py = true := by
  obtain ⟨a, b⟩ := D.fit_lay d n h
  exact Bool.and_eq_true_iff.mpr ⟨a, decide_eq_true (by omega)⟩
mutual
theorem D.fit_mono : ∀ (d : D) {n m : Nat}, n ≤ m → D.fit n d = true → D.fit m d = true
  | .non, _, _, _, _ => D.fit_non
  | .bl _, _, _, _, _ => D.fit_bl
  | .int _, _, _, _, _ => D.fit_int
  | .str x, _, _, _, h => D.fit_str.mpr (D.fit_str.mp h)
  | .tup ds, 0, _, _, h => by simp [D.fit] at h
  | .tup ds, n + 1, 0, l, h => by omega
  | .tup ds, n + 1, m + 1, l, h => by
    rw [D.fit, Bool.and_eq_true] at h ⊢
    exact ⟨h.1, D.fitL_mono ds (by omega) h.2⟩
theorem D.fitL_mono : ∀ (ds : List D) {n m : Nat}, n ≤ m → D.fitL n ds = true → D.fitL m ds = true
  | [], _, _, _, _ => by simp [D.fitL]
  | d :: ds, n, m, l, h => by
    rw [D.fitL, Bool.and_eq_true] at h ⊢
    exact ⟨D.fit_mono d l h.1, D.fitL_mono ds l h.2⟩
end
/-! kinds of data -/
def D.isI : D → Bool
  | .bl _ => true
  | .int _ => true
  | _ => false
def D.isB : D → Bool
  | .bl _ => true
  | _ => false
def D.isS : D → Bool
  | .str _ => true
  | _ => false
def D.isT : D → Bool
  | .tup _ => true
  | _ => false
def D.isN : D → Bool
  | .non => true
  | _ => false
theorem sqT_ty {K : PySem.W.Frag} {H : Hp} {a : Addr} {vs : List V} (h : SqT K H a vs) : TyX K H (.ref a) (.type "tuple") := by
  rcases h with (h | ⟨o, h⟩) | ⟨o, its, n, h1, h2, _⟩
  · exact .base (.tup h)
  · exact .fTuple h
  · exact .kTuple h1 h2
section
variable {K : PySem.W.Frag} {H : Hp} {Q : VK} {v w : V} {a b d : D}
theorem r_isD0_int (h : Td K H v d) (q : Q (.bl d.isI) H) : uIsi K [v, .ty "int"] H Q := by
  cases h with
  | tup h1 h2 => exact ⟨"tuple", false, sqT_ty h1, by decide +kernel, q⟩
  | non => exact ⟨"NoneType", false, rfl, by decide +kernel, q⟩
  | bl b => exact ⟨"bool", true, rfl, by decide +kernel, q⟩
  | int b => exact ⟨"int", true, rfl, by decide +kernel, q⟩
  | str b => exact ⟨"str", false, rfl, by decide +kernel, q⟩
theorem r_isD0_bool (h : Td K H v d) (q : Q (.bl d.isB) H) : uIsi K [v, .ty "bool"] H Q := by
  cases h with
  | tup h1 h2 => exact ⟨"tuple", false, sqT_ty h1, by decide +kernel, q⟩
  | non => exact ⟨"NoneType", false, rfl, by decide +kernel, q⟩
  | bl b => exact ⟨"bool", true, rfl, by decide +kernel, q⟩
  | int b => exact ⟨"int", false, rfl, by decide +kernel, q⟩
  | str b => exact ⟨"str", false, rfl, by decide +kernel, q⟩
theorem r_isD0_str (h : Td K H v d) (q : Q (.bl d.isS) H) : uIsi K [v, .ty "str"] H Q := by
  cases h with
  | tup h1 h2 => exact ⟨"tuple", false, sqT_ty h1, by decide +kernel, q⟩
  | non => exact ⟨"NoneType", false, rfl, by decide +kernel, q⟩
  | bl b => exact ⟨"bool", false, rfl, by decide +kernel, q⟩
  | int b => exact ⟨"int", false, rfl, by decide +kernel, q⟩
  | str b => exact ⟨"str", true, rfl, by decide +kernel, q⟩
theorem r_isD0_tuple (h : Td K H v d) (q : Q (.bl d.isT) H) : uIsi K [v, .ty "tuple"] H Q := by
  cases h with
  | tup h1 h2 => exact ⟨"tuple", true, sqT_ty h1, by decide +kernel, q⟩
  | non => exact ⟨"NoneType", false, rfl, by decide +kernel, q⟩
  | bl b => exact ⟨"bool", false, rfl, by decide +kernel, q⟩
  | int b => exact ⟨"int", false, rfl, by decide +kernel, q⟩
  | str b => exact ⟨"str", false, rfl, by decide +kernel, q⟩
theorem r_isD_list (h : Td K H v d) (q : Q (.bl false) H) : uIsi K [v, .ty "list"] H Q := by
  cases h with
  | tup h1 h2 => exact ⟨"tuple", false, sqT_ty h1, by decide +kernel, q⟩
  | non => exact ⟨"NoneType", false, rfl, by decide +kernel, q⟩
  | bl b => exact ⟨"bool", false, rfl, by decide +kernel, q⟩
  | int b => exact ⟨"int", false, rfl, by decide +kernel, q⟩
  | str b => exact ⟨"str", false, rfl, by decide +kernel, q⟩
theorem r_isD_int (b : Bool) (h : Td K H v d) (e : d.isI = b) (q : Q (.bl b) H) : uIsi K [v, .ty "int"] H Q := r_isD0_int h (e ▸ q)
theorem r_isD_bool (b : Bool) (h : Td K H v d) (e : d.isB = b) (q : Q (.bl b) H) : uIsi K [v, .ty "bool"] H Q := r_isD0_bool h (e ▸ q)
theorem r_isD_str (b : Bool) (h : Td K H v d) (e : d.isS = b) (q : Q (.bl b) H) : uIsi K [v, .ty "str"] H Q := r_isD0_str h (e ▸ q)
theorem r_isD_tuple (b : Bool) (h : Td K H v d) (e : d.isT = b) (q : Q (.bl b) H) : uIsi K [v, .ty "tuple"] H Q := r_isD0_tuple h (e ▸ q)
/-- isinstance(x, (int, str)) -/
theorem r_isD_intstr {p : Addr} (hp : H p = some (.tup [.ty "int", .ty "str"])) (h : Td K H v d) (q : Q (.bl (d.isI || d.isS)) H) : uIsiT K [v, .ref p] H Q := by
  cases h with
  | tup h1 h2 => exact ⟨"tuple", ["int", "str"], false, hp, sqT_ty h1, by decide +kernel, q⟩
  | non => exact ⟨"NoneType", ["int", "str"], false, hp, rfl, by decide +kernel, q⟩
  | bl b => exact ⟨"bool", ["int", "str"], true, hp, rfl, by decide +kernel, q⟩
  | int b => exact ⟨"int", ["int", "str"], true, hp, rfl, by decide +kernel, q⟩
  | str b => exact ⟨"str", ["int", "str"], true, hp, rfl, by decide +kernel, q⟩
theorem Td.inv {ds : List D} (h : Td K H v (.tup ds)) : ∃ a vs, v = .ref a ∧ SqT K H a vs ∧ TdL K H vs ds := by
  cases h with
  | tup h1 h2 => exact ⟨_, _, rfl, h1, h2⟩
theorem Td.invI {i : Int} (h : Td K H v (.int i)) : v = .int i := by cases h; rfl
theorem Td.invB {i : Bool} (h : Td K H v (.bl i)) : v = .bl i := by cases h; rfl
theorem Td.invS {i : Str} (h : Td K H v (.str i)) : v = .str i := by cases h; rfl
theorem Td.invN (h : Td K H v .non) : v = .non := by cases h; rfl
theorem r_ixD {ds : List D} {k : Nat} (h : Td K H v (.tup ds)) (e : ds[k]? = some d) (q : ∀ u, Td K H u d → Q u H) : uIx K v (.int (k : Int)) H Q := by
  obtain ⟨a, vs, rfl, h1, h2⟩ := h.inv
  obtain ⟨u, h3, h4⟩ := h2.get e
  exact ⟨vs, u, .inr h1, atI_nat h3, q u h4⟩
theorem r_lenD {ds : List D} (h : Td K H v (.tup ds)) (q : Q (.int (ds.length : Int)) H) : uLen K [v] H Q := by
  obtain ⟨a, vs, rfl, h1, h2⟩ := h.inv
  exact ⟨vs, .inr h1, by rw [h2.len]; exact q⟩
theorem r_eqD {n : Nat} (h1 : Td K H v a) (h2 : Td K H w b) (f1 : a.fit n = true) (f2 : b.fit n = true) (hn : n ≤ 63) (h : Q (.bl (D.eqb a b)) H) : uEq K v w H Q :=
  .inr ⟨_, _, Td.dp _ _ h1, Td.dp _ _ h2, D.shaped f1 hn, D.shaped f2 hn, by rw [D.eqb_py]; exact h⟩
theorem r_neD {n : Nat} (h1 : Td K H v a) (h2 : Td K H w b) (f1 : a.fit n = true) (f2 : b.fit n = true) (hn : n ≤ 63) (h : Q (.bl (!D.eqb a b)) H) : uNe K v w H Q :=
  .inr ⟨_, _, Td.dp _ _ h1, Td.dp _ _ h2, D.shaped f1 hn, D.shaped f2 hn, by rw [D.eqb_py]; exact h⟩
/-- a tuple laid: what stands stays -/
theorem r_tupA {vs : List V} {R : Addr → Hp → Prop} (q : ∀ p H', H p = none → Same H H' → H' p = some (.tup vs) → R p H') : ∀ p, H p = none → R p (upd H p (.tup vs)) :=
  fun p hp => q p _ hp (same_new hp) upd_same
theorem r_lstA {vs : List V} {R : Addr → Hp → Prop} (q : ∀ p H', H p = none → Same H H' → H' p = some (.lst vs) → R p H') : ∀ p, H p = none → R p (upd H p (.lst vs)) :=
  fun p hp => q p _ hp (same_new hp) upd_same
/-- a tuple of data laid -/
theorem r_tupD {vs : List V} {ds : List D} {R : V → Hp → Prop} (hd : TdL K H vs ds) (q : ∀ u H', Same H H' → Td K H' u (.tup ds) → R u H') : ∀ p, H p = none → R (.ref p) (upd H p (.tup vs)) :=
  fun p hp => q _ _ (same_new hp) (Td.newT hd hp)
theorem r_tupleD {p : Addr} {vs : List V} {ds : List D} (hp : SqL K H p vs) (hd : TdL K H vs ds) (q : ∀ u H', Same H H' → Td K H' u (.tup ds) → Q u H') : uTuple K [.ref p] H Q :=
  ⟨vs, .inl ⟨hp, fun l hl => q _ _ (same_new hl) (Td.newT hd hl)⟩⟩
theorem r_catD {ds es : List D} (h1 : Td K H v (.tup ds)) (h2 : Td K H w (.tup es)) (hl : ds.length + es.length ≤ sizeLine) (q : ∀ u H', Same H H' → Td K H' u (.tup (ds ++ es)) → Q u H') : uAdd K v w H Q := by
  obtain ⟨x, vs, rfl, s1, t1⟩ := h1.inv
  obtain ⟨y, ws, rfl, s2, t2⟩ := h2.inv
  have nil : ∀ {us : List V} {fs : List D}, TdL K H us fs → us = [] → fs = [] := fun t e => by
    have := t.len
    rw [e] at this
    exact List.eq_nil_of_length_eq_zero this.symm
  refine .inr ⟨x, y, vs, ws, rfl, rfl, s1, s2, by rw [t1.len, t2.len]; exact hl, fun e => ?_, fun _ e => ?_, fun _ _ p hp => ?_⟩
  · have := nil t1 e
    subst this
    exact q _ _ (Same.refl _) h2
  · have := nil t2 e
    subst this
    refine q _ _ (Same.refl _) ?_
    rw [List.append_nil]
    exact h1
  · exact q _ _ (same_new hp) (Td.newT (t1.append t2) hp)
def cutD (ds : List D) (lo hi : Option Int) : List D := (ds.drop (HT.sIx ds.length 0 lo)).take (HT.sIx ds.length ds.length hi - HT.sIx ds.length 0 lo)
theorem r_slD {ds : List D} {lo hi : Option Int} (h1 : Td K H v (.tup ds)) (q : ∀ u H', Same H H' → Td K H' u (.tup (cutD ds lo hi)) → Q u H') : uSl K v lo hi H Q := by
  obtain ⟨x, vs, rfl, s1, t1⟩ := h1.inv
  refine .inr ⟨x, vs, rfl, s1, fun e => ?_, fun _ p hp => ?_⟩
  · have e2 : cutD ds lo hi = ds := by
      unfold cutD
      rw [← t1.len, e.1, e.2, List.drop_zero, Nat.sub_zero, t1.len, List.take_length]
    refine q _ _ (Same.refl _) ?_
    rw [e2]
    exact h1
  · refine q _ _ (same_new hp) (Td.newT ?_ hp)
    unfold cutD cutV
    rw [← t1.len]
    exact (t1.drop _).take _
/-- a text in a written tuple of texts -/
theorem inV_str {z : Str} : ∀ {ss : List Str}, inV (.str z) (ss.map V.str) = decide (z ∈ ss)
  | [] => rfl
  | s :: ss => by
    have ih := inV_str (z := z) (ss := ss)
    unfold inV at ih ⊢
    rw [List.map_cons, List.any_cons, ih]
    show ((s == z) || decide (z ∈ ss)) = _
    by_cases e : z = s
    · subst e
      rw [decide_eq_true (List.mem_cons_self ..)]
      rw [show (z == z) = true from beq_self_eq_true z]
      rfl
    · rw [show (s == z) = false from beq_eq_false_iff_ne.mpr (fun c => e c.symm), Bool.false_or]
      exact decide_eq_decide.mpr ⟨fun h => List.mem_cons_of_mem _ h, fun h => (List.mem_cons.mp h).resolve_left e⟩
theorem flat_strs {ss : List Str} : (ss.map V.str).all flatV = true := by
  induction ss with
  | nil => rfl
  | cons s r ih => rw [List.map_cons, List.all_cons, ih]; rfl
theorem r_inS {p : Addr} {z : Str} {ss : List Str} (hp : SqT K H p (ss.map V.str)) (q : Q (.bl (decide (z ∈ ss))) H) : uIn K id (.str z) (.ref p) H Q := ⟨_, .inr hp, rfl, flat_strs, by rw [inV_str]; exact q⟩
theorem r_niS {p : Addr} {z : Str} {ss : List Str} (hp : SqT K H p (ss.map V.str)) (q : Q (.bl (!decide (z ∈ ss))) H) : uIn K not (.str z) (.ref p) H Q := ⟨_, .inr hp, rfl, flat_strs, by rw [inV_str]; exact q⟩
end
end U
/-! U4: what stays around one cell; texts; data built up in a comprehension; the state of the draws. -/
namespace U
open PySem PySem.Spec L2
/-- all but p stays -/
def Fr (p : Addr) (H H' : Hp) : Prop := ∀ b x, b ≠ p → H b = some x → H' b = some x
section
variable {K : PySem.W.Frag} {H H' H2 : Hp} {p l x : Addr} {o : HO}
theorem Fr.refl : Fr p H H := fun _ _ _ h => h
theorem Fr.trans (a : Fr p H H') (b : Fr p H' H2) : Fr p H H2 := fun c o h e => b c o h (a c o h e)
theorem Fr.of (h : ∀ b, b ≠ p → H' b = H b) : Fr p H H' := fun b x hb e => by rw [h b hb]; exact e
theorem Fr.same (h : Same H H') : Fr p H H' := fun b x _ e => h b x e
theorem Fr.new (h : H x = none) : Fr p H (upd H x o) := .same (same_new h)
theorem Fr.mut (f : Fr p H H') (h : H x = none) : Fr p H (upd H' x o) := fun b y hb e => by
  rw [upd_ne (ne_of_none e h)]
  exact f b y hb e
theorem Fr.self (f : Fr p H H') : Fr p H (upd H' p o) := fun b y hb e => by
  rw [upd_ne hb]
  exact f b y hb e
theorem Fr.tk {xs : List V} (f : Fr p H H') (hp : H p = some (.lst xs)) : Tk K H H' := fun a ys h => by
  rcases h with (h | ⟨ob, h⟩) | h
  · exact .inl (.inl (f _ _ (fun e => by rw [e, hp] at h; cases h) h))
  · exact .inl (.inr ⟨ob, f _ _ (fun e => by rw [e, hp] at h; cases h) h⟩)
  · exact .inr h
theorem Fr.tkD {xs : List (Key × V)} (f : Fr p H H') (hp : H p = some (.dK xs)) : Tk K H H' := fun a ys h => by
  rcases h with (h | ⟨ob, h⟩) | h
  · exact .inl (.inl (f _ _ (fun e => by rw [e, hp] at h; cases h) h))
  · exact .inl (.inr ⟨ob, f _ _ (fun e => by rw [e, hp] at h; cases h) h⟩)
  · exact .inr h
end
/-! texts -/
theorem str_len (w : Str) : w.length = w.cps.toList.length := Array.length_toList.symm
theorem str_eq {a b : Str} : a = b ↔ a.cps.toList = b.cps.toList := by
  constructor
  · intro e; rw [e]
  · intro e
    cases a; cases b
    simp only at e
    congr 1
    exact Array.toList_inj.mp e
theorem str_cat (a b : Str) : (a ++ b).length = a.length + b.length := by
  show (a.cps ++ b.cps).size = _
  rw [Array.size_append]; rfl
theorem str_catL (a b : Str) : (a ++ b).cps.toList = a.cps.toList ++ b.cps.toList := by
  show (a.cps ++ b.cps).toList = _
  rw [Array.toList_append]
theorem str_num_len {i : Int} (h : i.natAbs < 10 ^ 11) : 0 < (Str.ofString (toString i)).length ∧ (Str.ofString (toString i)).length ≤ 12 := by
  have nat : ∀ n : Nat, n < 10 ^ 11 → 0 < (Str.ofString (toString (n : Int))).length ∧ (Str.ofString (toString (n : Int))).length ≤ 11 := fun n hn => by
    refine ⟨?_, PyProof.Rows.toString_length_le (by omega) (by decide) (by omega)⟩
    rw [str_len]
    show 0 < (TL.tl (Str.ofString (toString (n : Int)))).length
    rw [TL.tl_num]
    exact Nat.pos_of_ne_zero (fun e => TL.numL_ne n (List.eq_nil_of_length_eq_zero e))
  cases i with
  | ofNat n =>
    have := nat n (by simpa using h)
    exact ⟨this.1, by have := this.2; show (Str.ofString (toString (n : Int))).length ≤ 12; omega⟩
  | negSucc n =>
    have h1 := nat (n + 1) (by simpa using h)
    have e : toString (Int.negSucc n) = "-" ++ toString ((n + 1 : Nat) : Int) := rfl
    rw [e]
    have e2 : (Str.ofString ("-" ++ toString ((n + 1 : Nat) : Int))).length = 1 + (Str.ofString (toString ((n + 1 : Nat) : Int))).length := by
      rw [PyProof.Rows.ofString_length, PyProof.Rows.ofString_length]
      simp [Nat.add_comm]
    rw [e2]
    omega
theorem log_ok {i : Int} (h : i.natAbs < 10 ^ 11) : i.natAbs.log2 < 1920 := Nat.lt_of_lt_of_le (PySem.Flt.log2_lt_of (k := 64) (by decide) (by omega)) (by decide)
/-! the state of the draws as a list: at p, its script at l -/
def Dr (H : Hp) (p l : Addr) : Prop := ∃ (ns : List Int) (cur seed : Int) (at_ : Nat), H p = some (.lst [.ref l, .int cur, .int at_, .int seed]) ∧ H l = some (.lst (ns.map V.int)) ∧ l ≠ p ∧ 0 ≤ cur
section
variable {K : PySem.W.Frag} {H H' : Hp} {p l x : Addr} {o : HO}
theorem Dr.upd (h : Dr H p l) (h1 : x ≠ p) (h2 : x ≠ l) : Dr (upd H x o) p l := by
  obtain ⟨ns, cur, seed, at_, hp, hl, hne, h0⟩ := h
  exact ⟨ns, cur, seed, at_, by rw [upd_ne h1.symm]; exact hp, by rw [upd_ne h2.symm]; exact hl, hne, h0⟩
theorem Dr.nep (h : Dr H p l) (hx : H x = none) : x ≠ p := by
  obtain ⟨ns, cur, seed, at_, hp, hl, hne, h0⟩ := h
  exact (ne_of_none hp hx).symm
theorem Dr.nel (h : Dr H p l) (hx : H x = none) : x ≠ l := by
  obtain ⟨ns, cur, seed, at_, hp, hl, hne, h0⟩ := h
  exact (ne_of_none hl hx).symm
theorem Dr.new (h : Dr H p l) (hx : H x = none) : Dr (L2.upd H x o) p l := h.upd (h.nep hx) (h.nel hx)
theorem Dr.same (h : Dr H p l) (s : Same H H') : Dr H' p l := by
  obtain ⟨ns, cur, seed, at_, hp, hl, hne, h0⟩ := h
  exact ⟨ns, cur, seed, at_, s _ _ hp, s _ _ hl, hne, h0⟩
theorem Dr.tk (h : Dr H p l) (f : Fr p H H') : Tk K H H' := by
  obtain ⟨ns, cur, seed, at_, hp, hl, hne, h0⟩ := h
  exact f.tk hp
end
abbrev spStartL (K : PySem.W.Frag) : Sp := fun vs H Q _ => ∃ (a : Addr) (ns : List Int), vs = [.ref a] ∧ SqL K H a (ns.map V.int) ∧ ns.length ≤ 63 ∧ ∀ p l H', Same H H' → H p = none → Dr H' p l → Q (.ref p) H'
abbrev spDrawL (K : PySem.W.Frag) : Sp := fun vs H Q _ => ∃ (p l : Addr) (m : Int), vs = [.ref p, .int m] ∧ 0 < m ∧ m < 2 ^ 64 ∧ Dr H p l ∧ ∀ (n : Int) H', 0 ≤ n → n < m → Dr H' p l → (∀ b, b ≠ p → H' b = H b) → Q (.int n) H'
abbrev spLaw (K : PySem.W.Frag) : Sp := fun vs H Q _ => ∃ (a : Addr) (ns : List Int), vs = [.ref a] ∧ SqL K H a (ns.map V.int) ∧ ns.length ≤ 63 ∧ ∀ H', Q (.bl true) H'
/-! data built up in a comprehension at A, beside a state S at p -/
def CD (K : PySem.W.Frag) (S : Hp → Prop) (p A : Addr) (H0 : Hp) (G : D → Prop) (i : Nat) (H : Hp) : Prop :=
  S H ∧ Fr p H0 H ∧ ∃ vs ds, H A = some (.lst vs) ∧ TdL K H vs ds ∧ ds.length = i ∧ ∀ d ∈ ds, G d
theorem CD.start {K : PySem.W.Frag} {S : Hp → Prop} {p A : Addr} {H0 : Hp} {G : D → Prop} (s : S (upd H0 A (.lst []))) (h : H0 A = none) : CD K S p A H0 G 0 (upd H0 A (.lst [])) :=
  ⟨s, Fr.new h, [], [], upd_same, .nil, rfl, fun _ h => nomatch h⟩
theorem CD.step {K : PySem.W.Frag} {S : Hp → Prop} {p A : Addr} {H0 H H' : Hp} {G : D → Prop} {i : Nat} {y : V} {d : D} (c : CD K S p A H0 G i H) (h0 : H0 A = none) (hA : A ≠ p) (hi : i < 60000)
    (s : S (upd H' A (.lst ((H' A).elim [] (fun o => match o with | .lst vs => vs ++ [y] | _ => []))))) (f : Fr p H H') (tk : Tk K H H') (t : Td K H' y d) (g : G d) : LcEnd A (CD K S p A H0 G (i + 1)) y H' := by
  obtain ⟨s0, f0, vs, ds, e, td, l, gs⟩ := c
  have e' : H' A = some (.lst vs) := f _ _ hA e
  rw [e'] at s
  refine ⟨vs, e', szt (by rw [td.len]; omega), s, Fr.mut (f0.trans f) h0, vs ++ [y], ds ++ [d], upd_same, ?_, by simp [l], ?_⟩
  · exact ((td.k tk).append (.one t)).k (Tk.lst e')
  · intro x hx
    rcases List.mem_append.mp hx with h | h
    · exact gs x h
    · rw [List.mem_singleton.mp h]; exact g
/-- the same with the draws' list -/
theorem CD.stepL {K : PySem.W.Frag} {l p A : Addr} {H0 H H' : Hp} {G : D → Prop} {i : Nat} {y : V} {d : D} (c : CD K (fun H => Dr H p l) p A H0 G i H) (h0 : H0 A = none) (hA : A ≠ p) (hl : A ≠ l) (hi : i < 60000)
    (s : Dr H' p l) (f : Fr p H H') (t : Td K H' y d) (g : G d) : LcEnd A (CD K (fun H => Dr H p l) p A H0 G (i + 1)) y H' :=
  c.step h0 hA hi (s.upd hA hl) f (c.1.tk f) t g
/-! the list of given things, built up at A, all else stays -/
def CF (A : Addr) (H0 : Hp) (ys : List V) (i : Nat) (H : Hp) : Prop := Same H0 H ∧ H A = some (.lst (ys.take i))
theorem CF.start {A : Addr} {H0 : Hp} {ys : List V} (h : H0 A = none) : CF A H0 ys 0 (upd H0 A (.lst [])) := ⟨same_new h, upd_same⟩
theorem CF.step {A : Addr} {H0 H H' : Hp} {ys : List V} {i : Nat} {y : V} (c : CF A H0 ys i H) (h0 : H0 A = none) (s : Same H H') (hy : ys[i]? = some y) (hi : i < 16000000) : LcEnd A (CF A H0 ys (i + 1)) y H' := by
  obtain ⟨s0, e⟩ := c
  refine ⟨_, s _ _ e, szt (by rw [List.length_take]; omega), same_mut (s0.trans s) h0, ?_⟩
  rw [upd_same, List.take_add_one, hy]
  rfl
theorem CF.done {A : Addr} {H0 H : Hp} {ys : List V} (c : CF A H0 ys ys.length H) : H A = some (.lst ys) := by
  have := c.2
  rw [List.take_length] at this
  exact this
theorem TdL.getV {K : PySem.W.Frag} {H : Hp} : ∀ {vs : List V} {ds : List D} {i : Nat} {v : V}, TdL K H vs ds → vs[i]? = some v → ∃ d, ds[i]? = some d ∧ Td K H v d
  | _, _, i, _, .nil, h => by simp at h
  | _, _, 0, _, .cons h t, e => by simp at e; subst e; exact ⟨_, rfl, h⟩
  | _, _, i + 1, _, .cons h t, e => by
    obtain ⟨d, h1, h2⟩ := TdL.getV (i := i) t (by simpa using e)
    exact ⟨d, by simpa using h1, h2⟩
/-- a new cell, its heap under one name -/
theorem Td.lay {K : PySem.W.Frag} {H : Hp} {a : Addr} {vs : List V} {ds : List D} (ha : H a = none) (hd : TdL K H vs ds) : ∃ H', upd H a (.tup vs) = H' ∧ Same H H' ∧ Td K H' (.ref a) (.tup ds) := ⟨_, rfl, same_new ha, Td.newT hd ha⟩
theorem lay_new {H : Hp} {a : Addr} {o : HO} (ha : H a = none) : ∃ H', upd H a o = H' ∧ Same H H' ∧ H' a = some o := ⟨_, rfl, same_new ha, upd_same⟩
/-! unpacking data -/
section
variable {K : PySem.W.Frag} {H : Hp} {σ : St} {v : V} {a b c : D} {i j k : Nat} {R : St → Hp → Prop}
theorem r_gT3 (h : Td K H v (.tup [a, b, c])) (q : ∀ x y z, Td K H x a → Td K H y b → Td K H z c → R (((σ.set i (some x)).set j (some y)).set k (some z)) H) :
    gTup K 3 (gCons (gName i) (gCons (gName j) (gCons (gName k) gNil))) v σ H R := by
  obtain ⟨p, vs, rfl, s, t⟩ := h.inv
  cases t with
  | cons h1 t => cases t with
    | cons h2 t => cases t with
      | cons h3 t => cases t; exact ⟨p, _, rfl, s, rfl, _, _, rfl, _, _, rfl, _, _, rfl, rfl, q _ _ _ h1 h2 h3⟩
theorem r_gT2 (h : Td K H v (.tup [a, b])) (q : ∀ x y, Td K H x a → Td K H y b → R ((σ.set i (some x)).set j (some y)) H) :
    gTup K 2 (gCons (gName i) (gCons (gName j) gNil)) v σ H R := by
  obtain ⟨p, vs, rfl, s, t⟩ := h.inv
  cases t with
  | cons h1 t => cases t with
    | cons h2 t => cases t; exact ⟨p, _, rfl, s, rfl, _, _, rfl, _, _, rfl, rfl, q _ _ h1 h2⟩
end
end U
/-! ### what the defs of k09 promise -/
namespace U
open PySem PySem.Spec L2
def tri : D → Option (Str × D × Int)
  | .tup [.str h, w, .int r] => some (h, w, r)
  | _ => none
def isTri (d : D) : Bool := match tri d with
  | some (_, _, r) => decide (r = 0)
  | none => false
theorem tri_some {d w : D} {h : Str} {r : Int} (e : tri d = some (h, w, r)) : d = .tup [.str h, w, .int r] := by
  unfold tri at e
  split at e
  · cases e; rfl
  · cases e
theorem isTri_some {d : D} (e : isTri d = true) : ∃ h w, d = .tup [.str h, w, .int 0] := by
  unfold isTri at e
  split at e
  · rename_i h w r e1
    have := of_decide_eq_true e
    subst this
    exact ⟨h, w, tri_some e1⟩
  · cases e
abbrev leafs : List Str := ["int", "bool", "unit"]
abbrev ones : List Str := ["ref", "array"]
def headOk (h : Str) (n : Nat) : Bool :=
  if h ∈ leafs then decide (n = 0) else if h = "tuple" then decide (2 ≤ n) else if h = "fn" then decide (n = 2) else if h ∈ ones then decide (n = 1) else false
def partsOk (g : D → Bool) (h : Str) : D → Bool
  | .tup ds => headOk h ds.length && ds.all g
  | _ => false
def intIn (c : Int) : D → Bool
  | .int i => decide (0 ≤ i ∧ i < c)
  | _ => false
def goodB (g : D → Bool) (d : D) (c : Int) : Bool := match tri d with
  | some (h, w, r) => decide (r = 0) && (if h = "data" then intIn c w else partsOk g h w)
  | none => false
def goodF : Nat → D → Int → Bool
  | 0, _, _ => false
  | n + 1, d, c => goodB (fun x => goodF n x c) d c
def szB (g : D → Int) (d : D) : Int := match d with
  | .tup [.str h, w, _] => if h = "data" then 1 else match w with
    | .tup ds => 1 + (ds.map g).sum
    | _ => 1
  | _ => 1
def szF : Nat → D → Int
  | 0, _ => 0
  | n + 1, d => szB (szF n) d
abbrev heads : List Str := ["int", "bool", "unit", "tuple", "fn", "ref", "array"]
/-- a kind, n deep -/
def KD : Nat → D → Prop
  | 0, _ => False
  | n + 1, d => (∃ i, d = .tup [.str "data", .int i, .int 0]) ∨ ∃ h ds, d = .tup [.str h, .tup ds, .int 0] ∧ h ∈ heads ∧ ds.length ≤ 6 ∧ (h ∈ leafs ∨ 0 < ds.length) ∧ ∀ e ∈ ds, KD n e
theorem heads_ok {h : Str} (e : h ∈ heads) : PyData.strOk h = true ∧ h.length ≤ 60000 := by
  simp only [heads, List.mem_cons, List.not_mem_nil, or_false] at e
  rcases e with e | e | e | e | e | e | e <;> subst e <;> exact ⟨by decide +kernel, by decide +kernel⟩
theorem KD.fit : ∀ {n : Nat} {d : D}, KD n d → D.fit (2 * n) d = true
  | 0, _, h => h.elim
  | n + 1, d, h => by
    rcases h with ⟨i, rfl⟩ | ⟨x, ds, rfl, hx, hl, _, hs⟩
    · refine D.fit_tup.mpr ⟨by simp, fun e he => ?_⟩
      simp only [List.mem_cons, List.not_mem_nil, or_false] at he
      rcases he with rfl | rfl | rfl
      · exact D.fit_str.mpr ⟨by decide +kernel, by decide +kernel⟩
      · exact D.fit_int
      · exact D.fit_int
    · refine D.fit_tup.mpr ⟨by simp, fun e he => ?_⟩
      simp only [List.mem_cons, List.not_mem_nil, or_false] at he
      rcases he with rfl | rfl | rfl
      · exact D.fit_str.mpr (heads_ok hx)
      · exact D.fit_tup.mpr ⟨by omega, fun e he => KD.fit (hs e he)⟩
      · exact D.fit_int
def pcF (h : Str) : Option Int := if h = "tuple" then some 2 else if h = "fn" then some 2 else if h ∈ ones then some 1 else none
def sp_is_integer (K : PySem.W.Frag) : Sp := fun vs H Q _ => ∃ v d, vs = [v] ∧ Td K H v d ∧ Q (.bl (d.isI && !d.isB)) H
def sp_l_is_integer (K : PySem.W.Frag) : Sp := sp_is_integer K
def sp_is_triple (K : PySem.W.Frag) : Sp := fun vs H Q _ => ∃ v d, vs = [v] ∧ Td K H v d ∧ D.fit 12 d = true ∧ Q (.bl (isTri d)) H
def sp_part_counts (K : PySem.W.Frag) : Sp := fun vs H Q _ => ∃ h, vs = [.str h] ∧ (∀ H', Same H H' → pcF h = none → Q .non H') ∧ ∀ i j p H', Same H H' → pcF h = some i → H' p = some (.tup [.int i, .int j]) → Q (.ref p) H'
def spr_kind_nodes (n : Nat) (K : PySem.W.Frag) : Sp := fun vs H Q _ => ∃ v d, vs = [v] ∧ Td K H v d ∧ KD n d ∧ ∀ H', Same H H' → Q (.int (szF n d)) H'
def sp_kind_nodes (K : PySem.W.Frag) : Sp := spr_kind_nodes 4 K
theorem no_kind_nodes {K : PySem.W.Frag} {vs : List V} {H : Hp} {Q : VK} {E : XK} (h : spr_kind_nodes 0 K vs H Q E) : False := by
  obtain ⟨_, _, _, _, h, _⟩ := h
  exact h
def sp_kind_size (K : PySem.W.Frag) : Sp := sp_kind_nodes K
def spr_l_size (n : Nat) (K : PySem.W.Frag) : Sp := spr_kind_nodes n K
def sp_l_size (K : PySem.W.Frag) : Sp := spr_l_size 4 K
theorem no_l_size {K : PySem.W.Frag} {vs : List V} {H : Hp} {Q : VK} {E : XK} (h : spr_l_size 0 K vs H Q E) : False := no_kind_nodes (E := E) h
def spr_is_numbered_kind (n : Nat) (K : PySem.W.Frag) : Sp := fun vs H Q _ => ∃ v d c m, vs = [v, .int c] ∧ Td K H v d ∧ n = m + 1 ∧ m ≤ 11 ∧ D.fit m d = true ∧ ∀ H', Same H H' → Q (.bl (goodF n d c)) H'
def sp_is_numbered_kind (K : PySem.W.Frag) : Sp := spr_is_numbered_kind 12 K
theorem no_is_numbered_kind {K : PySem.W.Frag} {vs : List V} {H : Hp} {Q : VK} {E : XK} (h : spr_is_numbered_kind 0 K vs H Q E) : False := by
  obtain ⟨_, _, _, m, _, _, h, _⟩ := h
  omega
def sp_is_kind (K : PySem.W.Frag) : Sp := sp_is_numbered_kind K
def spr_l_good (n : Nat) (K : PySem.W.Frag) : Sp := spr_is_numbered_kind n K
def sp_l_good (K : PySem.W.Frag) : Sp := spr_l_good 12 K
theorem no_l_good {K : PySem.W.Frag} {vs : List V} {H : Hp} {Q : VK} {E : XK} (h : spr_l_good 0 K vs H Q E) : False := no_is_numbered_kind (E := E) h
def spr_l_same (n : Nat) (K : PySem.W.Frag) : Sp := fun vs H Q _ => ∃ v w d m, vs = [v, w] ∧ Td K H v d ∧ Td K H w d ∧ n = m + 1 ∧ m ≤ 11 ∧ D.fit m d = true ∧ ∀ H', Same H H' → Q (.bl true) H'
def sp_l_same (K : PySem.W.Frag) : Sp := spr_l_same 12 K
theorem no_l_same {K : PySem.W.Frag} {vs : List V} {H : Hp} {Q : VK} {E : XK} (h : spr_l_same 0 K vs H Q E) : False := by
  obtain ⟨_, _, _, m, _, _, _, h, _⟩ := h
  omega
def sp_field_kinds (K : PySem.W.Frag) : Sp := fun vs H Q _ => ∃ (v : V) (ds : List D) (i : Nat) (nm : Str) (rows : List (Str × D)), vs = [v, .int i] ∧ Td K H v (.tup ds) ∧ ds[i]? = some (.tup [.str nm, .tup (rows.map fun r => .tup [.str r.1, r.2])]) ∧ rows.length ≤ 100 ∧
  ∀ a ws H', Same H H' → H' a = some (.lst ws) → TdL K H' ws (rows.map (·.2)) → Q (.ref a) H'
def sp_l_start (K : PySem.W.Frag) : Sp := spStartL K
def sp_l_draw (K : PySem.W.Frag) : Sp := spDrawL K
def spr_l_value (n : Nat) (K : PySem.W.Frag) : Sp := fun vs H Q _ => ∃ (p l : Addr) (m : Nat), vs = [.ref p, .int m] ∧ m < n ∧ Dr H p l ∧ ∀ v d H', KD (m + 1) d → Td K H' v d → Dr H' p l → Fr p H H' → Q v H'
def sp_l_value (K : PySem.W.Frag) : Sp := spr_l_value 4 K
theorem no_l_value {K : PySem.W.Frag} {vs : List V} {H : Hp} {Q : VK} {E : XK} (h : spr_l_value 0 K vs H Q E) : False := by
  obtain ⟨_, _, m, _, h, _⟩ := h
  omega
def spr_l_spoilt (n : Nat) (K : PySem.W.Frag) : Sp := fun vs H Q _ => ∃ (p l : Addr) (v : V) (d : D), vs = [.ref p, v] ∧ KD n d ∧ Td K H v d ∧ Dr H p l ∧ ∀ w e H', D.fit (2 * n + 2) e = true → Td K H' w e → Dr H' p l → Fr p H H' → Q w H'
def sp_l_spoilt (K : PySem.W.Frag) : Sp := spr_l_spoilt 4 K
theorem no_l_spoilt {K : PySem.W.Frag} {vs : List V} {H : Hp} {Q : VK} {E : XK} (h : spr_l_spoilt 0 K vs H Q E) : False := by
  obtain ⟨_, _, _, d, _, h, _⟩ := h
  exact h
def sp_law (K : PySem.W.Frag) : Sp := spLaw K
local macro_rules | `(tactic| walk_at "une") => `(tactic| first | assumption | (exact Ne.symm (by assumption)) | (exact ne_of_none (by assumption) (by assumption)) | (exact (ne_of_none (by assumption) (by assumption)).symm))
local macro_rules | `(tactic| walk_at "uh") => `(tactic| first | assumption | (exact upd_same) | (refine' (upd_ne ?n).trans ?h; (case n => walk_at "une"); (case h => walk_at "uh")))
local macro_rules | `(tactic| walk_at "usl") => `(tactic| first | assumption | (exact SqL.of (by walk_at "uh")))
local macro_rules | `(tactic| walk_at "ust") => `(tactic| first | assumption | (exact SqT.of (by walk_at "uh")))
local macro_rules | `(tactic| walk_at "us") => `(tactic| first | omega | decide | assumption | (exact szl (by omega)) | (exact szt (by omega)) | (exact wide_div (b := 64) (by omega) (by omega) (by decide) (by decide)) | (exact Or.inl (Or.inr (by decide))) | (exact Or.inl (Or.inl (by decide))))
local macro_rules | `(tactic| walk_at "u1") => `(tactic| first
  | (with_reducible refine r_sqA ?_) | (with_reducible refine r_sqD ?_) | ((with_reducible refine' r_sqG ?hx ?_); (case hx => exact rfl)) | (with_reducible refine r_sqS ?_) | (with_reducible refine r_asg ?_) | ((with_reducible refine' r_var ?hx ?_); (case hx => exact rfl)) | (with_reducible refine r_c ?_) | (with_reducible refine r_op ?_)
  | (with_reducible refine r_gname ?_) | (with_reducible refine r_cons ?_) | (with_reducible refine r_nil ?_) | (with_reducible refine r_cb ?_) | (with_reducible refine r_call ?_)
  | (with_reducible refine r_ifS ?_) | (with_reducible refine r_test ?_) | (with_reducible refine r_bl ?_) | (with_reducible refine r_ret ?_) | (with_reducible refine r_next ?_) | (with_reducible refine r_drop ?_)
  | (with_reducible refine r_and ?_) | (with_reducible refine r_or ?_) | (with_reducible refine r_not ?_) | (with_reducible refine r_tru ?_) | (with_reducible refine r_truBl ?_) | (with_reducible refine r_truInt ?_) | (with_reducible refine r_truNon ?_) | (with_reducible refine r_tb ?_)
  | (with_reducible refine r_andV ?_) | (with_reducible refine r_orV ?_) | (with_reducible refine r_notV ?_) | (with_reducible refine r_chain ?_) | (with_reducible refine r_if ?_) | (with_reducible refine r_un ?_)
  | (with_reducible refine br_t ?_) | (with_reducible refine br_f ?_) | (with_reducible refine br_nt ?_) | (with_reducible refine br_nf ?_)
  | (with_reducible refine r_addI ?_) | (with_reducible refine r_sub ?_) | (with_reducible refine r_neg ?_) | (with_reducible refine r_cmpI ?_) | (with_reducible refine r_eqI ?_) | (with_reducible refine r_eqS ?_) | (with_reducible refine r_eqB ?_) | (with_reducible refine r_neI ?_) | (with_reducible refine r_neS ?_) | (with_reducible refine r_neB ?_)
  | ((with_reducible refine r_mod ?s ?_); (case s => walk_at "us")) | ((with_reducible refine r_mul ?s ?_); (case s => walk_at "us")) | ((with_reducible refine r_fdiv ?s ?_); (case s => walk_at "us"))
  | ((with_reducible refine r_addS ?s ?_); (case s => walk_at "us"))
  | (with_reducible refine r_isNN ?_) | (with_reducible refine r_isNI ?_) | (with_reducible refine r_isNB ?_) | (with_reducible refine r_isNS ?_) | (with_reducible refine r_isNR ?_) | (with_reducible refine r_notNN ?_) | (with_reducible refine r_notNI ?_) | (with_reducible refine r_notNB ?_) | (with_reducible refine r_notNS ?_) | (with_reducible refine r_notNR ?_)
  | (with_reducible refine r_abs ?_) | (with_reducible refine r_intI ?_) | (with_reducible refine r_intB ?_) | (with_reducible refine r_maxI ?_) | (with_reducible refine r_minI ?_) | (with_reducible refine r_starts ?_) | (with_reducible refine r_inC ?_) | (with_reducible refine r_notInC ?_)
  | (with_reducible refine r_iI_int ?_) | (with_reducible refine r_iI_bool ?_) | (with_reducible refine r_iI_str ?_) | (with_reducible refine r_iI_tuple ?_) | (with_reducible refine r_iI_list ?_) | (with_reducible refine r_iB_int ?_) | (with_reducible refine r_iB_bool ?_) | (with_reducible refine r_iB_str ?_) | (with_reducible refine r_iB_tuple ?_) | (with_reducible refine r_iB_list ?_) | (with_reducible refine r_iS_int ?_) | (with_reducible refine r_iS_bool ?_) | (with_reducible refine r_iS_str ?_) | (with_reducible refine r_iS_tuple ?_) | (with_reducible refine r_iS_list ?_) | (with_reducible refine r_iN_int ?_) | (with_reducible refine r_iN_bool ?_) | (with_reducible refine r_iN_str ?_) | (with_reducible refine r_iN_tuple ?_) | (with_reducible refine r_iN_list ?_)
  | ((with_reducible refine r_lenS ?s ?_); (case s => walk_at "us")) | ((with_reducible refine r_slS ?s ?_); (case s => walk_at "us"))
  | (with_reducible refine r_sl ?_) | (with_reducible refine r_nop ?_) | (with_reducible refine r_part ?_) | (with_reducible refine r_partI ?_) | (with_reducible refine r_tup ?_) | (with_reducible refine r_lst ?_)
  | (with_reducible refine r_bm ?_) | (with_reducible refine r_bm0 ?_) | (with_reducible refine r_tyStr ?_) | (with_reducible refine r_retN ?_) | (with_reducible refine r_brk ?_) | (with_reducible refine r_cont ?_) | (with_reducible refine r_nx ?_) | (with_reducible refine r_rt ?_)
  | (with_reducible refine r_sub3 ?_) | (with_reducible refine r_augS ?_) | (with_reducible refine r_ipI ?_) | ((with_reducible refine' r_aug ?hx ?_); (case hx => exact rfl)) | (with_reducible refine r_for ?_) | (with_reducible refine r_lc ?_) | (with_reducible refine r_yes ?_) | (with_reducible refine r_rng1 ?_) | (with_reducible refine r_rng1v ?_) | (with_reducible refine r_rng2 ?_) | (with_reducible refine r_rng2v ?_)
  | ((with_reducible refine' r_ixL ?s1 ?s2 ?_); (case s1 => walk_at "usl"); (case s2 => exact rfl)) | ((with_reducible refine' r_ixT ?s1 ?s2 ?_); (case s1 => walk_at "ust"); (case s2 => exact rfl))
  | ((with_reducible refine' r_lenL ?s1 ?_); (case s1 => walk_at "usl")) | ((with_reducible refine' r_lenT ?s1 ?_); (case s1 => walk_at "ust"))
  | ((with_reducible refine' r_setL ?s1 ?s2 ?_); (case s1 => walk_at "uh"); (case s2 => exact rfl)) | ((with_reducible refine' r_getL ?s1 ?s2 ?s3 ?_); (case s1 => walk_at "usl"); (case s2 => walk_at "us"); (case s3 => exact rfl))
  | ((with_reducible refine' r_tyLst ?s ?_); (case s => walk_at "uh")) | ((with_reducible refine' r_append ?s1 ?s2 ?_); (case s1 => walk_at "uh"); (case s2 => walk_at "us")))
local macro_rules | `(tactic| walk_at "ub") => `(tactic| first
  | ((with_reducible refine br_y ?s ?_); (case s => (first | assumption | (with_reducible rfl) | omega | decide))) | ((with_reducible refine br_n ?s ?_); (case s => (first | assumption | (with_reducible rfl) | omega | decide))) | ((with_reducible refine br_ny ?s ?_); (case s => (first | assumption | (with_reducible rfl) | omega | decide))) | ((with_reducible refine br_nn ?s ?_); (case s => (first | assumption | (with_reducible rfl) | omega | decide))))
local macro_rules | `(tactic| walk_at "u") => `(tactic| repeat (first | walk_at "u1" | walk_at "ub"))
local macro_rules | `(tactic| walk_at "ui") => `(tactic| ((with_reducible refine r_sq ?_); walk_at "u"))
def t_is_integer (K : PySem.W.Frag) : TS :=
  (tRet (tAndV (tCB (uIsi K) (tCons (tVar 0) (tCons (tC (.ty "int")) tNil))) (tNotV (tCB (uIsi K) (tCons (tVar 0) (tCons (tC (.ty "bool")) tNil))))))
abbrev n_is_integer : List Str := ["value"]
def t_is_triple (K : PySem.W.Frag) : TS :=
  (tSq (tIfS (tOr (tNot (uTru K (tCB (uIsi K) (tCons (tVar 0) (tCons (tC (.ty "tuple")) tNil))))) (tTest (tOp (uNe K) (tCB (uLen K) (tCons (tVar 0) tNil)) (tC (.int 3))))) (tRet (tC (.bl false))) tNext)
    (tRet (tAndV (tCB (uIsi K) (tCons (tOp (uIx K) (tVar 0) (tC (.int 0))) (tCons (tC (.ty "str")) tNil))) (tAndV (tCall (sp_is_integer K) [] E0 (tCons (tOp (uIx K) (tVar 0) (tC (.int 2))) tNil)) (tOp (uEq K) (tOp (uIx K) (tVar 0) (tC (.int 2))) (tC (.int 0)))))))
abbrev n_is_triple : List Str := ["kind"]
def t_part_counts (K : PySem.W.Frag) : TS :=
  (tSq (tIfS (tTest (tOp (uEq K) (tVar 0) (tC (.str "tuple")))) (tRet (tTup (tCons (tC (.int 2)) (tCons (tC (.int 6)) tNil)))) tNext)
    (tSq (tIfS (tTest (tOp (uEq K) (tVar 0) (tC (.str "fn")))) (tRet (tTup (tCons (tC (.int 2)) (tCons (tC (.int 2)) tNil)))) tNext)
    (tSq (tIfS (tTest (tOp (uIn K id) (tVar 0) (tTup (tCons (tC (.str "ref")) (tCons (tC (.str "array")) tNil))))) (tRet (tTup (tCons (tC (.int 1)) (tCons (tC (.int 1)) tNil)))) tNext)
    (tRet (tC .non)))))
abbrev n_part_counts : List Str := ["head"]
def t_kind_nodes (K : PySem.W.Frag) (sp_self : PySem.W.Frag → Sp) : TS :=
  (tSq (tIfS (tTest (tOp (uEq K) (tOp (uIx K) (tVar 0) (tC (.int 0))) (tC (.str "data")))) (tRet (tC (.int 1))) tNext)
    (tRet (tOp (uAdd K) (tC (.int 1)) (tCB (uSum K) (tCons (tLc (uIt K (tOp (uIx K) (tVar 0) (tC (.int 1)))) (gName 1) tYes (tCall (sp_self K) [] E0 (tCons (tVar 1) tNil)) [1]) tNil)))))
abbrev n_kind_nodes : List Str := ["kind", "part"]
def t_is_numbered_kind (K : PySem.W.Frag) (sp_self : PySem.W.Frag → Sp) : TS :=
  (tSq (tIfS (tNot (uTru K (tCall (sp_is_triple K) [] E0 (tCons (tVar 0) tNil)))) (tRet (tC (.bl false))) tNext)
    (tSq (tAsg (tVar 0) (gTup K 3 (gCons (gName 2) (gCons (gName 3) (gCons (gName 4) gNil)))))
    (tSq (tIfS (tTest (tOp (uIn K id) (tVar 2) (tTup (tCons (tC (.str "int")) (tCons (tC (.str "bool")) (tCons (tC (.str "unit")) tNil)))))) (tRet (tOp (uEq K) (tVar 3) (tTup tNil))) tNext)
    (tSq (tIfS (tTest (tOp (uEq K) (tVar 2) (tC (.str "data")))) (tRet (tAndV (tCall (sp_is_integer K) [] E0 (tCons (tVar 3) tNil)) (tChain (uLe) (uLt) (tC (.int 0)) (tVar 3) (tVar 1)))) tNext)
    (tSq (tIfS (tOr (tTest (tOp (uIsN id) (tCall (sp_part_counts K) [] E0 (tCons (tVar 2) tNil)) (tC .non))) (tNot (uTru K (tCB (uIsi K) (tCons (tVar 3) (tCons (tC (.ty "tuple")) tNil)))))) (tRet (tC (.bl false))) tNext)
    (tSq (tIfS (tOr (tAnd (tTest (tOp (uEq K) (tVar 2) (tC (.str "tuple")))) (tTest (tOp (uLt) (tCB (uLen K) (tCons (tVar 3) tNil)) (tC (.int 2))))) (tAnd (tTest (tOp (uNe K) (tVar 2) (tC (.str "tuple")))) (tTest (tOp (uNe K) (tCB (uLen K) (tCons (tVar 3) tNil)) (tOp (uIx K) (tCall (sp_part_counts K) [] E0 (tCons (tVar 2) tNil)) (tC (.int 0))))))) (tRet (tC (.bl false))) tNext)
    (tRet (tCB (uAll K) (tCons (tLc (uIt K (tVar 3)) (gName 5) tYes (tCall (sp_self K) [] E0 (tCons (tVar 5) (tCons (tVar 1) tNil))) [5]) tNil)))))))))
abbrev n_is_numbered_kind : List Str := ["kind", "count", "head", "what", "region", "part"]
def t_kind_size (K : PySem.W.Frag) : TS :=
  (tRet (tCall (sp_kind_nodes K) [] E0 (tCons (tVar 0) tNil)))
abbrev n_kind_size : List Str := ["kind"]
def t_is_kind (K : PySem.W.Frag) : TS :=
  (tRet (tCall (sp_is_numbered_kind K) [] E0 (tCons (tVar 0) (tCons (tVar 1) tNil))))
abbrev n_is_kind : List Str := ["kind", "count"]
def t_field_kinds (K : PySem.W.Frag) : TS :=
  (tRet (tLc (uIt K (tOp (uIx K) (tOp (uIx K) (tVar 0) (tVar 1)) (tC (.int 1)))) (gTup K 2 (gCons (gName 2) (gCons (gName 3) gNil))) tYes (tVar 3) [2, 3]))
abbrev n_field_kinds : List Str := ["datas", "number", "name", "fields"]
def t_l_start (K : PySem.W.Frag) : TS :=
  (tSq (tAsg (tC (.int 7)) (gName 1))
    (tSq (tFor (uIt K (tVar 0)) (gName 2) (tAsg (tOp (uAdd K) (tOp (uMod) (tCB (uInt) (tCons (tOp (uAdd K) (tOp (uMul) (tVar 1) (tC (.int 48271))) (tVar 2)) tNil)) (tC (.int 2147483629))) (tC (.int 1))) (gName 1)))
    (tRet (tLst (tCons (tCB (uList K) (tCons (tVar 0) tNil)) (tCons (tC (.int 0)) (tCons (tC (.int 0)) (tCons (tVar 1) tNil))))))))
abbrev n_l_start : List Str := ["_law_script", "_law_seed", "_law_cell"]
def t_l_draw (K : PySem.W.Frag) : TS :=
  (tSq (tIfS (tAnd (tTest (tOp (uEq K) (tOp (uIx K) (tVar 0) (tC (.int 1))) (tC (.int 0)))) (tTest (tOp (uGe) (tOp (uIx K) (tVar 0) (tC (.int 2))) (tCB (uLen K) (tCons (tOp (uIx K) (tVar 0) (tC (.int 0))) tNil))))) (tSq (tAsg (tOp (uMod) (tCB (uInt) (tCons (tOp (uAdd K) (tOp (uMul) (tOp (uIx K) (tVar 0) (tC (.int 3))) (tC (.int 48271))) (tC (.int 69621))) tNil)) (tC (.int 2147483629))) (gSub (tVar 0) (tC (.int 3)) uSetL))
    (tRet (tOp (uMod) (tCB (uInt) (tCons (tOp (uFdiv) (tOp (uIx K) (tVar 0) (tC (.int 3))) (tC (.int 13))) tNil)) (tVar 1)))) tNext)
    (tSq (tIfS (tTest (tOp (uEq K) (tOp (uIx K) (tVar 0) (tC (.int 1))) (tC (.int 0)))) (tSq (tAsg (tCB (uAbs) (tCons (tOp (uIx K) (tOp (uIx K) (tVar 0) (tC (.int 0))) (tOp (uIx K) (tVar 0) (tC (.int 2)))) tNil)) (gSub (tVar 0) (tC (.int 1)) uSetL))
    (tAugS (tVar 0) (tC (.int 2)) (tC (.int 1)) (uGetL K) (uIpI fun i j => i + j) uSetL)) tNext)
    (tSq (tAsg (tOp (uMod) (tCB (uInt) (tCons (tOp (uIx K) (tVar 0) (tC (.int 1))) tNil)) (tVar 1)) (gName 2))
    (tSq (tAsg (tOp (uFdiv) (tOp (uIx K) (tVar 0) (tC (.int 1))) (tVar 1)) (gSub (tVar 0) (tC (.int 1)) uSetL))
    (tRet (tVar 2))))))
abbrev n_l_draw : List Str := ["_law_state", "_law_many", "_law_value_here"]
def t_l_is_integer (K : PySem.W.Frag) : TS :=
  (tRet (tAndV (tCB (uIsi K) (tCons (tVar 0) (tCons (tC (.ty "int")) tNil))) (tNotV (tCB (uIsi K) (tCons (tVar 0) (tCons (tC (.ty "bool")) tNil))))))
abbrev n_l_is_integer : List Str := ["_law_actual"]
def t_l_same (K : PySem.W.Frag) (sp_self : PySem.W.Frag → Sp) : TS :=
  (tSq (tIfS (uTru K (tCB (uIsi K) (tCons (tVar 1) (tCons (tC (.ty "tuple")) tNil)))) (tSq (tIfS (tOr (tNot (uTru K (tCB (uIsi K) (tCons (tVar 0) (tCons (tC (.ty "tuple")) tNil))))) (tTest (tOp (uNe K) (tCB (uLen K) (tCons (tVar 0) tNil)) (tCB (uLen K) (tCons (tVar 1) tNil))))) (tRet (tC (.bl false))) tNext)
    (tSq (tFor (iRng1 (tCons (tCB (uLen K) (tCons (tVar 1) tNil)) tNil)) (gName 2) (tIfS (tNot (uTru K (tCall (sp_self K) [] E0 (tCons (tOp (uIx K) (tVar 0) (tVar 2)) (tCons (tOp (uIx K) (tVar 1) (tVar 2)) tNil))))) (tRet (tC (.bl false))) tNext))
    (tRet (tC (.bl true))))) tNext)
    (tSq (tIfS (tOr (uTru K (tCB (uIsi K) (tCons (tVar 1) (tCons (tC (.ty "bool")) tNil)))) (uTru K (tCB (uIsi K) (tCons (tVar 0) (tCons (tC (.ty "bool")) tNil))))) (tRet (tAndV (tCB (uIsi K) (tCons (tVar 1) (tCons (tC (.ty "bool")) tNil))) (tAndV (tCB (uIsi K) (tCons (tVar 0) (tCons (tC (.ty "bool")) tNil))) (tOp (uEq K) (tVar 0) (tVar 1))))) tNext)
    (tSq (tIfS (tOr (tTest (tOp (uIsN id) (tVar 1) (tC .non))) (tTest (tOp (uIsN id) (tVar 0) (tC .non)))) (tRet (tAndV (tOp (uIsN id) (tVar 1) (tC .non)) (tOp (uIsN id) (tVar 0) (tC .non)))) tNext)
    (tSq (tIfS (tTest (tOp (uNe K) (tCB (uIsi K) (tCons (tVar 1) (tCons (tC (.ty "str")) tNil))) (tCB (uIsi K) (tCons (tVar 0) (tCons (tC (.ty "str")) tNil))))) (tRet (tC (.bl false))) tNext)
    (tRet (tAndV (tCB (uIsiT K) (tCons (tVar 0) (tCons (tTup (tCons (tC (.ty "int")) (tCons (tC (.ty "str")) tNil))) tNil))) (tOp (uEq K) (tVar 0) (tVar 1))))))))
abbrev n_l_same : List Str := ["_law_actual", "_law_expected", "_law_k"]
def t_l_value (K : PySem.W.Frag) (sp_self : PySem.W.Frag → Sp) : TS :=
  (tSq (tAsg (tCall (sp_l_draw K) [] E0 (tCons (tVar 0) (tCons (tC (.int 9)) tNil))) (gName 2))
    (tSq (tIfS (tOr (tTest (tOp (uLt) (tVar 1) (tC (.int 1)))) (tTest (tOp (uLt) (tVar 2) (tC (.int 3))))) (tRet (tTup (tCons (tOp (uIx K) (tLst (tCons (tC (.str "int")) (tCons (tC (.str "bool")) (tCons (tC (.str "unit")) tNil)))) (tOp (uMod) (tVar 2) (tC (.int 3)))) (tCons (tTup tNil) (tCons (tC (.int 0)) tNil))))) tNext)
    (tSq (tIfS (tTest (tOp (uLt) (tVar 2) (tC (.int 5)))) (tRet (tTup (tCons (tC (.str "data")) (tCons (tCall (sp_l_draw K) [] E0 (tCons (tVar 0) (tCons (tC (.int 5)) tNil))) (tCons (tC (.int 0)) tNil))))) tNext)
    (tSq (tAsg (tDGet (tDisp (((tC (.int 5)), (tOp (uAdd K) (tC (.int 2)) (tCall (sp_l_draw K) [] E0 (tCons (tVar 0) (tCons (tC (.int 5)) tNil))))) :: (((tC (.int 6)), (tC (.int 2))) :: (((tC (.int 7)), (tC (.int 1))) :: (((tC (.int 8)), (tC (.int 1))) :: []))))) (tVar 2)) (gName 3))
    (tRet (tTup (tCons (tOp (uIx K) (tLst (tCons (tC (.str "tuple")) (tCons (tC (.str "fn")) (tCons (tC (.str "ref")) (tCons (tC (.str "array")) tNil))))) (tOp (uSub) (tVar 2) (tC (.int 5)))) (tCons (tCB (uTuple K) (tCons (tLc (iRng1 (tCons (tVar 3) tNil)) (gName 4) tYes (tCall (sp_self K) [] E0 (tCons (tVar 0) (tCons (tOp (uSub) (tVar 1) (tC (.int 1))) tNil))) [4]) tNil)) (tCons (tC (.int 0)) tNil)))))))))
abbrev n_l_value : List Str := ["_law_state", "_law_deep", "_law_pick", "_law_many", "_law_k"]
def t_l_spoilt (K : PySem.W.Frag) (sp_self : PySem.W.Frag → Sp) : TS :=
  (tSq (tAsg (tVar 1) (gTup K 3 (gCons (gName 2) (gCons (gName 3) (gCons (gName 4) gNil)))))
    (tSq (tIfS (tAnd (tTest (tOp (uIn K not) (tVar 2) (tTup (tCons (tC (.str "int")) (tCons (tC (.str "bool")) (tCons (tC (.str "unit")) (tCons (tC (.str "data")) tNil))))))) (tTest (tOp (uEq K) (tCall (sp_l_draw K) [] E0 (tCons (tVar 0) (tCons (tC (.int 2)) tNil))) (tC (.int 1))))) (tSq (tAsg (tCall (sp_l_draw K) [] E0 (tCons (tVar 0) (tCons (tCB (uLen K) (tCons (tVar 3) tNil)) tNil))) (gName 5))
    (tRet (tTup (tCons (tVar 2) (tCons (tOp (uAdd K) (tOp (uAdd K) (tSl (uSl K) (tVar 3) tNoPart (tPart (tVar 5))) (tTup (tCons (tCall (sp_self K) [] E0 (tCons (tVar 0) (tCons (tOp (uIx K) (tVar 3) (tVar 5)) tNil))) tNil))) (tSl (uSl K) (tVar 3) (tPart (tOp (uAdd K) (tVar 5) (tC (.int 1)))) tNoPart)) (tCons (tVar 4) tNil)))))) tNext)
    (tSq (tAsg (tOp (uIx K) (tLst (tCons (tC .non) (tCons (tC (.bl true)) (tCons (tC (.int 1)) (tCons (tC (.str "int")) (tCons (tTup tNil) (tCons (tC (.str "data")) (tCons (tTup (tCons (tC (.str "int")) (tCons (tTup tNil) (tCons (tC (.int 0)) tNil)))) (tCons (tUn uNeg (tC (.int 1))) (tCons (tC (.str "real")) (tCons (tTup (tCons (tTup (tCons (tC (.str "int")) (tCons (tTup tNil) (tCons (tC (.int 0)) tNil)))) tNil)) tNil))))))))))) (tCall (sp_l_draw K) [] E0 (tCons (tVar 0) (tCons (tC (.int 10)) tNil)))) (gName 6))
    (tSq (tAsg (tCall (sp_l_draw K) [] E0 (tCons (tVar 0) (tCons (tC (.int 5)) tNil))) (gName 7))
    (tSq (tIfS (tTest (tOp (uEq K) (tVar 7) (tC (.int 0)))) (tRet (tTup (tCons (tVar 6) (tCons (tVar 3) (tCons (tVar 4) tNil))))) tNext)
    (tSq (tIfS (tTest (tOp (uEq K) (tVar 7) (tC (.int 1)))) (tRet (tTup (tCons (tVar 2) (tCons (tVar 6) (tCons (tVar 4) tNil))))) tNext)
    (tSq (tIfS (tTest (tOp (uEq K) (tVar 7) (tC (.int 2)))) (tRet (tTup (tCons (tVar 2) (tCons (tVar 3) (tCons (tVar 6) tNil))))) tNext)
    (tSq (tIfS (tTest (tOp (uEq K) (tVar 7) (tC (.int 3)))) (tRet (tVar 6)) tNext)
    (tRet (tOp (uAdd K) (tSl (uSl K) (tVar 1) tNoPart (tPart (tC (.int 2)))) (tTup (tCons (tC (.int 0)) (tCons (tC (.int 0)) tNil)))))))))))))
abbrev n_l_spoilt : List Str := ["_law_state", "_law_kind", "_law_head", "_law_what", "_law_region", "_law_k", "_law_other", "_law_pick"]
def t_l_good (K : PySem.W.Frag) (sp_self : PySem.W.Frag → Sp) : TS :=
  (tSq (tIfS (tOr (tNot (uTru K (tCB (uIsi K) (tCons (tVar 0) (tCons (tC (.ty "tuple")) tNil))))) (tOr (tTest (tOp (uNe K) (tCB (uLen K) (tCons (tVar 0) tNil)) (tC (.int 3)))) (tNot (uTru K (tCB (uIsi K) (tCons (tOp (uIx K) (tVar 0) (tC (.int 0))) (tCons (tC (.ty "str")) tNil))))))) (tRet (tC (.bl false))) tNext)
    (tSq (tAsg (tVar 0) (gTup K 3 (gCons (gName 2) (gCons (gName 3) (gCons (gName 4) gNil)))))
    (tSq (tIfS (tOr (tNot (uTru K (tCall (sp_l_is_integer K) [] E0 (tCons (tVar 4) tNil)))) (tTest (tOp (uNe K) (tVar 4) (tC (.int 0))))) (tRet (tC (.bl false))) tNext)
    (tSq (tIfS (tTest (tOp (uEq K) (tVar 2) (tC (.str "data")))) (tRet (tAndV (tCall (sp_l_is_integer K) [] E0 (tCons (tVar 3) tNil)) (tChain (uLe) (uLt) (tC (.int 0)) (tVar 3) (tVar 1)))) tNext)
    (tSq (tIfS (tOr (tNot (uTru K (tCB (uIsi K) (tCons (tVar 3) (tCons (tC (.ty "tuple")) tNil))))) (tTest (tOp (uIn K not) (tVar 2) (tTup (tCons (tC (.str "int")) (tCons (tC (.str "bool")) (tCons (tC (.str "unit")) (tCons (tC (.str "tuple")) (tCons (tC (.str "fn")) (tCons (tC (.str "ref")) (tCons (tC (.str "array")) tNil))))))))))) (tRet (tC (.bl false))) tNext)
    (tSq (tIfS (tOr (tAnd (tTest (tOp (uEq K) (tVar 2) (tC (.str "tuple")))) (tTest (tOp (uLt) (tCB (uLen K) (tCons (tVar 3) tNil)) (tC (.int 2))))) (tAnd (tTest (tOp (uEq K) (tVar 2) (tC (.str "fn")))) (tTest (tOp (uNe K) (tCB (uLen K) (tCons (tVar 3) tNil)) (tC (.int 2)))))) (tRet (tC (.bl false))) tNext)
    (tSq (tIfS (tOr (tAnd (tTest (tOp (uIn K id) (tVar 2) (tTup (tCons (tC (.str "ref")) (tCons (tC (.str "array")) tNil))))) (tTest (tOp (uNe K) (tCB (uLen K) (tCons (tVar 3) tNil)) (tC (.int 1))))) (tAnd (tTest (tOp (uIn K id) (tVar 2) (tTup (tCons (tC (.str "int")) (tCons (tC (.str "bool")) (tCons (tC (.str "unit")) tNil)))))) (tTest (tOp (uGt) (tCB (uLen K) (tCons (tVar 3) tNil)) (tC (.int 0)))))) (tRet (tC (.bl false))) tNext)
    (tSq (tFor (uIt K (tVar 3)) (gName 5) (tIfS (tNot (uTru K (tCall (sp_self K) [] E0 (tCons (tVar 5) (tCons (tVar 1) tNil))))) (tRet (tC (.bl false))) tNext))
    (tRet (tC (.bl true)))))))))))
abbrev n_l_good : List Str := ["_law_kind", "_law_count", "_law_head", "_law_what", "_law_region", "_law_part"]
def t_l_size (K : PySem.W.Frag) (sp_self : PySem.W.Frag → Sp) : TS :=
  (tSq (tIfS (tTest (tOp (uEq K) (tOp (uIx K) (tVar 0) (tC (.int 0))) (tC (.str "data")))) (tRet (tC (.int 1))) tNext)
    (tRet (tOp (uAdd K) (tC (.int 1)) (tCB (uSum K) (tCons (tLc (uIt K (tOp (uIx K) (tVar 0) (tC (.int 1)))) (gName 1) tYes (tCall (sp_self K) [] E0 (tCons (tVar 1) tNil)) [1]) tNil)))))
abbrev n_l_size : List Str := ["_law_kind", "_law_part"]
def t_law (K : PySem.W.Frag) : TS :=
  (tSq (tAsg (tCall (sp_l_start K) [] E0 (tCons (tVar 0) tNil)) (gName 1))
    (tSq (tAsg (tCall (sp_l_value K) [] E0 (tCons (tVar 1) (tCons (tC (.int 3)) tNil))) (gName 2))
    (tSq (tAsg (tCall (sp_l_draw K) [] E0 (tCons (tVar 1) (tCons (tC (.int 5)) tNil))) (gName 3))
    (tSq (tAsg (tVar 2) (gName 4))
    (tSq (tIfS (tTest (tOp (uGt) (tCall (sp_l_draw K) [] E0 (tCons (tVar 1) (tCons (tC (.int 3)) tNil))) (tC (.int 0)))) (tAsg (tCall (sp_l_spoilt K) [] E0 (tCons (tVar 1) (tCons (tVar 2) tNil))) (gName 4)) tNext)
    (tSq (tIfS (tOr (tNot (uTru K (tCall (sp_l_same K) [] E0 (tCons (tCall (sp_is_kind K) [] E0 (tCons (tVar 4) (tCons (tVar 3) tNil))) (tCons (tCall (sp_l_good K) [] E0 (tCons (tVar 4) (tCons (tVar 3) tNil))) tNil))))) (tNot (uTru K (tCall (sp_l_same K) [] E0 (tCons (tCall (sp_kind_size K) [] E0 (tCons (tVar 2) tNil)) (tCons (tCall (sp_l_size K) [] E0 (tCons (tVar 2) tNil)) tNil)))))) (tRet (tC (.bl false))) tNext)
    (tSq (tAsg (tLst tNil) (gName 5))
    (tSq (tFor (iRng1 (tCons (tOp (uAdd K) (tC (.int 1)) (tCall (sp_l_draw K) [] E0 (tCons (tVar 1) (tCons (tC (.int 4)) tNil)))) tNil)) (gName 6) (tSq (tAsg (tLc (iRng1 (tCons (tOp (uAdd K) (tC (.int 1)) (tCall (sp_l_draw K) [] E0 (tCons (tVar 1) (tCons (tC (.int 3)) tNil)))) tNil)) (gName 10) tYes (tCB (uTuple K) (tCons (tLc (iRng1 (tCons (tCall (sp_l_draw K) [] E0 (tCons (tVar 1) (tCons (tC (.int 3)) tNil))) tNil)) (gName 12) tYes (tCall (sp_l_value K) [] E0 (tCons (tVar 1) (tCons (tC (.int 1)) tNil))) [12]) tNil)) [10]) (gName 7))
    (tDrop (tBM K "list" (uAppend) (tVar 5) (tCons (tTup (tCons (tOp (uAdd K) (tC (.str "d")) (tCB (uStr) (tCons (tVar 6) tNil))) (tCons (tCB (uTuple K) (tCons (tLc (iRng1 (tCons (tCB (uLen K) (tCons (tVar 7) tNil)) tNil)) (gName 10) tYes (tTup (tCons (tOp (uAdd K) (tOp (uAdd K) (tOp (uAdd K) (tC (.str "C")) (tCB (uStr) (tCons (tVar 6) tNil))) (tC (.str "x"))) (tCB (uStr) (tCons (tVar 10) tNil))) (tCons (tOp (uIx K) (tVar 7) (tVar 10)) tNil))) [10]) tNil)) tNil))) tNil)))))
    (tSq (tAsg (tCall (sp_l_draw K) [] E0 (tCons (tVar 1) (tCons (tCB (uLen K) (tCons (tVar 5) tNil)) tNil))) (gName 8))
    (tSq (tAsg (tCall (sp_field_kinds K) [] E0 (tCons (tCB (uTuple K) (tCons (tVar 5) tNil)) (tCons (tVar 8) tNil))) (gName 9))
    (tSq (tIfS (tNot (uTru K (tCB (uIsi K) (tCons (tVar 9) (tCons (tC (.ty "list")) tNil))))) (tRet (tC (.bl false))) tNext)
    (tRet (tCall (sp_l_same K) [] E0 (tCons (tCB (uTuple K) (tCons (tVar 9) tNil)) (tCons (tCB (uTuple K) (tCons (tLc (uIt K (tOp (uIx K) (tOp (uIx K) (tVar 5) (tVar 8)) (tC (.int 1)))) (gName 11) tYes (tOp (uIx K) (tVar 11) (tC (.int 1))) [11]) tNil)) tNil)))))))))))))))
abbrev n_law : List Str := ["_law_script", "_law_state", "_law_kind", "_law_count", "_law_value_here", "_law_datas", "_law_k", "_law_rows", "_law_number", "_law_actual", "_law_j", "_law_constructor", "_law_m"]
section
variable {K : PySem.W.Frag} {vs : List V} {H : Hp} {Q : VK} {E : XK}
theorem rd_is_integer (h : sp_is_integer K vs H Q E) : t_is_integer K { nx := fun _ H' => Q .non H', rt := Q } (start n_is_integer vs) H := by
  obtain ⟨v, d, rfl, t, q⟩ := h
  unfold t_is_integer
  walk_at "u"
  refine r_isD_int _ t rfl ?_
  walk_at "u"
  cases e : d.isI with
  | true =>
    rw [e] at q
    walk_at "u"
    refine r_isD_bool _ t rfl ?_
    walk_at "u"
    exact q
  | false =>
    rw [e] at q
    walk_at "u"
    exact q
theorem rd_l_is_integer (h : sp_l_is_integer K vs H Q E) : t_l_is_integer K { nx := fun _ H' => Q .non H', rt := Q } (start n_l_is_integer vs) H := rd_is_integer h
theorem rd_is_triple (h : sp_is_triple K vs H Q E) : t_is_triple K { nx := fun _ H' => Q .non H', rt := Q } (start n_is_triple vs) H := by
  obtain ⟨v, d, rfl, t, f, q⟩ := h
  unfold t_is_triple
  refine r_cut (fun σ' H' => H' = H ∧ σ' = [some v] ∧ ∃ a b c, d = .tup [a, b, c]) ?_ ?_
  · have bad : (¬ ∃ a b c, d = .tup [a, b, c]) → Q (.bl false) H := fun hn => by
      have : isTri d = false := by
        cases e : isTri d with
        | false => rfl
        | true =>
          obtain ⟨h, w, rfl⟩ := isTri_some e
          exact absurd ⟨_, _, _, rfl⟩ hn
      rw [this] at q
      exact q
    walk_at "u"
    cases d with
    | tup ds =>
      refine r_isD_tuple true t rfl ?_
      walk_at "u"
      refine r_lenD t ?_
      walk_at "u"
      refine br_nd (fun h1 => ?_) (fun h1 => ?_)
      · walk_at "u"
        refine bad fun ⟨a, b, c, e⟩ => h1 ?_
        cases e; rfl
      · walk_at "u"
        refine ⟨rfl, rfl, ?_⟩
        match ds, h1 with
        | [a, b, c], _ => exact ⟨a, b, c, rfl⟩
    | _ =>
      refine r_isD_tuple false t rfl ?_
      walk_at "u"
      exact bad fun ⟨a, b, c, e⟩ => nomatch e
  rintro σ H1 ⟨rfl, rfl, a, b, c, rfl⟩
  walk_at "u"
  refine r_ixD (k := 0) t rfl fun x tx => ?_
  walk_at "u"
  cases a with
  | str h =>
    refine r_isD_str true tx rfl ?_
    walk_at "u"
    refine r_ixD (k := 2) t rfl fun y ty => ?_
    walk_at "u"
    refine ⟨y, c, rfl, ty, ?_⟩
    cases c with
    | int r =>
      refine r_bl ?_
      show if true = true then _ else _
      walk_at "u"
      refine r_ixD (k := 2) t rfl fun y ty => ?_
      cases ty.invI
      walk_at "u"
      exact q
    | _ =>
      refine r_bl ?_
      show if false = true then _ else _
      walk_at "u"
      exact q
  | _ =>
    refine r_isD_str false tx rfl ?_
    walk_at "u"
    exact q
theorem rd_part_counts (h : sp_part_counts K vs H Q E) : t_part_counts K { nx := fun _ H' => Q .non H', rt := Q } (start n_part_counts vs) H := by
  obtain ⟨h, rfl, q0, q1⟩ := h
  unfold t_part_counts
  unfold pcF at q0 q1
  walk_at "ui"
  refine br_d (fun h1 => ?_) (fun h1 => ?_)
  · walk_at "u"
    refine ⟨szl (by simp), fun p hp => ?_⟩
    exact q1 _ _ _ _ (same_new hp) (if_pos h1) upd_same
  walk_at "u"
  walk_at "ui"
  refine br_d (fun h2 => ?_) (fun h2 => ?_)
  · walk_at "u"
    refine ⟨szl (by simp), fun p hp => ?_⟩
    exact q1 _ _ _ _ (same_new hp) (by rw [if_neg h1, if_pos h2]) upd_same
  walk_at "u"
  walk_at "ui"
  refine ⟨szl (by simp), fun p hp => ?_⟩
  refine r_inS (ss := ones) (SqT.of upd_same) ?_
  walk_at "u"
  refine br_d (fun h3 => ?_) (fun h3 => ?_)
  · walk_at "u"
    refine ⟨szl (by simp), fun p2 hp2 => ?_⟩
    exact q1 _ _ _ _ (same_mut (same_new hp) (Same.free (same_new hp) hp2)) (by rw [if_neg h1, if_neg h2, if_pos h3]) upd_same
  walk_at "u"
  exact q0 _ (same_new hp) (by rw [if_neg h1, if_neg h2, if_neg h3])
end
section
variable {K : PySem.W.Frag} {vs : List V} {H : Hp} {Q : VK} {E : XK}
theorem rd_l_draw (h : sp_l_draw K vs H Q E) : t_l_draw K { nx := fun _ H' => Q .non H', rt := Q } (start n_l_draw vs) H := by
  obtain ⟨p, l, m, rfl, hm, hm2, ⟨ns, cur, seed, at_, hp, hl, hne, h0⟩, q⟩ := h
  unfold t_l_draw
  refine r_cut (fun σ' H' => H' = H ∧ σ' = [some (.ref p), some (.int m), none] ∧ (cur = 0 → at_ < ns.length)) ?_ ?_
  · walk_at "u"
    refine br_d (fun h1 => ?_) (fun h1 => ?_)
    · walk_at "u"
      refine br_d (fun h2 => ?_) (fun h2 => ?_)
      · walk_at "u"
        refine q _ _ (Int.emod_nonneg _ (by omega)) (Int.emod_lt_of_pos _ hm) ⟨ns, cur, _, at_, upd_same, by rw [upd_ne hne]; exact hl, hne, h0⟩ (fun b hb => upd_ne hb)
      · walk_at "u"
        refine ⟨rfl, rfl, fun _ => by simpa using h2⟩
    · walk_at "u"
      exact ⟨rfl, rfl, fun h => absurd h h1⟩
  rintro σ H1 ⟨e, rfl, hin⟩
  subst e
  refine r_cut (fun σ' H' => σ' = [some (.ref p), some (.int m), none] ∧ (∃ (cur' : Int) (at' : Nat), H' p = some (.lst [.ref l, .int cur', .int at', .int seed]) ∧ 0 ≤ cur') ∧ ∀ b, b ≠ p → H' b = H1 b) ?_ ?_
  · walk_at "u"
    refine br_d (fun h1 => ?_) (fun h1 => ?_)
    · walk_at "u"
      have hi := hin h1
      refine r_ixL (SqL.of hl) (v := .int ns[at_]) (atI_nat (by simp [hi])) ?_
      walk_at "u"
      refine ⟨rfl, ⟨((ns[at_]).natAbs : Int), at_ + 1, ?_, Int.natCast_nonneg _⟩, fun b hb => ?_⟩
      · rw [upd_same]; rfl
      · rw [upd_ne hb, upd_ne hb]
    · walk_at "u"
      exact ⟨rfl, ⟨cur, at_, hp, h0⟩, fun b _ => rfl⟩
  rintro σ H2 ⟨rfl, ⟨cur', at', hp2, h2⟩, hk⟩
  walk_at "u"
  have hl2 : H2 l = some (.lst (ns.map V.int)) := by rw [hk l hne]; exact hl
  refine q _ _ (Int.emod_nonneg _ (by omega)) (Int.emod_lt_of_pos _ hm) ⟨ns, _, seed, at', upd_same, by rw [upd_ne hne]; exact hl2, hne, Int.ediv_nonneg h2 (by omega)⟩ (fun b hb => by rw [upd_ne hb, hk b hb])
theorem rd_l_start (h : sp_l_start K vs H Q E) : t_l_start K { nx := fun _ H' => Q .non H', rt := Q } (start n_l_start vs) H := by
  obtain ⟨a, ns, rfl, hs, hlen, q⟩ := h
  unfold t_l_start
  walk_at "u"
  refine r_cut (fun σ' H' => H' = H ∧ ∃ (seed : Int) (y : Option V), σ' = [some (.ref a), some (.int seed), y]) ?_ ?_
  · walk_at "u"
    refine it_list ?_
    walk_at "u"
    refine ⟨a, rfl, ⟨_, hs⟩, f_list (xs := ns.map V.int) (fun i σ' H' => H' = H ∧ ∃ (seed : Int) (y : Option V), σ' = [some (.ref a), some (.int seed), y]) ⟨rfl, 7, none, rfl⟩ (fun i σ H' h => h.1 ▸ hs) ?_ ?_⟩
    · rintro i x σ H' hx ⟨rfl, seed, y, rfl⟩
      rw [List.getElem?_map] at hx
      obtain ⟨n, hn, rfl⟩ := Option.map_eq_some_iff.mp hx
      walk_at "u"
      exact ⟨rfl, _, _, rfl⟩
    · rintro σ H' h
      walk_at "u"
      exact h
  rintro σ H1 ⟨rfl, seed, y, rfl⟩
  walk_at "u"
  refine r_listL hs fun l hl => ?_
  walk_at "u"
  refine ⟨szl (by simp), fun p hp => ?_⟩
  have hlp : l ≠ p := ne_of_none upd_same hp
  have hp1 : H1 p = none := by rw [upd_ne hlp.symm] at hp; exact hp
  refine q p l _ (same_mut (same_new hl) hp1) hp1 ⟨ns, 0, seed, 0, upd_same, by rw [upd_ne hlp, upd_same], hlp, Int.le_refl _⟩
end
theorem szF_data {n : Nat} {i r : Int} : szF (n + 1) (.tup [.str "data", .int i, .int r]) = 1 := by
  show szB (szF n) _ = 1
  unfold szB
  exact if_pos rfl
theorem szF_tup {n : Nat} {h : Str} {ds : List D} {r : Int} (hh : h ≠ "data") : szF (n + 1) (.tup [.str h, .tup ds, .int r]) = 1 + (ds.map (szF n)).sum := by
  show szB (szF n) _ = _
  unfold szB
  exact if_neg hh
theorem heads_data {h : Str} (e : h ∈ heads) : h ≠ "data" := fun c => by
  subst c
  revert e
  decide +kernel
section
variable {K : PySem.W.Frag} {vs : List V} {H : Hp} {Q : VK} {E : XK} {n : Nat}
theorem rd_kind_nodes (h : spr_kind_nodes (n + 1) K vs H Q E) : t_kind_nodes K (spr_kind_nodes n) { nx := fun _ H' => Q .non H', rt := Q } (start n_kind_nodes vs) H := by
  obtain ⟨v, d, rfl, t, kd, q⟩ := h
  unfold t_kind_nodes
  rcases kd with ⟨i, rfl⟩ | ⟨x, ds, rfl, hx, hl, _, hs⟩
  · walk_at "u"
    refine r_sq ?_
    walk_at "u"
    refine r_ixD (k := 0) t rfl fun y ty => ?_
    cases ty.invS
    walk_at "u"
    have := q _ (Same.refl _)
    rw [szF_data] at this
    exact this
  · walk_at "u"
    refine r_sq ?_
    walk_at "u"
    refine r_ixD (k := 0) t rfl fun y ty => ?_
    cases ty.invS
    walk_at "u"
    refine br_n (heads_data hx) ?_
    walk_at "u"
    refine it_tup ?_
    walk_at "u"
    refine r_ixD (k := 1) t rfl fun y ty => ?_
    obtain ⟨a, xs, rfl, sa, ta⟩ := ty.inv
    refine ⟨a, rfl, ⟨xs, sa⟩, fun A hA => c_tups (xs := xs) (CF A H (ds.map fun e => V.int (szF n e))) (CF.start hA) (fun i H' c => Same.tk c.1 _ _ sa) ?_ ?_⟩
    · intro i z H1 hz c
      obtain ⟨e, he, te⟩ := ta.getV hz
      have hi := (List.getElem?_eq_some_iff.mp he).1
      walk_at "u"
      refine ⟨rfl, ?_⟩
      walk_at "u"
      refine ⟨z, e, rfl, te.k (Same.tk c.1), hs e (List.mem_of_getElem? he), fun H2 s2 => ?_⟩
      exact c.step hA s2 (by rw [List.getElem?_map, he]; rfl) (by omega)
    · intro H1 c
      rw [ta.len] at c
      have e := CF.done (ys := ds.map fun e => V.int (szF n e)) (by rw [List.length_map]; exact c)
      refine ⟨ds.map (szF n), SqL.of (by rw [e, List.map_map]; rfl), ?_⟩
      walk_at "u"
      have := q _ c.1
      rw [szF_tup (heads_data hx)] at this
      exact this
theorem rd_l_size (h : spr_l_size (n + 1) K vs H Q E) : t_l_size K (spr_l_size n) { nx := fun _ H' => Q .non H', rt := Q } (start n_l_size vs) H := rd_kind_nodes (E := E) h
theorem rd_kind_size (h : sp_kind_size K vs H Q E) : t_kind_size K { nx := fun _ H' => Q .non H', rt := Q } (start n_kind_size vs) H := by
  obtain ⟨v, d, rfl, t, kd, q⟩ := h
  unfold t_kind_size
  walk_at "u"
  exact ⟨v, d, rfl, t, kd, q⟩
theorem rd_is_kind (h : sp_is_kind K vs H Q E) : t_is_kind K { nx := fun _ H' => Q .non H', rt := Q } (start n_is_kind vs) H := by
  obtain ⟨v, d, c, m, rfl, r⟩ := h
  unfold t_is_kind
  walk_at "u"
  exact ⟨v, d, c, m, rfl, r⟩
theorem rd_field_kinds (h : sp_field_kinds K vs H Q E) : t_field_kinds K { nx := fun _ H' => Q .non H', rt := Q } (start n_field_kinds vs) H := by
  obtain ⟨v, ds, i, nm, rows, rfl, t, e, hl, q⟩ := h
  unfold t_field_kinds
  walk_at "u"
  refine it_tup ?_
  walk_at "u"
  refine r_ixD t e fun y ty => ?_
  walk_at "u"
  refine r_ixD (k := 1) ty rfl fun y ty => ?_
  obtain ⟨a, xs, rfl, sa, ta⟩ := ty.inv
  refine ⟨a, rfl, ⟨xs, sa⟩, fun A hA => c_tups (xs := xs) (fun i H' => Same H H' ∧ ∃ ws, H' A = some (.lst ws) ∧ TdL K H' ws ((rows.take i).map (·.2))) ⟨same_new hA, [], upd_same, .nil⟩ (fun i H' c => Same.tk c.1 _ _ sa) ?_ ?_⟩
  · rintro i z H1 hz ⟨s1, ws, ew, tw⟩
    obtain ⟨e, he, te⟩ := ta.getV hz
    obtain ⟨r, hr, rfl⟩ := Option.map_eq_some_iff.mp ((List.getElem?_map ..).symm.trans he)
    refine r_gT2 (te.k (Same.tk s1)) fun x y tx ty => ?_
    refine ⟨rfl, ?_⟩
    walk_at "u"
    refine ⟨ws, ew, szt (by rw [tw.len, List.length_map, List.length_take]; omega), same_mut s1 hA, _, upd_same, ?_⟩
    rw [List.take_add_one, hr, List.map_append]
    exact (tw.append (.one ty)).k (Tk.lst ew)
  · rintro H1 ⟨s1, ws, ew, tw⟩
    rw [ta.len, List.length_map, List.take_length] at tw
    exact q _ _ _ s1 ew tw
theorem goodF_no {d : D} {c : Int} (h : isTri d = false) : goodF (n + 1) d c = false := by
  show goodB _ d c = false
  unfold goodB
  unfold isTri at h
  cases e : tri d with
  | none => rfl
  | some x =>
    obtain ⟨a, b, r⟩ := x
    rw [e] at h
    dsimp only at h ⊢
    rw [h, Bool.false_and]
theorem goodF_data {w : D} {c : Int} : goodF (n + 1) (.tup [.str "data", w, .int 0]) c = intIn c w := by
  show goodB _ _ c = _
  unfold goodB tri
  dsimp only
  rw [decide_eq_true rfl, Bool.true_and, if_pos rfl]
theorem goodF_head {h : Str} {w : D} {c : Int} (hh : h ≠ "data") : goodF (n + 1) (.tup [.str h, w, .int 0]) c = partsOk (fun x => goodF n x c) h w := by
  show goodB _ _ c = _
  unfold goodB tri
  dsimp only
  rw [decide_eq_true rfl, Bool.true_and, if_neg hh]
theorem headOk_leaf {h : Str} {k : Nat} (e : h ∈ leafs) : headOk h k = decide (k = 0) := if_pos e
theorem leaf_data {h : Str} (e : h ∈ leafs) : h ≠ "data" := fun c => by
  subst c
  revert e
  decide +kernel
theorem eqb_unit {w : D} : D.eqb w (.tup []) = match w with | .tup ds => decide (ds.length = 0) | _ => false := by
  cases w with
  | tup ds => cases ds <;> simp [D.eqb, D.eqL]
  | _ => rfl
theorem pc_head {h : Str} {k : Nat} (hl : h ∉ leafs) : headOk h k = match pcF h with
    | none => false
    | some i => if h = "tuple" then decide (2 ≤ k) else decide ((k : Int) = i) := by
  unfold headOk pcF
  rw [if_neg hl]
  by_cases h1 : h = "tuple"
  · rw [if_pos h1, if_pos h1]; dsimp only; rw [if_pos h1]
  rw [if_neg h1, if_neg h1]
  by_cases h2 : h = "fn"
  · rw [if_pos h2, if_pos h2]; dsimp only; rw [if_neg h1]
    exact decide_eq_decide.mpr (by omega)
  rw [if_neg h2, if_neg h2]
  by_cases h3 : h ∈ ones
  · rw [if_pos h3, if_pos h3]; dsimp only; rw [if_neg h1]
    exact decide_eq_decide.mpr (by omega)
  rw [if_neg h3, if_neg h3]
end
section
variable {K : PySem.W.Frag} {vs : List V} {H : Hp} {Q : VK} {E : XK} {n : Nat}
theorem rd_is_numbered_kind (h : spr_is_numbered_kind (n + 1) K vs H Q E) : t_is_numbered_kind K (spr_is_numbered_kind n) { nx := fun _ H' => Q .non H', rt := Q } (start n_is_numbered_kind vs) H := by
  obtain ⟨v, d, c, m, rfl, t, e, hm, f, q⟩ := h
  obtain rfl : m = n := by omega
  unfold t_is_numbered_kind
  refine r_cut (fun σ' H' => H' = H ∧ σ' = [some v, some (.int c), none, none, none, none] ∧ isTri d = true) ?_ ?_
  · walk_at "u"
    refine ⟨v, d, rfl, t, D.fit_mono d (by omega) f, ?_⟩
    walk_at "u"
    cases e : isTri d with
    | true =>
      walk_at "u"
      exact ⟨rfl, rfl, rfl⟩
    | false =>
      walk_at "u"
      have := q _ (Same.refl _)
      rw [goodF_no e] at this
      exact this
  rintro σ H1 ⟨rfl, rfl, hT⟩
  obtain ⟨h, w, rfl⟩ := isTri_some hT
  have fw : ∃ k, m = k + 1 ∧ D.fit k w = true := by
    match m, f with
    | k + 1, f => exact ⟨k, rfl, (D.fit_tup.mp f).2 w (by simp)⟩
  obtain ⟨k, rfl, fw⟩ := fw
  walk_at "u"
  refine r_gT3 t fun x y z tx ty tz => ?_
  cases tx.invS
  cases tz.invI
  refine r_cut (fun σ' H' => Same H1 H' ∧ σ' = [some v, some (.int c), some (.str h), some y, some (.int 0), none] ∧ h ∉ leafs) ?_ ?_
  · walk_at "u"
    refine ⟨szl (by simp), fun p hp => ?_⟩
    refine r_inS (ss := leafs) (SqT.of upd_same) ?_
    walk_at "u"
    refine br_d (fun h1 => ?_) (fun h1 => ?_)
    · walk_at "u"
      refine ⟨szl (by simp), fun p2 hp2 => ?_⟩
      have s2 : Same H1 (upd (upd H1 p (.tup [.str "int", .str "bool", .str "unit"])) p2 (.tup [])) := same_mut (same_new hp) (Same.free (same_new hp) hp2)
      refine r_eqD (n := k + 1) (ty.k (Same.tk s2)) (Td.newT .nil hp2) (D.fit_mono w (by omega) fw) (by simp [D.fit, D.fitL]) (by omega) ?_
      rw [eqb_unit]
      have := q _ s2
      rw [goodF_head (leaf_data h1)] at this
      cases w with
      | tup ds =>
        dsimp only [partsOk] at this ⊢
        rw [headOk_leaf h1] at this
        cases ds with
        | nil => exact this
        | cons a r => exact this
      | _ => exact this
    · walk_at "u"
      exact ⟨same_new hp, rfl, h1⟩
  rintro σ H2 ⟨s2, rfl, hl⟩
  have ty2 := ty.k (Same.tk s2)
  refine r_cut (fun σ' H' => H' = H2 ∧ σ' = [some v, some (.int c), some (.str h), some y, some (.int 0), none] ∧ h ≠ "data") ?_ ?_
  · walk_at "u"
    refine br_d (fun h1 => ?_) (fun h1 => ?_)
    · subst h1
      have qq := q _ s2
      rw [goodF_data] at qq
      walk_at "u"
      refine ⟨y, w, rfl, ty2, ?_⟩
      refine r_bl ?_
      cases w with
      | int i =>
        show if true = true then _ else _
        cases ty2.invI
        walk_at "u"
        refine br_d (fun h1 => ?_) (fun h1 => ?_)
        · walk_at "u"
          rw [show decide (i < c) = decide (0 ≤ i ∧ i < c) by simp [h1]]
          exact qq
        · have e0 : decide (0 ≤ i ∧ i < c) = false := by simp [h1]
          dsimp only [intIn] at qq
          rw [e0] at qq
          exact qq
      | _ =>
        show if false = true then _ else _
        walk_at "u"
        exact qq
    · walk_at "u"
      exact ⟨rfl, rfl, h1⟩
  rintro σ H3 ⟨rfl, rfl, hd⟩
  have q0 : ∀ H', Same H3 H' → Q (.bl (partsOk (fun x => goodF (k + 1) x c) h w)) H' := fun H' s => by
    have := q _ (s2.trans s)
    rw [goodF_head hd] at this
    exact this
  refine r_cut (fun σ' H' => Same H3 H' ∧ σ' = [some v, some (.int c), some (.str h), some y, some (.int 0), none] ∧ (∃ i, pcF h = some i) ∧ ∃ ds, w = .tup ds) ?_ ?_
  · walk_at "u"
    refine ⟨h, rfl, fun H4 s4 hn => ?_, fun i j p H4 s4 hp e4 => ?_⟩
    · walk_at "u"
      have := q0 _ s4
      cases w with
      | tup ds =>
        dsimp only [partsOk] at this
        rw [pc_head hl, hn, Bool.false_and] at this
        exact this
      | _ => exact this
    · walk_at "u"
      cases w with
      | tup ds =>
        refine r_isD_tuple true (ty2.k (Same.tk s4)) rfl ?_
        walk_at "u"
        exact ⟨s4, rfl, ⟨i, hp⟩, ds, rfl⟩
      | _ =>
        refine r_isD_tuple false (ty2.k (Same.tk s4)) rfl ?_
        walk_at "u"
        exact q0 _ s4
  rintro σ H4 ⟨s4, rfl, ⟨i, hi⟩, ds, rfl⟩
  have ty4 := ty2.k (Same.tk s4)
  dsimp only [partsOk] at q0
  rw [pc_head hl, hi] at q0
  dsimp only at q0
  refine r_cut (fun σ' H' => Same H3 H' ∧ σ' = [some v, some (.int c), some (.str h), some y, some (.int 0), none] ∧ (if h = "tuple" then decide (2 ≤ ds.length) else decide ((ds.length : Int) = i)) = true) ?_ ?_
  · walk_at "u"
    refine br_d (fun h1 => ?_) (fun h1 => ?_)
    · rw [if_pos h1] at q0
      walk_at "u"
      refine r_lenD ty4 ?_
      walk_at "u"
      refine br_d (fun h2 => ?_) (fun h2 => ?_)
      · walk_at "u"
        have := q0 _ s4
        rw [decide_eq_false (show ¬ 2 ≤ ds.length by omega), Bool.false_and] at this
        exact this
      · walk_at "u"
        exact ⟨s4, rfl, by rw [if_pos h1]; exact decide_eq_true (by omega)⟩
    · rw [if_neg h1] at q0
      walk_at "u"
      refine r_lenD ty4 ?_
      walk_at "u"
      refine ⟨h, rfl, fun H5 s5 hn => (by rw [hi] at hn; cases hn), fun i' j p H5 s5 hp e5 => ?_⟩
      rw [hi] at hp
      cases hp
      walk_at "u"
      refine br_nd (fun h2 => ?_) (fun h2 => ?_)
      · walk_at "u"
        have := q0 _ (s4.trans s5)
        rw [decide_eq_false h2, Bool.false_and] at this
        exact this
      · walk_at "u"
        exact ⟨s4.trans s5, rfl, by rw [if_neg h1]; exact decide_eq_true h2⟩
  rintro σ H5 ⟨s5, rfl, hok⟩
  rw [hok] at q0
  have ty5 := ty2.k (Same.tk s5)
  obtain ⟨a, xs, rfl, sa, ta⟩ := ty5.inv
  walk_at "u"
  refine it_tup ?_
  walk_at "u"
  have fs := D.fit_tup (n := k - 1) (ds := ds)
  have fe : ds.length ≤ 60000 ∧ ∀ x ∈ ds, D.fit k x = true := by
    match k, fw with
    | j + 1, fw => exact ⟨(D.fit_tup.mp fw).1, fun x hx => D.fit_mono x (by omega) ((D.fit_tup.mp fw).2 x hx)⟩
  refine ⟨a, rfl, ⟨xs, sa⟩, fun A hA => c_tups (xs := xs) (CF A H5 (ds.map fun e => V.bl (goodF (k + 1) e c))) (CF.start hA) (fun i H' c => Same.tk c.1 _ _ sa) ?_ ?_⟩
  · intro i z H6 hz cf
    obtain ⟨e, he, te⟩ := ta.getV hz
    have hi := (List.getElem?_eq_some_iff.mp he).1
    walk_at "u"
    refine ⟨rfl, ?_⟩
    walk_at "u"
    refine ⟨z, e, c, k, rfl, te.k (Same.tk cf.1), rfl, by omega, fe.2 e (List.mem_of_getElem? he), fun H7 s7 => ?_⟩
    exact cf.step hA s7 (by rw [List.getElem?_map, he]; rfl) (by omega)
  · intro H6 cf
    rw [ta.len] at cf
    have e := CF.done (ys := ds.map fun e => V.bl (goodF (k + 1) e c)) (by rw [List.length_map]; exact cf)
    refine r_allL (bs := ds.map fun e => goodF (k + 1) e c) (SqL.of (by rw [e, List.map_map]; rfl)) ?_
    have := q0 _ (s5.trans cf.1)
    rw [Bool.true_and] at this
    rw [List.all_map]
    exact this
end
section
variable {K : PySem.W.Frag} {vs : List V} {H : Hp} {Q : VK} {E : XK} {n : Nat}
theorem headOk_not {h : Str} {k : Nat} (e : h ∉ ([("int" : Str), "bool", "unit", "tuple", "fn", "ref", "array"])) : headOk h k = false := by
  simp only [List.mem_cons, List.not_mem_nil, or_false, not_or] at e
  unfold headOk
  rw [if_neg (by simp only [leafs, List.mem_cons, List.not_mem_nil, or_false, not_or]; exact ⟨e.1, e.2.1, e.2.2.1⟩), if_neg e.2.2.2.1, if_neg e.2.2.2.2.1, if_neg (by simp only [ones, List.mem_cons, List.not_mem_nil, or_false, not_or]; exact e.2.2.2.2.2)]
theorem tup_leaf : ¬ (("tuple" : Str) ∈ leafs) := by decide +kernel
theorem fn_leaf : ¬ (("fn" : Str) ∈ leafs) := by decide +kernel
theorem fn_tup : ¬ (("fn" : Str) = "tuple") := by decide +kernel
theorem one_leaf {h : Str} (e : h ∈ ones) : h ∉ leafs ∧ h ≠ "tuple" ∧ h ≠ "fn" := by
  simp only [ones, List.mem_cons, List.not_mem_nil, or_false] at e
  rcases e with e | e <;> subst e <;> exact ⟨by decide +kernel, by decide +kernel, by decide +kernel⟩
theorem leaf_one {h : Str} (e : h ∈ leafs) : h ≠ "tuple" ∧ h ≠ "fn" := ⟨fun c => tup_leaf (c ▸ e), fun c => fn_leaf (c ▸ e)⟩
theorem goodF_r {x : D} {w : D} {h : Str} {r c : Int} (e : r ≠ 0) : goodF (n + 1) (.tup [.str h, w, .int r]) c = false := by
  refine goodF_no ?_
  show decide (r = 0) = false
  exact decide_eq_false e
theorem rd_l_good (h : spr_l_good (n + 1) K vs H Q E) : t_l_good K (spr_l_good n) { nx := fun _ H' => Q .non H', rt := Q } (start n_l_good vs) H := by
  obtain ⟨v, d, c, m, rfl, t, e, hm, f, q⟩ := h
  obtain rfl : m = n := by omega
  unfold t_l_good
  have qno : isTri d = false → ∀ H', Same H H' → Q (.bl false) H' := fun e H' s => by
    have := q _ s
    rw [goodF_no e] at this
    exact this
  refine r_cut (fun σ' H' => H' = H ∧ σ' = [some v, some (.int c), none, none, none, none] ∧ ∃ h w r, d = .tup [.str h, w, r]) ?_ ?_
  · walk_at "u"
    cases d with
    | tup ds =>
      refine r_isD_tuple true t rfl ?_
      walk_at "u"
      refine r_lenD t ?_
      walk_at "u"
      refine br_nd (fun h1 => ?_) (fun h1 => ?_)
      · walk_at "u"
        refine qno ?_ _ (Same.refl _)
        cases e : isTri (.tup ds) with
        | false => rfl
        | true =>
          obtain ⟨x, w, ee⟩ := isTri_some e
          cases ee
          exact absurd rfl h1
      · match ds, h1 with
        | [a, b, r], _ =>
          walk_at "u"
          refine r_ixD (k := 0) t rfl fun x tx => ?_
          walk_at "u"
          cases a with
          | str h =>
            refine r_isD_str true tx rfl ?_
            walk_at "u"
            exact ⟨rfl, rfl, h, b, r, rfl⟩
          | _ =>
            refine r_isD_str false tx rfl ?_
            walk_at "u"
            exact qno rfl _ (Same.refl _)
    | _ =>
      refine r_isD_tuple false t rfl ?_
      walk_at "u"
      exact qno rfl _ (Same.refl _)
  rintro σ H1 ⟨rfl, rfl, h, w, r, rfl⟩
  have fw : ∃ k, m = k + 1 ∧ D.fit k w = true := by
    match m, f with
    | k + 1, f => exact ⟨k, rfl, (D.fit_tup.mp f).2 w (by simp)⟩
  obtain ⟨k, rfl, fw⟩ := fw
  walk_at "u"
  refine r_gT3 t fun x y z tx ty tz => ?_
  cases tx.invS
  refine r_cut (fun σ' H' => H' = H1 ∧ σ' = [some v, some (.int c), some (.str h), some y, some z, none] ∧ r = .int 0) ?_ ?_
  · walk_at "u"
    refine ⟨z, r, rfl, tz, ?_⟩
    walk_at "u"
    cases r with
    | int j =>
      show if (!true) = true then _ else _
      cases tz.invI
      walk_at "u"
      refine br_nd (fun h1 => ?_) (fun h1 => ?_)
      · walk_at "u"
        exact qno (decide_eq_false h1) _ (Same.refl _)
      · walk_at "u"
        exact ⟨rfl, rfl, by rw [h1]⟩
    | _ =>
      show if (!false) = true then _ else _
      walk_at "u"
      exact qno rfl _ (Same.refl _)
  rintro σ H2 ⟨rfl, rfl, rfl⟩
  clear qno
  cases tz.invI
  refine r_cut (fun σ' H' => H' = H2 ∧ σ' = [some v, some (.int c), some (.str h), some y, some (.int 0), none] ∧ h ≠ "data") ?_ ?_
  · walk_at "u"
    refine br_d (fun h1 => ?_) (fun h1 => ?_)
    · subst h1
      have qq := q _ (Same.refl _)
      rw [goodF_data] at qq
      walk_at "u"
      refine ⟨y, w, rfl, ty, ?_⟩
      refine r_bl ?_
      cases w with
      | int i =>
        show if true = true then _ else _
        cases ty.invI
        walk_at "u"
        refine br_d (fun h1 => ?_) (fun h1 => ?_)
        · walk_at "u"
          rw [show decide (i < c) = decide (0 ≤ i ∧ i < c) by simp [h1]]
          exact qq
        · have e0 : decide (0 ≤ i ∧ i < c) = false := by simp [h1]
          dsimp only [intIn] at qq
          rw [e0] at qq
          exact qq
      | _ =>
        show if false = true then _ else _
        walk_at "u"
        exact qq
    · walk_at "u"
      exact ⟨rfl, rfl, h1⟩
  rintro σ H3 ⟨rfl, rfl, hd⟩
  have q0 : ∀ H', Same H3 H' → Q (.bl (partsOk (fun x => goodF (k + 1) x c) h w)) H' := fun H' s => by
    have := q _ s
    rw [goodF_head hd] at this
    exact this
  refine r_cut (fun σ' H' => Same H3 H' ∧ σ' = [some v, some (.int c), some (.str h), some y, some (.int 0), none] ∧ h ∈ ([("int" : Str), "bool", "unit", "tuple", "fn", "ref", "array"]) ∧ ∃ ds, w = .tup ds) ?_ ?_
  · walk_at "u"
    cases w with
    | tup ds =>
      refine r_isD_tuple true ty rfl ?_
      walk_at "u"
      refine ⟨szl (by simp), fun p hp => ?_⟩
      refine r_niS (ss := [("int" : Str), "bool", "unit", "tuple", "fn", "ref", "array"]) (SqT.of upd_same) ?_
      walk_at "u"
      refine br_nd (fun h1 => ?_) (fun h1 => ?_)
      · walk_at "u"
        have e1 : partsOk (fun x => goodF (k + 1) x c) h (.tup ds) = false := by
          dsimp only [partsOk]
          rw [headOk_not h1, Bool.false_and]
        rw [e1] at q0
        exact q0 _ (same_new hp)
      · walk_at "u"
        exact ⟨same_new hp, rfl, h1, ds, rfl⟩
    | _ =>
      refine r_isD_tuple false ty rfl ?_
      walk_at "u"
      exact q0 _ (Same.refl _)
  rintro σ H4 ⟨s4, rfl, hin, ds, rfl⟩
  have ty4 := ty.k (Same.tk s4)
  dsimp only [partsOk] at q0
  refine r_cut (fun σ' H' => H' = H4 ∧ σ' = [some v, some (.int c), some (.str h), some y, some (.int 0), none] ∧ (h = "tuple" → headOk h ds.length = true) ∧ (h = "fn" → headOk h ds.length = true)) ?_ ?_
  · have bad : headOk h ds.length = false → Q (.bl false) H4 := fun e => by
      have := q0 _ s4
      rw [e, Bool.false_and] at this
      exact this
    walk_at "u"
    refine br_d (fun h1 => ?_) (fun h1 => ?_)
    · have e1 : headOk h ds.length = decide (2 ≤ ds.length) := by
        unfold headOk
        subst h1
        rw [if_neg tup_leaf, if_pos rfl]
      walk_at "u"
      refine r_lenD ty4 ?_
      walk_at "u"
      refine br_d (fun h2 => ?_) (fun h2 => ?_)
      · walk_at "u"
        exact bad (by rw [e1]; exact decide_eq_false (by omega))
      · walk_at "u"
        refine br_n (fun c => fn_tup (c.symm.trans h1)) ?_
        walk_at "u"
        have : headOk h ds.length = true := by rw [e1]; exact decide_eq_true (by omega)
        exact ⟨rfl, rfl, fun _ => this, fun _ => this⟩
    · walk_at "u"
      refine br_d (fun h2 => ?_) (fun h2 => ?_)
      · have e1 : headOk h ds.length = decide (ds.length = 2) := by
          unfold headOk
          subst h2
          rw [if_neg fn_leaf, if_neg fn_tup, if_pos rfl]
        walk_at "u"
        refine r_lenD ty4 ?_
        walk_at "u"
        refine br_nd (fun h3 => ?_) (fun h3 => ?_)
        · walk_at "u"
          exact bad (by rw [e1]; exact decide_eq_false (by omega))
        · walk_at "u"
          have : headOk h ds.length = true := by rw [e1]; exact decide_eq_true (by omega)
          exact ⟨rfl, rfl, fun _ => this, fun _ => this⟩
      · walk_at "u"
        exact ⟨rfl, rfl, fun h => absurd h h1, fun h => absurd h h2⟩
  rintro σ H5 ⟨rfl, rfl, k1, k2⟩
  refine r_cut (fun σ' H' => Same H5 H' ∧ σ' = [some v, some (.int c), some (.str h), some y, some (.int 0), none] ∧ (headOk h ds.length = true ∨ h ∉ [("int" : Str), "bool", "unit", "tuple", "fn", "ref", "array"])) ?_ ?_
  · have bad : headOk h ds.length = false → ∀ H', Same H5 H' → Q (.bl false) H' := fun e H' s => by
      have := q0 _ (s4.trans s)
      rw [e, Bool.false_and] at this
      exact this
    walk_at "u"
    refine ⟨szl (by simp), fun p hp => ?_⟩
    have sp : Same H5 (upd H5 p (.tup [.str "ref", .str "array"])) := same_new hp
    refine r_inS (ss := ones) (SqT.of upd_same) ?_
    walk_at "u"
    refine br_d (fun h1 => ?_) (fun h1 => ?_)
    · have e1 : headOk h ds.length = decide (ds.length = 1) := by
        obtain ⟨a, b, c⟩ := one_leaf h1
        unfold headOk
        rw [if_neg a, if_neg b, if_neg c, if_pos h1]
      walk_at "u"
      refine r_lenD (ty4.k (Same.tk sp)) ?_
      walk_at "u"
      refine br_nd (fun h3 => ?_) (fun h3 => ?_)
      · walk_at "u"
        exact bad (by rw [e1]; exact decide_eq_false (by omega)) _ sp
      · walk_at "u"
        refine ⟨szl (by simp), fun p2 hp2 => ?_⟩
        refine r_inS (ss := leafs) (SqT.of upd_same) ?_
        refine r_bl ?_
        rw [decide_eq_false (one_leaf h1).1]
        walk_at "u"
        exact ⟨same_mut sp (Same.free sp hp2), rfl, .inl (by rw [e1]; exact decide_eq_true (by omega))⟩
    · walk_at "u"
      refine ⟨szl (by simp), fun p2 hp2 => ?_⟩
      have sp2 : Same H5 (upd (upd H5 p (.tup [.str "ref", .str "array"])) p2 (.tup [.str "int", .str "bool", .str "unit"])) := same_mut sp (Same.free sp hp2)
      refine r_inS (ss := leafs) (SqT.of upd_same) ?_
      walk_at "u"
      refine br_d (fun h2 => ?_) (fun h2 => ?_)
      · have e1 : headOk h ds.length = decide (ds.length = 0) := headOk_leaf h2
        walk_at "u"
        refine r_lenD (ty4.k (Same.tk sp2)) ?_
        walk_at "u"
        refine br_d (fun h3 => ?_) (fun h3 => ?_)
        · walk_at "u"
          exact bad (by rw [e1]; exact decide_eq_false (by omega)) _ sp2
        · walk_at "u"
          exact ⟨sp2, rfl, .inl (by rw [e1]; exact decide_eq_true (by omega))⟩
      · walk_at "u"
        refine ⟨sp2, rfl, ?_⟩
        by_cases h3 : h = "tuple"
        · exact .inl (k1 h3)
        by_cases h4 : h = "fn"
        · exact .inl (k2 h4)
        refine .inr ?_
        simp only [leafs, ones, List.mem_cons, List.not_mem_nil, or_false, not_or] at h1 h2 ⊢
        exact ⟨h2.1, h2.2.1, h2.2.2, h3, h4, h1⟩
  rintro σ H6 ⟨s6, rfl, hok⟩
  have hok := hok.resolve_right (fun c => c hin)
  rw [hok] at q0
  have s6 := s4.trans s6
  have ty6 := ty.k (Same.tk s6)
  obtain ⟨a, xs, rfl, sa, ta⟩ := ty6.inv
  have fe : ds.length ≤ 60000 ∧ ∀ x ∈ ds, D.fit k x = true := by
    match k, fw with
    | j + 1, fw => exact ⟨(D.fit_tup.mp fw).1, fun x hx => D.fit_mono x (by omega) ((D.fit_tup.mp fw).2 x hx)⟩
  refine r_cut (fun σ' H' => Same H6 H' ∧ (∃ u, σ' = [some v, some (.int c), some (.str h), some (.ref a), some (.int 0), u]) ∧ ds.all (fun x => goodF (k + 1) x c) = true) ?_ ?_
  · walk_at "u"
    refine it_tup ?_
    walk_at "u"
    refine ⟨a, rfl, ⟨xs, sa⟩, f_tup (xs := xs) (fun i σ' H' => Same H6 H' ∧ (∃ u, σ' = [some v, some (.int c), some (.str h), some (.ref a), some (.int 0), u]) ∧ (ds.take i).all (fun x => goodF (k + 1) x c) = true) ⟨Same.refl _, ⟨none, rfl⟩, rfl⟩ (fun i σ H' p => Same.tk p.1 _ _ sa) ?_ ?_⟩
    · rintro i z σ H7 hz ⟨s7, ⟨u, rfl⟩, hall⟩
      obtain ⟨e, he, te⟩ := ta.getV hz
      walk_at "u"
      refine ⟨z, e, c, k, rfl, te.k (Same.tk s7), rfl, by omega, fe.2 e (List.mem_of_getElem? he), fun H8 s8 => ?_⟩
      walk_at "u"
      cases hg : goodF (k + 1) e c with
      | true =>
        walk_at "u"
        refine ⟨s7.trans s8, ⟨_, rfl⟩, ?_⟩
        rw [List.take_add_one, he, List.all_append, hall]
        simp [hg]
      | false =>
        walk_at "u"
        have e1 : (ds.all fun x => goodF (k + 1) x c) = false := by
          rw [List.all_eq_false]
          exact ⟨e, List.mem_of_getElem? he, by rw [hg]; exact Bool.false_ne_true⟩
        have := q0 _ ((s6.trans s7).trans s8)
        rw [e1] at this
        exact this
    · rintro σ H7 ⟨s7, hu, hall⟩
      walk_at "u"
      refine ⟨s7, hu, ?_⟩
      rw [ta.len, List.take_length] at hall
      exact hall
  rintro σ H7 ⟨s7, ⟨u, rfl⟩, hall⟩
  walk_at "u"
  have := q0 _ (s6.trans s7)
  rw [hall] at this
  exact this
theorem D.eqb_refl : ∀ d : D, D.eqb d d = true := by
  have key : (∀ d : D, D.eqb d d = true) := by
    intro d
    exact D.rec (motive_1 := fun d => D.eqb d d = true) (motive_2 := fun ds => D.eqL ds ds = true) (by rfl) (fun b => by simp [D.eqb]) (fun b => by simp [D.eqb]) (fun b => by simp [D.eqb]) (fun ds h => by rw [D.eqb]; exact h) (by rfl) (fun a b h1 h2 => by rw [D.eqL, h1, h2]; rfl) d
  exact key
theorem rd_l_same (h : spr_l_same (n + 1) K vs H Q E) : t_l_same K (spr_l_same n) { nx := fun _ H' => Q .non H', rt := Q } (start n_l_same vs) H := by
  obtain ⟨v, w, d, m, rfl, tv, tw, e, hm, f, q⟩ := h
  obtain rfl : m = n := by omega
  unfold t_l_same
  cases d with
  | tup ds =>
    have fe : ∃ k, m = k + 1 ∧ ds.length ≤ 60000 ∧ ∀ x ∈ ds, D.fit k x = true := by
      match m, f with
      | j + 1, f => exact ⟨j, rfl, (D.fit_tup.mp f).1, (D.fit_tup.mp f).2⟩
    obtain ⟨k, rfl, hl, fe⟩ := fe
    refine r_sq ?_
    walk_at "u"
    refine r_isD_tuple true tw rfl ?_
    walk_at "u"
    refine r_cut (fun σ' H' => H' = H ∧ σ' = [some v, some w, none]) ?_ ?_
    · walk_at "u"
      refine r_isD_tuple true tv rfl ?_
      walk_at "u"
      refine r_lenD tv ?_
      walk_at "u"
      refine r_lenD tw ?_
      walk_at "u"
      exact ⟨rfl, rfl⟩
    rintro σ H1 ⟨rfl, rfl⟩
    refine r_cut (fun σ' H' => Same H1 H') ?_ ?_
    · walk_at "u"
      refine r_lenD tw ?_
      walk_at "u"
      refine ⟨by omega, by omega, f_range (fun i σ' H' => Same H1 H' ∧ ∃ u, σ' = [some v, some w, u]) ⟨Same.refl _, none, rfl⟩ ?_ ?_⟩
      · rintro i σ H2 hi ⟨s2, u, rfl⟩
        have hi : i < ds.length := by omega
        rw [Int.zero_add]
        walk_at "u"
        refine r_ixD (tv.k (Same.tk s2)) (List.getElem?_eq_getElem hi) fun x tx => ?_
        walk_at "u"
        refine r_ixD (tw.k (Same.tk s2)) (List.getElem?_eq_getElem hi) fun y ty => ?_
        walk_at "u"
        refine ⟨x, y, ds[i], k, rfl, tx, ty, rfl, by omega, fe _ (List.getElem_mem hi), fun H3 s3 => ?_⟩
        walk_at "u"
        exact ⟨s2.trans s3, _, rfl⟩
      · rintro σ H2 ⟨s2, _⟩
        walk_at "u"
        exact s2
    rintro σ H2 s2
    walk_at "u"
    exact q _ s2
  | non =>
    cases tv; cases tw
    repeat (refine r_sq ?_; walk_at "u")
    exact q _ (Same.refl _)
  | bl b =>
    cases tv; cases tw
    repeat (refine r_sq ?_; walk_at "u")
    have := q _ (Same.refl _)
    rw [← decide_eq_true (show b = b from rfl)] at this
    exact this
  | int b =>
    cases tv; cases tw
    repeat (refine r_sq ?_; walk_at "u")
    refine ⟨szl (by simp), fun p hp => ?_⟩
    walk_at "u"
    refine r_isD_intstr upd_same (.int b) ?_
    refine r_bl ?_
    show if true = true then _ else _
    walk_at "u"
    have := q _ (same_new (o := .tup [.ty "int", .ty "str"]) hp)
    rw [← decide_eq_true (show b = b from rfl)] at this
    exact this
  | str b =>
    cases tv; cases tw
    repeat (refine r_sq ?_; walk_at "u")
    refine ⟨szl (by simp), fun p hp => ?_⟩
    walk_at "u"
    refine r_isD_intstr upd_same (.str b) ?_
    refine r_bl ?_
    show if true = true then _ else _
    walk_at "u"
    have := q _ (same_new (o := .tup [.ty "int", .ty "str"]) hp)
    rw [← decide_eq_true (show b = b from rfl)] at this
    exact this
end
section
variable {K : PySem.W.Frag} {vs : List V} {H : Hp} {Q : VK} {E : XK} {n : Nat}
theorem lit_heads {k : Nat} (h : k < 3) : ∃ x : Str, [V.str "int", .str "bool", .str "unit"][k]? = some (.str x) ∧ x ∈ leafs ∧ x ∈ heads := by
  match k, h with
  | 0, _ => exact ⟨_, rfl, by simp, by simp⟩
  | 1, _ => exact ⟨_, rfl, by simp, by simp⟩
  | 2, _ => exact ⟨_, rfl, by simp, by simp⟩
theorem lit_heads4 {k : Nat} (h : k < 4) : ∃ x : Str, [V.str "tuple", .str "fn", .str "ref", .str "array"][k]? = some (.str x) ∧ x ∈ heads := by
  match k, h with
  | 0, _ => exact ⟨_, rfl, by simp⟩
  | 1, _ => exact ⟨_, rfl, by simp⟩
  | 2, _ => exact ⟨_, rfl, by simp⟩
  | 3, _ => exact ⟨_, rfl, by simp⟩
theorem rd_l_value (h : spr_l_value (n + 1) K vs H Q E) : t_l_value K (spr_l_value n) { nx := fun _ H' => Q .non H', rt := Q } (start n_l_value vs) H := by
  obtain ⟨p, l, m, rfl, hm, hD, q⟩ := h
  unfold t_l_value
  walk_at "u"
  refine ⟨p, l, _, rfl, by decide, by decide, hD, fun pk H1 h0 h9 hD1 k1 => ?_⟩
  have f1 : Fr p H H1 := .of k1
  walk_at "u"
  refine r_cut (fun σ' H' => H' = H1 ∧ σ' = [some (.ref p), some (.int m), some (.int pk), none, none] ∧ 3 ≤ pk ∧ 1 ≤ m) ?_ ?_
  · have leaf : tRet (tTup (tCons (tOp (uIx K) (tLst (tCons (tC (.str "int")) (tCons (tC (.str "bool")) (tCons (tC (.str "unit")) tNil)))) (tOp (uMod) (tVar 2) (tC (.int 3)))) (tCons (tTup tNil) (tCons (tC (.int 0)) tNil)))) { nx := fun σ' H' => H' = H1 ∧ σ' = [some (.ref p), some (.int m), some (.int pk), none, none] ∧ 3 ≤ pk ∧ 1 ≤ m, rt := Q } [some (.ref p), some (.int m), some (.int pk), none, none] H1 := by
      walk_at "u"
      refine ⟨szl (by simp), fun a ha => ?_⟩
      walk_at "u"
      obtain ⟨x, hx, x1, x2⟩ := lit_heads (k := (pk % 3).toNat) (by omega)
      refine r_ixL (SqL.of upd_same) (v := .str x) (by rw [show pk % 3 = (((pk % 3).toNat : Nat) : Int) by omega]; exact atI_nat hx) ?_
      walk_at "u"
      refine ⟨szl (by simp), fun b hb => ?_⟩
      walk_at "u"
      have hb' := Same.free (same_new ha) hb
      refine ⟨szl (by simp), fun c hc => ?_⟩
      refine q _ (.tup [.str x, .tup [], .int 0]) _ (.inr ⟨x, [], rfl, x2, by simp, .inl x1, fun _ h => nomatch h⟩) (Td.newT (.cons (.str x) (.cons (Td.newT .nil hb) (.cons (.int 0) .nil))) hc) (((hD1.new ha).new hb).new hc) ?_
      exact f1.trans ((Fr.new ha).trans ((Fr.new hb).trans (Fr.new hc)))
    walk_at "u"
    refine br_d (fun h1 => ?_) (fun h1 => ?_)
    · walk_at "u"
      exact leaf
    · walk_at "u"
      refine br_d (fun h2 => ?_) (fun h2 => ?_)
      · exact leaf
      · walk_at "u"
        exact ⟨rfl, rfl, by omega, by omega⟩
  rintro σ H2 ⟨rfl, rfl, h3, hm1⟩
  refine r_cut (fun σ' H' => H' = H2 ∧ σ' = [some (.ref p), some (.int m), some (.int pk), none, none] ∧ 5 ≤ pk) ?_ ?_
  · walk_at "u"
    refine br_d (fun h1 => ?_) (fun h1 => ?_)
    · walk_at "u"
      refine ⟨p, l, _, rfl, by decide, by decide, hD1, fun i H3 _ _ hD3 k3 => ?_⟩
      walk_at "u"
      refine ⟨szl (by simp), fun a ha => ?_⟩
      exact q _ (.tup [.str "data", .int i, .int 0]) _ (.inl ⟨i, rfl⟩) (Td.newT (.cons (.str _) (.cons (.int i) (.cons (.int 0) .nil))) ha) (hD3.new ha) (f1.trans ((Fr.of k3).trans (Fr.new ha)))
    · walk_at "u"
      exact ⟨rfl, rfl, by omega⟩
  rintro σ H3 ⟨rfl, rfl, h5⟩
  refine r_cut (fun σ' H' => Fr p H3 H' ∧ Dr H' p l ∧ ∃ k : Nat, σ' = [some (.ref p), some (.int m), some (.int pk), some (.int k), none] ∧ 0 < k ∧ k ≤ 6) ?_ ?_
  · walk_at "u"
    intro a ha
    have hD4 := hD1.new (o := .dK []) ha
    show tPairs _ _ _ _
    dsimp only [tPairs]
    walk_at "u"
    refine ⟨p, l, _, rfl, by decide, by decide, hD4, fun i H5 i0 i5 hD5 k5 => ?_⟩
    have ea : H5 a = some (.dK []) := by rw [k5 a (hD1.nep ha)]; exact upd_same
    walk_at "u"
    refine ⟨ea, [(.inl 5, .int (2 + i)), (.inl 6, .int 2), (.inl 7, .int 1), (.inl 8, .int 1)], rfl, by simp, ?_⟩
    have f5 : Fr p H3 H5 := (Fr.new ha).trans (.of k5)
    have hD6 : Dr (upd H5 a (.dK (mergeK [] [(.inl 5, .int (2 + i)), (.inl 6, .int 2), (.inl 7, .int 1), (.inl 8, .int 1)]))) p l := hD5.upd (hD1.nep ha) (hD1.nel ha)
    have f6 : Fr p H3 (upd H5 a (.dK (mergeK [] [(.inl 5, .int (2 + i)), (.inl 6, .int 2), (.inl 7, .int 1), (.inl 8, .int 1)]))) := f5.mut ha
    walk_at "u"
    have get : ∀ k : Int, valV (mergeK [] [(.inl 5, .int (2 + i)), (.inl 6, .int 2), (.inl 7, .int 1), (.inl 8, .int 1)]) (.inl pk) = some (.int k) → 0 < k → k ≤ 6 → 
        ∃ b w, V.ref a = .ref b ∧ DGet (upd H5 a (.dK (mergeK [] [(.inl 5, .int (2 + i)), (.inl 6, .int 2), (.inl 7, .int 1), (.inl 8, .int 1)]))) b (.int pk) (some w) ∧ gName 3 w [some (.ref p), some (.int m), some (.int pk), none, none] (upd H5 a (.dK (mergeK [] [(.inl 5, .int (2 + i)), (.inl 6, .int 2), (.inl 7, .int 1), (.inl 8, .int 1)]))) (fun σ' H' => Fr p H3 H' ∧ Dr H' p l ∧ ∃ k : Nat, σ' = [some (.ref p), some (.int m), some (.int pk), some (.int k), none] ∧ 0 < k ∧ k ≤ 6) := fun k hk a1 a2 => by
      refine ⟨a, .int k, rfl, ?_, ?_⟩
      · rw [← hk]
        exact DGet.k (k := .inl pk) upd_same
      · walk_at "u"
        refine ⟨f6, hD6, k.toNat, ?_, by omega, by omega⟩
        rw [show ((k.toNat : Nat) : Int) = k by omega]
        rfl
    rcases (show pk = 5 ∨ pk = 6 ∨ pk = 7 ∨ pk = 8 by omega) with e | e | e | e
    · subst e; exact get (2 + i) rfl (by omega) (by omega)
    · subst e; exact get 2 rfl (by omega) (by omega)
    · subst e; exact get 1 rfl (by omega) (by omega)
    · subst e; exact get 1 rfl (by omega) (by omega)
  rintro σ H4 ⟨f4, hD4, k, rfl, k0, k6⟩
  walk_at "u"
  refine ⟨szl (by simp), fun a ha => ?_⟩
  walk_at "u"
  obtain ⟨x, hx, x1⟩ := lit_heads4 (k := (pk - 5).toNat) (by omega)
  refine r_ixL (SqL.of upd_same) (v := .str x) (by rw [show pk - 5 = (((pk - 5).toNat : Nat) : Int) by omega]; exact atI_nat hx) ?_
  have hD5 := hD4.new (o := .lst [.str "tuple", .str "fn", .str "ref", .str "array"]) ha
  have f5 : Fr p H3 (upd H4 a (.lst [.str "tuple", .str "fn", .str "ref", .str "array"])) := f4.trans (Fr.new ha)
  generalize upd H4 a (.lst [.str "tuple", .str "fn", .str "ref", .str "array"]) = H5 at hD5 f5
  walk_at "u"
  refine ⟨by omega, by omega, fun A hA => c_range (CD K (fun H => Dr H p l) p A H5 (KD m) ) (CD.start (hD5.new hA) hA) ?_ ?_⟩
  · intro i H6 hi c
    walk_at "u"
    refine ⟨rfl, ?_⟩
    walk_at "u"
    refine ⟨p, l, m - 1, by rw [show ((m : Int) - 1) = ((m - 1 : Nat) : Int) by omega], by omega, c.1, fun v d H7 kd td hD7 f7 => ?_⟩
    rw [show m - 1 + 1 = m by omega] at kd
    exact c.stepL hA (hD5.nep hA) (hD5.nel hA) (by omega) hD7 f7 td kd
  · intro H6 c
    obtain ⟨hD6, f6, ws, ds, e6, t6, l6, g6⟩ := c
    walk_at "u"
    refine r_tupleD (SqL.of e6) t6 fun u H7 s7 t7 => ?_
    walk_at "u"
    refine ⟨szl (by simp), fun b hb => ?_⟩
    have hl : ds.length = k := by rw [l6]; simp
    exact q _ (.tup [.str x, .tup ds, .int 0]) _ (.inr ⟨x, ds, rfl, x1, by omega, .inr (by omega), fun e he => by
      obtain ⟨j, rfl⟩ : ∃ j, m = j + 1 := ⟨m - 1, by omega⟩
      exact g6 e he⟩) (Td.newT (.cons (.str x) (.cons t7 (.cons (.int 0) .nil))) hb) ((hD6.same s7).new hb) (f1.trans (f5.trans (f6.trans ((Fr.same s7).trans (Fr.new hb)))))
end
abbrev others : List D := [.non, .bl true, .int 1, .str "int", .tup [], .str "data", .tup [.str "int", .tup [], .int 0], .int (-1), .str "real", .tup [.tup [.str "int", .tup [], .int 0]]]
theorem others_fit : ∀ d ∈ others, D.fit 3 d = true := by
  have s : ∀ (x : Str) (n : Nat), PyData.strOk x = true → x.length ≤ 60000 → D.fit n (.str x) = true := fun x n h1 h2 => D.fit_str.mpr ⟨h1, h2⟩
  have i0 : D.fit 0 (.str "int") = true := s _ _ (by decide +kernel) (by decide +kernel)
  have i1 : ∀ n, D.fit n (.str "int") = true := fun n => s _ _ (by decide +kernel) (by decide +kernel)
  have t0 : ∀ n, D.fit (n + 1) (.tup []) = true := fun n => D.fit_tup.mpr ⟨by simp, fun _ h => nomatch h⟩
  have k2 : ∀ n, D.fit (n + 2) (.tup [.str "int", .tup [], .int 0]) = true := fun n => D.fit_tup.mpr ⟨by simp, fun e he => by
    simp only [List.mem_cons, List.not_mem_nil, or_false] at he
    rcases he with rfl | rfl | rfl
    · exact i1 _
    · exact t0 _
    · exact D.fit_int⟩
  intro d hd
  simp only [others, List.mem_cons, List.not_mem_nil, or_false] at hd
  rcases hd with rfl | rfl | rfl | rfl | rfl | rfl | rfl | rfl | rfl | rfl
  · exact D.fit_non
  · exact D.fit_bl
  · exact D.fit_int
  · exact i1 _
  · exact t0 _
  · exact s _ _ (by decide +kernel) (by decide +kernel)
  · exact k2 1
  · exact D.fit_int
  · exact s _ _ (by decide +kernel) (by decide +kernel)
  · exact D.fit_tup.mpr ⟨by simp, fun e he => by rw [List.mem_singleton.mp he]; exact k2 0⟩
theorem fit3 {n : Nat} {a b c : D} (h1 : D.fit n a = true) (h2 : D.fit n b = true) (h3 : D.fit n c = true) : D.fit (n + 1) (.tup [a, b, c]) = true :=
  D.fit_tup.mpr ⟨by simp, fun e he => by
    simp only [List.mem_cons, List.not_mem_nil, or_false] at he
    rcases he with rfl | rfl | rfl <;> assumption⟩
theorem mem_cutD {ds : List D} {lo hi : Option Int} {e : D} (h : e ∈ cutD ds lo hi) : e ∈ ds := List.mem_of_mem_drop (List.mem_of_mem_take h)
theorem len_cutD {ds : List D} {lo hi : Option Int} : (cutD ds lo hi).length ≤ ds.length := by
  unfold cutD
  rw [List.length_take, List.length_drop]
  omega
section
variable {K : PySem.W.Frag} {vs : List V} {H : Hp} {Q : VK} {E : XK} {n : Nat}
theorem KD.parts {d : D} (k : KD (n + 1) d) : ∃ h w, d = .tup [.str h, w, .int 0] ∧ D.fit (2 * n + 1) w = true ∧ PyData.strOk h = true ∧ h.length ≤ 60000 ∧ (h ∉ ([("int" : Str), "bool", "unit", "data"]) → ∃ ds, w = .tup ds ∧ 0 < ds.length ∧ ds.length ≤ 6 ∧ ∀ e ∈ ds, KD n e) := by
  rcases k with ⟨i, rfl⟩ | ⟨x, ds, rfl, hx, hl, h0, hs⟩
  · exact ⟨_, _, rfl, D.fit_int, by decide +kernel, by decide +kernel, fun h => absurd (by simp) h⟩
  · refine ⟨_, _, rfl, D.fit_tup.mpr ⟨by omega, fun e he => (hs e he).fit⟩, (heads_ok hx).1, (heads_ok hx).2, fun h => ⟨ds, rfl, ?_, hl, hs⟩⟩
    rcases h0 with h0 | h0
    · refine absurd ?_ h
      simp only [leafs, List.mem_cons, List.not_mem_nil, or_false] at h0 ⊢
      rcases h0 with h0 | h0 | h0
      · exact .inl h0
      · exact .inr (.inl h0)
      · exact .inr (.inr (.inl h0))
    · exact h0
theorem rd_l_spoilt (h : spr_l_spoilt (n + 1) K vs H Q E) : t_l_spoilt K (spr_l_spoilt n) { nx := fun _ H' => Q .non H', rt := Q } (start n_l_spoilt vs) H := by
  obtain ⟨p, l, v, d, rfl, kd, t, hD, q⟩ := h
  obtain ⟨h, w, rfl, fw, hs1, hs2, hw⟩ := kd.parts
  have fh : ∀ m, D.fit m (.str h) = true := fun m => D.fit_str.mpr ⟨hs1, hs2⟩
  unfold t_l_spoilt
  walk_at "u"
  refine r_gT3 t fun x y z tx ty tz => ?_
  cases tx.invS
  cases tz.invI
  refine r_cut (fun σ' H' => Fr p H H' ∧ Dr H' p l ∧ σ' = [some (.ref p), some v, some (.str h), some y, some (.int 0), none, none, none]) ?_ ?_
  · walk_at "u"
    refine ⟨szl (by simp), fun a ha => ?_⟩
    have f1 : Fr p H (upd H a (.tup [.str "int", .str "bool", .str "unit", .str "data"])) := Fr.new ha
    have hD1 : Dr (upd H a (.tup [.str "int", .str "bool", .str "unit", .str "data"])) p l := hD.new ha
    refine r_niS (ss := [("int" : Str), "bool", "unit", "data"]) (SqT.of upd_same) ?_
    generalize upd H a (.tup [.str "int", .str "bool", .str "unit", .str "data"]) = H1 at f1 hD1
    walk_at "u"
    refine br_nd (fun h1 => ?_) (fun h1 => ?_)
    · walk_at "u"
      refine ⟨p, l, _, rfl, by decide, by decide, hD1, fun i H2 _ _ hD2 k2 => ?_⟩
      have f2 := f1.trans (Fr.of k2)
      walk_at "u"
      refine br_d (fun h2 => ?_) (fun h2 => ?_)
      · obtain ⟨ds, rfl, l0, l6, ks⟩ := hw h1
        walk_at "u"
        refine r_lenD (ty.k (hD.tk f2)) ?_
        walk_at "u"
        refine ⟨p, l, _, rfl, by omega, by omega, hD2, fun k H3 k0 k9 hD3 k3 => ?_⟩
        have f3 := f2.trans (Fr.of k3)
        obtain ⟨k, rfl⟩ : ∃ j : Nat, k = (j : Int) := ⟨k.toNat, by omega⟩
        have hk : k < ds.length := by omega
        walk_at "u"
        refine r_slD (ty.k (hD.tk f3)) fun u1 H4 s4 t4 => ?_
        have f4 := f3.trans (Fr.same s4)
        have hD4 := hD3.same s4
        walk_at "u"
        refine r_ixD (ty.k (hD.tk f4)) (List.getElem?_eq_getElem hk) fun u te => ?_
        walk_at "u"
        refine ⟨p, l, u, ds[k], rfl, ks _ (List.getElem_mem hk), te, hD4, fun u2 e H5 fe t5 hD5 f5 => ?_⟩
        have f5' := f4.trans f5
        walk_at "u"
        refine ⟨szl (by simp), fun b hb => ?_⟩
        have f6 := f5'.trans (Fr.new (o := .tup [u2]) hb)
        have hD6 := hD5.new (o := .tup [u2]) hb
        have t6 : Td K (upd H5 b (.tup [u2])) (.ref b) (.tup [e]) := Td.newT (.one t5) hb
        have t4' := (t4.k (hD4.tk f5)).k (Tk.new (o := .tup [u2]) hb)
        generalize upd H5 b (.tup [u2]) = H6 at f6 hD6 t6 t4'
        refine r_catD t4' t6 (szl (by have := len_cutD (ds := ds) (lo := none) (hi := some (k : Int)); simp only [List.length_cons, List.length_nil]; omega)) fun u3 H7 s7 t7 => ?_
        have f7 := f6.trans (Fr.same s7)
        have hD7 := hD6.same s7
        walk_at "u"
        refine r_slD (ty.k (hD.tk f7)) fun u4 H8 s8 t8 => ?_
        have f8 := f7.trans (Fr.same s8)
        have hD8 := hD7.same s8
        have l1 := len_cutD (ds := ds) (lo := none) (hi := some (k : Int))
        have l2 := len_cutD (ds := ds) (lo := some ((k : Int) + 1)) (hi := none)
        refine r_catD (t7.k (Same.tk s8)) t8 (szl (by simp only [List.length_cons, List.length_nil, List.length_append]; omega)) fun u5 H9 s9 t9 => ?_
        have f9 := f8.trans (Fr.same s9)
        have hD9 := hD8.same s9
        walk_at "u"
        refine ⟨szl (by simp), fun c hc => ?_⟩
        refine q _ (.tup [.str h, .tup _, .int 0]) _ (fit3 (fh _) (D.fit_tup.mpr ⟨?_, fun e' he => ?_⟩) D.fit_int) (Td.newT (.cons (.str h) (.cons t9 (.cons (.int 0) .nil))) hc) (hD9.new hc) (f9.trans (Fr.new hc))
        · simp only [List.length_cons, List.length_nil, List.length_append]; omega
        · rcases List.mem_append.mp he with he | he
          · rcases List.mem_append.mp he with he | he
            · exact D.fit_mono _ (by omega) (ks _ (mem_cutD he)).fit
            · rw [List.mem_singleton.mp he]; exact D.fit_mono _ (by omega) fe
          · exact D.fit_mono _ (by omega) (ks _ (mem_cutD he)).fit
      · walk_at "u"
        exact ⟨f2, hD2, rfl⟩
    · walk_at "u"
      exact ⟨f1, hD1, rfl⟩
  rintro σ H1 ⟨f1, hD1, rfl⟩
  walk_at "u"
  refine ⟨szl (by simp), fun a1 n1 => ?_⟩
  obtain ⟨G1, g1, s1, t1⟩ := Td.lay (K := K) n1 .nil
  rw [g1]
  walk_at "u"
  refine ⟨szl (by simp), fun a2 n2 => ?_⟩
  obtain ⟨G2, g2, s2, t2⟩ := Td.lay (K := K) n2 .nil
  rw [g2]
  walk_at "u"
  refine ⟨szl (by simp), fun a3 n3 => ?_⟩
  obtain ⟨G3, g3, s3, t3⟩ := Td.lay (K := K) n3 (.cons (.str _) (.cons t2 (.cons (.int _) .nil)))
  rw [g3]
  walk_at "u"
  refine ⟨szl (by simp), fun a4 n4 => ?_⟩
  obtain ⟨G4, g4, s4, t4⟩ := Td.lay (K := K) n4 .nil
  rw [g4]
  walk_at "u"
  refine ⟨szl (by simp), fun a5 n5 => ?_⟩
  obtain ⟨G5, g5, s5, t5⟩ := Td.lay (K := K) n5 (.cons (.str _) (.cons t4 (.cons (.int _) .nil)))
  rw [g5]
  walk_at "u"
  refine ⟨szl (by simp), fun a6 n6 => ?_⟩
  obtain ⟨G6, g6, s6, t6⟩ := Td.lay (K := K) n6 (.cons t5 .nil)
  rw [g6]
  walk_at "u"
  refine ⟨szl (by simp), fun a7 n7 => ?_⟩
  have td : TdL K G6 [.non, .bl true, .int 1, .str "int", .ref a1, .str "data", .ref a3, .int (-1), .str "real", .ref a6] others :=
    .cons .non (.cons (.bl _) (.cons (.int _) (.cons (.str _) (.cons (t1.k (Same.tk (s2.trans (s3.trans (s4.trans (s5.trans s6)))))) (.cons (.str _) (.cons (t3.k (Same.tk (s4.trans (s5.trans s6)))) (.cons (.int _) (.cons (.str _) (.cons t6 .nil)))))))))
  obtain ⟨G7, g7, s7, e7⟩ := lay_new (o := .lst [.non, .bl true, .int 1, .str "int", .ref a1, .str "data", .ref a3, .int (-1), .str "real", .ref a6]) n7
  rw [g7]
  have sA := s1.trans (s2.trans (s3.trans (s4.trans (s5.trans (s6.trans s7)))))
  have hD7 := hD1.same sA
  have f7 := f1.trans (Fr.same sA)
  have p7 : a7 ≠ p := (hD1.same (s1.trans (s2.trans (s3.trans (s4.trans (s5.trans s6)))))).nep n7
  have td := td.k (Same.tk s7)
  walk_at "u"
  refine ⟨p, l, _, rfl, by decide, by decide, hD7, fun i G8 i0 i9 hD8 k8 => ?_⟩
  have f8 := f7.trans (Fr.of k8)
  have td8 := td.k (hD7.tk (Fr.of k8))
  obtain ⟨i, rfl⟩ : ∃ j : Nat, i = (j : Int) := ⟨i.toNat, by omega⟩
  have hi : i < others.length := by simp only [others, List.length_cons, List.length_nil]; omega
  obtain ⟨o, ho, to⟩ := td8.get (List.getElem?_eq_getElem hi)
  have fo : D.fit (2 * (n + 1) + 1) others[i] = true := by
    exact D.fit_mono _ (by omega) (others_fit _ (List.getElem_mem hi))
  generalize others[i] = O at to fo
  refine r_ixL (SqL.of (by rw [k8 a7 p7]; exact e7)) (atI_nat ho) ?_
  walk_at "u"
  refine ⟨p, l, _, rfl, by decide, by decide, hD8, fun j G9 j0 j9 hD9 k9 => ?_⟩
  have f9 := f8.trans (Fr.of k9)
  have to9 := to.k (hD8.tk (Fr.of k9))
  have ty9 := ty.k (hD.tk f9)
  have fwm : D.fit (2 * (n + 1) + 1) w = true := D.fit_mono _ (by omega) fw
  walk_at "u"
  walk_at "ui"
  refine br_d (fun h1 => ?_) (fun h1 => ?_)
  · walk_at "u"
    refine ⟨szl (by simp), fun b hb => ?_⟩
    exact q _ (.tup [O, w, .int 0]) _ (fit3 fo fwm D.fit_int) (Td.newT (.cons to9 (.cons ty9 (.cons (.int 0) .nil))) hb) (hD9.new hb) (f9.trans (Fr.new hb))
  walk_at "u"
  walk_at "ui"
  refine br_d (fun h2 => ?_) (fun h2 => ?_)
  · walk_at "u"
    refine ⟨szl (by simp), fun b hb => ?_⟩
    exact q _ (.tup [.str h, O, .int 0]) _ (fit3 (fh _) fo D.fit_int) (Td.newT (.cons (.str h) (.cons to9 (.cons (.int 0) .nil))) hb) (hD9.new hb) (f9.trans (Fr.new hb))
  walk_at "u"
  walk_at "ui"
  refine br_d (fun h3 => ?_) (fun h3 => ?_)
  · walk_at "u"
    refine ⟨szl (by simp), fun b hb => ?_⟩
    exact q _ (.tup [.str h, w, O]) _ (fit3 (fh _) fwm fo) (Td.newT (.cons (.str h) (.cons ty9 (.cons to9 .nil))) hb) (hD9.new hb) (f9.trans (Fr.new hb))
  walk_at "u"
  walk_at "ui"
  refine br_d (fun h4 => ?_) (fun h4 => ?_)
  · walk_at "u"
    exact q _ O _ (D.fit_mono _ (by omega) fo) to9 hD9 f9
  walk_at "u"
  refine r_slD (t.k (hD.tk f9)) fun u1 G10 s10 t10 => ?_
  walk_at "u"
  refine ⟨szl (by simp), fun b hb => ?_⟩
  obtain ⟨G11, g11, s11, t11⟩ := Td.lay (K := K) hb (.cons (.int 0) (.cons (.int 0) .nil))
  rw [g11]
  refine r_catD (t10.k (Same.tk s11)) t11 (szl (by have := len_cutD (ds := [.str h, w, .int 0]) (lo := none) (hi := some 2); simp only [List.length_cons, List.length_nil] at this ⊢; omega)) fun u2 G12 s12 t12 => ?_
  refine q _ (.tup [.str h, w, .int 0, .int 0]) _ (D.fit_tup.mpr ⟨by simp, fun e he => ?_⟩) t12 (((hD9.same s10).same s11).same s12) (f9.trans ((Fr.same s10).trans ((Fr.same s11).trans (Fr.same s12))))
  simp only [List.mem_cons, List.not_mem_nil, or_false] at he
  rcases he with rfl | rfl | rfl | rfl
  · exact fh _
  · exact fwm
  · exact D.fit_int
  · exact D.fit_int
end
/-- the value of a tuple of two -/
theorem pairs_of {G : D → Prop} : ∀ {rs : List D}, (∀ r ∈ rs, ∃ nm f, r = .tup [.str nm, f] ∧ G f) → ∃ rows : List (Str × D), rs = rows.map (fun r => D.tup [.str r.1, r.2]) ∧ ∀ r ∈ rows, G r.2
  | [], _ => ⟨[], rfl, fun _ h => nomatch h⟩
  | r :: rs, h => by
    obtain ⟨nm, f, e, g⟩ := h r (List.mem_cons_self ..)
    obtain ⟨rows, e2, g2⟩ := pairs_of (rs := rs) (fun x hx => h x (List.mem_cons_of_mem _ hx))
    refine ⟨(nm, f) :: rows, by rw [e, e2]; rfl, fun x hx => ?_⟩
    rcases List.mem_cons.mp hx with rfl | hx
    · exact g
    · exact g2 x hx
def RowD (d : D) : Prop := ∃ nm rs, d = .tup [.str nm, .tup rs] ∧ rs.length ≤ 10 ∧ ∀ r ∈ rs, ∃ nm f, r = .tup [.str nm, f] ∧ D.fit 6 f = true
def FieldsD (d : D) : Prop := D.fit 6 d = true
section
variable {K : PySem.W.Frag} {vs : List V} {H : Hp} {Q : VK} {E : XK} {n : Nat}
theorem rd_law (h : sp_law K vs H Q E) : t_law K { nx := fun _ H' => Q .non H', rt := Q } (start n_law vs) H := by
  obtain ⟨a, ns, rfl, hs, hlen, q⟩ := h
  unfold t_law
  walk_at "u"
  refine ⟨a, ns, rfl, hs, hlen, fun p l H1 _ _ hD1 => ?_⟩
  walk_at "u"
  refine ⟨p, l, 3, rfl, by decide, hD1, fun v d H2 kd t hD2 f2 => ?_⟩
  walk_at "u"
  refine ⟨p, l, _, rfl, by decide, by decide, hD2, fun c H3 c0 c5 hD3 k3 => ?_⟩
  have t3 := t.k (hD2.tk (Fr.of k3))
  walk_at "u"
  refine r_cut (fun σ' H' => Fr p H3 H' ∧ Dr H' p l ∧ ∃ w e, σ' = [some (.ref a), some (.ref p), some v, some (.int c), some w, none, none, none, none, none, none, none, none] ∧ D.fit 10 e = true ∧ Td K H' w e) ?_ ?_
  · walk_at "u"
    refine ⟨p, l, _, rfl, by decide, by decide, hD3, fun i H4 i0 i3 hD4 k4 => ?_⟩
    walk_at "u"
    have t4 := t3.k (hD3.tk (Fr.of k4))
    refine br_d (fun h1 => ?_) (fun h1 => ?_)
    · walk_at "u"
      refine ⟨p, l, v, d, rfl, kd, t4, hD4, fun w e H5 fe te hD5 f5 => ?_⟩
      walk_at "u"
      exact ⟨(Fr.of k4).trans f5, hD5, w, e, rfl, fe, te⟩
    · walk_at "u"
      exact ⟨Fr.of k4, hD4, v, d, rfl, D.fit_mono _ (by decide) kd.fit, t4⟩
  rintro σ H4 ⟨f4, hD4, w, e, rfl, fe, te⟩
  have t4 := t3.k (hD3.tk f4)
  refine r_cut (fun σ' H' => Dr H' p l ∧ σ' = [some (.ref a), some (.ref p), some v, some (.int c), some w, none, none, none, none, none, none, none, none]) ?_ ?_
  · walk_at "u"
    refine ⟨w, e, c, 11, rfl, te, rfl, by decide, D.fit_mono _ (by decide) fe, fun H5 s5 => ?_⟩
    walk_at "u"
    refine ⟨w, e, c, 11, rfl, te.k (Same.tk s5), rfl, by decide, D.fit_mono _ (by decide) fe, fun H6 s6 => ?_⟩
    walk_at "u"
    refine ⟨_, _, .bl _, 11, rfl, .bl _, .bl _, rfl, by decide, D.fit_bl, fun H7 s7 => ?_⟩
    walk_at "u"
    have s17 := (s5.trans s6).trans s7
    refine ⟨v, d, rfl, t4.k (Same.tk s17), kd, fun H8 s8 => ?_⟩
    walk_at "u"
    refine ⟨v, d, rfl, t4.k (Same.tk (s17.trans s8)), kd, fun H9 s9 => ?_⟩
    walk_at "u"
    refine ⟨_, _, .int _, 11, rfl, .int _, .int _, rfl, by decide, D.fit_int, fun H10 s10 => ?_⟩
    walk_at "u"
    exact ⟨hD4.same (((s17.trans s8).trans s9).trans s10), rfl⟩
  rintro σ H5 ⟨hD5, rfl⟩
  walk_at "u"
  refine ⟨szl (by simp), fun A hA => ?_⟩
  obtain ⟨H6, e6, s6, eA⟩ := lay_new (o := .lst []) hA
  rw [e6]
  have hAp : A ≠ p := hD5.nep hA
  have hAl : A ≠ l := hD5.nel hA
  have hD6 := hD5.same s6
  walk_at "u"
  refine r_cut (fun σ' H' => Dr H' p l ∧ ∃ vs ds y6 y7, H' A = some (.lst vs) ∧ TdL K H' vs ds ∧ 0 < ds.length ∧ ds.length ≤ 10 ∧ (∀ d ∈ ds, RowD d) ∧ σ' = [some (.ref a), some (.ref p), some v, some (.int c), some w, some (.ref A), y6, y7, none, none, none, none, none]) ?_ ?_
  · walk_at "u"
    refine ⟨p, l, _, rfl, by decide, by decide, hD6, fun i H7 i0 i9 hD7 k7 => ?_⟩
    have eA7 : H7 A = some (.lst []) := by rw [k7 A hAp]; exact eA
    walk_at "u"
    refine ⟨by omega, by omega, f_range (fun i σ' H' => Dr H' p l ∧ ∃ vs ds y6 y7, H' A = some (.lst vs) ∧ TdL K H' vs ds ∧ ds.length = i ∧ (∀ d ∈ ds, RowD d) ∧ σ' = [some (.ref a), some (.ref p), some v, some (.int c), some w, some (.ref A), y6, y7, none, none, none, none, none]) ⟨hD7, [], [], none, none, eA7, .nil, rfl, (fun _ h => nomatch h), rfl⟩ ?_ ?_⟩
    · rintro j σ H8 hj ⟨hD8, us, ds, y6, y7, e8, td8, hl8, g8, rfl⟩
      walk_at "u"
      refine ⟨p, l, _, rfl, by decide, by decide, hD8, fun k H9 k0 k9 hD9 kk9 => ?_⟩
      have f9 : Fr p H8 H9 := Fr.of kk9
      walk_at "u"
      refine ⟨by omega, by omega, fun R hR => c_range (CD K (fun H => Dr H p l) p R H9 FieldsD) (CD.start (hD9.new hR) hR) ?_ ?_⟩
      · intro r H10 hr c10
        walk_at "u"
        refine ⟨rfl, ?_⟩
        walk_at "u"
        refine ⟨p, l, _, rfl, by decide, by decide, c10.1, fun m H11 m0 m9 hD11 k11 => ?_⟩
        walk_at "u"
        refine ⟨by omega, by omega, fun R2 hR2 => c_range (CD K (fun H => Dr H p l) p R2 H11 (KD 2)) (CD.start (hD11.new hR2) hR2) ?_ ?_⟩
        · intro r2 H12 hr2 c12
          walk_at "u"
          refine ⟨rfl, ?_⟩
          walk_at "u"
          refine ⟨p, l, 1, rfl, by decide, c12.1, fun v2 d2 H13 kd2 t2 hD13 f13 => ?_⟩
          exact c12.stepL hR2 (hD11.nep hR2) (hD11.nel hR2) (by omega) hD13 f13 t2 kd2
        · rintro H12 ⟨hD12, f12, us2, ds2, e12, t12, l12, g12⟩
          walk_at "u"
          refine r_tupleD (SqL.of e12) t12 fun u2 H13 s13 t13 => ?_
          refine c10.stepL hR (hD9.nep hR) (hD9.nel hR) (by omega) (hD12.same s13) ((Fr.of k11).trans (f12.trans (Fr.same s13))) t13 ?_
          exact D.fit_tup.mpr ⟨by omega, fun x hx => D.fit_mono x (by decide) (g12 x hx).fit⟩
      · rintro H10 ⟨hD10, f10, us2, ds2, e10, t10, l10, g10⟩
        walk_at "u"
        have hRp := hD9.nep hR
        have hRl := hD9.nel hR
        have e10A : H10 A = some (.lst us) := f10 _ _ hAp (f9 _ _ hAp e8)
        have hl10 : us2.length = ds2.length := t10.len
        refine r_tyLst e10A ?_
        walk_at "u"
        have lenC : (Str.ofString "C").length = 1 := by decide +kernel
        have lend : (Str.ofString "d").length = 1 := by decide +kernel
        have lenx : (Str.ofString "x").length = 1 := by decide +kernel
        have hj0 : (0 + (j : Int)).natAbs < 10 ^ 11 := by omega
        have nj := (str_num_len hj0).2
        generalize hjj : (0 + (j : Int)) = J at hj0 nj ⊢
        refine r_strI (log_ok hj0) ?_
        walk_at "u"
        refine ⟨by omega, by omega, fun B hB => c_range (CD K (fun H => Dr H p l) p B H10 (fun d => ∃ nm f, d = .tup [.str nm, f] ∧ D.fit 6 f = true)) (CD.start (hD10.new hB) hB) ?_ ?_⟩
        · intro r H11 hr c11
          have hr : r < ds2.length := by omega
          have e11 : H11 R = some (.lst us2) := c11.2.1 _ _ hRp e10
          have t11 := t10.k (hD10.tk c11.2.1)
          have hr0 : (0 + (r : Int)).natAbs < 10 ^ 11 := by omega
          have nr := (str_num_len hr0).2
          have ehr : 0 + (r : Int) = (r : Int) := by omega
          walk_at "u"
          refine ⟨rfl, ?_⟩
          walk_at "u"
          refine r_strI (log_ok hj0) ?_
          walk_at "u"
          refine r_addS (szl (by rw [str_cat]; omega)) ?_
          walk_at "u"
          refine r_strI (log_ok hr0) ?_
          walk_at "u"
          refine r_addS (szl (by rw [str_cat, str_cat]; omega)) ?_
          walk_at "u"
          rw [ehr]
          obtain ⟨z, hz, tz⟩ := t11.get (List.getElem?_eq_getElem hr)
          refine r_ixL (SqL.of e11) (atI_nat hz) ?_
          walk_at "u"
          refine ⟨szl (by simp), fun C hC => ?_⟩
          exact c11.stepL hB (hD10.nep hB) (hD10.nel hB) (by omega) (c11.1.new hC) (Fr.new hC) (Td.newT (.cons (.str _) (.cons tz .nil)) hC) ⟨_, _, rfl, g10 _ (List.getElem_mem hr)⟩
        · rintro H11 ⟨hD11, f11, us3, ds3, e11, t11, l11, g11⟩
          walk_at "u"
          refine r_tupleD (SqL.of e11) t11 fun u4 H12 s12 t12 => ?_
          walk_at "u"
          refine ⟨szl (by simp), fun C hC => ?_⟩
          obtain ⟨H13, e13, s13, t13⟩ := Td.lay (K := K) hC (.cons (.str _) (.cons t12 .nil))
          rw [e13]
          have f13 : Fr p H8 H13 := f9.trans (f10.trans (f11.trans ((Fr.same s12).trans (Fr.same s13))))
          have eA13 : H13 A = some (.lst us) := f13 _ _ hAp e8
          walk_at "u"
          refine r_append eA13 (szt (by rw [td8.len]; omega)) ?_
          walk_at "u"
          refine ⟨(((hD11.same s12).same s13).upd hAp hAl), us ++ [.ref C], ds ++ [.tup [.str _, .tup ds3]], some (.int J), some (.ref R), upd_same, ((td8.k (hD8.tk f13)).append (.one t13)).k (Tk.lst eA13), by simp [hl8], fun x hx => ?_, rfl⟩
          rcases List.mem_append.mp hx with hx | hx
          · exact g8 x hx
          · rw [List.mem_singleton.mp hx]
            exact ⟨_, _, rfl, by omega, g11⟩
    · rintro σ H8 ⟨hD8, us, ds, y6, y7, e8, td8, hl8, g8, rfl⟩
      walk_at "u"
      exact ⟨hD8, us, ds, y6, y7, e8, td8, by omega, by omega, g8, rfl⟩
  rintro σ H7 ⟨hD7, us, ds, y6, y7, e7, td7, l0, l1, g7, rfl⟩
  walk_at "u"
  have hl7 := td7.len
  refine ⟨p, l, _, rfl, by omega, by omega, hD7, fun i H8 i0 i9 hD8 k8 => ?_⟩
  obtain ⟨i, rfl⟩ : ∃ j : Nat, i = (j : Int) := ⟨i.toNat, by omega⟩
  have hi : i < ds.length := by omega
  have e8 : H8 A = some (.lst us) := by rw [k8 A hAp]; exact e7
  have td8 := td7.k (hD7.tk (Fr.of k8))
  obtain ⟨nm, rs, er, lr, gr⟩ := g7 _ (List.getElem_mem hi)
  obtain ⟨rows, rfl, gw⟩ := pairs_of gr
  rw [List.length_map] at lr
  have ei : ds[i]? = some (.tup [.str nm, .tup (rows.map fun r => .tup [.str r.1, r.2])]) := by rw [List.getElem?_eq_getElem hi, er]
  walk_at "u"
  refine r_tupleD (SqL.of e8) td8 fun u H9 s9 t9 => ?_
  walk_at "u"
  refine ⟨u, ds, i, nm, rows, rfl, t9, ei, by omega, fun b ws H10 s10 e10 t10 => ?_⟩
  walk_at "u"
  walk_at "ui"
  refine r_iL_list e10 ?_
  walk_at "u"
  refine r_tupleD (SqL.of e10) t10 fun u2 H11 s11 t11 => ?_
  have sA := (s9.trans s10).trans s11
  walk_at "u"
  refine it_tup ?_
  walk_at "u"
  obtain ⟨ve, hve, tve⟩ := (td8.k (Same.tk sA)).get ei
  refine r_ixL (SqL.of (sA _ _ e8)) (atI_nat hve) ?_
  walk_at "u"
  refine r_ixD (k := 1) tve rfl fun y ty => ?_
  obtain ⟨b2, xs, rfl, sb, tb⟩ := ty.inv
  refine ⟨b2, rfl, ⟨xs, sb⟩, fun B hB => c_tups (xs := xs) (fun i H' => Same H11 H' ∧ ∃ ws, H' B = some (.lst ws) ∧ TdL K H' ws ((rows.take i).map (·.2))) ⟨same_new hB, [], upd_same, .nil⟩ (fun i H' c => Same.tk c.1 _ _ sb) ?_ ?_⟩
  · rintro i z H12 hz ⟨s12, ws2, ew, tw⟩
    obtain ⟨e, he, te⟩ := tb.getV hz
    obtain ⟨r, hr, rfl⟩ := Option.map_eq_some_iff.mp ((List.getElem?_map ..).symm.trans he)
    walk_at "u"
    refine ⟨rfl, ?_⟩
    walk_at "u"
    refine r_ixD (k := 1) (te.k (Same.tk s12)) rfl fun y ty => ?_
    refine ⟨ws2, ew, szt (by rw [tw.len, List.length_map, List.length_take]; omega), same_mut s12 hB, _, upd_same, ?_⟩
    rw [List.take_add_one, hr, List.map_append]
    exact (tw.append (.one ty)).k (Tk.lst ew)
  · rintro H12 ⟨s12, ws2, ew, tw⟩
    rw [tb.len, List.length_map, List.take_length] at tw
    walk_at "u"
    refine r_tupleD (SqL.of ew) tw fun u3 H13 s13 t13 => ?_
    walk_at "u"
    refine ⟨u2, u3, .tup (rows.map (·.2)), 11, rfl, t11.k (Same.tk (s12.trans s13)), t13, rfl, by decide, D.fit_tup.mpr ⟨by rw [List.length_map]; omega, fun x hx => ?_⟩, fun H14 s14 => q _⟩
    obtain ⟨r, hr, rfl⟩ := List.mem_map.mp hx
    exact D.fit_mono _ (by decide) (gw r hr)
end
section
variable {K : PySem.W.Frag} {vs : List V} {H : Hp} {Q : VK} {E : XK} {n : Nat}
theorem len_is_integer (h : sp_is_integer K vs H Q E) : vs.length = (["value"] : List Str).length := by
  first | (obtain ⟨rfl, _⟩ := h; rfl) | (obtain ⟨_, rfl, _⟩ := h; rfl) | (obtain ⟨_, _, rfl, _⟩ := h; rfl) | (obtain ⟨_, _, _, rfl, _⟩ := h; rfl) | (obtain ⟨_, _, _, _, rfl, _⟩ := h; rfl) | (obtain ⟨_, _, _, _, _, rfl, _⟩ := h; rfl) | (obtain ⟨_, _, _, _, _, _, rfl, _⟩ := h; rfl) | (obtain ⟨_, _, _, _, _, _, _, rfl, _⟩ := h; rfl) | (obtain ⟨_, _, _, _, _, _, _, _, rfl, _⟩ := h; rfl)
theorem len_is_triple (h : sp_is_triple K vs H Q E) : vs.length = (["kind"] : List Str).length := by
  first | (obtain ⟨rfl, _⟩ := h; rfl) | (obtain ⟨_, rfl, _⟩ := h; rfl) | (obtain ⟨_, _, rfl, _⟩ := h; rfl) | (obtain ⟨_, _, _, rfl, _⟩ := h; rfl) | (obtain ⟨_, _, _, _, rfl, _⟩ := h; rfl) | (obtain ⟨_, _, _, _, _, rfl, _⟩ := h; rfl) | (obtain ⟨_, _, _, _, _, _, rfl, _⟩ := h; rfl) | (obtain ⟨_, _, _, _, _, _, _, rfl, _⟩ := h; rfl) | (obtain ⟨_, _, _, _, _, _, _, _, rfl, _⟩ := h; rfl)
theorem len_part_counts (h : sp_part_counts K vs H Q E) : vs.length = (["head"] : List Str).length := by
  first | (obtain ⟨rfl, _⟩ := h; rfl) | (obtain ⟨_, rfl, _⟩ := h; rfl) | (obtain ⟨_, _, rfl, _⟩ := h; rfl) | (obtain ⟨_, _, _, rfl, _⟩ := h; rfl) | (obtain ⟨_, _, _, _, rfl, _⟩ := h; rfl) | (obtain ⟨_, _, _, _, _, rfl, _⟩ := h; rfl) | (obtain ⟨_, _, _, _, _, _, rfl, _⟩ := h; rfl) | (obtain ⟨_, _, _, _, _, _, _, rfl, _⟩ := h; rfl) | (obtain ⟨_, _, _, _, _, _, _, _, rfl, _⟩ := h; rfl)
theorem len_kind_nodes (h : spr_kind_nodes (n + 1) K vs H Q E) : vs.length = (["kind"] : List Str).length := by
  first | (obtain ⟨rfl, _⟩ := h; rfl) | (obtain ⟨_, rfl, _⟩ := h; rfl) | (obtain ⟨_, _, rfl, _⟩ := h; rfl) | (obtain ⟨_, _, _, rfl, _⟩ := h; rfl) | (obtain ⟨_, _, _, _, rfl, _⟩ := h; rfl) | (obtain ⟨_, _, _, _, _, rfl, _⟩ := h; rfl) | (obtain ⟨_, _, _, _, _, _, rfl, _⟩ := h; rfl) | (obtain ⟨_, _, _, _, _, _, _, rfl, _⟩ := h; rfl) | (obtain ⟨_, _, _, _, _, _, _, _, rfl, _⟩ := h; rfl)
theorem len_is_numbered_kind (h : spr_is_numbered_kind (n + 1) K vs H Q E) : vs.length = (["kind", "count"] : List Str).length := by
  first | (obtain ⟨rfl, _⟩ := h; rfl) | (obtain ⟨_, rfl, _⟩ := h; rfl) | (obtain ⟨_, _, rfl, _⟩ := h; rfl) | (obtain ⟨_, _, _, rfl, _⟩ := h; rfl) | (obtain ⟨_, _, _, _, rfl, _⟩ := h; rfl) | (obtain ⟨_, _, _, _, _, rfl, _⟩ := h; rfl) | (obtain ⟨_, _, _, _, _, _, rfl, _⟩ := h; rfl) | (obtain ⟨_, _, _, _, _, _, _, rfl, _⟩ := h; rfl) | (obtain ⟨_, _, _, _, _, _, _, _, rfl, _⟩ := h; rfl)
theorem len_kind_size (h : sp_kind_size K vs H Q E) : vs.length = (["kind"] : List Str).length := by
  first | (obtain ⟨rfl, _⟩ := h; rfl) | (obtain ⟨_, rfl, _⟩ := h; rfl) | (obtain ⟨_, _, rfl, _⟩ := h; rfl) | (obtain ⟨_, _, _, rfl, _⟩ := h; rfl) | (obtain ⟨_, _, _, _, rfl, _⟩ := h; rfl) | (obtain ⟨_, _, _, _, _, rfl, _⟩ := h; rfl) | (obtain ⟨_, _, _, _, _, _, rfl, _⟩ := h; rfl) | (obtain ⟨_, _, _, _, _, _, _, rfl, _⟩ := h; rfl) | (obtain ⟨_, _, _, _, _, _, _, _, rfl, _⟩ := h; rfl)
theorem len_is_kind (h : sp_is_kind K vs H Q E) : vs.length = (["kind", "count"] : List Str).length := by
  first | (obtain ⟨rfl, _⟩ := h; rfl) | (obtain ⟨_, rfl, _⟩ := h; rfl) | (obtain ⟨_, _, rfl, _⟩ := h; rfl) | (obtain ⟨_, _, _, rfl, _⟩ := h; rfl) | (obtain ⟨_, _, _, _, rfl, _⟩ := h; rfl) | (obtain ⟨_, _, _, _, _, rfl, _⟩ := h; rfl) | (obtain ⟨_, _, _, _, _, _, rfl, _⟩ := h; rfl) | (obtain ⟨_, _, _, _, _, _, _, rfl, _⟩ := h; rfl) | (obtain ⟨_, _, _, _, _, _, _, _, rfl, _⟩ := h; rfl)
theorem len_field_kinds (h : sp_field_kinds K vs H Q E) : vs.length = (["datas", "number"] : List Str).length := by
  first | (obtain ⟨rfl, _⟩ := h; rfl) | (obtain ⟨_, rfl, _⟩ := h; rfl) | (obtain ⟨_, _, rfl, _⟩ := h; rfl) | (obtain ⟨_, _, _, rfl, _⟩ := h; rfl) | (obtain ⟨_, _, _, _, rfl, _⟩ := h; rfl) | (obtain ⟨_, _, _, _, _, rfl, _⟩ := h; rfl) | (obtain ⟨_, _, _, _, _, _, rfl, _⟩ := h; rfl) | (obtain ⟨_, _, _, _, _, _, _, rfl, _⟩ := h; rfl) | (obtain ⟨_, _, _, _, _, _, _, _, rfl, _⟩ := h; rfl)
theorem len_l_start (h : sp_l_start K vs H Q E) : vs.length = (["_law_script"] : List Str).length := by
  first | (obtain ⟨rfl, _⟩ := h; rfl) | (obtain ⟨_, rfl, _⟩ := h; rfl) | (obtain ⟨_, _, rfl, _⟩ := h; rfl) | (obtain ⟨_, _, _, rfl, _⟩ := h; rfl) | (obtain ⟨_, _, _, _, rfl, _⟩ := h; rfl) | (obtain ⟨_, _, _, _, _, rfl, _⟩ := h; rfl) | (obtain ⟨_, _, _, _, _, _, rfl, _⟩ := h; rfl) | (obtain ⟨_, _, _, _, _, _, _, rfl, _⟩ := h; rfl) | (obtain ⟨_, _, _, _, _, _, _, _, rfl, _⟩ := h; rfl)
theorem len_l_draw (h : sp_l_draw K vs H Q E) : vs.length = (["_law_state", "_law_many"] : List Str).length := by
  first | (obtain ⟨rfl, _⟩ := h; rfl) | (obtain ⟨_, rfl, _⟩ := h; rfl) | (obtain ⟨_, _, rfl, _⟩ := h; rfl) | (obtain ⟨_, _, _, rfl, _⟩ := h; rfl) | (obtain ⟨_, _, _, _, rfl, _⟩ := h; rfl) | (obtain ⟨_, _, _, _, _, rfl, _⟩ := h; rfl) | (obtain ⟨_, _, _, _, _, _, rfl, _⟩ := h; rfl) | (obtain ⟨_, _, _, _, _, _, _, rfl, _⟩ := h; rfl) | (obtain ⟨_, _, _, _, _, _, _, _, rfl, _⟩ := h; rfl)
theorem len_l_is_integer (h : sp_l_is_integer K vs H Q E) : vs.length = (["_law_actual"] : List Str).length := by
  first | (obtain ⟨rfl, _⟩ := h; rfl) | (obtain ⟨_, rfl, _⟩ := h; rfl) | (obtain ⟨_, _, rfl, _⟩ := h; rfl) | (obtain ⟨_, _, _, rfl, _⟩ := h; rfl) | (obtain ⟨_, _, _, _, rfl, _⟩ := h; rfl) | (obtain ⟨_, _, _, _, _, rfl, _⟩ := h; rfl) | (obtain ⟨_, _, _, _, _, _, rfl, _⟩ := h; rfl) | (obtain ⟨_, _, _, _, _, _, _, rfl, _⟩ := h; rfl) | (obtain ⟨_, _, _, _, _, _, _, _, rfl, _⟩ := h; rfl)
theorem len_l_same (h : spr_l_same (n + 1) K vs H Q E) : vs.length = (["_law_actual", "_law_expected"] : List Str).length := by
  first | (obtain ⟨rfl, _⟩ := h; rfl) | (obtain ⟨_, rfl, _⟩ := h; rfl) | (obtain ⟨_, _, rfl, _⟩ := h; rfl) | (obtain ⟨_, _, _, rfl, _⟩ := h; rfl) | (obtain ⟨_, _, _, _, rfl, _⟩ := h; rfl) | (obtain ⟨_, _, _, _, _, rfl, _⟩ := h; rfl) | (obtain ⟨_, _, _, _, _, _, rfl, _⟩ := h; rfl) | (obtain ⟨_, _, _, _, _, _, _, rfl, _⟩ := h; rfl) | (obtain ⟨_, _, _, _, _, _, _, _, rfl, _⟩ := h; rfl)
theorem len_l_value (h : spr_l_value (n + 1) K vs H Q E) : vs.length = (["_law_state", "_law_deep"] : List Str).length := by
  first | (obtain ⟨rfl, _⟩ := h; rfl) | (obtain ⟨_, rfl, _⟩ := h; rfl) | (obtain ⟨_, _, rfl, _⟩ := h; rfl) | (obtain ⟨_, _, _, rfl, _⟩ := h; rfl) | (obtain ⟨_, _, _, _, rfl, _⟩ := h; rfl) | (obtain ⟨_, _, _, _, _, rfl, _⟩ := h; rfl) | (obtain ⟨_, _, _, _, _, _, rfl, _⟩ := h; rfl) | (obtain ⟨_, _, _, _, _, _, _, rfl, _⟩ := h; rfl) | (obtain ⟨_, _, _, _, _, _, _, _, rfl, _⟩ := h; rfl)
theorem len_l_spoilt (h : spr_l_spoilt (n + 1) K vs H Q E) : vs.length = (["_law_state", "_law_kind"] : List Str).length := by
  first | (obtain ⟨rfl, _⟩ := h; rfl) | (obtain ⟨_, rfl, _⟩ := h; rfl) | (obtain ⟨_, _, rfl, _⟩ := h; rfl) | (obtain ⟨_, _, _, rfl, _⟩ := h; rfl) | (obtain ⟨_, _, _, _, rfl, _⟩ := h; rfl) | (obtain ⟨_, _, _, _, _, rfl, _⟩ := h; rfl) | (obtain ⟨_, _, _, _, _, _, rfl, _⟩ := h; rfl) | (obtain ⟨_, _, _, _, _, _, _, rfl, _⟩ := h; rfl) | (obtain ⟨_, _, _, _, _, _, _, _, rfl, _⟩ := h; rfl)
theorem len_l_good (h : spr_l_good (n + 1) K vs H Q E) : vs.length = (["_law_kind", "_law_count"] : List Str).length := by
  first | (obtain ⟨rfl, _⟩ := h; rfl) | (obtain ⟨_, rfl, _⟩ := h; rfl) | (obtain ⟨_, _, rfl, _⟩ := h; rfl) | (obtain ⟨_, _, _, rfl, _⟩ := h; rfl) | (obtain ⟨_, _, _, _, rfl, _⟩ := h; rfl) | (obtain ⟨_, _, _, _, _, rfl, _⟩ := h; rfl) | (obtain ⟨_, _, _, _, _, _, rfl, _⟩ := h; rfl) | (obtain ⟨_, _, _, _, _, _, _, rfl, _⟩ := h; rfl) | (obtain ⟨_, _, _, _, _, _, _, _, rfl, _⟩ := h; rfl)
theorem len_l_size (h : spr_l_size (n + 1) K vs H Q E) : vs.length = (["_law_kind"] : List Str).length := by
  first | (obtain ⟨rfl, _⟩ := h; rfl) | (obtain ⟨_, rfl, _⟩ := h; rfl) | (obtain ⟨_, _, rfl, _⟩ := h; rfl) | (obtain ⟨_, _, _, rfl, _⟩ := h; rfl) | (obtain ⟨_, _, _, _, rfl, _⟩ := h; rfl) | (obtain ⟨_, _, _, _, _, rfl, _⟩ := h; rfl) | (obtain ⟨_, _, _, _, _, _, rfl, _⟩ := h; rfl) | (obtain ⟨_, _, _, _, _, _, _, rfl, _⟩ := h; rfl) | (obtain ⟨_, _, _, _, _, _, _, _, rfl, _⟩ := h; rfl)
theorem len_law (h : sp_law K vs H Q E) : vs.length = (["_law_script"] : List Str).length := by
  first | (obtain ⟨rfl, _⟩ := h; rfl) | (obtain ⟨_, rfl, _⟩ := h; rfl) | (obtain ⟨_, _, rfl, _⟩ := h; rfl) | (obtain ⟨_, _, _, rfl, _⟩ := h; rfl) | (obtain ⟨_, _, _, _, rfl, _⟩ := h; rfl) | (obtain ⟨_, _, _, _, _, rfl, _⟩ := h; rfl) | (obtain ⟨_, _, _, _, _, _, rfl, _⟩ := h; rfl) | (obtain ⟨_, _, _, _, _, _, _, rfl, _⟩ := h; rfl) | (obtain ⟨_, _, _, _, _, _, _, _, rfl, _⟩ := h; rfl)
end
theorem law_in {K : PySem.W.Frag} {H : Hp} (a : Addr) (ns : List Int) (hl : ns.length ≤ 63) (h : SqL K H a (ns.map V.int)) : sp_law K [.ref a] H (fun v _ => v = .bl true) (fun _ _ _ => False) := ⟨a, ns, rfl, h, hl, fun _ => rfl⟩
def topS (i : Nat) : Stmt := PySem.Challenge.pw_escheat_k09_kinds_as_values.main.body.getD i (.Pass ⟨0, 0, 0, 0⟩)
abbrev s_is_integer : Stmt := topS 1
theorem sc_is_integer : FnScope n_is_integer ["value"] (defScope s_is_integer) := ⟨rfl, rfl, rfl, by decide +kernel, rfl, by decide +kernel, by decide +kernel⟩
abbrev s_is_triple : Stmt := topS 4
theorem sc_is_triple : FnScope n_is_triple ["kind"] (defScope s_is_triple) := ⟨rfl, rfl, rfl, by decide +kernel, rfl, by decide +kernel, by decide +kernel⟩
abbrev s_part_counts : Stmt := topS 5
theorem sc_part_counts : FnScope n_part_counts ["head"] (defScope s_part_counts) := ⟨rfl, rfl, rfl, by decide +kernel, rfl, by decide +kernel, by decide +kernel⟩
abbrev s_kind_nodes : Stmt := topS 6
theorem sc_kind_nodes : FnScope n_kind_nodes ["kind"] (defScope s_kind_nodes) := ⟨rfl, rfl, rfl, by decide +kernel, rfl, by decide +kernel, by decide +kernel⟩
abbrev s_is_numbered_kind : Stmt := topS 7
theorem sc_is_numbered_kind : FnScope n_is_numbered_kind ["kind", "count"] (defScope s_is_numbered_kind) := ⟨rfl, rfl, rfl, by decide +kernel, rfl, by decide +kernel, by decide +kernel⟩
abbrev s_kind_size : Stmt := topS 9
theorem sc_kind_size : FnScope n_kind_size ["kind"] (defScope s_kind_size) := ⟨rfl, rfl, rfl, by decide +kernel, rfl, by decide +kernel, by decide +kernel⟩
abbrev s_is_kind : Stmt := topS 10
theorem sc_is_kind : FnScope n_is_kind ["kind", "count"] (defScope s_is_kind) := ⟨rfl, rfl, rfl, by decide +kernel, rfl, by decide +kernel, by decide +kernel⟩
abbrev s_field_kinds : Stmt := topS 11
theorem sc_field_kinds : FnScope n_field_kinds ["datas", "number"] (defScope s_field_kinds) := ⟨rfl, rfl, rfl, by decide +kernel, rfl, by decide +kernel, by decide +kernel⟩
abbrev s_l_start : Stmt := topS 13
theorem sc_l_start : FnScope n_l_start ["_law_script"] (defScope s_l_start) := ⟨rfl, rfl, rfl, by decide +kernel, rfl, by decide +kernel, by decide +kernel⟩
abbrev s_l_draw : Stmt := topS 14
theorem sc_l_draw : FnScope n_l_draw ["_law_state", "_law_many"] (defScope s_l_draw) := ⟨rfl, rfl, rfl, by decide +kernel, rfl, by decide +kernel, by decide +kernel⟩
abbrev s_l_is_integer : Stmt := topS 15
theorem sc_l_is_integer : FnScope n_l_is_integer ["_law_actual"] (defScope s_l_is_integer) := ⟨rfl, rfl, rfl, by decide +kernel, rfl, by decide +kernel, by decide +kernel⟩
abbrev s_l_same : Stmt := topS 16
theorem sc_l_same : FnScope n_l_same ["_law_actual", "_law_expected"] (defScope s_l_same) := ⟨rfl, rfl, rfl, by decide +kernel, rfl, by decide +kernel, by decide +kernel⟩
abbrev s_l_value : Stmt := topS 17
theorem sc_l_value : FnScope n_l_value ["_law_state", "_law_deep"] (defScope s_l_value) := ⟨rfl, rfl, rfl, by decide +kernel, rfl, by decide +kernel, by decide +kernel⟩
abbrev s_l_spoilt : Stmt := topS 18
theorem sc_l_spoilt : FnScope n_l_spoilt ["_law_state", "_law_kind"] (defScope s_l_spoilt) := ⟨rfl, rfl, rfl, by decide +kernel, rfl, by decide +kernel, by decide +kernel⟩
abbrev s_l_good : Stmt := topS 19
theorem sc_l_good : FnScope n_l_good ["_law_kind", "_law_count"] (defScope s_l_good) := ⟨rfl, rfl, rfl, by decide +kernel, rfl, by decide +kernel, by decide +kernel⟩
abbrev s_l_size : Stmt := topS 20
theorem sc_l_size : FnScope n_l_size ["_law_kind"] (defScope s_l_size) := ⟨rfl, rfl, rfl, by decide +kernel, rfl, by decide +kernel, by decide +kernel⟩
abbrev s_law : Stmt := topS 21
theorem sc_law : FnScope n_law ["_law_script"] (defScope s_law) := ⟨rfl, rfl, rfl, by decide +kernel, rfl, by decide +kernel, by decide +kernel⟩
/-- what the top has left -/
structure Txt (K : PySem.W.Frag) (mg : Str → Option Value) : Prop where
  b_isinstance : mg "isinstance" = none
  b_int : mg "int" = none
  b_bool : mg "bool" = none
  b_tuple : mg "tuple" = none
  b_len : mg "len" = none
  b_str : mg "str" = none
  c_MAX_PARTS : ∃ t, mg "MAX_PARTS" = some (.int 6 t)
  b_sum : mg "sum" = none
  b_all : mg "all" = none
  b_list : mg "list" = none
  b_abs : mg "abs" = none
  b_range : mg "range" = none
  g_is_integer : mg "is_integer" = some (.ref (He.ga K "is_integer"))
  F_is_integer : ∃ fd, FunD K "is_integer" "is_integer" (defArgs s_is_integer) (defBody s_is_integer) (defScope s_is_integer) [] [] (He.ga K "is_integer") fd
  g_is_triple : mg "is_triple" = some (.ref (He.ga K "is_triple"))
  F_is_triple : ∃ fd, FunD K "is_triple" "is_triple" (defArgs s_is_triple) (defBody s_is_triple) (defScope s_is_triple) [] [] (He.ga K "is_triple") fd
  g_part_counts : mg "part_counts" = some (.ref (He.ga K "part_counts"))
  F_part_counts : ∃ fd, FunD K "part_counts" "part_counts" (defArgs s_part_counts) (defBody s_part_counts) (defScope s_part_counts) [] [] (He.ga K "part_counts") fd
  g_kind_nodes : mg "kind_nodes" = some (.ref (He.ga K "kind_nodes"))
  F_kind_nodes : ∃ fd, FunD K "kind_nodes" "kind_nodes" (defArgs s_kind_nodes) (defBody s_kind_nodes) (defScope s_kind_nodes) [] [] (He.ga K "kind_nodes") fd
  g_is_numbered_kind : mg "is_numbered_kind" = some (.ref (He.ga K "is_numbered_kind"))
  F_is_numbered_kind : ∃ fd, FunD K "is_numbered_kind" "is_numbered_kind" (defArgs s_is_numbered_kind) (defBody s_is_numbered_kind) (defScope s_is_numbered_kind) [] [] (He.ga K "is_numbered_kind") fd
  g_kind_size : mg "kind_size" = some (.ref (He.ga K "kind_size"))
  F_kind_size : ∃ fd, FunD K "kind_size" "kind_size" (defArgs s_kind_size) (defBody s_kind_size) (defScope s_kind_size) [] [] (He.ga K "kind_size") fd
  g_is_kind : mg "is_kind" = some (.ref (He.ga K "is_kind"))
  F_is_kind : ∃ fd, FunD K "is_kind" "is_kind" (defArgs s_is_kind) (defBody s_is_kind) (defScope s_is_kind) [] [] (He.ga K "is_kind") fd
  g_field_kinds : mg "field_kinds" = some (.ref (He.ga K "field_kinds"))
  F_field_kinds : ∃ fd, FunD K "field_kinds" "field_kinds" (defArgs s_field_kinds) (defBody s_field_kinds) (defScope s_field_kinds) [] [] (He.ga K "field_kinds") fd
  g_l_start : mg "_law_start" = some (.ref (He.ga K "_law_start"))
  F_l_start : ∃ fd, FunD K "_law_start" "_law_start" (defArgs s_l_start) (defBody s_l_start) (defScope s_l_start) [] [] (He.ga K "_law_start") fd
  g_l_draw : mg "_law_draw" = some (.ref (He.ga K "_law_draw"))
  F_l_draw : ∃ fd, FunD K "_law_draw" "_law_draw" (defArgs s_l_draw) (defBody s_l_draw) (defScope s_l_draw) [] [] (He.ga K "_law_draw") fd
  g_l_is_integer : mg "_law_is_integer" = some (.ref (He.ga K "_law_is_integer"))
  F_l_is_integer : ∃ fd, FunD K "_law_is_integer" "_law_is_integer" (defArgs s_l_is_integer) (defBody s_l_is_integer) (defScope s_l_is_integer) [] [] (He.ga K "_law_is_integer") fd
  g_l_same : mg "_law_same" = some (.ref (He.ga K "_law_same"))
  F_l_same : ∃ fd, FunD K "_law_same" "_law_same" (defArgs s_l_same) (defBody s_l_same) (defScope s_l_same) [] [] (He.ga K "_law_same") fd
  g_l_value : mg "_law_value" = some (.ref (He.ga K "_law_value"))
  F_l_value : ∃ fd, FunD K "_law_value" "_law_value" (defArgs s_l_value) (defBody s_l_value) (defScope s_l_value) [] [] (He.ga K "_law_value") fd
  g_l_spoilt : mg "_law_spoilt" = some (.ref (He.ga K "_law_spoilt"))
  F_l_spoilt : ∃ fd, FunD K "_law_spoilt" "_law_spoilt" (defArgs s_l_spoilt) (defBody s_l_spoilt) (defScope s_l_spoilt) [] [] (He.ga K "_law_spoilt") fd
  g_l_good : mg "_law_good" = some (.ref (He.ga K "_law_good"))
  F_l_good : ∃ fd, FunD K "_law_good" "_law_good" (defArgs s_l_good) (defBody s_l_good) (defScope s_l_good) [] [] (He.ga K "_law_good") fd
  g_l_size : mg "_law_size" = some (.ref (He.ga K "_law_size"))
  F_l_size : ∃ fd, FunD K "_law_size" "_law_size" (defArgs s_l_size) (defBody s_l_size) (defScope s_l_size) [] [] (He.ga K "_law_size") fd
  g_law : mg "law" = some (.ref (He.ga K "law"))
  F_law : ∃ fd, FunD K "law" "law" (defArgs s_law) (defBody s_law) (defScope s_law) [] [] (He.ga K "law") fd
section
variable {P : Program} {w : World} {K : PySem.W.Frag} {mg : Str → Option Value} {base : Heap}
theorem ok_is_integer (T : Txt K mg)  : OkF P w K mg base 1 "is_integer" ["value"] (sp_is_integer K) := by
  obtain ⟨fd, F⟩ := T.F_is_integer
  refine ⟨_, fd, T.g_is_integer, F.ok sc_is_integer (fun vs H Q E h => len_is_integer h) (fun cdv A outer s H vs Q E hr h => ⟨t_is_integer K, PSs.nox ?_, rd_is_integer h⟩), FunD.bindsN F fun _ _ _ _ _ _ us hl => match us, hl with | [_], _ => rfl, F.kp⟩
  exact (pss_one (ps_ret (pe_and (pe_callB c_isi (by rfl) T.b_isinstance (by decide +kernel) (pa_cons (pv 0) (pa_cons (pe_ty rfl T.b_int (by decide +kernel)) pa_nil))) (pe_one (pe_not (pe_callB c_isi (by rfl) T.b_isinstance (by decide +kernel) (pa_cons (pv 0) (pa_cons (pe_ty rfl T.b_bool (by decide +kernel)) pa_nil))))))))
theorem ok_is_triple (T : Txt K mg) (O_is_integer : OkF P w K mg base 1 "is_integer" ["value"] (sp_is_integer K)) : OkF P w K mg base 2 "is_triple" ["kind"] (sp_is_triple K) := by
  obtain ⟨fd, F⟩ := T.F_is_triple
  refine ⟨_, fd, T.g_is_triple, F.ok sc_is_triple (fun vs H Q E h => len_is_triple h) (fun cdv A outer s H vs Q E hr h => ⟨t_is_triple K, PSs.nox ?_, rd_is_triple h⟩), FunD.bindsN F fun _ _ _ _ _ _ us hl => match us, hl with | [_], _ => rfl, F.kp⟩
  exact (pss_c (ps_if (PW.pt (pw_or (pt_not (pt_tru (pe_callB c_isi (by rfl) T.b_isinstance (by decide +kernel) (pa_cons (pv 0) (pa_cons (pe_ty rfl T.b_tuple (by decide +kernel)) pa_nil))))) (pw_or1 (pt_cmpR (o_ne hr.units) (pe_callB c_len (by rfl) T.b_len (by decide +kernel) (pa_cons (pv 0) pa_nil)) pe_int (nomark _))))) (pss_one (ps_ret pe_bl)) pss_nil)
    (pss_one (ps_ret (pe_and (pe_callB c_isi (by rfl) T.b_isinstance (by decide +kernel) (pa_cons (pe_ix i_x (pv 0) pe_int (fun _ _ => rfl)) (pa_cons (pe_ty rfl T.b_str (by decide +kernel)) pa_nil))) (pe_and (pe_fn O_is_integer (hr.mono (by omega)) rfl (pa_cons (pe_ix i_x (pv 0) pe_int (fun _ _ => rfl)) pa_nil)) (pe_one (pe_cmpR (o_eq hr.units) (pe_ix i_x (pv 0) pe_int (fun _ _ => rfl)) pe_int (nomark _))))))))
theorem ok_part_counts (T : Txt K mg)  : OkF P w K mg base 1 "part_counts" ["head"] (sp_part_counts K) := by
  obtain ⟨fd, F⟩ := T.F_part_counts
  refine ⟨_, fd, T.g_part_counts, F.ok sc_part_counts (fun vs H Q E h => len_part_counts h) (fun cdv A outer s H vs Q E hr h => ⟨t_part_counts K, PSs.nox ?_, rd_part_counts h⟩), FunD.bindsN F fun _ _ _ _ _ _ us hl => match us, hl with | [_], _ => rfl, F.kp⟩
  exact (pss_c (ps_if (pt_cmpR (o_eq hr.units) (pv 0) pe_str (nomark _)) (pss_one (ps_ret (pe_tup (pa_cons pe_int (pa_cons (pe_gint rfl T.c_MAX_PARTS) pa_nil))))) pss_nil)
    (pss_c (ps_if (pt_cmpR (o_eq hr.units) (pv 0) pe_str (nomark _)) (pss_one (ps_ret (pe_tup (pa_cons pe_int (pa_cons pe_int pa_nil))))) pss_nil)
    (pss_c (ps_if (pt_cmpR o_in (pv 0) (pe_tup (pa_cons pe_str (pa_cons pe_str pa_nil))) (by rfl)) (pss_one (ps_ret (pe_tup (pa_cons pe_int (pa_cons pe_int pa_nil))))) pss_nil)
    (pss_one (ps_ret pe_non)))))
theorem okr_kind_nodes (T : Txt K mg)  : ∀ n, OkF P w K mg base (1 + n) "kind_nodes" ["kind"] (spr_kind_nodes n K) := by
  intro n
  obtain ⟨fd, F⟩ := T.F_kind_nodes
  induction n with
  | zero => exact ⟨_, fd, T.g_kind_nodes, (F.ok (k := 0) sc_kind_nodes (fun vs H Q E h => (no_kind_nodes h).elim) (fun cdv A outer s H vs Q E hr h => (no_kind_nodes h).elim)), FunD.bindsN F fun _ _ _ _ _ _ us hl => match us, hl with | [_], _ => rfl, F.kp⟩
  | succ n O_kind_nodes =>
    refine ⟨_, fd, T.g_kind_nodes, F.ok (k := 1 + n) sc_kind_nodes (fun vs H Q E h => len_kind_nodes h) (fun cdv A outer s H vs Q E hr h => ⟨t_kind_nodes K (spr_kind_nodes n), PSs.nox ?_, rd_kind_nodes h⟩), FunD.bindsN F fun _ _ _ _ _ _ us hl => match us, hl with | [_], _ => rfl, F.kp⟩
    exact (pss_c (ps_if (pt_cmpR (o_eq hr.units) (pe_ix i_x (pv 0) pe_int (fun _ _ => rfl)) pe_str (nomark _)) (pss_one (ps_ret pe_int)) pss_nil)
    (pss_one (ps_ret (pe_op o_add pe_int (pe_callB (c_sum rfl) (by rfl) T.b_sum (by decide +kernel) (pa_cons (pe_lc (own := [("part", 1)]) (g := (gName 1)) (tt := tYes) rfl sc_kind_nodes.nd (pi_any (pe_ix i_x (pv 0) pe_int (fun _ _ => rfl))) (blkOk_by (own := [("part", 1)]) (N := n_kind_nodes) (sc := defScope s_kind_nodes) (by first | decide +kernel | rfl)) (fun _ _ _ _ _ => pg_name (i := 1) sc_kind_nodes.nd rfl (Or.inl rfl)) (fun _ _ _ _ _ => pts_nil) (fun _ _ _ _ _ => (pe_fn O_kind_nodes (hr.mono (by omega)) rfl (pa_cons (pv 1) pa_nil)))) pa_nil))))))
theorem ok_kind_nodes (T : Txt K mg)  : OkF P w K mg base 5 "kind_nodes" ["kind"] (sp_kind_nodes K) := okr_kind_nodes T  4
theorem okr_is_numbered_kind (T : Txt K mg) (O_is_triple : OkF P w K mg base 2 "is_triple" ["kind"] (sp_is_triple K)) (O_is_integer : OkF P w K mg base 1 "is_integer" ["value"] (sp_is_integer K)) (O_part_counts : OkF P w K mg base 1 "part_counts" ["head"] (sp_part_counts K)) : ∀ n, OkF P w K mg base (3 + n) "is_numbered_kind" ["kind", "count"] (spr_is_numbered_kind n K) := by
  intro n
  obtain ⟨fd, F⟩ := T.F_is_numbered_kind
  induction n with
  | zero => exact ⟨_, fd, T.g_is_numbered_kind, (F.ok (k := 2) sc_is_numbered_kind (fun vs H Q E h => (no_is_numbered_kind h).elim) (fun cdv A outer s H vs Q E hr h => (no_is_numbered_kind h).elim)), FunD.bindsN F fun _ _ _ _ _ _ us hl => match us, hl with | [_, _], _ => rfl, F.kp⟩
  | succ n O_is_numbered_kind =>
    refine ⟨_, fd, T.g_is_numbered_kind, F.ok (k := 3 + n) sc_is_numbered_kind (fun vs H Q E h => len_is_numbered_kind h) (fun cdv A outer s H vs Q E hr h => ⟨t_is_numbered_kind K (spr_is_numbered_kind n), PSs.nox ?_, rd_is_numbered_kind h⟩), FunD.bindsN F fun _ _ _ _ _ _ us hl => match us, hl with | [_, _], _ => rfl, F.kp⟩
    exact (pss_c (ps_if (pt_not (pt_tru (pe_fn O_is_triple (hr.mono (by omega)) rfl (pa_cons (pv 0) pa_nil)))) (pss_one (ps_ret pe_bl)) pss_nil)
    (pss_c (ps_asg (pv 0) (pg_tup rfl (pgs_cons (pg_name (i := 2) sc_is_numbered_kind.nd rfl (Or.inl rfl)) (pgs_cons (pg_name (i := 3) sc_is_numbered_kind.nd rfl (Or.inl rfl)) (pgs_cons (pg_name (i := 4) sc_is_numbered_kind.nd rfl (Or.inl rfl)) pgs_nil)))))
    (pss_c (ps_if (pt_cmpR o_in (pv 2) (pe_tup (pa_cons pe_str (pa_cons pe_str (pa_cons pe_str pa_nil)))) (by rfl)) (pss_one (ps_ret (pe_cmpR (o_eq hr.units) (pv 3) (pe_tup pa_nil) (nomark _)))) pss_nil)
    (pss_c (ps_if (pt_cmpR (o_eq hr.units) (pv 2) pe_str (nomark _)) (pss_one (ps_ret (pe_and (pe_fn O_is_integer (hr.mono (by omega)) rfl (pa_cons (pv 3) pa_nil)) (pe_one (pe_chain o_le o_lt pe_int (pv 3) (pv 1)))))) pss_nil)
    (pss_c (ps_if (PW.pt (pw_or (pt_cmpR o_is (pe_fn O_part_counts (hr.mono (by omega)) rfl (pa_cons (pv 2) pa_nil)) pe_non (nomark _)) (pw_or1 (pt_not (pt_tru (pe_callB c_isi (by rfl) T.b_isinstance (by decide +kernel) (pa_cons (pv 3) (pa_cons (pe_ty rfl T.b_tuple (by decide +kernel)) pa_nil)))))))) (pss_one (ps_ret pe_bl)) pss_nil)
    (pss_c (ps_if (PW.pt (pw_or (PW.pt (pw_and (pt_cmpR (o_eq hr.units) (pv 2) pe_str (nomark _)) (pw_and1 (pt_cmpR o_lt (pe_callB c_len (by rfl) T.b_len (by decide +kernel) (pa_cons (pv 3) pa_nil)) pe_int (nomark _))))) (pw_or1 (PW.pt (pw_and (pt_cmpR (o_ne hr.units) (pv 2) pe_str (nomark _)) (pw_and1 (pt_cmpR (o_ne hr.units) (pe_callB c_len (by rfl) T.b_len (by decide +kernel) (pa_cons (pv 3) pa_nil)) (pe_ix i_x (pe_fn O_part_counts (hr.mono (by omega)) rfl (pa_cons (pv 2) pa_nil)) pe_int (fun _ _ => rfl)) (nomark _)))))))) (pss_one (ps_ret pe_bl)) pss_nil)
    (pss_one (ps_ret (pe_callB (c_all rfl) (by rfl) T.b_all (by decide +kernel) (pa_cons (pe_lc (own := [("part", 5)]) (g := (gName 5)) (tt := tYes) rfl sc_is_numbered_kind.nd (pi_any (pv 3)) (blkOk_by (own := [("part", 5)]) (N := n_is_numbered_kind) (sc := defScope s_is_numbered_kind) (by first | decide +kernel | rfl)) (fun _ _ _ _ _ => pg_name (i := 5) sc_is_numbered_kind.nd rfl (Or.inl rfl)) (fun _ _ _ _ _ => pts_nil) (fun _ _ _ _ _ => (pe_fn O_is_numbered_kind (hr.mono (by omega)) rfl (pa_cons (pv 5) (pa_cons (pv 1) pa_nil))))) pa_nil))))))))))
theorem ok_is_numbered_kind (T : Txt K mg) (O_is_triple : OkF P w K mg base 2 "is_triple" ["kind"] (sp_is_triple K)) (O_is_integer : OkF P w K mg base 1 "is_integer" ["value"] (sp_is_integer K)) (O_part_counts : OkF P w K mg base 1 "part_counts" ["head"] (sp_part_counts K)) : OkF P w K mg base 15 "is_numbered_kind" ["kind", "count"] (sp_is_numbered_kind K) := okr_is_numbered_kind T O_is_triple O_is_integer O_part_counts 12
theorem ok_kind_size (T : Txt K mg) (O_kind_nodes : OkF P w K mg base 5 "kind_nodes" ["kind"] (sp_kind_nodes K)) : OkF P w K mg base 7 "kind_size" ["kind"] (sp_kind_size K) := by
  obtain ⟨fd, F⟩ := T.F_kind_size
  refine ⟨_, fd, T.g_kind_size, F.ok sc_kind_size (fun vs H Q E h => len_kind_size h) (fun cdv A outer s H vs Q E hr h => ⟨t_kind_size K, PSs.nox ?_, rd_kind_size h⟩), FunD.bindsN F fun _ _ _ _ _ _ us hl => match us, hl with | [_], _ => rfl, F.kp⟩
  exact (pss_one (ps_ret (pe_fn O_kind_nodes (hr.mono (by omega)) rfl (pa_cons (pv 0) pa_nil))))
theorem ok_is_kind (T : Txt K mg) (O_is_numbered_kind : OkF P w K mg base 15 "is_numbered_kind" ["kind", "count"] (sp_is_numbered_kind K)) : OkF P w K mg base 17 "is_kind" ["kind", "count"] (sp_is_kind K) := by
  obtain ⟨fd, F⟩ := T.F_is_kind
  refine ⟨_, fd, T.g_is_kind, F.ok sc_is_kind (fun vs H Q E h => len_is_kind h) (fun cdv A outer s H vs Q E hr h => ⟨t_is_kind K, PSs.nox ?_, rd_is_kind h⟩), FunD.bindsN F fun _ _ _ _ _ _ us hl => match us, hl with | [_, _], _ => rfl, F.kp⟩
  exact (pss_one (ps_ret (pe_fn O_is_numbered_kind (hr.mono (by omega)) rfl (pa_cons (pv 0) (pa_cons (pv 1) pa_nil)))))
theorem ok_field_kinds (T : Txt K mg)  : OkF P w K mg base 1 "field_kinds" ["datas", "number"] (sp_field_kinds K) := by
  obtain ⟨fd, F⟩ := T.F_field_kinds
  refine ⟨_, fd, T.g_field_kinds, F.ok sc_field_kinds (fun vs H Q E h => len_field_kinds h) (fun cdv A outer s H vs Q E hr h => ⟨t_field_kinds K, PSs.nox ?_, rd_field_kinds h⟩), FunD.bindsN F fun _ _ _ _ _ _ us hl => match us, hl with | [_, _], _ => rfl, F.kp⟩
  exact (pss_one (ps_ret (pe_lc (own := [("name", 2), ("fields", 3)]) (g := (gTup K 2 (gCons (gName 2) (gCons (gName 3) gNil)))) (tt := tYes) rfl sc_field_kinds.nd (pi_any (pe_ix i_x (pe_ix i_x (pv 0) (pv 1) (fun _ _ => rfl)) pe_int (fun _ _ => rfl))) (blkOk_by (own := [("name", 2), ("fields", 3)]) (N := n_field_kinds) (sc := defScope s_field_kinds) (by first | decide +kernel | rfl)) (fun _ _ _ _ _ => (pg_tup rfl (pgs_cons (pg_name (i := 2) sc_field_kinds.nd rfl (Or.inl rfl)) (pgs_cons (pg_name (i := 3) sc_field_kinds.nd rfl (Or.inl rfl)) pgs_nil)))) (fun _ _ _ _ _ => pts_nil) (fun _ _ _ _ _ => (pv 3)))))
theorem ok_l_start (T : Txt K mg)  : OkF P w K mg base 1 "_law_start" ["_law_script"] (sp_l_start K) := by
  obtain ⟨fd, F⟩ := T.F_l_start
  refine ⟨_, fd, T.g_l_start, F.ok sc_l_start (fun vs H Q E h => len_l_start h) (fun cdv A outer s H vs Q E hr h => ⟨t_l_start K, PSs.nox ?_, rd_l_start h⟩), FunD.bindsN F fun _ _ _ _ _ _ us hl => match us, hl with | [_], _ => rfl, F.kp⟩
  exact (pss_c (ps_set (i := 1) sc_l_start.nd rfl (Or.inl rfl) pe_int)
    (pss_c (ps_for PassesOwn.never rfl (pi_any (pv 0)) (pg_name (i := 2) sc_l_start.nd rfl (Or.inl rfl)) (pss_one (ps_set (i := 1) sc_l_start.nd rfl (Or.inl rfl) (pe_op o_add (pe_op o_mod (pe_callTy c_int (by rfl) T.b_int (by decide +kernel) (pa_cons (pe_op o_add (pe_op o_mul (pv 1) pe_int) (pv 2)) pa_nil)) pe_int) pe_int))))
    (pss_one (ps_ret (pe_lst (pa_cons (pe_callTy c_list (by rfl) T.b_list (by decide +kernel) (pa_cons (pv 0) pa_nil)) (pa_cons pe_int (pa_cons pe_int (pa_cons (pv 1) pa_nil)))))))))
theorem ok_l_draw (T : Txt K mg)  : OkF P w K mg base 1 "_law_draw" ["_law_state", "_law_many"] (sp_l_draw K) := by
  obtain ⟨fd, F⟩ := T.F_l_draw
  refine ⟨_, fd, T.g_l_draw, F.ok sc_l_draw (fun vs H Q E h => len_l_draw h) (fun cdv A outer s H vs Q E hr h => ⟨t_l_draw K, PSs.nox ?_, rd_l_draw h⟩), FunD.bindsN F fun _ _ _ _ _ _ us hl => match us, hl with | [_, _], _ => rfl, F.kp⟩
  exact (pss_c (ps_if (PW.pt (pw_and (pt_cmpR (o_eq hr.units) (pe_ix i_x (pv 0) pe_int (fun _ _ => rfl)) pe_int (nomark _)) (pw_and1 (pt_cmpR o_ge (pe_ix i_x (pv 0) pe_int (fun _ _ => rfl)) (pe_callB c_len (by rfl) T.b_len (by decide +kernel) (pa_cons (pe_ix i_x (pv 0) pe_int (fun _ _ => rfl)) pa_nil)) (nomark _))))) (pss_c (ps_asg (pe_op o_mod (pe_callTy c_int (by rfl) T.b_int (by decide +kernel) (pa_cons (pe_op o_add (pe_op o_mul (pe_ix i_x (pv 0) pe_int (fun _ _ => rfl)) pe_int) pe_int) pa_nil)) pe_int) (pg_sub (pv 0) pe_int p_list))
    (pss_one (ps_ret (pe_op o_mod (pe_callTy c_int (by rfl) T.b_int (by decide +kernel) (pa_cons (pe_op o_fdiv (pe_ix i_x (pv 0) pe_int (fun _ _ => rfl)) pe_int) pa_nil)) (pv 1))))) pss_nil)
    (pss_c (ps_if (pt_cmpR (o_eq hr.units) (pe_ix i_x (pv 0) pe_int (fun _ _ => rfl)) pe_int (nomark _)) (pss_c (ps_asg (pe_callB c_abs (by rfl) T.b_abs (by decide +kernel) (pa_cons (pe_ix i_x (pe_ix i_x (pv 0) pe_int (fun _ _ => rfl)) (pe_ix i_x (pv 0) pe_int (fun _ _ => rfl)) (fun _ _ => rfl)) pa_nil)) (pg_sub (pv 0) pe_int p_list))
    (pss_one (ps_augS (pv 0) pe_int g_list pe_int a_add p_list))) pss_nil)
    (pss_c (ps_set (i := 2) sc_l_draw.nd rfl (Or.inl rfl) (pe_op o_mod (pe_callTy c_int (by rfl) T.b_int (by decide +kernel) (pa_cons (pe_ix i_x (pv 0) pe_int (fun _ _ => rfl)) pa_nil)) (pv 1)))
    (pss_c (ps_asg (pe_op o_fdiv (pe_ix i_x (pv 0) pe_int (fun _ _ => rfl)) (pv 1)) (pg_sub (pv 0) pe_int p_list))
    (pss_one (ps_ret (pv 2)))))))
theorem ok_l_is_integer (T : Txt K mg)  : OkF P w K mg base 1 "_law_is_integer" ["_law_actual"] (sp_l_is_integer K) := by
  obtain ⟨fd, F⟩ := T.F_l_is_integer
  refine ⟨_, fd, T.g_l_is_integer, F.ok sc_l_is_integer (fun vs H Q E h => len_l_is_integer h) (fun cdv A outer s H vs Q E hr h => ⟨t_l_is_integer K, PSs.nox ?_, rd_l_is_integer h⟩), FunD.bindsN F fun _ _ _ _ _ _ us hl => match us, hl with | [_], _ => rfl, F.kp⟩
  exact (pss_one (ps_ret (pe_and (pe_callB c_isi (by rfl) T.b_isinstance (by decide +kernel) (pa_cons (pv 0) (pa_cons (pe_ty rfl T.b_int (by decide +kernel)) pa_nil))) (pe_one (pe_not (pe_callB c_isi (by rfl) T.b_isinstance (by decide +kernel) (pa_cons (pv 0) (pa_cons (pe_ty rfl T.b_bool (by decide +kernel)) pa_nil))))))))
theorem okr_l_same (T : Txt K mg)  : ∀ n, OkF P w K mg base (1 + n) "_law_same" ["_law_actual", "_law_expected"] (spr_l_same n K) := by
  intro n
  obtain ⟨fd, F⟩ := T.F_l_same
  induction n with
  | zero => exact ⟨_, fd, T.g_l_same, (F.ok (k := 0) sc_l_same (fun vs H Q E h => (no_l_same h).elim) (fun cdv A outer s H vs Q E hr h => (no_l_same h).elim)), FunD.bindsN F fun _ _ _ _ _ _ us hl => match us, hl with | [_, _], _ => rfl, F.kp⟩
  | succ n O_l_same =>
    refine ⟨_, fd, T.g_l_same, F.ok (k := 1 + n) sc_l_same (fun vs H Q E h => len_l_same h) (fun cdv A outer s H vs Q E hr h => ⟨t_l_same K (spr_l_same n), PSs.nox ?_, rd_l_same h⟩), FunD.bindsN F fun _ _ _ _ _ _ us hl => match us, hl with | [_, _], _ => rfl, F.kp⟩
    exact (pss_c (ps_if (pt_tru (pe_callB c_isi (by rfl) T.b_isinstance (by decide +kernel) (pa_cons (pv 1) (pa_cons (pe_ty rfl T.b_tuple (by decide +kernel)) pa_nil)))) (pss_c (ps_if (PW.pt (pw_or (pt_not (pt_tru (pe_callB c_isi (by rfl) T.b_isinstance (by decide +kernel) (pa_cons (pv 0) (pa_cons (pe_ty rfl T.b_tuple (by decide +kernel)) pa_nil))))) (pw_or1 (pt_cmpR (o_ne hr.units) (pe_callB c_len (by rfl) T.b_len (by decide +kernel) (pa_cons (pv 0) pa_nil)) (pe_callB c_len (by rfl) T.b_len (by decide +kernel) (pa_cons (pv 1) pa_nil)) (nomark _))))) (pss_one (ps_ret pe_bl)) pss_nil)
    (pss_c (ps_for PassesOwn.never rfl (pi_range1 rfl T.b_range (pa_cons (pe_callB c_len (by rfl) T.b_len (by decide +kernel) (pa_cons (pv 1) pa_nil)) pa_nil)) (pg_name (i := 2) sc_l_same.nd rfl (Or.inl rfl)) (pss_one (ps_if (pt_not (pt_tru (pe_fn O_l_same (hr.mono (by omega)) rfl (pa_cons (pe_ix i_x (pv 0) (pv 2) (fun _ _ => rfl)) (pa_cons (pe_ix i_x (pv 1) (pv 2) (fun _ _ => rfl)) pa_nil))))) (pss_one (ps_ret pe_bl)) pss_nil)))
    (pss_one (ps_ret pe_bl)))) pss_nil)
    (pss_c (ps_if (PW.pt (pw_or (pt_tru (pe_callB c_isi (by rfl) T.b_isinstance (by decide +kernel) (pa_cons (pv 1) (pa_cons (pe_ty rfl T.b_bool (by decide +kernel)) pa_nil)))) (pw_or1 (pt_tru (pe_callB c_isi (by rfl) T.b_isinstance (by decide +kernel) (pa_cons (pv 0) (pa_cons (pe_ty rfl T.b_bool (by decide +kernel)) pa_nil))))))) (pss_one (ps_ret (pe_and (pe_callB c_isi (by rfl) T.b_isinstance (by decide +kernel) (pa_cons (pv 1) (pa_cons (pe_ty rfl T.b_bool (by decide +kernel)) pa_nil))) (pe_and (pe_callB c_isi (by rfl) T.b_isinstance (by decide +kernel) (pa_cons (pv 0) (pa_cons (pe_ty rfl T.b_bool (by decide +kernel)) pa_nil))) (pe_one (pe_cmpR (o_eq hr.units) (pv 0) (pv 1) (nomark _))))))) pss_nil)
    (pss_c (ps_if (PW.pt (pw_or (pt_cmpR o_is (pv 1) pe_non (nomark _)) (pw_or1 (pt_cmpR o_is (pv 0) pe_non (nomark _))))) (pss_one (ps_ret (pe_and (pe_cmpR o_is (pv 1) pe_non (nomark _)) (pe_one (pe_cmpR o_is (pv 0) pe_non (nomark _)))))) pss_nil)
    (pss_c (ps_if (pt_cmpR (o_ne hr.units) (pe_callB c_isi (by rfl) T.b_isinstance (by decide +kernel) (pa_cons (pv 1) (pa_cons (pe_ty rfl T.b_str (by decide +kernel)) pa_nil))) (pe_callB c_isi (by rfl) T.b_isinstance (by decide +kernel) (pa_cons (pv 0) (pa_cons (pe_ty rfl T.b_str (by decide +kernel)) pa_nil))) (nomark _)) (pss_one (ps_ret pe_bl)) pss_nil)
    (pss_one (ps_ret (pe_and (pe_callB c_isiT (by rfl) T.b_isinstance (by decide +kernel) (pa_cons (pv 0) (pa_cons (pe_tup (pa_cons (pe_ty rfl T.b_int (by decide +kernel)) (pa_cons (pe_ty rfl T.b_str (by decide +kernel)) pa_nil))) pa_nil))) (pe_one (pe_cmpR (o_eq hr.units) (pv 0) (pv 1) (nomark _))))))))))
theorem ok_l_same (T : Txt K mg)  : OkF P w K mg base 13 "_law_same" ["_law_actual", "_law_expected"] (sp_l_same K) := okr_l_same T  12
theorem okr_l_value (T : Txt K mg) (O_l_draw : OkF P w K mg base 1 "_law_draw" ["_law_state", "_law_many"] (sp_l_draw K)) : ∀ n, OkF P w K mg base (2 + n) "_law_value" ["_law_state", "_law_deep"] (spr_l_value n K) := by
  intro n
  obtain ⟨fd, F⟩ := T.F_l_value
  induction n with
  | zero => exact ⟨_, fd, T.g_l_value, (F.ok (k := 1) sc_l_value (fun vs H Q E h => (no_l_value h).elim) (fun cdv A outer s H vs Q E hr h => (no_l_value h).elim)), FunD.bindsN F fun _ _ _ _ _ _ us hl => match us, hl with | [_, _], _ => rfl, F.kp⟩
  | succ n O_l_value =>
    refine ⟨_, fd, T.g_l_value, F.ok (k := 2 + n) sc_l_value (fun vs H Q E h => len_l_value h) (fun cdv A outer s H vs Q E hr h => ⟨t_l_value K (spr_l_value n), PSs.nox ?_, rd_l_value h⟩), FunD.bindsN F fun _ _ _ _ _ _ us hl => match us, hl with | [_, _], _ => rfl, F.kp⟩
    exact (pss_c (ps_set (i := 2) sc_l_value.nd rfl (Or.inl rfl) (pe_fn O_l_draw (hr.mono (by omega)) rfl (pa_cons (pv 0) (pa_cons pe_int pa_nil))))
    (pss_c (ps_if (PW.pt (pw_or (pt_cmpR o_lt (pv 1) pe_int (nomark _)) (pw_or1 (pt_cmpR o_lt (pv 2) pe_int (nomark _))))) (pss_one (ps_ret (pe_tup (pa_cons (pe_ix i_x (pe_lst (pa_cons pe_str (pa_cons pe_str (pa_cons pe_str pa_nil)))) (pe_op o_mod (pv 2) pe_int) (fun _ _ => rfl)) (pa_cons (pe_tup pa_nil) (pa_cons pe_int pa_nil)))))) pss_nil)
    (pss_c (ps_if (pt_cmpR o_lt (pv 2) pe_int (nomark _)) (pss_one (ps_ret (pe_tup (pa_cons pe_str (pa_cons (pe_fn O_l_draw (hr.mono (by omega)) rfl (pa_cons (pv 0) (pa_cons pe_int pa_nil))) (pa_cons pe_int pa_nil)))))) pss_nil)
    (pss_c (ps_set (i := 3) sc_l_value.nd rfl (Or.inl rfl) (pe_dget (hu_of hr) (pe_disp (pps_cons pe_int (pe_op o_add pe_int (pe_fn O_l_draw (hr.mono (by omega)) rfl (pa_cons (pv 0) (pa_cons pe_int pa_nil)))) (pps_cons pe_int pe_int (pps_cons pe_int pe_int (pps_cons pe_int pe_int pps_nil)))) (by rfl) (by rfl) (fun z => by cases z) (by decide)) (pv 2) (fun _ _ => rfl)))
    (pss_one (ps_ret (pe_tup (pa_cons (pe_ix i_x (pe_lst (pa_cons pe_str (pa_cons pe_str (pa_cons pe_str (pa_cons pe_str pa_nil))))) (pe_op o_sub (pv 2) pe_int) (fun _ _ => rfl)) (pa_cons (pe_callTy c_tuple (by rfl) T.b_tuple (by decide +kernel) (pa_cons (pe_lc (own := [("_law_k", 4)]) (g := (gName 4)) (tt := tYes) rfl sc_l_value.nd (pi_range1 rfl T.b_range (pa_cons (pv 3) pa_nil)) (blkOk_by (own := [("_law_k", 4)]) (N := n_l_value) (sc := defScope s_l_value) (by first | decide +kernel | rfl)) (fun _ _ _ _ _ => pg_name (i := 4) sc_l_value.nd rfl (Or.inl rfl)) (fun _ _ _ _ _ => pts_nil) (fun _ _ _ _ _ => (pe_fn O_l_value (hr.mono (by omega)) rfl (pa_cons (pv 0) (pa_cons (pe_op o_sub (pv 1) pe_int) pa_nil))))) pa_nil)) (pa_cons pe_int pa_nil))))))))))
theorem ok_l_value (T : Txt K mg) (O_l_draw : OkF P w K mg base 1 "_law_draw" ["_law_state", "_law_many"] (sp_l_draw K)) : OkF P w K mg base 6 "_law_value" ["_law_state", "_law_deep"] (sp_l_value K) := okr_l_value T O_l_draw 4
theorem okr_l_spoilt (T : Txt K mg) (O_l_draw : OkF P w K mg base 1 "_law_draw" ["_law_state", "_law_many"] (sp_l_draw K)) : ∀ n, OkF P w K mg base (2 + n) "_law_spoilt" ["_law_state", "_law_kind"] (spr_l_spoilt n K) := by
  intro n
  obtain ⟨fd, F⟩ := T.F_l_spoilt
  induction n with
  | zero => exact ⟨_, fd, T.g_l_spoilt, (F.ok (k := 1) sc_l_spoilt (fun vs H Q E h => (no_l_spoilt h).elim) (fun cdv A outer s H vs Q E hr h => (no_l_spoilt h).elim)), FunD.bindsN F fun _ _ _ _ _ _ us hl => match us, hl with | [_, _], _ => rfl, F.kp⟩
  | succ n O_l_spoilt =>
    refine ⟨_, fd, T.g_l_spoilt, F.ok (k := 2 + n) sc_l_spoilt (fun vs H Q E h => len_l_spoilt h) (fun cdv A outer s H vs Q E hr h => ⟨t_l_spoilt K (spr_l_spoilt n), PSs.nox ?_, rd_l_spoilt h⟩), FunD.bindsN F fun _ _ _ _ _ _ us hl => match us, hl with | [_, _], _ => rfl, F.kp⟩
    exact (pss_c (ps_asg (pv 1) (pg_tup rfl (pgs_cons (pg_name (i := 2) sc_l_spoilt.nd rfl (Or.inl rfl)) (pgs_cons (pg_name (i := 3) sc_l_spoilt.nd rfl (Or.inl rfl)) (pgs_cons (pg_name (i := 4) sc_l_spoilt.nd rfl (Or.inl rfl)) pgs_nil)))))
    (pss_c (ps_if (PW.pt (pw_and (pt_cmpR o_notIn (pv 2) (pe_tup (pa_cons pe_str (pa_cons pe_str (pa_cons pe_str (pa_cons pe_str pa_nil))))) (by rfl)) (pw_and1 (pt_cmpR (o_eq hr.units) (pe_fn O_l_draw (hr.mono (by omega)) rfl (pa_cons (pv 0) (pa_cons pe_int pa_nil))) pe_int (nomark _))))) (pss_c (ps_set (i := 5) sc_l_spoilt.nd rfl (Or.inl rfl) (pe_fn O_l_draw (hr.mono (by omega)) rfl (pa_cons (pv 0) (pa_cons (pe_callB c_len (by rfl) T.b_len (by decide +kernel) (pa_cons (pv 3) pa_nil)) pa_nil))))
    (pss_one (ps_ret (pe_tup (pa_cons (pv 2) (pa_cons (pe_op o_add (pe_op o_add (pe_slice s_l (pv 3) po_none (po_some (pv 5))) (pe_tup (pa_cons (pe_fn O_l_spoilt (hr.mono (by omega)) rfl (pa_cons (pv 0) (pa_cons (pe_ix i_x (pv 3) (pv 5) (fun _ _ => rfl)) pa_nil))) pa_nil))) (pe_slice s_l (pv 3) (po_some (pe_op o_add (pv 5) pe_int)) po_none)) (pa_cons (pv 4) pa_nil))))))) pss_nil)
    (pss_c (ps_set (i := 6) sc_l_spoilt.nd rfl (Or.inl rfl) (pe_ix i_x (pe_lst (pa_cons pe_non (pa_cons pe_bl (pa_cons pe_int (pa_cons pe_str (pa_cons (pe_tup pa_nil) (pa_cons pe_str (pa_cons (pe_tup (pa_cons pe_str (pa_cons (pe_tup pa_nil) (pa_cons pe_int pa_nil)))) (pa_cons (pe_un u_neg pe_int) (pa_cons pe_str (pa_cons (pe_tup (pa_cons (pe_tup (pa_cons pe_str (pa_cons (pe_tup pa_nil) (pa_cons pe_int pa_nil)))) pa_nil)) pa_nil))))))))))) (pe_fn O_l_draw (hr.mono (by omega)) rfl (pa_cons (pv 0) (pa_cons pe_int pa_nil))) (fun _ _ => rfl)))
    (pss_c (ps_set (i := 7) sc_l_spoilt.nd rfl (Or.inl rfl) (pe_fn O_l_draw (hr.mono (by omega)) rfl (pa_cons (pv 0) (pa_cons pe_int pa_nil))))
    (pss_c (ps_if (pt_cmpR (o_eq hr.units) (pv 7) pe_int (nomark _)) (pss_one (ps_ret (pe_tup (pa_cons (pv 6) (pa_cons (pv 3) (pa_cons (pv 4) pa_nil)))))) pss_nil)
    (pss_c (ps_if (pt_cmpR (o_eq hr.units) (pv 7) pe_int (nomark _)) (pss_one (ps_ret (pe_tup (pa_cons (pv 2) (pa_cons (pv 6) (pa_cons (pv 4) pa_nil)))))) pss_nil)
    (pss_c (ps_if (pt_cmpR (o_eq hr.units) (pv 7) pe_int (nomark _)) (pss_one (ps_ret (pe_tup (pa_cons (pv 2) (pa_cons (pv 3) (pa_cons (pv 6) pa_nil)))))) pss_nil)
    (pss_c (ps_if (pt_cmpR (o_eq hr.units) (pv 7) pe_int (nomark _)) (pss_one (ps_ret (pv 6))) pss_nil)
    (pss_one (ps_ret (pe_op o_add (pe_slice s_l (pv 1) po_none (po_some pe_int)) (pe_tup (pa_cons pe_int (pa_cons pe_int pa_nil))))))))))))))
theorem ok_l_spoilt (T : Txt K mg) (O_l_draw : OkF P w K mg base 1 "_law_draw" ["_law_state", "_law_many"] (sp_l_draw K)) : OkF P w K mg base 6 "_law_spoilt" ["_law_state", "_law_kind"] (sp_l_spoilt K) := okr_l_spoilt T O_l_draw 4
theorem okr_l_good (T : Txt K mg) (O_l_is_integer : OkF P w K mg base 1 "_law_is_integer" ["_law_actual"] (sp_l_is_integer K)) : ∀ n, OkF P w K mg base (2 + n) "_law_good" ["_law_kind", "_law_count"] (spr_l_good n K) := by
  intro n
  obtain ⟨fd, F⟩ := T.F_l_good
  induction n with
  | zero => exact ⟨_, fd, T.g_l_good, (F.ok (k := 1) sc_l_good (fun vs H Q E h => (no_l_good h).elim) (fun cdv A outer s H vs Q E hr h => (no_l_good h).elim)), FunD.bindsN F fun _ _ _ _ _ _ us hl => match us, hl with | [_, _], _ => rfl, F.kp⟩
  | succ n O_l_good =>
    refine ⟨_, fd, T.g_l_good, F.ok (k := 2 + n) sc_l_good (fun vs H Q E h => len_l_good h) (fun cdv A outer s H vs Q E hr h => ⟨t_l_good K (spr_l_good n), PSs.nox ?_, rd_l_good h⟩), FunD.bindsN F fun _ _ _ _ _ _ us hl => match us, hl with | [_, _], _ => rfl, F.kp⟩
    exact (pss_c (ps_if (PW.pt (pw_or (pt_not (pt_tru (pe_callB c_isi (by rfl) T.b_isinstance (by decide +kernel) (pa_cons (pv 0) (pa_cons (pe_ty rfl T.b_tuple (by decide +kernel)) pa_nil))))) (pw_or (pt_cmpR (o_ne hr.units) (pe_callB c_len (by rfl) T.b_len (by decide +kernel) (pa_cons (pv 0) pa_nil)) pe_int (nomark _)) (pw_or1 (pt_not (pt_tru (pe_callB c_isi (by rfl) T.b_isinstance (by decide +kernel) (pa_cons (pe_ix i_x (pv 0) pe_int (fun _ _ => rfl)) (pa_cons (pe_ty rfl T.b_str (by decide +kernel)) pa_nil))))))))) (pss_one (ps_ret pe_bl)) pss_nil)
    (pss_c (ps_asg (pv 0) (pg_tup rfl (pgs_cons (pg_name (i := 2) sc_l_good.nd rfl (Or.inl rfl)) (pgs_cons (pg_name (i := 3) sc_l_good.nd rfl (Or.inl rfl)) (pgs_cons (pg_name (i := 4) sc_l_good.nd rfl (Or.inl rfl)) pgs_nil)))))
    (pss_c (ps_if (PW.pt (pw_or (pt_not (pt_tru (pe_fn O_l_is_integer (hr.mono (by omega)) rfl (pa_cons (pv 4) pa_nil)))) (pw_or1 (pt_cmpR (o_ne hr.units) (pv 4) pe_int (nomark _))))) (pss_one (ps_ret pe_bl)) pss_nil)
    (pss_c (ps_if (pt_cmpR (o_eq hr.units) (pv 2) pe_str (nomark _)) (pss_one (ps_ret (pe_and (pe_fn O_l_is_integer (hr.mono (by omega)) rfl (pa_cons (pv 3) pa_nil)) (pe_one (pe_chain o_le o_lt pe_int (pv 3) (pv 1)))))) pss_nil)
    (pss_c (ps_if (PW.pt (pw_or (pt_not (pt_tru (pe_callB c_isi (by rfl) T.b_isinstance (by decide +kernel) (pa_cons (pv 3) (pa_cons (pe_ty rfl T.b_tuple (by decide +kernel)) pa_nil))))) (pw_or1 (pt_cmpR o_notIn (pv 2) (pe_tup (pa_cons pe_str (pa_cons pe_str (pa_cons pe_str (pa_cons pe_str (pa_cons pe_str (pa_cons pe_str (pa_cons pe_str pa_nil)))))))) (by rfl))))) (pss_one (ps_ret pe_bl)) pss_nil)
    (pss_c (ps_if (PW.pt (pw_or (PW.pt (pw_and (pt_cmpR (o_eq hr.units) (pv 2) pe_str (nomark _)) (pw_and1 (pt_cmpR o_lt (pe_callB c_len (by rfl) T.b_len (by decide +kernel) (pa_cons (pv 3) pa_nil)) pe_int (nomark _))))) (pw_or1 (PW.pt (pw_and (pt_cmpR (o_eq hr.units) (pv 2) pe_str (nomark _)) (pw_and1 (pt_cmpR (o_ne hr.units) (pe_callB c_len (by rfl) T.b_len (by decide +kernel) (pa_cons (pv 3) pa_nil)) pe_int (nomark _)))))))) (pss_one (ps_ret pe_bl)) pss_nil)
    (pss_c (ps_if (PW.pt (pw_or (PW.pt (pw_and (pt_cmpR o_in (pv 2) (pe_tup (pa_cons pe_str (pa_cons pe_str pa_nil))) (by rfl)) (pw_and1 (pt_cmpR (o_ne hr.units) (pe_callB c_len (by rfl) T.b_len (by decide +kernel) (pa_cons (pv 3) pa_nil)) pe_int (nomark _))))) (pw_or1 (PW.pt (pw_and (pt_cmpR o_in (pv 2) (pe_tup (pa_cons pe_str (pa_cons pe_str (pa_cons pe_str pa_nil)))) (by rfl)) (pw_and1 (pt_cmpR o_gt (pe_callB c_len (by rfl) T.b_len (by decide +kernel) (pa_cons (pv 3) pa_nil)) pe_int (nomark _)))))))) (pss_one (ps_ret pe_bl)) pss_nil)
    (pss_c (ps_for PassesOwn.never rfl (pi_any (pv 3)) (pg_name (i := 5) sc_l_good.nd rfl (Or.inl rfl)) (pss_one (ps_if (pt_not (pt_tru (pe_fn O_l_good (hr.mono (by omega)) rfl (pa_cons (pv 5) (pa_cons (pv 1) pa_nil))))) (pss_one (ps_ret pe_bl)) pss_nil)))
    (pss_one (ps_ret pe_bl))))))))))
theorem ok_l_good (T : Txt K mg) (O_l_is_integer : OkF P w K mg base 1 "_law_is_integer" ["_law_actual"] (sp_l_is_integer K)) : OkF P w K mg base 14 "_law_good" ["_law_kind", "_law_count"] (sp_l_good K) := okr_l_good T O_l_is_integer 12
theorem okr_l_size (T : Txt K mg)  : ∀ n, OkF P w K mg base (1 + n) "_law_size" ["_law_kind"] (spr_l_size n K) := by
  intro n
  obtain ⟨fd, F⟩ := T.F_l_size
  induction n with
  | zero => exact ⟨_, fd, T.g_l_size, (F.ok (k := 0) sc_l_size (fun vs H Q E h => (no_l_size h).elim) (fun cdv A outer s H vs Q E hr h => (no_l_size h).elim)), FunD.bindsN F fun _ _ _ _ _ _ us hl => match us, hl with | [_], _ => rfl, F.kp⟩
  | succ n O_l_size =>
    refine ⟨_, fd, T.g_l_size, F.ok (k := 1 + n) sc_l_size (fun vs H Q E h => len_l_size h) (fun cdv A outer s H vs Q E hr h => ⟨t_l_size K (spr_l_size n), PSs.nox ?_, rd_l_size h⟩), FunD.bindsN F fun _ _ _ _ _ _ us hl => match us, hl with | [_], _ => rfl, F.kp⟩
    exact (pss_c (ps_if (pt_cmpR (o_eq hr.units) (pe_ix i_x (pv 0) pe_int (fun _ _ => rfl)) pe_str (nomark _)) (pss_one (ps_ret pe_int)) pss_nil)
    (pss_one (ps_ret (pe_op o_add pe_int (pe_callB (c_sum rfl) (by rfl) T.b_sum (by decide +kernel) (pa_cons (pe_lc (own := [("_law_part", 1)]) (g := (gName 1)) (tt := tYes) rfl sc_l_size.nd (pi_any (pe_ix i_x (pv 0) pe_int (fun _ _ => rfl))) (blkOk_by (own := [("_law_part", 1)]) (N := n_l_size) (sc := defScope s_l_size) (by first | decide +kernel | rfl)) (fun _ _ _ _ _ => pg_name (i := 1) sc_l_size.nd rfl (Or.inl rfl)) (fun _ _ _ _ _ => pts_nil) (fun _ _ _ _ _ => (pe_fn O_l_size (hr.mono (by omega)) rfl (pa_cons (pv 1) pa_nil)))) pa_nil))))))
theorem ok_l_size (T : Txt K mg)  : OkF P w K mg base 5 "_law_size" ["_law_kind"] (sp_l_size K) := okr_l_size T  4
theorem okf_law (T : Txt K mg) (O_l_start : OkF P w K mg base 1 "_law_start" ["_law_script"] (sp_l_start K)) (O_l_value : OkF P w K mg base 6 "_law_value" ["_law_state", "_law_deep"] (sp_l_value K)) (O_l_draw : OkF P w K mg base 1 "_law_draw" ["_law_state", "_law_many"] (sp_l_draw K)) (O_l_spoilt : OkF P w K mg base 6 "_law_spoilt" ["_law_state", "_law_kind"] (sp_l_spoilt K)) (O_l_same : OkF P w K mg base 13 "_law_same" ["_law_actual", "_law_expected"] (sp_l_same K)) (O_l_good : OkF P w K mg base 14 "_law_good" ["_law_kind", "_law_count"] (sp_l_good K)) (O_is_kind : OkF P w K mg base 17 "is_kind" ["kind", "count"] (sp_is_kind K)) (O_l_size : OkF P w K mg base 5 "_law_size" ["_law_kind"] (sp_l_size K)) (O_kind_size : OkF P w K mg base 7 "kind_size" ["kind"] (sp_kind_size K)) (O_field_kinds : OkF P w K mg base 1 "field_kinds" ["datas", "number"] (sp_field_kinds K)) {fd : FuncData} (F : FunD K "law" "law" (defArgs s_law) (defBody s_law) (defScope s_law) [] [] (He.ga K "law") fd) : FnOk P w K mg base CX0 18 (He.ga K "law") fd ["_law_script"] (sp_law K) := by
  refine F.ok sc_law (fun vs H Q E h => len_law h) (fun cdv A outer s H vs Q E hr h => ⟨t_law K, PSs.nox ?_, rd_law h⟩)
  exact (pss_c (ps_set (i := 1) sc_law.nd rfl (Or.inr rfl) (pe_fn O_l_start (hr.mono (by omega)) rfl (pa_cons (pv 0) pa_nil)))
    (pss_c (ps_set (i := 2) sc_law.nd rfl (Or.inl rfl) (pe_fn O_l_value (hr.mono (by omega)) rfl (pa_cons (pv 1) (pa_cons pe_int pa_nil))))
    (pss_c (ps_set (i := 3) sc_law.nd rfl (Or.inl rfl) (pe_fn O_l_draw (hr.mono (by omega)) rfl (pa_cons (pv 1) (pa_cons pe_int pa_nil))))
    (pss_c (ps_set (i := 4) sc_law.nd rfl (Or.inl rfl) (pv 2))
    (pss_c (ps_if (pt_cmpR o_gt (pe_fn O_l_draw (hr.mono (by omega)) rfl (pa_cons (pv 1) (pa_cons pe_int pa_nil))) pe_int (nomark _)) (pss_one (ps_set (i := 4) sc_law.nd rfl (Or.inl rfl) (pe_fn O_l_spoilt (hr.mono (by omega)) rfl (pa_cons (pv 1) (pa_cons (pv 2) pa_nil))))) pss_nil)
    (pss_c (ps_if (PW.pt (pw_or (pt_not (pt_tru (pe_fn O_l_same (hr.mono (by omega)) rfl (pa_cons (pe_fn O_is_kind (hr.mono (by omega)) rfl (pa_cons (pv 4) (pa_cons (pv 3) pa_nil))) (pa_cons (pe_fn O_l_good (hr.mono (by omega)) rfl (pa_cons (pv 4) (pa_cons (pv 3) pa_nil))) pa_nil))))) (pw_or1 (pt_not (pt_tru (pe_fn O_l_same (hr.mono (by omega)) rfl (pa_cons (pe_fn O_kind_size (hr.mono (by omega)) rfl (pa_cons (pv 2) pa_nil)) (pa_cons (pe_fn O_l_size (hr.mono (by omega)) rfl (pa_cons (pv 2) pa_nil)) pa_nil)))))))) (pss_one (ps_ret pe_bl)) pss_nil)
    (pss_c (ps_set (i := 5) sc_law.nd rfl (Or.inl rfl) (pe_lst pa_nil))
    (pss_c (ps_for PassesOwn.never rfl (pi_range1 rfl T.b_range (pa_cons (pe_op o_add pe_int (pe_fn O_l_draw (hr.mono (by omega)) rfl (pa_cons (pv 1) (pa_cons pe_int pa_nil)))) pa_nil)) (pg_name (i := 6) sc_law.nd rfl (Or.inr rfl)) (pss_c (ps_set (i := 7) sc_law.nd rfl (Or.inr rfl) (pe_lc (own := [("_law_j", 10)]) (g := (gName 10)) (tt := tYes) rfl sc_law.nd (pi_range1 rfl T.b_range (pa_cons (pe_op o_add pe_int (pe_fn O_l_draw (hr.mono (by omega)) rfl (pa_cons (pv 1) (pa_cons pe_int pa_nil)))) pa_nil)) (blkOk_by (own := [("_law_j", 10)]) (N := n_law) (sc := defScope s_law) (by first | decide +kernel | rfl)) (fun _ _ _ _ _ => pg_name (i := 10) sc_law.nd rfl (Or.inl rfl)) (fun _ _ _ _ _ => pts_nil) (fun _ _ _ _ _ => (pe_callTy c_tuple (by rfl) T.b_tuple (by decide +kernel) (pa_cons (pe_lc (own := [("_law_m", 12)]) (g := (gName 12)) (tt := tYes) rfl sc_law.nd (pi_range1 rfl T.b_range (pa_cons (pe_fn O_l_draw (hr.mono (by omega)) rfl (pa_cons (pv 1) (pa_cons pe_int pa_nil))) pa_nil)) (blkOk_by (own := [("_law_m", 12)]) (N := n_law) (sc := _) (by first | decide +kernel | rfl)) (fun _ _ _ _ _ => pg_name (i := 12) sc_law.nd rfl (Or.inl rfl)) (fun _ _ _ _ _ => pts_nil) (fun _ _ _ _ _ => (pe_fn O_l_value (hr.mono (by omega)) rfl (pa_cons (pv 1) (pa_cons pe_int pa_nil))))) pa_nil)))))
    (pss_one (ps_expr (pe_bm PySem.F.plainAttrs_list PySem.F.slot_list_append PySem.F.type_list_append m_append (pv 5) (pa_cons (pe_tup (pa_cons (pe_op o_add pe_str (pe_callTy c_str (by rfl) T.b_str (by decide +kernel) (pa_cons (pv 6) pa_nil))) (pa_cons (pe_callTy c_tuple (by rfl) T.b_tuple (by decide +kernel) (pa_cons (pe_lc (own := [("_law_j", 10)]) (g := (gName 10)) (tt := tYes) rfl sc_law.nd (pi_range1 rfl T.b_range (pa_cons (pe_callB c_len (by rfl) T.b_len (by decide +kernel) (pa_cons (pv 7) pa_nil)) pa_nil)) (blkOk_by (own := [("_law_j", 10)]) (N := n_law) (sc := defScope s_law) (by first | decide +kernel | rfl)) (fun _ _ _ _ _ => pg_name (i := 10) sc_law.nd rfl (Or.inl rfl)) (fun _ _ _ _ _ => pts_nil) (fun _ _ _ _ _ => (pe_tup (pa_cons (pe_op o_add (pe_op o_add (pe_op o_add pe_str (pe_callTy c_str (by rfl) T.b_str (by decide +kernel) (pa_cons (pv 6) pa_nil))) pe_str) (pe_callTy c_str (by rfl) T.b_str (by decide +kernel) (pa_cons (pv 10) pa_nil))) (pa_cons (pe_ix i_x (pv 7) (pv 10) (fun _ _ => rfl)) pa_nil))))) pa_nil)) pa_nil))) pa_nil))))))
    (pss_c (ps_set (i := 8) sc_law.nd rfl (Or.inl rfl) (pe_fn O_l_draw (hr.mono (by omega)) rfl (pa_cons (pv 1) (pa_cons (pe_callB c_len (by rfl) T.b_len (by decide +kernel) (pa_cons (pv 5) pa_nil)) pa_nil))))
    (pss_c (ps_set (i := 9) sc_law.nd rfl (Or.inl rfl) (pe_fn O_field_kinds (hr.mono (by omega)) rfl (pa_cons (pe_callTy c_tuple (by rfl) T.b_tuple (by decide +kernel) (pa_cons (pv 5) pa_nil)) (pa_cons (pv 8) pa_nil))))
    (pss_c (ps_if (pt_not (pt_tru (pe_callB c_isi (by rfl) T.b_isinstance (by decide +kernel) (pa_cons (pv 9) (pa_cons (pe_ty rfl T.b_list (by decide +kernel)) pa_nil))))) (pss_one (ps_ret pe_bl)) pss_nil)
    (pss_one (ps_ret (pe_fn O_l_same (hr.mono (by omega)) rfl (pa_cons (pe_callTy c_tuple (by rfl) T.b_tuple (by decide +kernel) (pa_cons (pv 9) pa_nil)) (pa_cons (pe_callTy c_tuple (by rfl) T.b_tuple (by decide +kernel) (pa_cons (pe_lc (own := [("_law_constructor", 11)]) (g := (gName 11)) (tt := tYes) rfl sc_law.nd (pi_any (pe_ix i_x (pe_ix i_x (pv 5) (pv 8) (fun _ _ => rfl)) pe_int (fun _ _ => rfl))) (blkOk_by (own := [("_law_constructor", 11)]) (N := n_law) (sc := defScope s_law) (by first | decide +kernel | rfl)) (fun _ _ _ _ _ => pg_name (i := 11) sc_law.nd rfl (Or.inl rfl)) (fun _ _ _ _ _ => pts_nil) (fun _ _ _ _ _ => (pe_ix i_x (pv 11) pe_int (fun _ _ => rfl)))) pa_nil)) pa_nil))))))))))))))))
end
/-! ### the head -/
def d_is_integer : He.DefD := ⟨("is_integer", none), "is_integer", "is_integer", defArgs s_is_integer, defBody s_is_integer, defScope s_is_integer, [], []⟩
def d_is_triple : He.DefD := ⟨("is_triple", none), "is_triple", "is_triple", defArgs s_is_triple, defBody s_is_triple, defScope s_is_triple, [], []⟩
def d_part_counts : He.DefD := ⟨("part_counts", none), "part_counts", "part_counts", defArgs s_part_counts, defBody s_part_counts, defScope s_part_counts, [], []⟩
def d_kind_nodes : He.DefD := ⟨("kind_nodes", none), "kind_nodes", "kind_nodes", defArgs s_kind_nodes, defBody s_kind_nodes, defScope s_kind_nodes, [], []⟩
def d_is_numbered_kind : He.DefD := ⟨("is_numbered_kind", none), "is_numbered_kind", "is_numbered_kind", defArgs s_is_numbered_kind, defBody s_is_numbered_kind, defScope s_is_numbered_kind, [], []⟩
def d_kind_size : He.DefD := ⟨("kind_size", none), "kind_size", "kind_size", defArgs s_kind_size, defBody s_kind_size, defScope s_kind_size, [], []⟩
def d_is_kind : He.DefD := ⟨("is_kind", none), "is_kind", "is_kind", defArgs s_is_kind, defBody s_is_kind, defScope s_is_kind, [], []⟩
def d_field_kinds : He.DefD := ⟨("field_kinds", none), "field_kinds", "field_kinds", defArgs s_field_kinds, defBody s_field_kinds, defScope s_field_kinds, [], []⟩
def d_l_start : He.DefD := ⟨("_law_start", none), "_law_start", "_law_start", defArgs s_l_start, defBody s_l_start, defScope s_l_start, [], []⟩
def d_l_draw : He.DefD := ⟨("_law_draw", none), "_law_draw", "_law_draw", defArgs s_l_draw, defBody s_l_draw, defScope s_l_draw, [], []⟩
def d_l_is_integer : He.DefD := ⟨("_law_is_integer", none), "_law_is_integer", "_law_is_integer", defArgs s_l_is_integer, defBody s_l_is_integer, defScope s_l_is_integer, [], []⟩
def d_l_same : He.DefD := ⟨("_law_same", none), "_law_same", "_law_same", defArgs s_l_same, defBody s_l_same, defScope s_l_same, [], []⟩
def d_l_value : He.DefD := ⟨("_law_value", none), "_law_value", "_law_value", defArgs s_l_value, defBody s_l_value, defScope s_l_value, [], []⟩
def d_l_spoilt : He.DefD := ⟨("_law_spoilt", none), "_law_spoilt", "_law_spoilt", defArgs s_l_spoilt, defBody s_l_spoilt, defScope s_l_spoilt, [], []⟩
def d_l_good : He.DefD := ⟨("_law_good", none), "_law_good", "_law_good", defArgs s_l_good, defBody s_l_good, defScope s_l_good, [], []⟩
def d_l_size : He.DefD := ⟨("_law_size", none), "_law_size", "_law_size", defArgs s_l_size, defBody s_l_size, defScope s_l_size, [], []⟩
def d_law : He.DefD := ⟨("law", none), "law", "law", defArgs s_law, defBody s_law, defScope s_law, [], []⟩
def fn : List He.DefD := [d_is_integer, d_is_triple, d_part_counts, d_kind_nodes, d_is_numbered_kind, d_kind_size, d_is_kind, d_field_kinds, d_l_start, d_l_draw, d_l_is_integer, d_l_same, d_l_value, d_l_spoilt, d_l_good, d_l_size, d_law]
def fa : List He.Fa := [.free "isinstance", .free "int", .free "bool", .free "tuple", .free "len", .free "str", .int "MAX_PARTS" 6, .free "sum", .free "all", .free "list", .free "abs", .free "range", .glo "is_integer", .glo "is_triple", .glo "part_counts", .glo "kind_nodes", .glo "is_numbered_kind", .glo "kind_size", .glo "is_kind", .glo "field_kinds", .glo "_law_start", .glo "_law_draw", .glo "_law_is_integer", .glo "_law_same", .glo "_law_value", .glo "_law_spoilt", .glo "_law_good", .glo "_law_size", .glo "law"]
abbrev R : PySem.W.OpenRow := PySem.W.OpenLaw.row PySem.Challenge.rw_escheat_k09_kinds_as_values
abbrev hk : PySem.W.Hook := He.hookD 5 fa fn
def ob (s : PySem.W.SharedT) : He.AlD := He.obsDG 5 fa fn (HandSHeadRun.getT s)
theorem ob_eq (s : PySem.W.SharedT) : ob s = hk.obs s.abs := He.obsDG_eq (HandSHeadRun.getT_eq s)
theorem txt {K : PySem.W.Frag} {h : Heap} {mg : Str → Option Value} (X : K.In h) (G : h.Ns mainGlobals mg) (c : He.SaysD fa fn K) : Txt K mg :=
  ⟨He.free_ok X G (c.fact 0 (f := .free "isinstance") rfl),
   He.free_ok X G (c.fact 1 (f := .free "int") rfl),
   He.free_ok X G (c.fact 2 (f := .free "bool") rfl),
   He.free_ok X G (c.fact 3 (f := .free "tuple") rfl),
   He.free_ok X G (c.fact 4 (f := .free "len") rfl),
   He.free_ok X G (c.fact 5 (f := .free "str") rfl),
   He.int_ok X G (c.fact 6 (f := .int "MAX_PARTS" 6) rfl),
   He.free_ok X G (c.fact 7 (f := .free "sum") rfl),
   He.free_ok X G (c.fact 8 (f := .free "all") rfl),
   He.free_ok X G (c.fact 9 (f := .free "list") rfl),
   He.free_ok X G (c.fact 10 (f := .free "abs") rfl),
   He.free_ok X G (c.fact 11 (f := .free "range") rfl),
   He.glo_ok X G (c.fact 12 (f := .glo "is_integer") rfl),
   c.def_ 0 (d := d_is_integer) rfl,
   He.glo_ok X G (c.fact 13 (f := .glo "is_triple") rfl),
   c.def_ 1 (d := d_is_triple) rfl,
   He.glo_ok X G (c.fact 14 (f := .glo "part_counts") rfl),
   c.def_ 2 (d := d_part_counts) rfl,
   He.glo_ok X G (c.fact 15 (f := .glo "kind_nodes") rfl),
   c.def_ 3 (d := d_kind_nodes) rfl,
   He.glo_ok X G (c.fact 16 (f := .glo "is_numbered_kind") rfl),
   c.def_ 4 (d := d_is_numbered_kind) rfl,
   He.glo_ok X G (c.fact 17 (f := .glo "kind_size") rfl),
   c.def_ 5 (d := d_kind_size) rfl,
   He.glo_ok X G (c.fact 18 (f := .glo "is_kind") rfl),
   c.def_ 6 (d := d_is_kind) rfl,
   He.glo_ok X G (c.fact 19 (f := .glo "field_kinds") rfl),
   c.def_ 7 (d := d_field_kinds) rfl,
   He.glo_ok X G (c.fact 20 (f := .glo "_law_start") rfl),
   c.def_ 8 (d := d_l_start) rfl,
   He.glo_ok X G (c.fact 21 (f := .glo "_law_draw") rfl),
   c.def_ 9 (d := d_l_draw) rfl,
   He.glo_ok X G (c.fact 22 (f := .glo "_law_is_integer") rfl),
   c.def_ 10 (d := d_l_is_integer) rfl,
   He.glo_ok X G (c.fact 23 (f := .glo "_law_same") rfl),
   c.def_ 11 (d := d_l_same) rfl,
   He.glo_ok X G (c.fact 24 (f := .glo "_law_value") rfl),
   c.def_ 12 (d := d_l_value) rfl,
   He.glo_ok X G (c.fact 25 (f := .glo "_law_spoilt") rfl),
   c.def_ 13 (d := d_l_spoilt) rfl,
   He.glo_ok X G (c.fact 26 (f := .glo "_law_good") rfl),
   c.def_ 14 (d := d_l_good) rfl,
   He.glo_ok X G (c.fact 27 (f := .glo "_law_size") rfl),
   c.def_ 15 (d := d_l_size) rfl,
   He.glo_ok X G (c.fact 28 (f := .glo "law") rfl),
   c.def_ 16 (d := d_law) rfl⟩
theorem run (w : World) : HandSHeadRun.RunEq R (PySem.W.view R.prog [21]) hk ob 4000 ["is_integer", "MAX_PARTS", "is_triple", "part_counts", "kind_nodes", "is_numbered_kind", "kind_size", "is_kind", "field_kinds", "_law_start", "_law_draw", "_law_is_integer", "_law_same", "_law_value", "_law_spoilt", "_law_good", "_law_size"] w := by
  intro os
  kernel_rfl
theorem facts {P : Program} {w : World} {K : PySem.W.Frag} {h : Heap} {mg : Str → Option Value} {f : Addr} (X : K.In h) (G : h.Ns mainGlobals mg) (hfa : mg ("law" : Str) = some (.ref f)) (c : He.SaysD fa fn K) :
    ∃ fd : FuncData, (∀ (s : Shared) (v : Value), BindsTo s fd ⟨[v], []⟩ [("_law_script", v)]) ∧ ∀ base : Heap, K.In base → base.Ns mainGlobals mg → FnOk P w K mg base CX0 18 f fd ["_law_script"] (sp_law K) := by
  have T : Txt K mg := txt X G c
  obtain ⟨fd, F⟩ := T.F_law
  have e := hfa.symm.trans T.g_law
  cases e
  have b := FunD.bindsA (ps := ["_law_script"]) F fun _ _ _ _ _ _ us hl => match us, hl with | [_], _ => rfl
  refine ⟨fd, fun s v => b s [v] rfl, fun base _ _ => ?_⟩
  have O_l_start : OkF P w K mg base 1 "_law_start" ["_law_script"] (sp_l_start K) := ok_l_start T 
  have O_l_draw : OkF P w K mg base 1 "_law_draw" ["_law_state", "_law_many"] (sp_l_draw K) := ok_l_draw T 
  have O_l_value : OkF P w K mg base 6 "_law_value" ["_law_state", "_law_deep"] (sp_l_value K) := ok_l_value T O_l_draw
  have O_l_spoilt : OkF P w K mg base 6 "_law_spoilt" ["_law_state", "_law_kind"] (sp_l_spoilt K) := ok_l_spoilt T O_l_draw
  have O_l_same : OkF P w K mg base 13 "_law_same" ["_law_actual", "_law_expected"] (sp_l_same K) := ok_l_same T 
  have O_l_is_integer : OkF P w K mg base 1 "_law_is_integer" ["_law_actual"] (sp_l_is_integer K) := ok_l_is_integer T 
  have O_l_good : OkF P w K mg base 14 "_law_good" ["_law_kind", "_law_count"] (sp_l_good K) := ok_l_good T O_l_is_integer
  have O_is_integer : OkF P w K mg base 1 "is_integer" ["value"] (sp_is_integer K) := ok_is_integer T 
  have O_is_triple : OkF P w K mg base 2 "is_triple" ["kind"] (sp_is_triple K) := ok_is_triple T O_is_integer
  have O_part_counts : OkF P w K mg base 1 "part_counts" ["head"] (sp_part_counts K) := ok_part_counts T 
  have O_is_numbered_kind : OkF P w K mg base 15 "is_numbered_kind" ["kind", "count"] (sp_is_numbered_kind K) := ok_is_numbered_kind T O_is_triple O_is_integer O_part_counts
  have O_is_kind : OkF P w K mg base 17 "is_kind" ["kind", "count"] (sp_is_kind K) := ok_is_kind T O_is_numbered_kind
  have O_l_size : OkF P w K mg base 5 "_law_size" ["_law_kind"] (sp_l_size K) := ok_l_size T 
  have O_kind_nodes : OkF P w K mg base 5 "kind_nodes" ["kind"] (sp_kind_nodes K) := ok_kind_nodes T 
  have O_kind_size : OkF P w K mg base 7 "kind_size" ["kind"] (sp_kind_size K) := ok_kind_size T O_kind_nodes
  have O_field_kinds : OkF P w K mg base 1 "field_kinds" ["datas", "number"] (sp_field_kinds K) := ok_field_kinds T 
  exact okf_law (base := base) (P := P) (w := w) T O_l_start O_l_value O_l_draw O_l_spoilt O_l_same O_l_good O_is_kind O_l_size O_kind_size O_field_kinds F
end U
open PySem PySem.W PySem.Calls PyProof.Rows
set_option maxHeartbeats 0 in
theorem PySem.Challenge.cw_escheat_k09_kinds_as_values_holds : PySem.Challenge.rw_escheat_k09_kinds_as_values.Holds := by
  w_on; o_law
  refine HandSHeadRun.head_any (r := OpenLaw.row PySem.Challenge.rw_escheat_k09_kinds_as_values) (q := view (OpenLaw.row PySem.Challenge.rw_escheat_k09_kinds_as_values).prog [21]) (H := U.hk) (ob := U.ob) (M := 4000) (loose := ["is_integer", "MAX_PARTS", "is_triple", "part_counts", "kind_nodes", "is_numbered_kind", "kind_size", "is_kind", "field_kinds", "_law_start", "_law_draw", "_law_is_integer", "_law_same", "_law_value", "_law_spoilt", "_law_good", "_law_size"]) (d := HandSHeadRun.topDef (OpenLaw.row PySem.Challenge.rw_escheat_k09_kinds_as_values).prog 21) (kwd := []) U.ob_eq
    (by kernel_rfl) (fun s => by kernel_rfl) U.run (by kernel_rfl) (by kernel_rfl) (by kernel_rfl) (by rfl) (by first | assumption | decide +kernel) (by decide +kernel) ⟨rfl, rfl, rfl, rfl, rfl, by decide +kernel⟩ ?hw ?hc
  case hw => w_witness2
  case hc =>
    refine L2.walk_ofE (l := PySem.Challenge.rw_escheat_k09_kinds_as_values) (n := 63) (k := 18) (x := "_law_script") (CX := L2.CX0) rfl (by decide) (by kernel_rfl) ⟨rfl, by decide, by decide⟩ ?F (fun _ _ _ _ z => z)
    intro w mg fa h Y G hmg0
    obtain ⟨K, KX, c⟩ := Y
    have hmg : mg ("law" : PySem.Str) = some (.ref fa) := by
      have e : (HandSHeadRun.topDef (OpenLaw.row PySem.Challenge.rw_escheat_k09_kinds_as_values).prog 21).name = ("law" : PySem.Str) := by kernel_rfl
      rw [← e]
      exact hmg0
    obtain ⟨fd, hb, hF⟩ := U.facts (P := (PySem.Challenge.rw_escheat_k09_kinds_as_values).prog) (w := w) KX G hmg c
    exact ⟨K, fd, U.sp_law K, KX, hb, fun H a ns hl _ hS => U.law_in a ns hl hS, hF⟩


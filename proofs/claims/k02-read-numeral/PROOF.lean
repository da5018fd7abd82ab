import PyProof.Rows.All
import Wide.All
import OpenK.AllK
import Wide.FinOn
import HandS.ForMost
import HandS.Flow
import HandS.Wide
import HandS.IsInst
import HandS.TupAny
import HandS.StrMore
import HandS.Defaults
import HandS.Head0
import HandS.Head1
import HandS.Head2
import HandS.HeadEnd
import HandS.HeadHook1
import HandS.HeadHook2
import PySem.Challenge.RW_escheat_k02_read_numeral
set_option Elab.async false
set_option linter.all false
set_option maxRecDepth 100000
set_option maxHeartbeats 4000000
/-! U: operators by value, as functions of the values' shapes (so that a reading computes), and the steps of a reading. -/
namespace U
open PySem PySem.Spec PyProof.Rows L2

/-! ### operators by value -/
section
variable {X : Cx}
def uAdd (K : PySem.W.Frag) : R2 := fun x y H Q => match x, y with
  | .int i, .int j => Q (.int (i + j)) H
  | .str a, .str b => a.length + b.length ≤ sizeLine ∧ Q (.str (a ++ b)) H
  | .ref a, .ref b => (∃ xs ys, H a = some (.lst xs) ∧ H b = some (.lst ys) ∧ xs.length + ys.length ≤ sizeLine ∧ ∀ p, H p = none → Q (.ref p) (upd H p (.lst (xs ++ ys)))) ∨ rCatA K x y H Q
  | _, _ => False
theorem o_add : OpR X (binaryOp .Add) (uAdd X.K) := by
  intro pins s σ H x y v u Q I rx ry h
  cases x <;> cases y <;> first | exact (show False from h).elim | skip
  · exact op_add pins s σ H _ _ v u Q I rx ry ⟨_, _, rfl, rfl, h⟩
  · exact op_add_str pins s σ H _ _ v u Q I rx ry ⟨_, _, rfl, rfl, h.1, h.2⟩
  · rcases h with h | h
    · obtain ⟨xs, ys, h1, h2, h3, h4⟩ := h
      exact op_cat pins s σ H _ _ v u Q I rx ry ⟨_, _, xs, ys, rfl, rfl, h1, h2, h3, h4⟩
    · exact op_catA pins s σ H _ _ v u Q I rx ry h
def uSub : R2 := fun x y H Q => match x, y with
  | .int i, .int j => Q (.int (i - j)) H
  | _, _ => False
theorem o_sub : OpR X (binaryOp .Sub) uSub := by
  intro pins s σ H x y v u Q I rx ry h
  cases x <;> cases y <;> first | exact (show False from h).elim | skip
  exact op_sub pins s σ H _ _ v u Q I rx ry ⟨_, _, rfl, rfl, h⟩
def uMul : R2 := fun x y H Q => match x, y with
  | .int i, .int j => (CMul i j ∨ CMulW i j) ∧ Q (.int (i * j)) H
  | .str z, .int k => z.length * k.toNat ≤ 1000000 ∧ k ≤ 1000000 ∧ -(2 ^ 63) ≤ k ∧ Q (.str (Txt.mul z k)) H
  | .ref a, .int k => ∃ xs, H a = some (.lst xs) ∧ -(2 ^ 63) ≤ k ∧ k < 2 ^ 63 ∧ xs.length * k.toNat ≤ sizeLine ∧ ∀ p, H p = none → Q (.ref p) (upd H p (.lst (List.replicate k.toNat xs).flatten))
  | _, _ => False
theorem o_mul : OpR X (binaryOp .Mult) uMul := by
  intro pins s σ H x y v u Q I rx ry h
  cases x <;> cases y <;> first | exact (show False from h).elim | skip
  · rcases h.1 with c | c
    · exact op_mul pins s σ H _ _ v u Q I rx ry ⟨_, _, rfl, rfl, c, h.2⟩
    · exact op_mulW pins s σ H _ _ v u Q I rx ry ⟨_, _, rfl, rfl, c, h.2⟩
  · rename_i z k
    obtain ⟨h1, h2, h3, q⟩ := h
    obtain ⟨t, rfl⟩ := rx
    obtain ⟨t', rfl⟩ := ry
    have hok : PySem.MulOk z k := by
      refine ⟨?_, fun h _ => ?_, fun h _ => ?_⟩
      · have a1 : ¬ k < -(2 ^ 63 : Int) := by omega
        have a2 : ¬ k ≥ (2 ^ 63 : Int) := by omega
        rw [decide_eq_false a1, decide_eq_false a2]; rfl
      · have hpos : 0 < k := by omega
        have e : ((z.length * k.toNat : Nat) : Int) = (z.length : Int) * k := by
          rw [Int.natCast_mul, Int.toNat_of_nonneg (by omega)]
        have h3 : (z.length : Int) * k ≤ 2 ^ 63 - 1 := by rw [← e]; omega
        have h4 : (z.length : Int) ≤ (2 ^ 63 - 1) / k := (Int.le_ediv_iff_mul_le hpos).mpr h3
        omega
      · exact PyProof.Rows.short24 (by omega)
    exact SB.mul hok fun t' n => ⟨.str _, H, I.tok _, ⟨_, rfl⟩, q⟩
  · obtain ⟨xs, h1, h2, h3, h4, h5⟩ := h
    exact op_rep pins s σ H _ _ v u Q I rx ry ⟨_, _, xs, rfl, rfl, h1, h2, h3, h4, h5⟩
def uFdiv : R2 := fun x y H Q => match x, y with
  | .int i, .int j => CDivW i j ∧ Q (.int (i / j)) H
  | _, _ => False
theorem o_fdiv : OpR X (binaryOp .FloorDiv) uFdiv := by
  intro pins s σ H x y v u Q I rx ry h
  cases x <;> cases y <;> first | exact (show False from h).elim | skip
  exact op_fdivW pins s σ H _ _ v u Q I rx ry ⟨_, _, rfl, rfl, h.1, h.2⟩
def uMod : R2 := fun x y H Q => match x, y with
  | .int i, .int j => 0 < j ∧ Q (.int (i % j)) H
  | _, _ => False
theorem o_mod : OpR X (binaryOp .Mod) uMod := by
  intro pins s σ H x y v u Q I rx ry h
  cases x <;> cases y <;> first | exact (show False from h).elim | skip
  exact op_mod pins s σ H _ _ v u Q I rx ry ⟨_, _, rfl, rfl, h.1, h.2⟩
def uPow : R2 := fun x y H Q => match x, y with
  | .int i, .int j => CPow i j ∧ Q (.int (i ^ j.toNat)) H
  | _, _ => False
theorem o_pow : OpR X (binaryOp .Pow) uPow := by
  intro pins s σ H x y v u Q I rx ry h
  cases x <;> cases y <;> first | exact (show False from h).elim | skip
  exact op_pow pins s σ H _ _ v u Q I rx ry ⟨_, _, rfl, rfl, h.1, h.2⟩
def uNeg : V → Hp → VK → Prop := fun x H Q => match x with
  | .int i => Q (.int (-i)) H
  | _ => False
theorem u_neg : UnR X (unaryOp .USub) uNeg := by
  intro pins s σ H x v Q I rx h
  cases x <;> first | exact (show False from h).elim | skip
  exact un_neg pins s σ H _ v Q I rx ⟨_, rfl, h⟩
/-! comparisons -/
def uEq (K : PySem.W.Frag) : R2 := fun x y H Q => match x, y with
  | .ref _, _ => rEqD K x y H Q
  | _, .ref _ => rEqD K x y H Q
  | _, _ => scal x y = true ∧ Q (.bl (decide (x = y))) H
theorem o_eq (hu : X.A.units + 64 < cLine) : OpR X (compareOp .Eq) (uEq X.K) := by
  intro pins s σ H x y v u Q I rx ry h
  cases x <;> cases y <;> first | exact op_eq pins s σ H _ _ v u Q I rx ry h | exact op_eqD hu pins s σ H _ _ v u Q I rx ry h
def uNe (K : PySem.W.Frag) : R2 := fun x y H Q => match x, y with
  | .ref _, _ => rNeD K x y H Q
  | _, .ref _ => rNeD K x y H Q
  | _, _ => scal x y = true ∧ Q (.bl (!decide (x = y))) H
theorem o_ne (hu : X.A.units + 64 < cLine) : OpR X (compareOp .NotEq) (uNe X.K) := by
  intro pins s σ H x y v u Q I rx ry h
  cases x <;> cases y <;> first | exact op_ne pins s σ H _ _ v u Q I rx ry h | exact op_neD hu pins s σ H _ _ v u Q I rx ry h
def uCmpI (p : Int → Int → Bool) : R2 := fun x y H Q => match x, y with
  | .int i, .int j => Q (.bl (p i j)) H
  | _, _ => False
abbrev uLt : R2 := uCmpI fun i j => decide (i < j)
abbrev uLe : R2 := uCmpI fun i j => decide (i ≤ j)
abbrev uGt : R2 := uCmpI fun i j => decide (j < i)
abbrev uGe : R2 := uCmpI fun i j => decide (j ≤ i)
theorem o_lt : OpR X (compareOp .Lt) uLt := by
  intro pins s σ H x y v u Q I rx ry h
  cases x <;> cases y <;> first | exact (show False from h).elim | skip
  exact op_lt pins s σ H _ _ v u Q I rx ry ⟨_, _, rfl, rfl, h⟩
theorem o_le : OpR X (compareOp .LtE) uLe := by
  intro pins s σ H x y v u Q I rx ry h
  cases x <;> cases y <;> first | exact (show False from h).elim | skip
  exact op_le pins s σ H _ _ v u Q I rx ry ⟨_, _, rfl, rfl, h⟩
theorem o_gt : OpR X (compareOp .Gt) uGt := by
  intro pins s σ H x y v u Q I rx ry h
  cases x <;> cases y <;> first | exact (show False from h).elim | skip
  exact op_gt pins s σ H _ _ v u Q I rx ry ⟨_, _, rfl, rfl, h⟩
theorem o_ge : OpR X (compareOp .GtE) uGe := by
  intro pins s σ H x y v u Q I rx ry h
  cases x <;> cases y <;> first | exact (show False from h).elim | skip
  exact op_ge pins s σ H _ _ v u Q I rx ry ⟨_, _, rfl, rfl, h⟩
/-- one sign in a text | a flat thing in a list, a tuple -/
def uIn (K : PySem.W.Frag) (f : Bool → Bool) : R2 := fun x y H Q => match y with
  | .str z => ∃ c : Nat, x = .str ⟨#[c]⟩ ∧ Q (.bl (f (decide (c ∈ z.cps.toList)))) H
  | .ref p => ∃ xs, (SqL K H p xs ∨ SqT K H p xs) ∧ flatV x = true ∧ xs.all flatV = true ∧ Q (.bl (f (inV x xs))) H
  | _ => False
theorem o_in : OpR X (compareOp .In) (uIn X.K id) := by
  intro pins s σ H x y v u Q I rx ry h
  cases y <;> first | exact (show False from h).elim | skip
  · obtain ⟨c, e, q⟩ := h
    exact op_in_sign pins s σ H _ _ v u Q I rx ry ⟨c, _, e, rfl, q⟩
  · obtain ⟨xs, h1, h2, h3, q⟩ := h
    exact op_in_seq pins s σ H _ _ v u Q I rx ry ⟨_, xs, rfl, h1, h2, h3, q⟩
theorem o_notIn : OpR X (compareOp .NotIn) (uIn X.K not) := by
  intro pins s σ H x y v u Q I rx ry h
  cases y <;> first | exact (show False from h).elim | skip
  · obtain ⟨c, e, q⟩ := h
    exact op_notIn_sign pins s σ H _ _ v u Q I rx ry ⟨c, _, e, rfl, q⟩
  · obtain ⟨xs, h1, h2, h3, q⟩ := h
    exact op_notIn_seq pins s σ H _ _ v u Q I rx ry ⟨_, xs, rfl, h1, h2, h3, q⟩
/-- is None (the right one), by the left one's shape -/
def isNonV : V → Bool
  | .non => true
  | _ => false
theorem isNonV_eq (x : V) : isNonV x = decide (x = .non) := by cases x <;> simp [isNonV]
def uIsN (f : Bool → Bool) : R2 := fun x y H Q => match y with
  | .non => Q (.bl (f (isNonV x))) H
  | _ => False
theorem o_is : OpR X (compareOp .Is) (uIsN id) := by
  intro pins s σ H x y v u Q I rx ry h
  cases y <;> first | exact (show False from h).elim | skip
  exact op_isN pins s σ H _ _ v u Q I rx ry ⟨rfl, by rw [← isNonV_eq]; exact h⟩
theorem o_isNot : OpR X (compareOp .IsNot) (uIsN not) := by
  intro pins s σ H x y v u Q I rx ry h
  cases y <;> first | exact (show False from h).elim | skip
  exact op_notN pins s σ H _ _ v u Q I rx ry ⟨rfl, by rw [← isNonV_eq]; exact h⟩
/-! subscripts -/
def uIx (K : PySem.W.Frag) : R2 := fun x y H Q => match x, y with
  | .ref a, .int i => ∃ xs v, (SqL K H a xs ∨ SqT K H a xs) ∧ atI xs i = some v ∧ Q v H
  | .str z, .int i => ∃ c, z.length ≤ sizeLine ∧ atI z.cps.toList i = some c ∧ Q (.str ⟨#[c]⟩) H
  | _, _ => False
theorem i_x : IxR X (uIx X.K) := by
  intro value slice pins s σ H x y v u Q I rx ry h hs
  cases x <;> cases y <;> first | exact (show False from h).elim | skip
  · obtain ⟨c, h1, h2, q⟩ := h
    exact ix_str value slice pins s σ H _ _ v u Q I rx ry ⟨_, _, c, rfl, rfl, h1, h2, q⟩ hs
  · obtain ⟨xs, w, h1, h2, q⟩ := h
    rcases h1 with h1 | h1
    · exact ix_list value slice pins s σ H _ _ v u Q I rx ry ⟨_, xs, _, w, rfl, rfl, h1, h2, q⟩ hs
    · exact ix_tup value slice pins s σ H _ _ v u Q I rx ry ⟨_, xs, _, w, rfl, rfl, h1, h2, q⟩ hs
def uSl (K : PySem.W.Frag) : V → Option Int → Option Int → Hp → VK → Prop := fun x lo hi H Q => match x with
  | .str z => z.length ≤ sizeLine ∧ Q (.str (cutS z lo hi)) H
  | .ref _ => rSlL K x lo hi H Q ∨ rSlA K x lo hi H Q
  | _ => False
theorem s_l : SlR X (uSl X.K) := by
  intro pins s σ H x v vl vu lo hi sl Q I rx hs pl pu q
  cases x <;> first | exact (show False from q).elim | skip
  · exact sl_str pins s σ H _ v vl vu lo hi sl Q I rx hs pl pu ⟨_, rfl, q.1, q.2⟩
  · rcases q with q | q
    · exact sl_list pins s σ H _ v vl vu lo hi sl Q I rx hs pl pu q
    · exact sl_tupA pins s σ H _ v vl vu lo hi sl Q I rx hs pl pu q
/-! calls of built-ins -/
abbrev RC : Type := List V → Hp → VK → Prop
def uLen (K : PySem.W.Frag) : RC := fun xs H Q => match xs with
  | [.str z] => z.length ≤ sizeLine ∧ Q (.int (z.length : Int)) H
  | [.ref a] => ∃ ys, (SqL K H a ys ∨ SqT K H a ys) ∧ Q (.int (ys.length : Int)) H
  | _ => False
theorem c_len : CallR X (.builtin "len") (uLen X.K) := by
  intro pins s σ H xs us Q I r h
  unfold uLen at h
  split at h
  · exact call_len_str pins s σ H _ us Q I r ⟨_, rfl, h.1, h.2⟩
  · obtain ⟨ys, h1, q⟩ := h
    exact call_len_seq pins s σ H _ us Q I r ⟨_, ys, rfl, h1, q⟩
  · exact h.elim
def uAbs : RC := fun xs H Q => match xs with
  | [.int i] => Q (.int (i.natAbs : Int)) H
  | _ => False
theorem abs_ite (i : Int) : (if i < 0 then -i else i) = (i.natAbs : Int) := by split <;> omega
theorem c_abs : CallR X (.builtin "abs") uAbs := by
  intro pins s σ H xs us Q I r h
  unfold uAbs at h
  split at h
  · exact call_abs pins s σ H _ us Q I r ⟨_, rfl, by rw [abs_ite]; exact h⟩
  · exact h.elim
def uInt : RC := fun xs H Q => match xs with
  | [.int i] => Q (.int i) H
  | [.bl k] => Q (.int (if k then 1 else 0)) H
  | [.str a] => a.length ≤ 640 ∧ ∃ n, PySem.intText? a = some n ∧ Q (.int n) H
  | _ => False
theorem c_int : CallR X (.type "int") uInt := by
  intro pins s σ H xs us Q I r h
  unfold uInt at h
  split at h
  · exact call_int1 pins s σ H _ us Q I r (.inl ⟨_, rfl, h⟩)
  · exact call_int1 pins s σ H _ us Q I r (.inr ⟨_, rfl, h⟩)
  · obtain ⟨h1, n, h2, q⟩ := h
    exact call_int_str pins s σ H _ us Q I r ⟨_, n, rfl, h2, h1, q⟩
  · exact h.elim
def uStr : RC := fun xs H Q => match xs with
  | [.int i] => i.natAbs.log2 < 1920 ∧ Q (.str (toString i)) H
  | _ => False
theorem c_str : CallR X (.type "str") uStr := by
  intro pins s σ H xs us Q I r h
  unfold uStr at h
  split at h
  · exact call_str_int pins s σ H _ us Q I r ⟨_, rfl, h.1, h.2⟩
  · exact h.elim
def uList (K : PySem.W.Frag) : RC := fun xs H Q => match xs with
  | [.ref p] => ∃ ys, (SqL K H p ys ∨ SqT K H p ys) ∧ ∀ l, H l = none → Q (.ref l) (upd H l (.lst ys))
  | _ => False
theorem c_list : CallR X (.type "list") (uList X.K) := by
  intro pins s σ H xs us Q I r h
  unfold uList at h
  split at h
  · obtain ⟨ys, h1, q⟩ := h
    exact call_list_of pins s σ H _ us Q I r ⟨_, ys, rfl, h1, q⟩
  · exact h.elim
def uTuple (K : PySem.W.Frag) : RC := fun xs H Q => match xs with
  | [.ref p] => ∃ ys, (SqL K H p ys ∧ ∀ l, H l = none → Q (.ref l) (upd H l (.tup ys))) ∨ (SqT K H p ys ∧ Q (.ref p) H)
  | _ => False
theorem c_tuple : CallR X (.type "tuple") (uTuple X.K) := by
  intro pins s σ H xs us Q I r h
  unfold uTuple at h
  split at h
  · obtain ⟨ys, h⟩ := h
    exact call_tuple_of pins s σ H _ us Q I r ⟨_, ys, rfl, h⟩
  · exact h.elim
def uAll (K : PySem.W.Frag) : RC := fun xs H Q => match xs with
  | [.ref a] => ∃ bs : List Bool, SqL K H a (bs.map V.bl) ∧ Q (.bl (bs.all id)) H
  | _ => False
theorem c_all (hc : X.calm = true) : CallR X (.builtin "all") (uAll X.K) := by
  intro pins s σ H xs us Q I r h
  unfold uAll at h
  split at h
  · obtain ⟨bs, h1, q⟩ := h
    exact cr_all hc pins s σ H _ us Q I r ⟨_, bs, rfl, h1, q⟩
  · exact h.elim
def uAny (K : PySem.W.Frag) : RC := fun xs H Q => match xs with
  | [.ref a] => ∃ bs : List Bool, SqL K H a (bs.map V.bl) ∧ Q (.bl (bs.any id)) H
  | _ => False
theorem c_any (hc : X.calm = true) : CallR X (.builtin "any") (uAny X.K) := by
  intro pins s σ H xs us Q I r h
  unfold uAny at h
  split at h
  · obtain ⟨bs, h1, q⟩ := h
    exact cr_any hc pins s σ H _ us Q I r ⟨_, bs, rfl, h1, q⟩
  · exact h.elim
def uSum (K : PySem.W.Frag) : RC := fun xs H Q => match xs with
  | [.ref a] => ∃ ns : List Int, SqL K H a (ns.map V.int) ∧ Q (.int ns.sum) H
  | _ => False
theorem c_sum (hc : X.calm = true) : CallR X (.builtin "sum") (uSum X.K) := by
  intro pins s σ H xs us Q I r h
  unfold uSum at h
  split at h
  · obtain ⟨bs, h1, q⟩ := h
    exact cr_sum hc pins s σ H _ us Q I r ⟨_, bs, rfl, h1, q⟩
  · exact h.elim
def uMax : RC := fun xs H Q => match xs with
  | [.int i, .int j] => Q (.int (max i j)) H
  | _ => False
theorem c_max (hc : X.calm = true) : CallR X (.builtin "max") uMax := by
  intro pins s σ H xs us Q I r h
  unfold uMax at h
  split at h
  · rename_i i j
    refine call_max2 hc pins s σ H _ us Q I r ⟨_, _, rfl, ?_⟩
    have e : (if j > i then j else i) = max i j := by
      rw [Int.max_def]; split <;> split <;> omega
    rw [e]; exact h
  · exact h.elim
def uMin : RC := fun xs H Q => match xs with
  | [.int i, .int j] => Q (.int (min i j)) H
  | _ => False
theorem c_min (hc : X.calm = true) : CallR X (.builtin "min") uMin := by
  intro pins s σ H xs us Q I r h
  unfold uMin at h
  split at h
  · rename_i i j
    refine call_min2 hc pins s σ H _ us Q I r ⟨_, _, rfl, ?_⟩
    have e : (if j < i then j else i) = min i j := by
      rw [Int.min_def]; split <;> split <;> omega
    rw [e]; exact h
  · exact h.elim
/-- isinstance(x, T), T a built-in type: by the value's shape; an object's type is told -/
def tyName : V → Option String
  | .non => some "NoneType"
  | .bl _ => some "bool"
  | .int _ => some "int"
  | .str _ => some "str"
  | _ => none
def uIsi (K : PySem.W.Frag) : RC := fun xs H Q => match xs with
  | [x, .ty T] => ∃ t b, (match tyName x with | some n => t = n | none => TyX K H x (.type t)) ∧ kitB t T = some b ∧ Q (.bl b) H
  | [x, .ref C] => ∃ t b, TyX K H x t ∧ PySem.W.kitOne K t (.ref C) = some b ∧ Q (.bl b) H
  | _ => False
theorem c_isi : CallR X (.builtin "isinstance") (uIsi X.K) := by
  intro pins s σ H xs us Q I r h
  unfold uIsi at h
  split at h
  · rename_i x T
    obtain ⟨t, b, h1, h2, q⟩ := h
    have ty : TyX X.K H x (.type t) := by
      cases x with
      | non => have e : t = "NoneType" := h1; subst e; exact .base .non
      | bl b => have e : t = "bool" := h1; subst e; exact .base (.bl b)
      | int i => have e : t = "int" := h1; subst e; exact .base (.int i)
      | str z => have e : t = "str" := h1; subst e; exact .base (.str z)
      | _ => exact h1
    exact call_isi pins s σ H _ us Q I r ⟨x, _, _, _, b, rfl, .ty T, ty, kit_ty h2, q⟩
  · obtain ⟨t, b, h1, h2, q⟩ := h
    exact call_isi pins s σ H _ us Q I r ⟨_, _, t, _, b, rfl, .own _, h1, h2, q⟩
  · exact h.elim
/-! methods of built-in types -/
abbrev RM : Type := V → List V → Hp → VK → Prop
def uStarts : RM := fun x xs H Q => match x, xs with
  | .str a, [.str b] => Q (.bl (Txt.startswith a b)) H
  | _, _ => False
theorem m_starts : MtR X "str.startswith" uStarts := by
  intro pins s σ H x xs v us Q I rx rs h
  unfold uStarts at h
  split at h
  · exact mt_startswith pins s σ H _ _ v us Q I rx rs ⟨_, _, rfl, rfl, h⟩
  · exact h.elim
def uJoin (K : PySem.W.Frag) : RM := fun x xs H Q => match x, xs with
  | .str a, [.ref p] => ∃ ys : List Str, (SqL K H p (ys.map V.str) ∨ SqT K H p (ys.map V.str)) ∧ (ys.map (·.length)).sum + ys.length * a.length ≤ 16777216 ∧ Q (.str (Txt.join a ys)) H
  | _, _ => False
theorem m_join : MtR X "str.join" (uJoin X.K) := by
  intro pins s σ H x xs v us Q I rx rs h
  unfold uJoin at h
  split at h
  · obtain ⟨ys, h1, h2, q⟩ := h
    exact mt_join pins s σ H _ _ v us Q I rx rs ⟨_, _, ys, rfl, rfl, h1, h2, q⟩
  · exact h.elim
def uAppend : RM := fun x vs H Q => match x, vs with
  | .ref l, [y] => ∃ xs, H l = some (.lst xs) ∧ xs.length < sizeLine ∧ Q .non (upd H l (.lst (xs ++ [y])))
  | _, _ => False
theorem m_append : MtM X "list.append" uAppend := by
  intro pins s σ H x xs v us Q I rx rs h
  unfold uAppend at h
  split at h
  · obtain ⟨ys, h1, h2, q⟩ := h
    exact mt_append pins s σ H _ _ v us Q I rx rs ⟨_, ys, _, rfl, rfl, h1, h2, q⟩
  · exact h.elim
end
end U
/-! R: the steps of a reading (each a row that holds by what its left side means). -/
namespace U
open PySem PySem.Spec L2
section
variable {σ : St} {H : Hp} {Q : VK} {D : Ends} {v x y : V} {ta tb tc te tv : TE} {K : PySem.W.Frag} {t u : TT} {QB : Bool → Hp → Prop}
theorem szl {n : Nat} (h : n ≤ 16777216) : n ≤ sizeLine := by rw [sizeLine_eq]; exact h
theorem szt {n : Nat} (h : n < 16777216) : n < sizeLine := by rw [sizeLine_eq]; exact h
/-! statements -/
theorem r_seq {s1 s2 : TS} (h : s1 { D with nx := s2 D } σ H) : tSeq s1 s2 D σ H := h
theorem r_next (h : D.nx σ H) : tNext D σ H := h
theorem r_brk (h : D.bk σ H) : tBreak D σ H := h
theorem r_cont (h : D.ct σ H) : tCont D σ H := h
theorem r_drop (h : te σ H fun _ H1 => D.nx σ H1) : tDrop te D σ H := h
theorem r_ret (h : te σ H D.rt) : tRet te D σ H := h
theorem r_retN (h : D.rt .non H) : tRetN D σ H := h
theorem r_ifS {c : TT} {s1 s2 : TS} (h : c σ H fun b H1 => if b = true then s1 D σ H1 else s2 D σ H1) : tIfS c s1 s2 D σ H := h
theorem r_asg {g : TG} (h : te σ H fun x H1 => g x σ H1 D.nx) : tAsg te g D σ H := h
theorem r_gname {i : Nat} {R : St → Hp → Prop} (h : R (σ.set i (some v)) H) : gName i v σ H R := h
theorem r_aug {i : Nat} {ti : TIp} (hx : σ[i]? = some (some x)) (h : te σ H fun y H1 => ti x y H1 fun z H2 => D.nx (σ.set i (some z)) H2) : tAug i te ti D σ H := ⟨x, hx, h⟩
theorem r_nx {a : St → Hp → Prop} {b : VK} {c d : St → Hp → Prop} (h : a σ H) : (Ends.mk a b c d).nx σ H := h
theorem r_rt {a : St → Hp → Prop} {b : VK} {c d : St → Hp → Prop} (h : b v H) : (Ends.mk a b c d).rt v H := h
/-! expressions -/
theorem r_var {i : Nat} (hx : σ[i]? = some (some v)) (h : Q v H) : tVar i σ H Q := ⟨v, hx, h⟩
theorem r_c (h : Q v H) : tC v σ H Q := h
theorem r_op {r : R2} (h : ta σ H fun x H1 => tb σ H1 fun y H2 => r x y H2 Q) : tOp r ta tb σ H Q := h
theorem r_un {r : V → Hp → VK → Prop} (h : ta σ H fun x H1 => r x H1 Q) : tUn r ta σ H Q := h
theorem r_cons {tr : TA} {QA : List V → Hp → Prop} (h : ta σ H fun x H1 => tr σ H1 fun xs H2 => QA (x :: xs) H2) : tCons ta tr σ H QA := h
theorem r_nil {QA : List V → Hp → Prop} (h : QA [] H) : tNil σ H QA := h
theorem r_cb {r : RC} {t : TA} (h : t σ H fun vs H1 => r vs H1 Q) : tCB r t σ H Q := h
theorem r_bm {T : String} {r : RM} {t : TA} (h : ta σ H fun x H1 => tyV K T x H1 ∧ t σ H1 fun xs H2 => r x xs H2 Q) : tBM K T r ta t σ H Q := h
theorem r_bm0 {T : String} {r : RM} (h : ta σ H fun x H1 => tyV K T x H1 ∧ r x [] H1 Q) : tBM0 K T r ta σ H Q := h
theorem r_sl {r : V → Option Int → Option Int → Hp → VK → Prop} {tl th : TO} (h : te σ H fun x H1 => tl σ H1 fun l H2 => th σ H2 fun u H3 => r x l u H3 Q) : tSl r te tl th σ H Q := h
theorem r_nop {QO : Option Int → Hp → Prop} (h : QO none H) : tNoPart σ H QO := h
theorem r_part {QO : Option Int → Hp → Prop} (h : te σ H fun x H1 => ∃ i, x = .int i ∧ QO (some i) H1) : tPart te σ H QO := h
theorem r_partI {i : Int} {P : Int → Prop} (h : P i) : ∃ j, V.int i = .int j ∧ P j := ⟨i, rfl, h⟩
theorem r_tup {ta : TA} (h : ta σ H fun xs H1 => xs.length ≤ sizeLine ∧ ∀ p, H1 p = none → Q (.ref p) (upd H1 p (.tup xs))) : tTup ta σ H Q := h
theorem r_lst {ta : TA} (h : ta σ H fun xs H1 => xs.length ≤ sizeLine ∧ ∀ p, H1 p = none → Q (.ref p) (upd H1 p (.lst xs))) : tLst ta σ H Q := h
theorem r_if {c : TT} (h : c σ H fun b H1 => if b = true then ta σ H1 Q else tb σ H1 Q) : tIf c ta tb σ H Q := h
theorem r_call {sp : Sp} {E : XK} {t : TA} (h : t σ H fun vs H1 => sp vs H1 Q E) : tCall sp [] E t σ H Q := by
  have e : (fun vs H1 => sp (vs ++ []) H1 Q E) = fun vs H1 => sp vs H1 Q E := by
    funext vs H1
    rw [List.append_nil]
  show t σ H fun vs H1 => sp (vs ++ []) H1 Q E
  rw [e]
  exact h
theorem r_andV (h : ta σ H fun x H1 => ∃ c, x = .bl c ∧ if c = true then tb σ H1 Q else Q (.bl false) H1) : tAndV ta tb σ H Q := h
theorem r_orV (h : ta σ H fun x H1 => ∃ c, x = .bl c ∧ if c = true then Q (.bl true) H1 else tb σ H1 Q) : tOrV ta tb σ H Q := h
theorem r_notV (h : ta σ H fun x H1 => ∃ c, x = .bl c ∧ Q (.bl (!c)) H1) : tNotV ta σ H Q := h
theorem r_bl {c : Bool} {P : Bool → Prop} (h : P c) : ∃ k, V.bl c = .bl k ∧ P k := ⟨c, rfl, h⟩
theorem r_chain {r r' : R2} (h : ta σ H fun x H1 => tb σ H1 fun y H2 => r x y H2 fun z H3 => ∃ k, z = .bl k ∧ (if k = true then tc σ H3 fun w' H4 => r' y w' H4 Q else Q (.bl false) H3)) : tChain r r' ta tb tc σ H Q := h
/-! tests -/
theorem r_test (h : te σ H fun x H' => ∃ k, x = .bl k ∧ QB k H') : tTest te σ H QB := h
theorem r_tb (h : te σ H fun x H' => ∃ k, x = .bl k ∧ QB k H') : tB te σ H QB := h
theorem r_and (h : t σ H fun c H1 => if c = true then u σ H1 QB else QB false H1) : tAnd t u σ H QB := h
theorem r_or (h : t σ H fun c H1 => if c = true then QB true H1 else u σ H1 QB) : tOr t u σ H QB := h
theorem r_not (h : t σ H fun c H1 => QB (!c) H1) : tNot t σ H QB := h
/-! truth of a value -/
def uTru (K : PySem.W.Frag) (te : TE) : TT := fun σ H Q => te σ H fun x H' => ∃ k, TruV K x H' k ∧ Q k H'
theorem pt_tru {X : Cx} {a : Expr} {ta : TE} (ha : PE X a ta) (he : ∀ whole, isTrue a X.env whole = (do let v ← whole; standAt a.pos; holding [v] (truthy v)) := by intro _; rfl) : PT X a (uTru X.K ta) := pt_truth ha he
theorem r_tru (h : te σ H fun x H' => ∃ k, TruV K x H' k ∧ QB k H') : uTru K te σ H QB := h
theorem r_truBl {c : Bool} {P : Bool → Prop} (h : P c) : ∃ k, TruV K (.bl c) H k ∧ P k := ⟨c, rfl, h⟩
theorem r_truInt {i : Int} {P : Bool → Prop} (h : P (decide (i ≠ 0))) : ∃ k, TruV K (.int i) H k ∧ P k := ⟨_, by simp [TruV, bne, Bool.beq_eq_decide_eq], h⟩
theorem r_truNon {P : Bool → Prop} (h : P false) : ∃ k, TruV K .non H k ∧ P k := ⟨_, rfl, h⟩
/-! operators -/
variable {i j : Int} {a b : Str}
theorem r_addI (h : Q (.int (i + j)) H) : uAdd K (.int i) (.int j) H Q := h
theorem r_addS (hl : a.length + b.length ≤ sizeLine) (h : Q (.str (a ++ b)) H) : uAdd K (.str a) (.str b) H Q := ⟨hl, h⟩
theorem r_sub (h : Q (.int (i - j)) H) : uSub (.int i) (.int j) H Q := h
theorem r_mul (hc : CMul i j ∨ CMulW i j) (h : Q (.int (i * j)) H) : uMul (.int i) (.int j) H Q := ⟨hc, h⟩
theorem r_fdiv (hc : CDivW i j) (h : Q (.int (i / j)) H) : uFdiv (.int i) (.int j) H Q := ⟨hc, h⟩
theorem r_mod (hc : 0 < j) (h : Q (.int (i % j)) H) : uMod (.int i) (.int j) H Q := ⟨hc, h⟩
theorem r_neg (h : Q (.int (-i)) H) : uNeg (.int i) H Q := h
theorem r_cmpI {p : Int → Int → Bool} (h : Q (.bl (p i j)) H) : uCmpI p (.int i) (.int j) H Q := h
theorem dec_int : decide (V.int i = .int j) = decide (i = j) := by simp
theorem dec_str : decide (V.str a = .str b) = decide (a = b) := by simp
theorem dec_bl {c d : Bool} : decide (V.bl c = .bl d) = decide (c = d) := by simp
theorem r_eqI (h : Q (.bl (decide (i = j))) H) : uEq K (.int i) (.int j) H Q := ⟨rfl, by rw [dec_int]; exact h⟩
theorem r_eqS (h : Q (.bl (decide (a = b))) H) : uEq K (.str a) (.str b) H Q := ⟨rfl, by rw [dec_str]; exact h⟩
theorem r_eqB {c d : Bool} (h : Q (.bl (decide (c = d))) H) : uEq K (.bl c) (.bl d) H Q := ⟨rfl, by rw [dec_bl]; exact h⟩
theorem r_neI (h : Q (.bl (!decide (i = j))) H) : uNe K (.int i) (.int j) H Q := ⟨rfl, by rw [dec_int]; exact h⟩
theorem r_neS (h : Q (.bl (!decide (a = b))) H) : uNe K (.str a) (.str b) H Q := ⟨rfl, by rw [dec_str]; exact h⟩
theorem r_neB {c d : Bool} (h : Q (.bl (!decide (c = d))) H) : uNe K (.bl c) (.bl d) H Q := ⟨rfl, by rw [dec_bl]; exact h⟩
theorem r_isNN (h : Q (.bl true) H) : uIsN id .non .non H Q := h
theorem r_isNI (h : Q (.bl false) H) : uIsN id (.int i) .non H Q := h
theorem r_isNB {c : Bool} (h : Q (.bl false) H) : uIsN id (.bl c) .non H Q := h
theorem r_isNS (h : Q (.bl false) H) : uIsN id (.str a) .non H Q := h
theorem r_isNR {p : Addr} (h : Q (.bl false) H) : uIsN id (.ref p) .non H Q := h
theorem r_notNN (h : Q (.bl false) H) : uIsN not .non .non H Q := h
theorem r_notNI (h : Q (.bl true) H) : uIsN not (.int i) .non H Q := h
theorem r_notNB {c : Bool} (h : Q (.bl true) H) : uIsN not (.bl c) .non H Q := h
theorem r_notNS (h : Q (.bl true) H) : uIsN not (.str a) .non H Q := h
theorem r_notNR {p : Addr} (h : Q (.bl true) H) : uIsN not (.ref p) .non H Q := h
theorem r_inC {c : Nat} (h : Q (.bl (decide (c ∈ a.cps.toList))) H) : uIn K id (.str ⟨#[c]⟩) (.str a) H Q := ⟨c, rfl, h⟩
theorem r_notInC {c : Nat} (h : Q (.bl (!decide (c ∈ a.cps.toList))) H) : uIn K not (.str ⟨#[c]⟩) (.str a) H Q := ⟨c, rfl, h⟩
theorem r_mulS {k : Int} (h1 : a.length * k.toNat ≤ 1000000) (h2 : k ≤ 1000000) (h3 : -(2 ^ 63) ≤ k) (h : Q (.str (Txt.mul a k)) H) : uMul (.str a) (.int k) H Q := ⟨h1, h2, h3, h⟩
theorem r_ixS {c : Nat} (h1 : a.length ≤ sizeLine) (h2 : atI a.cps.toList i = some c) (h : Q (.str ⟨#[c]⟩) H) : uIx K (.str a) (.int i) H Q := ⟨c, h1, h2, h⟩
theorem r_ixL {p : Addr} {xs : List V} (h1 : SqL K H p xs) (h2 : atI xs i = some v) (h : Q v H) : uIx K (.ref p) (.int i) H Q := ⟨xs, v, .inl h1, h2, h⟩
theorem r_ixT {p : Addr} {xs : List V} (h1 : SqT K H p xs) (h2 : atI xs i = some v) (h : Q v H) : uIx K (.ref p) (.int i) H Q := ⟨xs, v, .inr h1, h2, h⟩
theorem r_slS {lo hi : Option Int} (hl : a.length ≤ sizeLine) (h : Q (.str (cutS a lo hi)) H) : uSl K (.str a) lo hi H Q := ⟨hl, h⟩
theorem r_lenL {p : Addr} {xs : List V} (h1 : SqL K H p xs) (h : Q (.int (xs.length : Int)) H) : uLen K [.ref p] H Q := ⟨xs, .inl h1, h⟩
theorem r_lenT {p : Addr} {xs : List V} (h1 : SqT K H p xs) (h : Q (.int (xs.length : Int)) H) : uLen K [.ref p] H Q := ⟨xs, .inr h1, h⟩
theorem r_allL {p : Addr} {bs : List Bool} (h1 : SqL K H p (bs.map V.bl)) (h : Q (.bl (bs.all id)) H) : uAll K [.ref p] H Q := ⟨bs, h1, h⟩
theorem r_listL {p : Addr} {xs : List V} (h1 : SqL K H p xs) (h : ∀ l, H l = none → Q (.ref l) (upd H l (.lst xs))) : uList K [.ref p] H Q := ⟨xs, .inl h1, h⟩
theorem r_listT {p : Addr} {xs : List V} (h1 : SqT K H p xs) (h : ∀ l, H l = none → Q (.ref l) (upd H l (.lst xs))) : uList K [.ref p] H Q := ⟨xs, .inr h1, h⟩
theorem r_tupleL {p : Addr} {xs : List V} (h1 : SqL K H p xs) (h : ∀ l, H l = none → Q (.ref l) (upd H l (.tup xs))) : uTuple K [.ref p] H Q := ⟨xs, .inl ⟨h1, h⟩⟩
theorem r_append {p : Addr} {xs : List V} (h1 : H p = some (.lst xs)) (h2 : xs.length < sizeLine) (h : Q .non (upd H p (.lst (xs ++ [v])))) : uAppend (.ref p) [v] H Q := ⟨xs, h1, h2, h⟩
theorem r_tyStr {A : Prop} (h : A) : tyV K "str" (.str a) H ∧ A := ⟨rfl, h⟩
theorem r_tyLst {p : Addr} {xs : List V} {A : Prop} (h1 : H p = some (.lst xs)) (h : A) : tyV K "list" (.ref p) H ∧ A := ⟨.inl ⟨rfl, _, SqL.of h1⟩, h⟩
theorem r_lenS (hl : a.length ≤ sizeLine) (h : Q (.int (a.length : Int)) H) : uLen K [.str a] H Q := ⟨hl, h⟩
theorem r_abs (h : Q (.int (i.natAbs : Int)) H) : uAbs [.int i] H Q := h
theorem r_intI (h : Q (.int i) H) : uInt [.int i] H Q := h
theorem r_intB {c : Bool} (h : Q (.int (if c then 1 else 0)) H) : uInt [.bl c] H Q := h
theorem r_strI (hl : i.natAbs.log2 < 1920) (h : Q (.str (toString i)) H) : uStr [.int i] H Q := ⟨hl, h⟩
theorem r_maxI (h : Q (.int (max i j)) H) : uMax [.int i, .int j] H Q := h
theorem r_minI (h : Q (.int (min i j)) H) : uMin [.int i, .int j] H Q := h
theorem r_starts (h : Q (.bl (Txt.startswith a b)) H) : uStarts (.str a) [.str b] H Q := h
theorem r_iI_int (h : Q (.bl true) H) : uIsi K [(.int i), .ty "int"] H Q := ⟨"int", true, rfl, by decide +kernel, h⟩
theorem r_iI_bool (h : Q (.bl false) H) : uIsi K [(.int i), .ty "bool"] H Q := ⟨"int", false, rfl, by decide +kernel, h⟩
theorem r_iI_str (h : Q (.bl false) H) : uIsi K [(.int i), .ty "str"] H Q := ⟨"int", false, rfl, by decide +kernel, h⟩
theorem r_iI_tuple (h : Q (.bl false) H) : uIsi K [(.int i), .ty "tuple"] H Q := ⟨"int", false, rfl, by decide +kernel, h⟩
theorem r_iI_list (h : Q (.bl false) H) : uIsi K [(.int i), .ty "list"] H Q := ⟨"int", false, rfl, by decide +kernel, h⟩
theorem r_iB_int {d : Bool} (h : Q (.bl true) H) : uIsi K [(.bl d), .ty "int"] H Q := ⟨"bool", true, rfl, by decide +kernel, h⟩
theorem r_iB_bool {d : Bool} (h : Q (.bl true) H) : uIsi K [(.bl d), .ty "bool"] H Q := ⟨"bool", true, rfl, by decide +kernel, h⟩
theorem r_iB_str {d : Bool} (h : Q (.bl false) H) : uIsi K [(.bl d), .ty "str"] H Q := ⟨"bool", false, rfl, by decide +kernel, h⟩
theorem r_iB_tuple {d : Bool} (h : Q (.bl false) H) : uIsi K [(.bl d), .ty "tuple"] H Q := ⟨"bool", false, rfl, by decide +kernel, h⟩
theorem r_iB_list {d : Bool} (h : Q (.bl false) H) : uIsi K [(.bl d), .ty "list"] H Q := ⟨"bool", false, rfl, by decide +kernel, h⟩
theorem r_iS_int (h : Q (.bl false) H) : uIsi K [(.str a), .ty "int"] H Q := ⟨"str", false, rfl, by decide +kernel, h⟩
theorem r_iS_bool (h : Q (.bl false) H) : uIsi K [(.str a), .ty "bool"] H Q := ⟨"str", false, rfl, by decide +kernel, h⟩
theorem r_iS_str (h : Q (.bl true) H) : uIsi K [(.str a), .ty "str"] H Q := ⟨"str", true, rfl, by decide +kernel, h⟩
theorem r_iS_tuple (h : Q (.bl false) H) : uIsi K [(.str a), .ty "tuple"] H Q := ⟨"str", false, rfl, by decide +kernel, h⟩
theorem r_iS_list (h : Q (.bl false) H) : uIsi K [(.str a), .ty "list"] H Q := ⟨"str", false, rfl, by decide +kernel, h⟩
theorem r_iN_int (h : Q (.bl false) H) : uIsi K [.non, .ty "int"] H Q := ⟨"NoneType", false, rfl, by decide +kernel, h⟩
theorem r_iN_bool (h : Q (.bl false) H) : uIsi K [.non, .ty "bool"] H Q := ⟨"NoneType", false, rfl, by decide +kernel, h⟩
theorem r_iN_str (h : Q (.bl false) H) : uIsi K [.non, .ty "str"] H Q := ⟨"NoneType", false, rfl, by decide +kernel, h⟩
theorem r_iN_tuple (h : Q (.bl false) H) : uIsi K [.non, .ty "tuple"] H Q := ⟨"NoneType", false, rfl, by decide +kernel, h⟩
theorem r_iN_list (h : Q (.bl false) H) : uIsi K [.non, .ty "list"] H Q := ⟨"NoneType", false, rfl, by decide +kernel, h⟩
theorem r_iT_int {p : Addr} {xs : List V} (hp : H p = some (.tup xs)) (h : Q (.bl false) H) : uIsi K [.ref p, .ty "int"] H Q := ⟨"tuple", false, .base (.tup hp), by decide +kernel, h⟩
theorem r_iL_int {p : Addr} {xs : List V} (hp : H p = some (.lst xs)) (h : Q (.bl false) H) : uIsi K [.ref p, .ty "int"] H Q := ⟨"list", false, .base (.lst hp), by decide +kernel, h⟩
theorem r_iT_bool {p : Addr} {xs : List V} (hp : H p = some (.tup xs)) (h : Q (.bl false) H) : uIsi K [.ref p, .ty "bool"] H Q := ⟨"tuple", false, .base (.tup hp), by decide +kernel, h⟩
theorem r_iL_bool {p : Addr} {xs : List V} (hp : H p = some (.lst xs)) (h : Q (.bl false) H) : uIsi K [.ref p, .ty "bool"] H Q := ⟨"list", false, .base (.lst hp), by decide +kernel, h⟩
theorem r_iT_str {p : Addr} {xs : List V} (hp : H p = some (.tup xs)) (h : Q (.bl false) H) : uIsi K [.ref p, .ty "str"] H Q := ⟨"tuple", false, .base (.tup hp), by decide +kernel, h⟩
theorem r_iL_str {p : Addr} {xs : List V} (hp : H p = some (.lst xs)) (h : Q (.bl false) H) : uIsi K [.ref p, .ty "str"] H Q := ⟨"list", false, .base (.lst hp), by decide +kernel, h⟩
theorem r_iT_tuple {p : Addr} {xs : List V} (hp : H p = some (.tup xs)) (h : Q (.bl true) H) : uIsi K [.ref p, .ty "tuple"] H Q := ⟨"tuple", true, .base (.tup hp), by decide +kernel, h⟩
theorem r_iL_tuple {p : Addr} {xs : List V} (hp : H p = some (.lst xs)) (h : Q (.bl false) H) : uIsi K [.ref p, .ty "tuple"] H Q := ⟨"list", false, .base (.lst hp), by decide +kernel, h⟩
theorem r_iT_list {p : Addr} {xs : List V} (hp : H p = some (.tup xs)) (h : Q (.bl false) H) : uIsi K [.ref p, .ty "list"] H Q := ⟨"tuple", false, .base (.tup hp), by decide +kernel, h⟩
theorem r_iL_list {p : Addr} {xs : List V} (hp : H p = some (.lst xs)) (h : Q (.bl true) H) : uIsi K [.ref p, .ty "list"] H Q := ⟨"list", true, .base (.lst hp), by decide +kernel, h⟩
/-! branches -/
theorem br_t {A B : Prop} (h : A) : if true = true then A else B := by rw [if_pos rfl]; exact h
theorem br_f {A B : Prop} (h : B) : if false = true then A else B := by rw [if_neg Bool.false_ne_true]; exact h
theorem br {c : Bool} {A B : Prop} (h1 : c = true → A) (h2 : c = false → B) : if c = true then A else B := by
  cases c with
  | true => exact br_t (h1 rfl)
  | false => exact br_f (h2 rfl)
theorem br_y {p : Prop} [Decidable p] {A B : Prop} (hp : p) (h : A) : if decide p = true then A else B := by rw [decide_eq_true hp]; exact br_t h
theorem br_n {p : Prop} [Decidable p] {A B : Prop} (hp : ¬ p) (h : B) : if decide p = true then A else B := by rw [decide_eq_false hp]; exact br_f h
theorem br_ny {p : Prop} [Decidable p] {A B : Prop} (hp : p) (h : B) : if (!decide p) = true then A else B := by rw [decide_eq_true hp]; exact br_f h
theorem br_nn {p : Prop} [Decidable p] {A B : Prop} (hp : ¬ p) (h : A) : if (!decide p) = true then A else B := by rw [decide_eq_false hp]; exact br_t h
theorem br_nt {A B : Prop} (h : B) : if (!true) = true then A else B := br_f h
theorem br_nf {A B : Prop} (h : A) : if (!false) = true then A else B := br_t h
/-- a bool by its two ways (an open test) -/
theorem br_d {p : Prop} [Decidable p] {A B : Prop} (h1 : p → A) (h2 : ¬ p → B) : if decide p = true then A else B := by
  by_cases h : p
  · rw [decide_eq_true h]; exact br_t (h1 h)
  · rw [decide_eq_false h]; exact br_f (h2 h)
theorem br_nd {p : Prop} [Decidable p] {A B : Prop} (h1 : ¬ p → A) (h2 : p → B) : if (!decide p) = true then A else B := by
  by_cases h : p
  · rw [decide_eq_true h]; exact br_f (h2 h)
  · rw [decide_eq_false h]; exact br_t (h1 h)
end
end U
/-! U2: a def taken by name; constants; stores; loops and comprehensions over what yields one thing after another. -/
namespace U
open PySem PySem.Spec L2
section
variable {X : Cx} {x : Str} {p pos : Pos} {e : Expr} {es : List Expr} {t : TA}
/-- a def of the module's, by its name: where it stands, that it keeps its promise -/
structure OkF (P : Program) (w : World) (K : PySem.W.Frag) (mg : Str → Option Value) (base : Heap) (k : Nat) (x : Str) (ps : List Str) (sp : Sp) : Prop where
  ex : ∃ (f : Addr) (fd : FuncData), mg x = some (.ref f) ∧ FnOk P w K mg base CX0 k f fd ps sp ∧ Binds K fd ps [] ∧ PySem.W.keepIn K (.ref f) = true
theorem pe_fn {k : Nat} {ps : List Str} {sp : Sp} (O : OkF X.prog X.w X.K X.mg X.base k x ps sp) (hr : Room k X.A) (hg : Gl X x) (ha : PA X (e :: es) t) (hdb : (x == ("__debug__" : Str)) = false := by decide)
    (he : starEach (e :: es) X.env = (false, eval e X.env) :: starEach es X.env := by rfl) (hpl : (backTo pos (starEach es X.env)).any (·.1) = false := by rfl) : PE X (.Call (.Name x p) (e :: es) [] pos) (tCall sp [] E0 t) := by
  obtain ⟨f, fd, hm, F, hb, hk⟩ := O.ex
  exact pe_call F hr hg hm hk hb .nil pass0 ha hdb he hpl
theorem pe_fn0 {k : Nat} {ps : List Str} {sp : Sp} (O : OkF X.prog X.w X.K X.mg X.base k x ps sp) (hr : Room k X.A) (hg : Gl X x) (hdb : (x == ("__debug__" : Str)) = false := by decide) : PE X (.Call (.Name x p) [] [] pos) (tCall sp [] E0 tNil) := by
  obtain ⟨f, fd, hm, F, hb, hk⟩ := O.ex
  exact pe_call0 F hr hg hm hk hb .nil pass0 hdb
theorem pe_gint {i : Int} (hg : Gl X x) (h : ∃ t, X.mg x = some (.int i t)) (hd : (x == ("__debug__" : Str)) = false := by decide) : PE X (.Name x pos) (tC (.int i)) := by
  obtain ⟨t, h⟩ := h
  exact pe_glob hg h ⟨_, rfl⟩ hd
theorem pe_gstr {z : Str} (hg : Gl X x) (h : ∃ t, X.mg x = some (.str z t)) (hd : (x == ("__debug__" : Str)) = false := by decide) : PE X (.Name x pos) (tC (.str z)) := by
  obtain ⟨t, h⟩ := h
  exact pe_glob hg h ⟨_, rfl⟩ hd
theorem pe_gref {a : Addr} (hg : Gl X x) (h : X.mg x = some (.ref a)) (hd : (x == ("__debug__" : Str)) = false := by decide) : PE X (.Name x pos) (tC (.ref a)) := pe_glob hg h rfl hd
theorem pe_ty {T : String} (hg : Gl X x) (hm : X.mg x = none) (hv : bootBuiltins x = some (.type T)) (hn : x ≠ "__name__" := by decide) (hd : (x == ("__debug__" : Str)) = false := by decide) : PE X (.Name x pos) (tC (.ty T)) := pe_bltn hg hm hv rfl hn hd
/-- a block: what holds between its first statement and the rest -/
def tSq (t u : TS) : TS := fun D σ H => ∃ M : St → Hp → Prop, t { D with nx := M } σ H ∧ ∀ σ' H', M σ' H' → u D σ' H'
theorem pss_c {st : Stmt} {rest : List Stmt} {t u : TS} (h1 : PS X st t) (h2 : PSs X rest u) : PSs X (st :: rest) (tSq t u) := by
  refine ⟨fun pins s σ H D I h => ?_⟩
  obtain ⟨M, hm, hu⟩ := h
  refine wpAny_execs_cons (thn (h1.run pins s σ H { D with nx := M } I hm) fun f s1 q => ?_)
  cases f with
  | next =>
    obtain ⟨σ', H', I', q⟩ := q
    exact h2.run pins s1 σ' H' D I' (hu σ' H' q)
  | ret v => exact q
  | brk => exact q
  | cont => exact q
/-- what is walked: a list, a tuple, a text -/
def uIt (K : PySem.W.Frag) (te : TE) : TI := fun σ H R => iList K te σ H R ∨ iTup K te σ H R ∨ iStr te σ H R
theorem pi_any {tg : Expr} {te : TE} (he : PE X e te) : PI X tg e (uIt X.K te) := ⟨fun pins s σ H R I h => by
  rcases h with h | h | h
  · exact (pi_list he).run pins s σ H R I h
  · exact (pi_tup he).run pins s σ H R I h
  · exact (pi_str he).run pins s σ H R I h⟩
/-! stores -/
def uGetL (K : PySem.W.Frag) (o i : V) (H : Hp) (Q : VK) : Prop := match o, i with
  | .ref a, .int k => ∃ xs v, SqL K H a xs ∧ 0 ≤ k ∧ xs[k.toNat]? = some v ∧ Q v H
  | _, _ => False
theorem g_list : PGet X (uGetL X.K) := by
  intro pins s σ H o i ov iv Q I r1 r2 h
  cases o <;> cases i <;> first | exact (show False from h).elim | skip
  obtain ⟨xs, v, h1, h2, h3, q⟩ := h
  cases r1
  obtain ⟨t, rfl⟩ := r2
  obtain ⟨its, r, pl, hz⟩ := I.list h1
  obtain ⟨w, ew, rw'⟩ := r.get h3
  have hl := line63
  have hj := (List.getElem?_eq_some_iff.mp h3).1
  exact wpAny_getItem_list pl.isList h2 (by omega) (by simpa using ew) ⟨v, H, I, rw', q⟩
def uSetL (o i v : V) (H : Hp) (Q : Hp → Prop) : Prop := match o, i with
  | .ref a, .int k => ∃ xs j, H a = some (.lst xs) ∧ ixN xs.length k = some j ∧ Q (upd H a (.lst (xs.set j v)))
  | _, _ => False
theorem p_list : PSet X uSetL := by
  intro pins s σ H o i v ov iv u Q I r1 r2 r3 h
  cases o <;> cases i <;> first | exact (show False from h).elim | skip
  obtain ⟨xs, j, h1, h2, q⟩ := h
  exact set_list pins s σ H _ _ v ov iv u Q I r1 r2 r3 ⟨_, xs, _, j, rfl, rfl, h1, h2, q⟩
def uIpI (f : Int → Int → Int) (x y : V) (H : Hp) (Q : VK) : Prop := match x, y with
  | .int i, .int j => Q (.int (f i j)) H
  | _, _ => False
theorem a_add : PIp X .Add (uIpI fun i j => i + j) := by
  intro pins s σ H x y v u Q I r1 r2 h
  cases x <;> cases y <;> first | exact (show False from h).elim | skip
  exact ip_add pins s σ H _ _ v u Q I r1 r2 ⟨_, _, rfl, rfl, h⟩
theorem a_sub : PIp X .Sub (uIpI fun i j => i - j) := by
  intro pins s σ H x y v u Q I r1 r2 h
  cases x <;> cases y <;> first | exact (show False from h).elim | skip
  exact ip_sub pins s σ H _ _ v u Q I r1 r2 ⟨_, _, rfl, rfl, h⟩
end
section
variable {σ : St} {H : Hp} {Q : VK} {D : Ends} {K : PySem.W.Frag} {i j : Int}
theorem r_sq {t u : TS} (h : t { D with nx := u D } σ H) : tSq t u D σ H := ⟨u D, h, fun _ _ x => x⟩
theorem r_cut {t u : TS} (M : St → Hp → Prop) (h : t { D with nx := M } σ H) (k : ∀ σ' H', M σ' H' → u D σ' H') : tSq t u D σ H := ⟨M, h, k⟩
theorem r_sqA {te : TE} {g : TG} {u : TS} (h : te σ H fun x H1 => g x σ H1 (u D)) : tSq (tAsg te g) u D σ H := r_sq h
theorem r_sqD {te : TE} {u : TS} (h : te σ H fun _ H1 => u D σ H1) : tSq (tDrop te) u D σ H := r_sq h
theorem r_sqG {x : V} {i : Nat} {te : TE} {ti : TIp} {u : TS} (hx : σ[i]? = some (some x)) (h : te σ H fun y H1 => ti x y H1 fun z H2 => u D (σ.set i (some z)) H2) : tSq (tAug i te ti) u D σ H := r_sq ⟨x, hx, h⟩
theorem r_sqS {to ti te : TE} {tg : V → V → Hp → VK → Prop} {tp : TIp} {ts : TSet} {u : TS} (h : to σ H fun o H1 => ti σ H1 fun k H2 => tg o k H2 fun x H3 => te σ H3 fun y H4 => tp x y H4 fun z H5 => ts o k z H5 fun H6 => u D σ H6) : tSq (tAugS to ti te tg tp ts) u D σ H := r_sq h
theorem r_yes {QB : Bool → Hp → Prop} (h : QB true H) : tYes σ H QB := h
theorem same_new {p : Addr} {o : HO} (h : H p = none) : Same H (upd H p o) := fun b x e => by
  rw [upd_ne (ne_of_none e h)]
  exact e
theorem same_mut {H' : Hp} {p : Addr} {o : HO} (e : Same H H') (h : H p = none) : Same H (upd H' p o) := fun b x eb => by
  rw [upd_ne (ne_of_none eb h)]
  exact e b x eb
theorem r_sub3 {to ti : TE} {ts : TSet} {v : V} {R : St → Hp → Prop} (h : to σ H fun o H1 => ti σ H1 fun k H2 => ts o k v H2 fun H3 => R σ H3) : gSub to ti ts v σ H R := h
theorem r_augS {to ti te : TE} {tg : V → V → Hp → VK → Prop} {tp : TIp} {ts : TSet} (h : to σ H fun o H1 => ti σ H1 fun k H2 => tg o k H2 fun x H3 => te σ H3 fun y H4 => tp x y H4 fun z H5 => ts o k z H5 fun H6 => D.nx σ H6) : tAugS to ti te tg tp ts D σ H := h
theorem r_ipI {f : Int → Int → Int} (h : Q (.int (f i j)) H) : uIpI f (.int i) (.int j) H Q := h
theorem r_getL {a : Addr} {k : Int} {xs : List V} {v : V} (h1 : SqL K H a xs) (h2 : 0 ≤ k) (h3 : xs[k.toNat]? = some v) (h : Q v H) : uGetL K (.ref a) (.int k) H Q := ⟨xs, v, h1, h2, h3, h⟩
theorem r_setL {a : Addr} {k : Int} {xs : List V} {m : Nat} {v : V} {R : Hp → Prop} (h1 : H a = some (.lst xs)) (h2 : ixN xs.length k = some m) (h : R (upd H a (.lst (xs.set m v)))) : uSetL (.ref a) (.int k) v H R := ⟨xs, m, h1, h2, h⟩
/-! loops -/
/-- a loop over n things: P holds ahead of each turn -/
theorem l_for {J : It} {n : Nat} {g : TG} {tb : TS} (P : Nat → St → Hp → Prop) (h0 : P 0 σ H) (go : ∀ i σ H, i < n → P i σ H → J.go i H) (stop : ∀ σ H, P n σ H → J.stop n H)
    (step : ∀ i σ H, i < n → P i σ H → ∀ x H', J.yld i H x H' → g x σ H' fun σ2 H2 => tb { D with nx := P (i + 1), ct := P (i + 1), bk := D.nx } σ2 H2) (done : ∀ σ H, P n σ H → D.nx σ H) :
    ∃ W : Nat → Nat → St → Hp → Prop, (∃ m, W 0 m σ H) ∧ ∀ i m σ H, W i m σ H →
      (J.stop i H ∧ D.nx σ H) ∨ (J.go i H ∧ ∃ N : St → Hp → Prop, (∀ σ' H', N σ' H' → ∃ m', m' < m ∧ W (i + 1) m' σ' H') ∧ ∀ x H', J.yld i H x H' → g x σ H' fun σ2 H2 => tb { D with nx := N, ct := N, bk := D.nx } σ2 H2) := by
  refine ⟨fun i m σ H => m = n - i ∧ i ≤ n ∧ P i σ H, ⟨n, by simp, Nat.zero_le _, h0⟩, ?_⟩
  rintro i m σ H ⟨rfl, hi, p⟩
  by_cases hlt : i < n
  · exact .inr ⟨go i σ H hlt p, P (i + 1), fun σ' H' p' => ⟨n - (i + 1), by omega, rfl, hlt, p'⟩, fun x H' y => step i σ H hlt p x H' y⟩
  · have e : i = n := by omega
    subst e
    exact .inl ⟨stop σ H p, done σ H p⟩
theorem r_for {wi : TI} {g : TG} {tb : TS} (h : wi σ H fun J H1 => ∃ W : Nat → Nat → St → Hp → Prop, (∃ m, W 0 m σ H1) ∧ ∀ i m σ H, W i m σ H →
  (J.stop i H ∧ D.nx σ H) ∨ (J.go i H ∧ ∃ N : St → Hp → Prop, (∀ σ' H', N σ' H' → ∃ m', m' < m ∧ W (i + 1) m' σ' H') ∧ ∀ x H', J.yld i H x H' → g x σ H' fun σ2 H2 => tb { D with nx := N, ct := N, bk := D.nx } σ2 H2)) : tFor wi g tb D σ H := h
theorem it_list {te : TE} {R : It → Hp → Prop} (h : te σ H fun x H1 => ∃ a, x = .ref a ∧ (∃ xs, SqL K H1 a xs) ∧ R (Itl K a) H1) : uIt K te σ H R := .inl h
theorem it_tup {te : TE} {R : It → Hp → Prop} (h : te σ H fun x H1 => ∃ a, x = .ref a ∧ (∃ xs, SqT K H1 a xs) ∧ R (Itt K a) H1) : uIt K te σ H R := .inr (.inl h)
theorem it_str {te : TE} {R : It → Hp → Prop} (h : te σ H fun v H1 => ∃ x, v = .str x ∧ R (Its x) H1) : uIt K te σ H R := .inr (.inr h)
theorem r_rng1 {ta : TA} {R : It → Hp → Prop} (h : ta σ H fun vs H1 => ∃ j : Int, vs = [.int j] ∧ -(2 ^ 62) ≤ j ∧ j < 2 ^ 62 ∧ R (Itr 0 j.toNat) H1) : iRng1 ta σ H R := h
theorem r_rng1v {k : Int} {P : Int → Prop} (h : P k) : ∃ j : Int, [V.int k] = [V.int j] ∧ P j := ⟨k, rfl, h⟩
theorem r_rng2 {ta : TA} {R : It → Hp → Prop} (h : ta σ H fun vs H1 => ∃ i j : Int, vs = [.int i, .int j] ∧ (-(2 ^ 62) ≤ i ∧ i < 2 ^ 62 ∧ -(2 ^ 62) ≤ j ∧ j < 2 ^ 62) ∧ R (Itr i (j - i).toNat) H1) : iRng2 ta σ H R := h
theorem r_rng2v {a b : Int} {P : Int → Int → Prop} (h : P a b) : ∃ i j : Int, [V.int a, V.int b] = [V.int i, V.int j] ∧ P i j := ⟨a, b, rfl, h⟩
/-- over a range that is told by its number of turns -/
theorem f_range {lo : Int} {n : Nat} {g : TG} {tb : TS} (P : Nat → St → Hp → Prop) (h0 : P 0 σ H)
    (step : ∀ i σ H, i < n → P i σ H → g (.int (lo + i)) σ H fun σ2 H2 => tb { D with nx := P (i + 1), ct := P (i + 1), bk := D.nx } σ2 H2) (done : ∀ σ H, P n σ H → D.nx σ H) :
    ∃ W : Nat → Nat → St → Hp → Prop, (∃ m, W 0 m σ H) ∧ ∀ i m σ H, W i m σ H →
      ((Itr lo n).stop i H ∧ D.nx σ H) ∨ ((Itr lo n).go i H ∧ ∃ N : St → Hp → Prop, (∀ σ' H', N σ' H' → ∃ m', m' < m ∧ W (i + 1) m' σ' H') ∧ ∀ x H', (Itr lo n).yld i H x H' → g x σ H' fun σ2 H2 => tb { D with nx := N, ct := N, bk := D.nx } σ2 H2) :=
  l_for P h0 (fun i σ H h _ => h) (fun _ _ _ => Nat.le_refl _) (fun i σ H h p x H' y => by
    obtain ⟨e1, e2⟩ := y
    subst e1 e2
    exact step i σ H' h p) done
/-- over a text, sign by sign -/
theorem f_str {z : Str} {g : TG} {tb : TS} (P : Nat → St → Hp → Prop) (h0 : P 0 σ H)
    (step : ∀ i (c : Nat) σ H, z.cps.toList[i]? = some c → P i σ H → g (.str ⟨#[c]⟩) σ H fun σ2 H2 => tb { D with nx := P (i + 1), ct := P (i + 1), bk := D.nx } σ2 H2) (done : ∀ σ H, P z.cps.toList.length σ H → D.nx σ H) :
    ∃ W : Nat → Nat → St → Hp → Prop, (∃ m, W 0 m σ H) ∧ ∀ i m σ H, W i m σ H →
      ((Its z).stop i H ∧ D.nx σ H) ∨ ((Its z).go i H ∧ ∃ N : St → Hp → Prop, (∀ σ' H', N σ' H' → ∃ m', m' < m ∧ W (i + 1) m' σ' H') ∧ ∀ x H', (Its z).yld i H x H' → g x σ H' fun σ2 H2 => tb { D with nx := N, ct := N, bk := D.nx } σ2 H2) :=
  l_for P h0 (fun i σ H h _ => by show i < z.cps.size; simpa using h) (fun _ _ _ => by show z.cps.size ≤ _; simp) (fun i σ H h p x H' y => by
    obtain ⟨e1, c, e, e2⟩ := y
    subst e1 e2
    exact step i c σ H' (by simpa using e) p) done
/-- over a list that stays -/
theorem f_list {a : Addr} {xs : List V} {g : TG} {tb : TS} (P : Nat → St → Hp → Prop) (h0 : P 0 σ H) (hl : ∀ i σ H, P i σ H → SqL K H a xs)
    (step : ∀ i x σ H, xs[i]? = some x → P i σ H → g x σ H fun σ2 H2 => tb { D with nx := P (i + 1), ct := P (i + 1), bk := D.nx } σ2 H2) (done : ∀ σ H, P xs.length σ H → D.nx σ H) :
    ∃ W : Nat → Nat → St → Hp → Prop, (∃ m, W 0 m σ H) ∧ ∀ i m σ H, W i m σ H →
      ((Itl K a).stop i H ∧ D.nx σ H) ∨ ((Itl K a).go i H ∧ ∃ N : St → Hp → Prop, (∀ σ' H', N σ' H' → ∃ m', m' < m ∧ W (i + 1) m' σ' H') ∧ ∀ x H', (Itl K a).yld i H x H' → g x σ H' fun σ2 H2 => tb { D with nx := N, ct := N, bk := D.nx } σ2 H2) :=
  for_list P h0 (fun i σ H _ p => hl i σ H p) step done
theorem f_tup {a : Addr} {xs : List V} {g : TG} {tb : TS} (P : Nat → St → Hp → Prop) (h0 : P 0 σ H) (hl : ∀ i σ H, P i σ H → SqT K H a xs)
    (step : ∀ i x σ H, xs[i]? = some x → P i σ H → g x σ H fun σ2 H2 => tb { D with nx := P (i + 1), ct := P (i + 1), bk := D.nx } σ2 H2) (done : ∀ σ H, P xs.length σ H → D.nx σ H) :
    ∃ W : Nat → Nat → St → Hp → Prop, (∃ m, W 0 m σ H) ∧ ∀ i m σ H, W i m σ H →
      ((Itt K a).stop i H ∧ D.nx σ H) ∨ ((Itt K a).go i H ∧ ∃ N : St → Hp → Prop, (∀ σ' H', N σ' H' → ∃ m', m' < m ∧ W (i + 1) m' σ' H') ∧ ∀ x H', (Itt K a).yld i H x H' → g x σ H' fun σ2 H2 => tb { D with nx := N, ct := N, bk := D.nx } σ2 H2) :=
  for_tup P h0 (fun i σ H _ p => hl i σ H p) step done
/-! comprehensions: P by the turn and what the new list holds so far -/
/-- what is wanted behind an element -/
abbrev LcEnd (D : Addr) (N : Hp → Prop) (y : V) (H4 : Hp) : Prop := ∃ acc, H4 D = some (.lst acc) ∧ acc.length < sizeLine ∧ N (upd H4 D (.lst (acc ++ [y])))
theorem l_lc {J : It} {n : Nat} {g : TG} {tt : TT} {te : TE} {vs : List Nat} {D : Addr} {H1 : Hp} {Qd : Hp → Prop} (P : Nat → Hp → Prop) (h0 : P 0 (upd H1 D (.lst [])))
    (go : ∀ i H, i < n → P i H → J.go i H) (stop : ∀ H, P n H → J.stop n H)
    (step : ∀ i H, i < n → P i H → ∀ x H', J.yld i H x H' → g x (wipe σ vs) H' fun σ2 H2 => wipe σ2 vs = wipe σ vs ∧ tt σ2 H2 fun b H3 => if b = true then te σ2 H3 (LcEnd D (P (i + 1))) else P (i + 1) H3) (done : ∀ H, P n H → Qd H) :
    ∃ W : Nat → Nat → Hp → Prop, (∃ m, W 0 m (upd H1 D (.lst []))) ∧ ∀ i m H, W i m H →
      (J.stop i H ∧ Qd H) ∨ (J.go i H ∧ ∃ Nx : Hp → Prop, (∀ H', Nx H' → ∃ m', m' < m ∧ W (i + 1) m' H') ∧ ∀ x H', J.yld i H x H' → g x (wipe σ vs) H' fun σ2 H2 => wipe σ2 vs = wipe σ vs ∧ tt σ2 H2 fun b H3 =>
        if b = true then te σ2 H3 fun y H4 => ∃ acc, H4 D = some (.lst acc) ∧ acc.length < sizeLine ∧ Nx (upd H4 D (.lst (acc ++ [y]))) else Nx H3) := by
  refine ⟨fun i m H => m = n - i ∧ i ≤ n ∧ P i H, ⟨n, by simp, Nat.zero_le _, h0⟩, ?_⟩
  rintro i m H ⟨rfl, hi, p⟩
  by_cases hlt : i < n
  · exact .inr ⟨go i H hlt p, P (i + 1), fun H' p' => ⟨n - (i + 1), by omega, rfl, hlt, p'⟩, fun x H' y => step i H hlt p x H' y⟩
  · have e : i = n := by omega
    subst e
    exact .inl ⟨stop H p, done H p⟩
theorem r_lc {wi : TI} {g : TG} {tt : TT} {te : TE} {vs : List Nat} (h : wi σ H fun J H1 => ∀ D, H1 D = none → ∃ W : Nat → Nat → Hp → Prop, (∃ m, W 0 m (upd H1 D (.lst []))) ∧ ∀ i m H, W i m H →
  (J.stop i H ∧ Q (.ref D) H) ∨ (J.go i H ∧ ∃ Nx : Hp → Prop, (∀ H', Nx H' → ∃ m', m' < m ∧ W (i + 1) m' H') ∧ ∀ x H', J.yld i H x H' → g x (wipe σ vs) H' fun σ2 H2 => wipe σ2 vs = wipe σ vs ∧ tt σ2 H2 fun b H3 =>
    if b = true then te σ2 H3 fun y H4 => ∃ acc, H4 D = some (.lst acc) ∧ acc.length < sizeLine ∧ Nx (upd H4 D (.lst (acc ++ [y]))) else Nx H3)) : tLc wi g tt te vs σ H Q := h
/-- a comprehension over a range of n turns -/
theorem c_range {lo : Int} {n : Nat} {g : TG} {tt : TT} {te : TE} {vs : List Nat} {D : Addr} {H1 : Hp} {Qd : Hp → Prop} (P : Nat → Hp → Prop) (h0 : P 0 (upd H1 D (.lst [])))
    (step : ∀ i H, i < n → P i H → g (.int (lo + i)) (wipe σ vs) H fun σ2 H2 => wipe σ2 vs = wipe σ vs ∧ tt σ2 H2 fun b H3 => if b = true then te σ2 H3 (LcEnd D (P (i + 1))) else P (i + 1) H3) (done : ∀ H, P n H → Qd H) :
    ∃ W : Nat → Nat → Hp → Prop, (∃ m, W 0 m (upd H1 D (.lst []))) ∧ ∀ i m H, W i m H →
      ((Itr lo n).stop i H ∧ Qd H) ∨ ((Itr lo n).go i H ∧ ∃ Nx : Hp → Prop, (∀ H', Nx H' → ∃ m', m' < m ∧ W (i + 1) m' H') ∧ ∀ x H', (Itr lo n).yld i H x H' → g x (wipe σ vs) H' fun σ2 H2 => wipe σ2 vs = wipe σ vs ∧ tt σ2 H2 fun b H3 =>
        if b = true then te σ2 H3 fun y H4 => ∃ acc, H4 D = some (.lst acc) ∧ acc.length < sizeLine ∧ Nx (upd H4 D (.lst (acc ++ [y]))) else Nx H3) :=
  l_lc P h0 (fun i H h _ => h) (fun _ _ => Nat.le_refl _) (fun i H h p x H' y => by
    obtain ⟨e1, e2⟩ := y
    subst e1 e2
    exact step i H' h p) done
theorem c_strs {z : Str} {g : TG} {tt : TT} {te : TE} {vs : List Nat} {D : Addr} {H1 : Hp} {Qd : Hp → Prop} (P : Nat → Hp → Prop) (h0 : P 0 (upd H1 D (.lst [])))
    (step : ∀ i (c : Nat) H, z.cps.toList[i]? = some c → P i H → g (.str ⟨#[c]⟩) (wipe σ vs) H fun σ2 H2 => wipe σ2 vs = wipe σ vs ∧ tt σ2 H2 fun b H3 => if b = true then te σ2 H3 (LcEnd D (P (i + 1))) else P (i + 1) H3) (done : ∀ H, P z.cps.toList.length H → Qd H) :
    ∃ W : Nat → Nat → Hp → Prop, (∃ m, W 0 m (upd H1 D (.lst []))) ∧ ∀ i m H, W i m H →
      ((Its z).stop i H ∧ Qd H) ∨ ((Its z).go i H ∧ ∃ Nx : Hp → Prop, (∀ H', Nx H' → ∃ m', m' < m ∧ W (i + 1) m' H') ∧ ∀ x H', (Its z).yld i H x H' → g x (wipe σ vs) H' fun σ2 H2 => wipe σ2 vs = wipe σ vs ∧ tt σ2 H2 fun b H3 =>
        if b = true then te σ2 H3 fun y H4 => ∃ acc, H4 D = some (.lst acc) ∧ acc.length < sizeLine ∧ Nx (upd H4 D (.lst (acc ++ [y]))) else Nx H3) :=
  l_lc P h0 (fun i H h _ => by show i < z.cps.size; simpa using h) (fun _ _ => by show z.cps.size ≤ _; simp) (fun i H h p x H' y => by
    obtain ⟨e1, c, e, e2⟩ := y
    subst e1 e2
    exact step i c H' (by simpa using e) p) done
theorem c_lists {a : Addr} {xs : List V} {g : TG} {tt : TT} {te : TE} {vs : List Nat} {D : Addr} {H1 : Hp} {Qd : Hp → Prop} (P : Nat → Hp → Prop) (h0 : P 0 (upd H1 D (.lst []))) (hl : ∀ i H, P i H → SqL K H a xs)
    (step : ∀ i x H, xs[i]? = some x → P i H → g x (wipe σ vs) H fun σ2 H2 => wipe σ2 vs = wipe σ vs ∧ tt σ2 H2 fun b H3 => if b = true then te σ2 H3 (LcEnd D (P (i + 1))) else P (i + 1) H3) (done : ∀ H, P xs.length H → Qd H) :
    ∃ W : Nat → Nat → Hp → Prop, (∃ m, W 0 m (upd H1 D (.lst []))) ∧ ∀ i m H, W i m H →
      ((Itl K a).stop i H ∧ Qd H) ∨ ((Itl K a).go i H ∧ ∃ Nx : Hp → Prop, (∀ H', Nx H' → ∃ m', m' < m ∧ W (i + 1) m' H') ∧ ∀ x H', (Itl K a).yld i H x H' → g x (wipe σ vs) H' fun σ2 H2 => wipe σ2 vs = wipe σ vs ∧ tt σ2 H2 fun b H3 =>
        if b = true then te σ2 H3 fun y H4 => ∃ acc, H4 D = some (.lst acc) ∧ acc.length < sizeLine ∧ Nx (upd H4 D (.lst (acc ++ [y]))) else Nx H3) :=
  l_lc P h0 (fun i H h p => ⟨xs, xs[i], hl i H p, by simp [h]⟩) (fun H p => ⟨xs, hl _ H p, Nat.le_refl _⟩) (fun i H h p x H' y => by
    obtain ⟨e1, e2⟩ := y
    subst e1
    exact step i x H' (e2 xs (hl i _ p)) p) done
theorem c_tups {a : Addr} {xs : List V} {g : TG} {tt : TT} {te : TE} {vs : List Nat} {D : Addr} {H1 : Hp} {Qd : Hp → Prop} (P : Nat → Hp → Prop) (h0 : P 0 (upd H1 D (.lst []))) (hl : ∀ i H, P i H → SqT K H a xs)
    (step : ∀ i x H, xs[i]? = some x → P i H → g x (wipe σ vs) H fun σ2 H2 => wipe σ2 vs = wipe σ vs ∧ tt σ2 H2 fun b H3 => if b = true then te σ2 H3 (LcEnd D (P (i + 1))) else P (i + 1) H3) (done : ∀ H, P xs.length H → Qd H) :
    ∃ W : Nat → Nat → Hp → Prop, (∃ m, W 0 m (upd H1 D (.lst []))) ∧ ∀ i m H, W i m H →
      ((Itt K a).stop i H ∧ Qd H) ∨ ((Itt K a).go i H ∧ ∃ Nx : Hp → Prop, (∀ H', Nx H' → ∃ m', m' < m ∧ W (i + 1) m' H') ∧ ∀ x H', (Itt K a).yld i H x H' → g x (wipe σ vs) H' fun σ2 H2 => wipe σ2 vs = wipe σ vs ∧ tt σ2 H2 fun b H3 =>
        if b = true then te σ2 H3 fun y H4 => ∃ acc, H4 D = some (.lst acc) ∧ acc.length < sizeLine ∧ Nx (upd H4 D (.lst (acc ++ [y]))) else Nx H3) :=
  l_lc P h0 (fun i H h p => ⟨xs, xs[i], hl i H p, by simp [h]⟩) (fun H p => ⟨xs, hl _ H p, Nat.le_refl _⟩) (fun i H h p x H' y => by
    obtain ⟨e1, e2⟩ := y
    subst e1
    exact step i x H' (e2 xs (hl i _ p)) p) done
end
end U
/-! ### what the defs of k02 promise -/
namespace U
open PySem PySem.Spec L2
def isD (c : Nat) : Bool := decide (48 ≤ c ∧ c ≤ 57)
/-- the signs behind a leading minus -/
def bodyN : List Nat → List Nat
  | 45 :: r => r
  | w => w
def valN (w : List Nat) : Int := match w with
  | 45 :: r => -((NumText.digitsVal r : Nat) : Int)
  | w => ((NumText.digitsVal w : Nat) : Int)
/-- the value of a numeral -/
def numv (w : List Nat) : Option Int :=
  if (1 ≤ (bodyN w).length ∧ (bodyN w).length ≤ 10) ∧ (bodyN w).all isD = true then
    (if (bodyN w)[0]? = some 48 ∧ w ≠ [48] then none
     else if -2147483648 ≤ valN w ∧ valN w < 2147483648 then some (valN w) else none)
  else none
def optV : Option Int → V
  | some n => .int n
  | none => .non
def sp_is_integer (K : PySem.W.Frag) : Sp := fun vs H Q _ => ∃ n : Int, vs = [.int n] ∧ Q (.bl true) H
def sp_l_is_integer (K : PySem.W.Frag) : Sp := sp_is_integer K
def sp_in_range (K : PySem.W.Frag) : Sp := fun vs H Q _ => ∃ n : Int, vs = [.int n] ∧ Q (.bl (decide (-2147483648 ≤ n ∧ n < 2147483648))) H
def sp_numeral_value (K : PySem.W.Frag) : Sp := fun vs H Q _ => ∃ w : Str, vs = [.str w] ∧ w.length ≤ 1000 ∧ ∀ H', Same H H' → Q (optV (numv w.cps.toList)) H'
def sp_read_numeral (K : PySem.W.Frag) : Sp := sp_numeral_value K
def sp_l_value (K : PySem.W.Frag) : Sp := fun vs H Q _ => ∃ w : Str, vs = [.str w] ∧ 0 < w.length ∧ w.length ≤ 1000 ∧ Q (optV (numv w.cps.toList)) H
/-- the state of the draws at p, its script at l -/
def Dr (H : Hp) (p l : Addr) : Prop := ∃ (ns : List Int) (cur seed : Int) (at_ : Nat), H p = some (.lst [.ref l, .int cur, .int at_, .int seed]) ∧ H l = some (.lst (ns.map V.int)) ∧ l ≠ p ∧ 0 ≤ cur
def sp_l_start (K : PySem.W.Frag) : Sp := fun vs H Q _ => ∃ (a : Addr) (ns : List Int), vs = [.ref a] ∧ SqL K H a (ns.map V.int) ∧ ns.length ≤ 63 ∧ ∀ p l H', Same H H' → H p = none → Dr H' p l → Q (.ref p) H'
def sp_l_draw (K : PySem.W.Frag) : Sp := fun vs H Q _ => ∃ (p l : Addr) (m : Int), vs = [.ref p, .int m] ∧ 0 < m ∧ m < 2 ^ 64 ∧ Dr H p l ∧ ∀ (n : Int) H', 0 ≤ n → n < m → Dr H' p l → (∀ b, b ≠ p → H' b = H b) → Q (.int n) H'
def sp_l_word (K : PySem.W.Frag) : Sp := fun vs H Q _ => ∃ (p l : Addr), vs = [.ref p] ∧ Dr H p l ∧ ∀ (w : Str) H', 0 < w.length → w.length ≤ 100 → Dr H' p l → Q (.str w) H'
def sp_law (K : PySem.W.Frag) : Sp := fun vs H Q _ => ∃ (a : Addr) (ns : List Int), vs = [.ref a] ∧ SqL K H a (ns.map V.int) ∧ ns.length ≤ 63 ∧ ∀ H', Q (.bl true) H'
local macro_rules | `(tactic| walk_at "une") => `(tactic| first | assumption | (exact Ne.symm (by assumption)) | (exact ne_of_none (by assumption) (by assumption)) | (exact (ne_of_none (by assumption) (by assumption)).symm))
local macro_rules | `(tactic| walk_at "uh") => `(tactic| first | assumption | (exact upd_same) | (refine' (upd_ne ?n).trans ?h; (case n => walk_at "une"); (case h => walk_at "uh")))
local macro_rules | `(tactic| walk_at "usl") => `(tactic| first | assumption | (exact SqL.of (by walk_at "uh")))
local macro_rules | `(tactic| walk_at "ust") => `(tactic| first | assumption | (exact SqT.of (by walk_at "uh")))
local macro_rules | `(tactic| walk_at "us") => `(tactic| first | omega | decide | assumption | (exact szl (by omega)) | (exact szt (by omega)) | (exact wide_div (b := 64) (by omega) (by omega) (by decide) (by decide)) | (exact Or.inl (Or.inr (by decide))) | (exact Or.inl (Or.inl (by decide))))
local macro_rules | `(tactic| walk_at "u1") => `(tactic| first
  | (with_reducible refine r_sqA ?_) | (with_reducible refine r_sqD ?_) | ((with_reducible refine' r_sqG ?hx ?_); (case hx => exact rfl)) | (with_reducible refine r_sqS ?_) | (with_reducible refine r_asg ?_) | ((with_reducible refine' r_var ?hx ?_); (case hx => exact rfl)) | (with_reducible refine r_c ?_) | (with_reducible refine r_op ?_)
  | (with_reducible refine r_gname ?_) | (with_reducible refine r_cons ?_) | (with_reducible refine r_nil ?_) | (with_reducible refine r_cb ?_) | (with_reducible refine r_call ?_)
  | (with_reducible refine r_ifS ?_) | (with_reducible refine r_test ?_) | (with_reducible refine r_bl ?_) | (with_reducible refine r_ret ?_) | (with_reducible refine r_next ?_) | (with_reducible refine r_drop ?_)
  | (with_reducible refine r_and ?_) | (with_reducible refine r_or ?_) | (with_reducible refine r_not ?_) | (with_reducible refine r_tru ?_) | (with_reducible refine r_truBl ?_) | (with_reducible refine r_truInt ?_) | (with_reducible refine r_truNon ?_) | (with_reducible refine r_tb ?_)
  | (with_reducible refine r_andV ?_) | (with_reducible refine r_orV ?_) | (with_reducible refine r_notV ?_) | (with_reducible refine r_chain ?_) | (with_reducible refine r_if ?_) | (with_reducible refine r_un ?_)
  | (with_reducible refine br_t ?_) | (with_reducible refine br_f ?_) | (with_reducible refine br_nt ?_) | (with_reducible refine br_nf ?_)
  | (with_reducible refine r_addI ?_) | (with_reducible refine r_sub ?_) | (with_reducible refine r_neg ?_) | (with_reducible refine r_cmpI ?_) | (with_reducible refine r_eqI ?_) | (with_reducible refine r_eqS ?_) | (with_reducible refine r_eqB ?_) | (with_reducible refine r_neI ?_) | (with_reducible refine r_neS ?_) | (with_reducible refine r_neB ?_)
  | ((with_reducible refine r_mod ?s ?_); (case s => walk_at "us")) | ((with_reducible refine r_mul ?s ?_); (case s => walk_at "us")) | ((with_reducible refine r_fdiv ?s ?_); (case s => walk_at "us"))
  | ((with_reducible refine r_addS ?s ?_); (case s => walk_at "us"))
  | (with_reducible refine r_isNN ?_) | (with_reducible refine r_isNI ?_) | (with_reducible refine r_isNB ?_) | (with_reducible refine r_isNS ?_) | (with_reducible refine r_isNR ?_) | (with_reducible refine r_notNN ?_) | (with_reducible refine r_notNI ?_) | (with_reducible refine r_notNB ?_) | (with_reducible refine r_notNS ?_) | (with_reducible refine r_notNR ?_)
  | (with_reducible refine r_abs ?_) | (with_reducible refine r_intI ?_) | (with_reducible refine r_intB ?_) | (with_reducible refine r_maxI ?_) | (with_reducible refine r_minI ?_) | (with_reducible refine r_starts ?_) | (with_reducible refine r_inC ?_) | (with_reducible refine r_notInC ?_)
  | (with_reducible refine r_iI_int ?_) | (with_reducible refine r_iI_bool ?_) | (with_reducible refine r_iI_str ?_) | (with_reducible refine r_iI_tuple ?_) | (with_reducible refine r_iI_list ?_) | (with_reducible refine r_iB_int ?_) | (with_reducible refine r_iB_bool ?_) | (with_reducible refine r_iB_str ?_) | (with_reducible refine r_iB_tuple ?_) | (with_reducible refine r_iB_list ?_) | (with_reducible refine r_iS_int ?_) | (with_reducible refine r_iS_bool ?_) | (with_reducible refine r_iS_str ?_) | (with_reducible refine r_iS_tuple ?_) | (with_reducible refine r_iS_list ?_) | (with_reducible refine r_iN_int ?_) | (with_reducible refine r_iN_bool ?_) | (with_reducible refine r_iN_str ?_) | (with_reducible refine r_iN_tuple ?_) | (with_reducible refine r_iN_list ?_)
  | ((with_reducible refine r_lenS ?s ?_); (case s => walk_at "us")) | ((with_reducible refine r_slS ?s ?_); (case s => walk_at "us"))
  | (with_reducible refine r_sl ?_) | (with_reducible refine r_nop ?_) | (with_reducible refine r_part ?_) | (with_reducible refine r_partI ?_) | (with_reducible refine r_tup ?_) | (with_reducible refine r_lst ?_)
  | (with_reducible refine r_bm ?_) | (with_reducible refine r_bm0 ?_) | (with_reducible refine r_tyStr ?_) | (with_reducible refine r_retN ?_) | (with_reducible refine r_brk ?_) | (with_reducible refine r_cont ?_) | (with_reducible refine r_nx ?_) | (with_reducible refine r_rt ?_)
  | (with_reducible refine r_sub3 ?_) | (with_reducible refine r_augS ?_) | (with_reducible refine r_ipI ?_) | ((with_reducible refine' r_aug ?hx ?_); (case hx => exact rfl)) | (with_reducible refine r_for ?_) | (with_reducible refine r_lc ?_) | (with_reducible refine r_yes ?_) | (with_reducible refine r_rng1 ?_) | (with_reducible refine r_rng1v ?_) | (with_reducible refine r_rng2 ?_) | (with_reducible refine r_rng2v ?_)
  | ((with_reducible refine' r_ixL ?s1 ?s2 ?_); (case s1 => walk_at "usl"); (case s2 => exact rfl)) | ((with_reducible refine' r_ixT ?s1 ?s2 ?_); (case s1 => walk_at "ust"); (case s2 => exact rfl))
  | ((with_reducible refine' r_lenL ?s1 ?_); (case s1 => walk_at "usl")) | ((with_reducible refine' r_lenT ?s1 ?_); (case s1 => walk_at "ust"))
  | ((with_reducible refine' r_setL ?s1 ?s2 ?_); (case s1 => walk_at "uh"); (case s2 => exact rfl)) | ((with_reducible refine' r_getL ?s1 ?s2 ?s3 ?_); (case s1 => walk_at "usl"); (case s2 => walk_at "us"); (case s3 => exact rfl))
  | ((with_reducible refine' r_tyLst ?s ?_); (case s => walk_at "uh")) | ((with_reducible refine' r_append ?s1 ?s2 ?_); (case s1 => walk_at "uh"); (case s2 => walk_at "us")))
local macro_rules | `(tactic| walk_at "ub") => `(tactic| first
  | ((with_reducible refine br_y ?s ?_); (case s => (first | assumption | omega | decide))) | ((with_reducible refine br_n ?s ?_); (case s => (first | assumption | omega | decide))) | ((with_reducible refine br_ny ?s ?_); (case s => (first | assumption | omega | decide))) | ((with_reducible refine br_nn ?s ?_); (case s => (first | assumption | omega | decide))))
local macro_rules | `(tactic| walk_at "u") => `(tactic| repeat (first | walk_at "u1" | walk_at "ub"))
local macro_rules | `(tactic| walk_at "ui") => `(tactic| ((with_reducible refine r_sq ?_); walk_at "u"))
def t_is_integer (K : PySem.W.Frag) : TS :=
  (tRet (tAndV (tCB (uIsi K) (tCons (tVar 0) (tCons (tC (.ty "int")) tNil))) (tNotV (tCB (uIsi K) (tCons (tVar 0) (tCons (tC (.ty "bool")) tNil))))))
abbrev n_is_integer : List Str := ["value"]
def t_in_range (K : PySem.W.Frag) : TS :=
  (tRet (tAndV (tCall (sp_is_integer K) [] E0 (tCons (tVar 0) tNil)) (tChain (uLe) (uLt) (tUn uNeg (tC (.int 2147483648))) (tVar 0) (tC (.int 2147483648)))))
abbrev n_in_range : List Str := ["value"]
def t_numeral_value (K : PySem.W.Frag) : TS :=
  (tSq (tAsg (tVar 0) (gName 1))
    (tSq (tIfS (uTru K (tBM K "str" (uStarts) (tVar 0) (tCons (tC (.str "-")) tNil))) (tAsg (tSl (uSl K) (tVar 0) (tPart (tC (.int 1))) tNoPart) (gName 1)) tNext)
    (tSq (tIfS (tOr (tNot (tTest (tChain (uLe) (uLe) (tC (.int 1)) (tCB (uLen K) (tCons (tVar 1) tNil)) (tC (.int 10))))) (tNot (uTru K (tCB (uAll K) (tCons (tLc (uIt K (tVar 1)) (gName 3) tYes (tOp (uIn K id) (tVar 3) (tC (.str "0123456789"))) [3]) tNil))))) (tRet (tC .non)) tNext)
    (tSq (tIfS (tAnd (tTest (tOp (uEq K) (tOp (uIx K) (tVar 1) (tC (.int 0))) (tC (.str "0")))) (tTest (tOp (uNe K) (tVar 0) (tC (.str "0"))))) (tRet (tC .non)) tNext)
    (tSq (tAsg (tCB (uInt) (tCons (tVar 0) tNil)) (gName 2))
    (tSq (tIfS (uTru K (tCall (sp_in_range K) [] E0 (tCons (tVar 2) tNil))) (tRet (tVar 2)) tNext)
    (tRet (tC .non))))))))
abbrev n_numeral_value : List Str := ["word", "digits", "value", "character"]
def t_read_numeral (K : PySem.W.Frag) : TS :=
  (tRet (tCall (sp_numeral_value K) [] E0 (tCons (tVar 0) tNil)))
abbrev n_read_numeral : List Str := ["word"]
def t_l_start (K : PySem.W.Frag) : TS :=
  (tSq (tAsg (tC (.int 7)) (gName 1))
    (tSq (tFor (uIt K (tVar 0)) (gName 2) (tAsg (tOp (uAdd K) (tOp (uMod) (tCB (uInt) (tCons (tOp (uAdd K) (tOp (uMul) (tVar 1) (tC (.int 48271))) (tVar 2)) tNil)) (tC (.int 2147483629))) (tC (.int 1))) (gName 1)))
    (tRet (tLst (tCons (tCB (uList K) (tCons (tVar 0) tNil)) (tCons (tC (.int 0)) (tCons (tC (.int 0)) (tCons (tVar 1) tNil))))))))
abbrev n_l_start : List Str := ["_law_script", "_law_seed", "_law_cell"]
def t_l_draw (K : PySem.W.Frag) : TS :=
  (tSq (tIfS (tAnd (tTest (tOp (uEq K) (tOp (uIx K) (tVar 0) (tC (.int 1))) (tC (.int 0)))) (tTest (tOp (uGe) (tOp (uIx K) (tVar 0) (tC (.int 2))) (tCB (uLen K) (tCons (tOp (uIx K) (tVar 0) (tC (.int 0))) tNil))))) (tSq (tAsg (tOp (uMod) (tCB (uInt) (tCons (tOp (uAdd K) (tOp (uMul) (tOp (uIx K) (tVar 0) (tC (.int 3))) (tC (.int 48271))) (tC (.int 69621))) tNil)) (tC (.int 2147483629))) (gSub (tVar 0) (tC (.int 3)) uSetL))
    (tRet (tOp (uMod) (tCB (uInt) (tCons (tOp (uFdiv) (tOp (uIx K) (tVar 0) (tC (.int 3))) (tC (.int 13))) tNil)) (tVar 1)))) tNext)
    (tSq (tIfS (tTest (tOp (uEq K) (tOp (uIx K) (tVar 0) (tC (.int 1))) (tC (.int 0)))) (tSq (tAsg (tCB (uAbs) (tCons (tOp (uIx K) (tOp (uIx K) (tVar 0) (tC (.int 0))) (tOp (uIx K) (tVar 0) (tC (.int 2)))) tNil)) (gSub (tVar 0) (tC (.int 1)) uSetL))
    (tAugS (tVar 0) (tC (.int 2)) (tC (.int 1)) (uGetL K) (uIpI fun i j => i + j) uSetL)) tNext)
    (tSq (tAsg (tOp (uMod) (tCB (uInt) (tCons (tOp (uIx K) (tVar 0) (tC (.int 1))) tNil)) (tVar 1)) (gName 2))
    (tSq (tAsg (tOp (uFdiv) (tOp (uIx K) (tVar 0) (tC (.int 1))) (tVar 1)) (gSub (tVar 0) (tC (.int 1)) uSetL))
    (tRet (tVar 2))))))
abbrev n_l_draw : List Str := ["_law_state", "_law_many", "_law_value_here"]
def t_l_is_integer (K : PySem.W.Frag) : TS :=
  (tRet (tAndV (tCB (uIsi K) (tCons (tVar 0) (tCons (tC (.ty "int")) tNil))) (tNotV (tCB (uIsi K) (tCons (tVar 0) (tCons (tC (.ty "bool")) tNil))))))
abbrev n_l_is_integer : List Str := ["_law_actual"]
def t_l_word (K : PySem.W.Frag) : TS :=
  (tSq (tAsg (tCall (sp_l_draw K) [] E0 (tCons (tVar 0) (tCons (tC (.int 5)) tNil))) (gName 1))
    (tSq (tIfS (tTest (tOp (uEq K) (tVar 1) (tC (.int 0)))) (tRet (tCB (uStr) (tCons (tOp (uSub) (tCall (sp_l_draw K) [] E0 (tCons (tVar 0) (tCons (tC (.int 40)) tNil))) (tC (.int 20))) tNil))) tNext)
    (tSq (tIfS (tTest (tOp (uEq K) (tVar 1) (tC (.int 1)))) (tRet (tCB (uStr) (tCons (tOp (uSub) (tOp (uAdd K) (tOp (uIx K) (tLst (tCons (tUn uNeg (tC (.int 2147483648))) (tCons (tC (.int 2147483647)) tNil))) (tCall (sp_l_draw K) [] E0 (tCons (tVar 0) (tCons (tC (.int 2)) tNil)))) (tCall (sp_l_draw K) [] E0 (tCons (tVar 0) (tCons (tC (.int 7)) tNil)))) (tC (.int 3))) tNil))) tNext)
    (tSq (tIfS (tTest (tOp (uEq K) (tVar 1) (tC (.int 2)))) (tRet (tCB (uStr) (tCons (tOp (uSub) (tCall (sp_l_draw K) [] E0 (tCons (tVar 0) (tCons (tC (.int 40000000001)) tNil))) (tC (.int 20000000000))) tNil))) tNext)
    (tSq (tAsg (tBM K "str" (uJoin K) (tC (.str "")) (tCons (tLc (iRng1 (tCons (tOp (uAdd K) (tC (.int 1)) (tCall (sp_l_draw K) [] E0 (tCons (tVar 0) (tCons (tC (.int 13)) tNil)))) tNil)) (gName 5) tYes (tOp (uIx K) (tC (.str "0123456789")) (tCall (sp_l_draw K) [] E0 (tCons (tVar 0) (tCons (tC (.int 10)) tNil)))) [5]) tNil)) (gName 2))
    (tSq (tAsg (tOp (uIx K) (tC (.str "-+_.a 0")) (tCall (sp_l_draw K) [] E0 (tCons (tVar 0) (tCons (tC (.int 7)) tNil)))) (gName 3))
    (tSq (tAsg (tCall (sp_l_draw K) [] E0 (tCons (tVar 0) (tCons (tOp (uAdd K) (tCB (uLen K) (tCons (tVar 2) tNil)) (tC (.int 1))) tNil))) (gName 4))
    (tSq (tIfS (tTest (tOp (uEq K) (tVar 1) (tC (.int 3)))) (tRet (tOp (uAdd K) (tOp (uAdd K) (tSl (uSl K) (tVar 2) tNoPart (tPart (tVar 4))) (tVar 3)) (tSl (uSl K) (tVar 2) (tPart (tVar 4)) tNoPart))) tNext)
    (tRet (tOp (uAdd K) (tOp (uMul) (tC (.str "-")) (tCall (sp_l_draw K) [] E0 (tCons (tVar 0) (tCons (tC (.int 2)) tNil)))) (tVar 2)))))))))))
abbrev n_l_word : List Str := ["_law_state", "_law_pick", "_law_word_here", "_law_other", "_law_at", "_law_k"]
def t_l_value (K : PySem.W.Frag) : TS :=
  (tSq (tAsg (tVar 0) (gName 1))
    (tSq (tIfS (tTest (tOp (uEq K) (tOp (uIx K) (tVar 0) (tC (.int 0))) (tC (.str "-")))) (tAsg (tSl (uSl K) (tVar 0) (tPart (tC (.int 1))) tNoPart) (gName 1)) tNext)
    (tSq (tIfS (tOr (tTest (tOp (uEq K) (tVar 1) (tC (.str "")))) (tTest (tOp (uGt) (tCB (uLen K) (tCons (tVar 1) tNil)) (tC (.int 10))))) (tRet (tC .non)) tNext)
    (tSq (tFor (uIt K (tVar 1)) (gName 2) (tIfS (tTest (tOp (uIn K not) (tVar 2) (tC (.str "0123456789")))) (tRet (tC .non)) tNext))
    (tSq (tIfS (tAnd (tTest (tOp (uEq K) (tOp (uIx K) (tVar 1) (tC (.int 0))) (tC (.str "0")))) (tTest (tOp (uNe K) (tVar 0) (tC (.str "0"))))) (tRet (tC .non)) tNext)
    (tSq (tAsg (tCB (uInt) (tCons (tVar 1) tNil)) (gName 3))
    (tSq (tIfS (tTest (tOp (uEq K) (tOp (uIx K) (tVar 0) (tC (.int 0))) (tC (.str "-")))) (tAsg (tUn uNeg (tVar 3)) (gName 3)) tNext)
    (tSq (tIfS (tOr (tTest (tOp (uLt) (tVar 3) (tUn uNeg (tC (.int 2147483648))))) (tTest (tOp (uGt) (tVar 3) (tC (.int 2147483647))))) (tRet (tC .non)) tNext)
    (tRet (tVar 3))))))))))
abbrev n_l_value : List Str := ["_law_word_here", "_law_digits", "_law_char", "_law_value_here"]
def t_law (K : PySem.W.Frag) : TS :=
  (tSq (tAsg (tCall (sp_l_start K) [] E0 (tCons (tVar 0) tNil)) (gName 1))
    (tSq (tFor (iRng1 (tCons (tC (.int 4)) tNil)) (gName 2) (tSq (tAsg (tCall (sp_l_word K) [] E0 (tCons (tVar 1) tNil)) (gName 3))
    (tSq (tAsg (tCall (sp_l_value K) [] E0 (tCons (tVar 3) tNil)) (gName 4))
    (tSq (tAsg (tCall (sp_read_numeral K) [] E0 (tCons (tVar 3) tNil)) (gName 5))
    (tIfS (tTest (tOp (uIsN id) (tVar 4) (tC .non))) (tIfS (tTest (tOp (uIsN not) (tVar 5) (tC .non))) (tRet (tC (.bl false))) tNext) (tIfS (tOr (tNot (uTru K (tCall (sp_l_is_integer K) [] E0 (tCons (tVar 5) tNil)))) (tTest (tOp (uNe K) (tVar 5) (tVar 4)))) (tRet (tC (.bl false))) tNext))))))
    (tRet (tC (.bl true)))))
abbrev n_law : List Str := ["_law_script", "_law_state", "_law_k", "_law_word_here", "_law_expected", "_law_actual"]
theorem drop1 (w : Str) : (cutS w (some 1) none).cps.toList = w.cps.toList.drop 1 := by
  unfold cutS
  show (((w.cps.toList.drop (HT.sIx w.length 0 (some 1))).take (HT.sIx w.length w.length none - HT.sIx w.length 0 (some 1))).toArray).toList = _
  rw [List.toList_toArray]
  have e1 : HT.sIx w.length 0 (some 1) = min 1 w.length := HT.sIx_nat w.length 0 1
  have e2 : HT.sIx w.length w.length none = w.length := HT.sIx_none _ _
  rw [e1, e2]
  have hl : w.cps.toList.length = w.length := Array.length_toList
  by_cases h : w.length = 0
  · have : w.cps.toList = [] := List.eq_nil_of_length_eq_zero (by omega)
    rw [this]; simp
  · rw [show min 1 w.length = 1 by omega, List.take_of_length_le]
    rw [List.length_drop]; omega
theorem str_len (w : Str) : w.length = w.cps.toList.length := Array.length_toList.symm
theorem lit_digits : (Str.ofString "0123456789").cps.toList = [48, 49, 50, 51, 52, 53, 54, 55, 56, 57] := by decide +kernel
theorem lit_minus : (Str.ofString "-").cps = #[45] := by decide +kernel
theorem lit_0 : (Str.ofString "0").cps = #[48] := by decide +kernel
theorem mem_digits (c : Nat) : decide (c ∈ (Str.ofString "0123456789").cps.toList) = isD c := by
  rw [lit_digits]
  unfold isD
  refine decide_eq_decide.mpr ?_
  simp only [List.mem_cons, List.not_mem_nil, or_false]
  omega
theorem str_eq {a b : Str} : a = b ↔ a.cps.toList = b.cps.toList := by
  constructor
  · intro e; rw [e]
  · intro e
    cases a; cases b
    simp only at e
    congr 1
    exact Array.toList_inj.mp e
theorem starts_minus (w : Str) : Txt.startswith w (Str.ofString "-") = decide (w.cps.toList[0]? = some 45) := by
  unfold Txt.startswith Builtin.Str.subAt
  have e0 : (Str.ofString "-").length = 1 := by decide +kernel
  rw [e0, lit_minus]
  obtain ⟨a⟩ := w
  show (decide (0 + 1 ≤ a.size) && (a.extract 0 (0 + 1) == #[45])) = decide (a.toList[0]? = some 45)
  by_cases h : a.size = 0
  · have e : a = #[] := Array.eq_empty_of_size_eq_zero h
    subst e; rfl
  · have hb : (a.extract 0 (0 + 1) == #[45]) = decide (a.toList.take 1 = [45]) := by
      rw [Bool.eq_iff_iff]
      simp only [beq_iff_eq, decide_eq_true_eq]
      rw [← Array.toList_inj, Array.toList_extract]
      simp
    rw [hb, decide_eq_true (show 0 + 1 ≤ a.size by omega), Bool.true_and]
    refine decide_eq_decide.mpr ?_
    cases hl : a.toList with
    | nil => simp
    | cons c r => simp
theorem bodyN_eq (w : List Nat) : bodyN w = if w[0]? = some 45 then w.drop 1 else w := by
  cases w with
  | nil => rfl
  | cons c r =>
    by_cases h : c = 45
    · subst h; rfl
    · have : bodyN (c :: r) = c :: r := by
        unfold bodyN
        split
        · rename_i e; simp at e; exact absurd e.1 h
        · rfl
      rw [this]; simp [h]
theorem int_of {w : Str} (h1 : 1 ≤ (bodyN w.cps.toList).length) (h2 : (bodyN w.cps.toList).all isD = true) (h3 : w.length ≤ 4300) : PySem.intText? w = some (valN w.cps.toList) := by
  have hd : NumText.AllDigits (bodyN w.cps.toList) := fun c hc => by
    have := List.all_eq_true.mp h2 c hc
    unfold isD at this
    exact of_decide_eq_true this
  have hne : bodyN w.cps.toList ≠ [] := fun e => by rw [e] at h1; simp at h1
  cases e : w.cps.toList with
  | nil => rw [e] at h1; exact absurd h1 (by decide)
  | cons c r =>
    rw [e] at hd hne
    by_cases hc : c = 45
    · subst hc
      exact PySem.intText_neg e hd hne h3
    · have e1 : bodyN (c :: r) = c :: r := by rw [bodyN_eq]; simp [hc]
      have e2 : valN (c :: r) = ((NumText.digitsVal (c :: r) : Nat) : Int) := by
        unfold valN
        split
        · rename_i e; simp at e; exact absurd e.1 hc
        · rfl
      rw [e2, ← e]
      rw [e1, ← e] at hd hne
      exact PySem.intText_digits hd hne h3
theorem one_eq (c : Nat) : ((⟨#[c]⟩ : Str) = Str.ofString "0") ↔ c = 48 := by
  rw [str_eq, lit_0]; simp
theorem zero_eq (w : Str) : (w = Str.ofString "0") ↔ w.cps.toList = [48] := by
  rw [str_eq, lit_0]
section
variable {K : PySem.W.Frag} {vs : List V} {H : Hp} {Q : VK} {E : XK}
theorem rd_is_integer (h : sp_is_integer K vs H Q E) : t_is_integer K { nx := fun _ H' => Q .non H', rt := Q } (start n_is_integer vs) H := by
  obtain ⟨n, rfl, q⟩ := h
  unfold t_is_integer
  walk_at "u"
  exact q
theorem rd_l_is_integer (h : sp_l_is_integer K vs H Q E) : t_l_is_integer K { nx := fun _ H' => Q .non H', rt := Q } (start n_l_is_integer vs) H := by
  obtain ⟨n, rfl, q⟩ := h
  unfold t_l_is_integer
  walk_at "u"
  exact q
theorem rd_in_range (h : sp_in_range K vs H Q E) : t_in_range K { nx := fun _ H' => Q .non H', rt := Q } (start n_in_range vs) H := by
  obtain ⟨n, rfl, q⟩ := h
  unfold t_in_range
  walk_at "u"
  refine ⟨n, rfl, ?_⟩
  walk_at "u"
  refine br_d (fun h1 => ?_) (fun h1 => ?_)
  · walk_at "u"
    rw [show decide (n < 2147483648) = decide (-2147483648 ≤ n ∧ n < 2147483648) by simp [h1]]
    exact q
  · walk_at "u"
    rw [show false = decide (-2147483648 ≤ n ∧ n < 2147483648) by simp [h1]]
    exact q
theorem rd_numeral_value (h : sp_numeral_value K vs H Q E) : t_numeral_value K { nx := fun _ H' => Q .non H', rt := Q } (start n_numeral_value vs) H := by
  obtain ⟨w, rfl, hw, q⟩ := h
  unfold t_numeral_value
  walk_at "u"
  refine r_cut (fun σ' H' => H' = H ∧ ∃ d : Str, σ' = [some (.str w), some (.str d), none, none] ∧ d.cps.toList = bodyN w.cps.toList ∧ d.length ≤ 1000) ?_ ?_
  · walk_at "u"
    rw [starts_minus]
    refine br_d (fun h1 => ?_) (fun h1 => ?_)
    · walk_at "u"
      exact ⟨rfl, _, rfl, by rw [drop1, bodyN_eq, if_pos h1], by rw [str_len, drop1, List.length_drop]; rw [str_len] at hw; omega⟩
    · walk_at "u"
      exact ⟨rfl, w, rfl, by rw [bodyN_eq, if_neg h1], hw⟩
  rintro σ H1 ⟨e, d, rfl, hd, hdl⟩
  subst e
  refine r_cut (fun σ' H' => Same H1 H' ∧ σ' = [some (.str w), some (.str d), none, none] ∧ (1 ≤ (bodyN w.cps.toList).length ∧ (bodyN w.cps.toList).length ≤ 10) ∧ (bodyN w.cps.toList).all isD = true) ?_ ?_
  · have hlen : d.length = (bodyN w.cps.toList).length := by rw [str_len, hd]
    have bad : ¬ ((1 ≤ (bodyN w.cps.toList).length ∧ (bodyN w.cps.toList).length ≤ 10) ∧ (bodyN w.cps.toList).all isD = true) → numv w.cps.toList = none := fun h => by unfold numv; rw [if_neg h]
    walk_at "u"
    refine br_d (fun h1 => ?_) (fun h1 => ?_)
    · walk_at "u"
      refine br_nd (fun h2 => ?_) (fun h2 => ?_)
      · walk_at "u"
        have q' := q _ (Same.refl _)
        rw [bad (by omega)] at q'
        exact q'
      · walk_at "u"
        refine it_str ?_
        walk_at "u"
        refine ⟨d, rfl, fun D hD => c_strs (fun i H' => Same H1 H' ∧ H' D = some (.lst (((d.cps.toList).take i).map fun c => V.bl (isD c)))) ⟨same_new hD, upd_same⟩ ?_ ?_⟩
        · rintro i c H3 hc ⟨sm, hD'⟩
          walk_at "u"
          refine ⟨rfl, ?_⟩
          walk_at "u"
          refine ⟨_, hD', szt (by simp only [List.length_map, List.length_take]; rw [← str_len]; omega), same_mut sm hD, ?_⟩
          rw [upd_same, mem_digits, List.take_add_one, hc]
          simp
        · rintro H3 ⟨sm, hD'⟩
          walk_at "u"
          rw [List.take_length] at hD'
          refine r_allL (bs := d.cps.toList.map isD) (SqL.of (by rw [hD']; simp [Function.comp_def])) ?_
          walk_at "u"
          have e : (d.cps.toList.map isD).all id = (bodyN w.cps.toList).all isD := by rw [hd]; simp [List.all_map]
          rw [e]
          cases h3 : (bodyN w.cps.toList).all isD with
          | true => 
            walk_at "u"
            exact ⟨sm, rfl, by omega, rfl⟩
          | false =>
            walk_at "u"
            have q' := q _ sm
            rw [bad (by rw [h3]; simp)] at q'
            exact q'
    · walk_at "u"
      have q' := q _ (Same.refl _)
      rw [bad (by omega)] at q'
      exact q'
  rintro σ H2 ⟨s2, rfl, hb⟩
  have hlen : d.length = (bodyN w.cps.toList).length := by rw [str_len, hd]
  refine r_cut (fun σ' H' => H' = H2 ∧ σ' = [some (.str w), some (.str d), none, none] ∧ ¬ ((bodyN w.cps.toList)[0]? = some 48 ∧ w.cps.toList ≠ [48])) ?_ ?_
  · obtain ⟨c, hc⟩ : ∃ c, d.cps.toList[0]? = some c := ⟨d.cps.toList[0]'(by rw [← str_len]; omega), by simp⟩
    have q0 : ((bodyN w.cps.toList)[0]? = some 48 ∧ w.cps.toList ≠ [48]) → Q .non H2 := fun h => by
      have q' := q _ s2
      unfold numv at q'
      rw [if_pos hb, if_pos h] at q'
      exact q'
    walk_at "u"
    refine r_ixS (c := c) (szl (by omega)) (atI_nat (j := 0) hc) ?_
    walk_at "u"
    refine br_d (fun h1 => ?_) (fun h1 => ?_)
    · walk_at "u"
      refine br_nd (fun h2 => ?_) (fun h2 => ?_)
      · walk_at "u"
        refine q0 ⟨by rw [← hd, hc, (one_eq c).mp h1], fun e => h2 ((zero_eq w).mpr e)⟩
      · walk_at "u"
        exact ⟨rfl, rfl, fun h => h.2 ((zero_eq w).mp h2)⟩
    · walk_at "u"
      exact ⟨rfl, rfl, fun h => h1 ((one_eq c).mpr (by rw [← hd, hc] at h; simpa using h.1))⟩
  rintro σ H3 ⟨e, rfl, hz⟩
  subst e
  walk_at "u"
  have hwl : w.length ≤ 640 := by
    rw [bodyN_eq] at hb
    rw [str_len]
    split at hb
    · rw [List.length_drop] at hb; omega
    · omega
  refine ⟨hwl, _, int_of hb.1.1 hb.2 (by omega), ?_⟩
  walk_at "u"
  walk_at "ui"
  refine ⟨_, rfl, ?_⟩
  walk_at "u"
  have q' := q _ s2
  unfold numv at q'
  rw [if_pos hb, if_neg hz] at q'
  refine br_d (fun h1 => ?_) (fun h1 => ?_)
  · walk_at "u"
    rw [if_pos h1] at q'
    exact q'
  · walk_at "u"
    rw [if_neg h1] at q'
    exact q'
theorem rd_read_numeral (h : sp_read_numeral K vs H Q E) : t_read_numeral K { nx := fun _ H' => Q .non H', rt := Q } (start n_read_numeral vs) H := by
  obtain ⟨w, rfl, hw, q⟩ := h
  unfold t_read_numeral
  walk_at "u"
  exact ⟨w, rfl, hw, q⟩
end
section
variable {K : PySem.W.Frag} {vs : List V} {H : Hp} {Q : VK} {E : XK}
theorem upd_off {p b : Addr} {o : HO} (h : b ≠ p) : upd H p o b = H b := upd_ne h
theorem rd_l_draw (h : sp_l_draw K vs H Q E) : t_l_draw K { nx := fun _ H' => Q .non H', rt := Q } (start n_l_draw vs) H := by
  obtain ⟨p, l, m, rfl, hm, hm2, ⟨ns, cur, seed, at_, hp, hl, hne, h0⟩, q⟩ := h
  unfold t_l_draw
  refine r_cut (fun σ' H' => H' = H ∧ σ' = [some (.ref p), some (.int m), none] ∧ (cur = 0 → at_ < ns.length)) ?_ ?_
  · walk_at "u"
    refine br_d (fun h1 => ?_) (fun h1 => ?_)
    · walk_at "u"
      refine br_d (fun h2 => ?_) (fun h2 => ?_)
      · walk_at "u"
        refine q _ _ (Int.emod_nonneg _ (by omega)) (Int.emod_lt_of_pos _ hm) ⟨ns, cur, _, at_, upd_same, by rw [upd_ne hne]; exact hl, hne, h0⟩ (fun b hb => upd_ne hb)
      · walk_at "u"
        refine ⟨rfl, rfl, fun _ => by simpa using h2⟩
    · walk_at "u"
      exact ⟨rfl, rfl, fun h => absurd h h1⟩
  rintro σ H1 ⟨e, rfl, hin⟩
  subst e
  refine r_cut (fun σ' H' => σ' = [some (.ref p), some (.int m), none] ∧ (∃ (cur' : Int) (at' : Nat), H' p = some (.lst [.ref l, .int cur', .int at', .int seed]) ∧ 0 ≤ cur') ∧ ∀ b, b ≠ p → H' b = H1 b) ?_ ?_
  · walk_at "u"
    refine br_d (fun h1 => ?_) (fun h1 => ?_)
    · walk_at "u"
      have hi := hin h1
      refine r_ixL (SqL.of hl) (v := .int ns[at_]) (atI_nat (by simp [hi])) ?_
      walk_at "u"
      refine ⟨rfl, ⟨((ns[at_]).natAbs : Int), at_ + 1, ?_, Int.natCast_nonneg _⟩, fun b hb => ?_⟩
      · rw [upd_same]; rfl
      · rw [upd_ne hb, upd_ne hb]
    · walk_at "u"
      exact ⟨rfl, ⟨cur, at_, hp, h0⟩, fun b _ => rfl⟩
  rintro σ H2 ⟨rfl, ⟨cur', at', hp2, h2⟩, hk⟩
  walk_at "u"
  have hl2 : H2 l = some (.lst (ns.map V.int)) := by rw [hk l hne]; exact hl
  refine q _ _ (Int.emod_nonneg _ (by omega)) (Int.emod_lt_of_pos _ hm) ⟨ns, _, seed, at', upd_same, by rw [upd_ne hne]; exact hl2, hne, Int.ediv_nonneg h2 (by omega)⟩ (fun b hb => by rw [upd_ne hb, hk b hb])
theorem rd_l_start (h : sp_l_start K vs H Q E) : t_l_start K { nx := fun _ H' => Q .non H', rt := Q } (start n_l_start vs) H := by
  obtain ⟨a, ns, rfl, hs, hlen, q⟩ := h
  unfold t_l_start
  walk_at "u"
  refine r_cut (fun σ' H' => H' = H ∧ ∃ (seed : Int) (y : Option V), σ' = [some (.ref a), some (.int seed), y]) ?_ ?_
  · walk_at "u"
    refine it_list ?_
    walk_at "u"
    refine ⟨a, rfl, ⟨_, hs⟩, f_list (xs := ns.map V.int) (fun i σ' H' => H' = H ∧ ∃ (seed : Int) (y : Option V), σ' = [some (.ref a), some (.int seed), y]) ⟨rfl, 7, none, rfl⟩ (fun i σ H' h => h.1 ▸ hs) ?_ ?_⟩
    · rintro i x σ H' hx ⟨rfl, seed, y, rfl⟩
      rw [List.getElem?_map] at hx
      obtain ⟨n, hn, rfl⟩ := Option.map_eq_some_iff.mp hx
      walk_at "u"
      exact ⟨rfl, _, _, rfl⟩
    · rintro σ H' h
      walk_at "u"
      exact h
  rintro σ H1 ⟨rfl, seed, y, rfl⟩
  walk_at "u"
  refine r_listL hs fun l hl => ?_
  walk_at "u"
  refine ⟨szl (by simp), fun p hp => ?_⟩
  have hlp : l ≠ p := ne_of_none upd_same hp
  have hp1 : H1 p = none := by rw [upd_ne hlp.symm] at hp; exact hp
  refine q p l _ (same_mut (same_new hl) hp1) hp1 ⟨ns, 0, seed, 0, upd_same, by rw [upd_ne hlp, upd_same], hlp, Int.le_refl _⟩
theorem rd_l_value (h : sp_l_value K vs H Q E) : t_l_value K { nx := fun _ H' => Q .non H', rt := Q } (start n_l_value vs) H := by
  obtain ⟨w, rfl, h0, hw, q⟩ := h
  obtain ⟨c0, hc0⟩ : ∃ c, w.cps.toList[0]? = some c := ⟨w.cps.toList[0]'(by rw [← str_len]; omega), by simp⟩
  have minus : (⟨#[c0]⟩ : Str) = Str.ofString "-" ↔ w.cps.toList[0]? = some 45 := by
    rw [str_eq, lit_minus, hc0]; simp
  unfold t_l_value
  walk_at "u"
  refine r_cut (fun σ' H' => H' = H ∧ ∃ d : Str, σ' = [some (.str w), some (.str d), none, none] ∧ d.cps.toList = bodyN w.cps.toList ∧ d.length ≤ 1000) ?_ ?_
  · walk_at "u"
    refine r_ixS (c := c0) (szl (by omega)) (atI_nat (j := 0) hc0) ?_
    walk_at "u"
    refine br_d (fun h1 => ?_) (fun h1 => ?_)
    · walk_at "u"
      exact ⟨rfl, _, rfl, by rw [drop1, bodyN_eq, if_pos (minus.mp h1)], by rw [str_len, drop1, List.length_drop]; rw [str_len] at hw; omega⟩
    · walk_at "u"
      exact ⟨rfl, w, rfl, by rw [bodyN_eq, if_neg (fun e => h1 (minus.mpr e))], hw⟩
  rintro σ H1 ⟨rfl, d, rfl, hd, hdl⟩
  have hlen : d.length = (bodyN w.cps.toList).length := by rw [str_len, hd]
  have bad : ¬ ((1 ≤ (bodyN w.cps.toList).length ∧ (bodyN w.cps.toList).length ≤ 10) ∧ (bodyN w.cps.toList).all isD = true) → Q .non H1 := fun h => by
    unfold numv at q; rw [if_neg h] at q; exact q
  refine r_cut (fun σ' H' => H' = H1 ∧ σ' = [some (.str w), some (.str d), none, none] ∧ (1 ≤ (bodyN w.cps.toList).length ∧ (bodyN w.cps.toList).length ≤ 10)) ?_ ?_
  · walk_at "u"
    have e0 : d = Str.ofString "" ↔ d.length = 0 := by
      rw [str_eq, str_len]
      have : (Str.ofString "").cps.toList = [] := by decide +kernel
      rw [this]; simp
    refine br_d (fun h1 => ?_) (fun h1 => ?_)
    · walk_at "u"
      have := e0.mp h1
      exact bad (by omega)
    · walk_at "u"
      have h1' : d.length ≠ 0 := fun h => h1 (e0.mpr h)
      refine br_d (fun h2 => ?_) (fun h2 => ?_)
      · walk_at "u"
        exact bad (by omega)
      · walk_at "u"
        exact ⟨rfl, rfl, by omega, by omega⟩
  rintro σ H2 ⟨rfl, rfl, hb⟩
  refine r_cut (fun σ' H' => H' = H2 ∧ (∃ y, σ' = [some (.str w), some (.str d), y, none]) ∧ (bodyN w.cps.toList).all isD = true) ?_ ?_
  · walk_at "u"
    refine it_str ?_
    walk_at "u"
    refine ⟨d, rfl, f_str (fun i σ' H' => H' = H2 ∧ (∃ y, σ' = [some (.str w), some (.str d), y, none]) ∧ ((bodyN w.cps.toList).take i).all isD = true) ⟨rfl, ⟨none, rfl⟩, rfl⟩ ?_ ?_⟩
    · rintro i c σ' H' hc ⟨rfl, ⟨y, rfl⟩, ha⟩
      walk_at "u"
      rw [mem_digits]
      rw [hd] at hc
      cases h3 : isD c with
      | true =>
        walk_at "u"
        refine ⟨rfl, ⟨_, rfl⟩, ?_⟩
        rw [List.take_add_one, hc, List.all_append, ha]
        simp [h3]
      | false =>
        walk_at "u"
        refine bad fun h => ?_
        have := List.all_eq_true.mp h.2 c (List.mem_of_getElem? hc)
        rw [h3] at this; cases this
    · rintro σ' H' ⟨rfl, hy, ha⟩
      walk_at "u"
      refine ⟨rfl, hy, ?_⟩
      rw [hd, List.take_length] at ha
      exact ha
  rintro σ H3 ⟨rfl, ⟨y, rfl⟩, hall⟩
  have q0 : ((bodyN w.cps.toList)[0]? = some 48 ∧ w.cps.toList ≠ [48]) → Q .non H3 := fun h => by
    unfold numv at q
    rw [if_pos ⟨hb, hall⟩, if_pos h] at q
    exact q
  refine r_cut (fun σ' H' => H' = H3 ∧ σ' = [some (.str w), some (.str d), y, none] ∧ ¬ ((bodyN w.cps.toList)[0]? = some 48 ∧ w.cps.toList ≠ [48])) ?_ ?_
  · obtain ⟨c, hc⟩ : ∃ c, d.cps.toList[0]? = some c := ⟨d.cps.toList[0]'(by rw [← str_len]; omega), by simp⟩
    walk_at "u"
    refine r_ixS (c := c) (szl (by omega)) (atI_nat (j := 0) hc) ?_
    walk_at "u"
    refine br_d (fun h1 => ?_) (fun h1 => ?_)
    · walk_at "u"
      refine br_nd (fun h2 => ?_) (fun h2 => ?_)
      · walk_at "u"
        exact q0 ⟨by rw [← hd, hc, (one_eq c).mp h1], fun e => h2 ((zero_eq w).mpr e)⟩
      · walk_at "u"
        exact ⟨rfl, rfl, fun h => h.2 ((zero_eq w).mp h2)⟩
    · walk_at "u"
      exact ⟨rfl, rfl, fun h => h1 ((one_eq c).mpr (by rw [← hd, hc] at h; simpa using h.1))⟩
  rintro σ H4 ⟨rfl, rfl, hz⟩
  walk_at "u"
  have hi : PySem.intText? d = some ((NumText.digitsVal (bodyN w.cps.toList) : Nat) : Int) := by
    rw [← hd]
    refine PySem.intText_digits (fun c hc => ?_) (fun e => ?_) (by omega)
    · rw [hd] at hc
      have := List.all_eq_true.mp hall c hc
      unfold isD at this
      exact of_decide_eq_true this
    · rw [hd] at e; rw [e] at hb; exact absurd hb.1 (by decide)
  refine ⟨by omega, _, hi, ?_⟩
  walk_at "u"
  have vN : valN w.cps.toList = if w.cps.toList[0]? = some 45 then -((NumText.digitsVal (bodyN w.cps.toList) : Nat) : Int) else ((NumText.digitsVal (bodyN w.cps.toList) : Nat) : Int) := by
    cases e : w.cps.toList with
    | nil => rfl
    | cons c r =>
      by_cases h : c = 45
      · subst h; rfl
      · have e1 : bodyN (c :: r) = c :: r := by rw [bodyN_eq]; simp [h]
        have e2 : valN (c :: r) = ((NumText.digitsVal (c :: r) : Nat) : Int) := by
          unfold valN
          split
          · rename_i e; simp at e; exact absurd e.1 h
          · rfl
        rw [e1, e2]; simp [h]
  refine r_cut (fun σ' H' => H' = H4 ∧ σ' = [some (.str w), some (.str d), y, some (.int (valN w.cps.toList))]) ?_ ?_
  · walk_at "u"
    refine r_ixS (c := c0) (szl (by omega)) (atI_nat (j := 0) hc0) ?_
    walk_at "u"
    refine br_d (fun h1 => ?_) (fun h1 => ?_)
    · walk_at "u"
      rw [vN, if_pos (minus.mp h1)]
      exact ⟨rfl, rfl⟩
    · walk_at "u"
      rw [vN, if_neg (fun e => h1 (minus.mpr e))]
      exact ⟨rfl, rfl⟩
  rintro σ H5 ⟨rfl, rfl⟩
  walk_at "ui"
  unfold numv at q
  rw [if_pos ⟨hb, hall⟩, if_neg hz] at q
  refine br_d (fun h1 => ?_) (fun h1 => ?_)
  · walk_at "u"
    rw [if_neg (by omega)] at q
    exact q
  · walk_at "u"
    refine br_d (fun h2 => ?_) (fun h2 => ?_)
    · walk_at "u"
      rw [if_neg (by omega)] at q
      exact q
    · walk_at "u"
      rw [if_pos (by omega)] at q
      exact q
end
theorem joinL_nil : ∀ ps : List (List Nat), TL.joinL [] ps = ps.flatten
  | [] => rfl
  | [p] => by simp [TL.joinL]
  | p :: q :: r => by
    show p ++ ([] ++ TL.joinL [] (q :: r)) = _
    rw [joinL_nil (q :: r)]; simp
theorem join_empty (ys : List Str) : (Txt.join (Str.ofString "") ys).cps.toList = (ys.map fun y => y.cps.toList).flatten := by
  have e := TL.tl_join (Str.ofString "") ys
  have e0 : TL.tl (Str.ofString "") = [] := by decide +kernel
  rw [TL.join_eq]
  show TL.tl _ = _
  rw [e, e0, joinL_nil]
theorem str_num_len {i : Int} (h : i.natAbs < 10 ^ 11) : 0 < (Str.ofString (toString i)).length ∧ (Str.ofString (toString i)).length ≤ 12 := by
  have nat : ∀ n : Nat, n < 10 ^ 11 → 0 < (Str.ofString (toString (n : Int))).length ∧ (Str.ofString (toString (n : Int))).length ≤ 11 := fun n hn => by
    refine ⟨?_, PyProof.Rows.toString_length_le (by omega) (by decide) (by omega)⟩
    rw [str_len]
    show 0 < (TL.tl (Str.ofString (toString (n : Int)))).length
    rw [TL.tl_num]
    exact Nat.pos_of_ne_zero (fun e => TL.numL_ne n (List.eq_nil_of_length_eq_zero e))
  cases i with
  | ofNat n =>
    have := nat n (by simpa using h)
    exact ⟨this.1, by have := this.2; show (Str.ofString (toString (n : Int))).length ≤ 12; omega⟩
  | negSucc n =>
    have h1 := nat (n + 1) (by simpa using h)
    have e : toString (Int.negSucc n) = "-" ++ toString ((n + 1 : Nat) : Int) := rfl
    rw [e]
    have e2 : (Str.ofString ("-" ++ toString ((n + 1 : Nat) : Int))).length = 1 + (Str.ofString (toString ((n + 1 : Nat) : Int))).length := by
      rw [PyProof.Rows.ofString_length, PyProof.Rows.ofString_length]
      simp [Nat.add_comm]
    rw [e2]
    omega
theorem Dr.upd {H : Hp} {p l x : Addr} {o : HO} (h : Dr H p l) (h1 : x ≠ p) (h2 : x ≠ l) : Dr (upd H x o) p l := by
  obtain ⟨ns, cur, seed, at_, hp, hl, hne, h0⟩ := h
  exact ⟨ns, cur, seed, at_, by rw [upd_ne h1.symm]; exact hp, by rw [upd_ne h2.symm]; exact hl, hne, h0⟩
theorem Dr.nep {H : Hp} {p l x : Addr} (h : Dr H p l) (hx : H x = none) : x ≠ p := by
  obtain ⟨ns, cur, seed, at_, hp, hl, hne, h0⟩ := h
  exact (ne_of_none hp hx).symm
theorem Dr.nel {H : Hp} {p l x : Addr} (h : Dr H p l) (hx : H x = none) : x ≠ l := by
  obtain ⟨ns, cur, seed, at_, hp, hl, hne, h0⟩ := h
  exact (ne_of_none hl hx).symm
theorem Dr.new {H : Hp} {p l x : Addr} {o : HO} (h : Dr H p l) (hx : H x = none) : Dr (L2.upd H x o) p l := h.upd (h.nep hx) (h.nel hx)
theorem log_ok {i : Int} (h : i.natAbs < 10 ^ 11) : i.natAbs.log2 < 1920 := Nat.lt_of_lt_of_le (PySem.Flt.log2_lt_of (k := 64) (by decide) (by omega)) (by decide)
section
variable {K : PySem.W.Frag} {vs : List V} {H : Hp} {Q : VK} {E : XK}
theorem rd_l_word (h : sp_l_word K vs H Q E) : t_l_word K { nx := fun _ H' => Q .non H', rt := Q } (start n_l_word vs) H := by
  obtain ⟨p, l, rfl, hD, q⟩ := h
  unfold t_l_word
  walk_at "u"
  refine ⟨p, l, _, rfl, by decide, by decide, hD, fun n H1 hn0 hn hD1 _ => ?_⟩
  walk_at "u"
  walk_at "ui"
  refine br_d (fun h1 => ?_) (fun h1 => ?_)
  · walk_at "u"
    refine ⟨p, l, _, rfl, by decide, by decide, hD1, fun m H2 hm0 hm hD2 _ => ?_⟩
    walk_at "u"
    have hb : (m - 20).natAbs < 10 ^ 11 := by omega
    refine r_strI (log_ok hb) ?_
    have := str_num_len hb
    exact q _ _ this.1 (by omega) hD2
  walk_at "u"
  walk_at "ui"
  refine br_d (fun h2 => ?_) (fun h2 => ?_)
  · walk_at "u"
    refine ⟨szl (by simp), fun a ha => ?_⟩
    walk_at "u"
    refine ⟨p, l, _, rfl, by decide, by decide, hD1.new ha, fun m H2 hm0 hm hD2 k2 => ?_⟩
    walk_at "u"
    have ha2 : H2 a = some (.lst [.int (-2147483648), .int 2147483647]) := by rw [k2 a (hD1.nep ha), upd_same]
    obtain ⟨z, hz, hz1⟩ : ∃ z : Int, atI [V.int (-2147483648), V.int 2147483647] m = some (.int z) ∧ z.natAbs < 10 ^ 10 := by
      rcases (show m = 0 ∨ m = 1 by omega) with e | e
      · subst e; exact ⟨_, rfl, by decide⟩
      · subst e; exact ⟨_, rfl, by decide⟩
    refine r_ixL (SqL.of ha2) hz ?_
    walk_at "u"
    refine ⟨p, l, _, rfl, by decide, by decide, hD2, fun m2 H3 hm20 hm2 hD3 _ => ?_⟩
    walk_at "u"
    have hb : (z + m2 - 3).natAbs < 10 ^ 11 := by omega
    refine r_strI (log_ok hb) ?_
    have := str_num_len hb
    exact q _ _ this.1 (by omega) hD3
  walk_at "u"
  walk_at "ui"
  refine br_d (fun h3 => ?_) (fun h3 => ?_)
  · walk_at "u"
    refine ⟨p, l, _, rfl, by decide, by decide, hD1, fun m H2 hm0 hm hD2 _ => ?_⟩
    walk_at "u"
    have hb : (m - 20000000000).natAbs < 10 ^ 11 := by omega
    refine r_strI (log_ok hb) ?_
    have := str_num_len hb
    exact q _ _ this.1 (by omega) hD2
  walk_at "u"
  refine ⟨p, l, _, rfl, by decide, by decide, hD1, fun m H2 hm0 hm hD2 _ => ?_⟩
  walk_at "u"
  refine ⟨by omega, by omega, fun D hD' => c_range (fun i H' => Dr H' p l ∧ ∃ ys : List Str, H' D = some (.lst (ys.map V.str)) ∧ ys.length = i ∧ ∀ y ∈ ys, y.length = 1) ⟨hD2.new hD', [], upd_same, rfl, fun _ h => nomatch h⟩ ?_ ?_⟩
  · rintro i H3 hi ⟨d3, ys, e3, l3, y3⟩
    walk_at "u"
    refine ⟨rfl, ?_⟩
    walk_at "u"
    refine ⟨p, l, _, rfl, by decide, by decide, d3, fun j H4 hj0 hj hD4 k4 => ?_⟩
    walk_at "u"
    obtain ⟨c, hc⟩ : ∃ c, atI (Str.ofString "0123456789").cps.toList j = some c := by
      rw [lit_digits]
      obtain ⟨k, rfl⟩ : ∃ k : Nat, j = (k : Int) := ⟨j.toNat, by omega⟩
      have hk : k < [48, 49, 50, 51, 52, 53, 54, 55, 56, 57].length := by simp; omega
      exact ⟨_, atI_nat (List.getElem?_eq_getElem hk)⟩
    have hne : D ≠ p := hD2.nep hD'
    have hnl : D ≠ l := hD2.nel hD'
    have e4 : H4 D = some (.lst (ys.map V.str)) := by rw [k4 D hne]; exact e3
    refine r_ixS (szl (by decide +kernel)) hc ?_
    refine ⟨_, e4, szt (by simp; omega), hD4.upd hne hnl, ys ++ [⟨#[c]⟩], by rw [upd_same]; simp, by simp [l3], ?_⟩
    intro y hy
    rcases List.mem_append.mp hy with h | h
    · exact y3 y h
    · rw [List.mem_singleton.mp h]; rfl
  rintro H3 ⟨d3, ys, e3, l3, y3⟩
  walk_at "u"
  have hsum : (ys.map (·.length)).sum = ys.length := by
    clear l3 e3
    induction ys with
    | nil => rfl
    | cons y r ih =>
      rw [List.map_cons, List.sum_cons, ih (fun z hz => y3 z (List.mem_cons_of_mem _ hz)), y3 y (List.mem_cons_self ..), List.length_cons]
      omega
  have hW : (Txt.join (Str.ofString "") ys).length = ys.length := by
    rw [str_len, join_empty, List.length_flatten, List.map_map]
    rw [← hsum]
    congr 1
  have he0 : (Str.ofString "").length = 0 := by decide +kernel
  refine ⟨ys, .inl (SqL.of e3), by rw [hsum, he0]; omega, ?_⟩
  generalize Txt.join (Str.ofString "") ys = W at hW ⊢
  walk_at "u"
  refine ⟨p, l, _, rfl, by decide, by decide, d3, fun j H4 hj0 hj hD4 k4 => ?_⟩
  walk_at "u"
  obtain ⟨c, hc⟩ : ∃ c, atI (Str.ofString "-+_.a 0").cps.toList j = some c := by
    obtain ⟨k, rfl⟩ : ∃ k : Nat, j = (k : Int) := ⟨j.toNat, by omega⟩
    have hk : k < (Str.ofString "-+_.a 0").cps.toList.length := by
      rw [show (Str.ofString "-+_.a 0").cps.toList.length = 7 by decide +kernel]; omega
    exact ⟨_, atI_nat (List.getElem?_eq_getElem hk)⟩
  refine r_ixS (szl (by decide +kernel)) hc ?_
  walk_at "u"
  refine ⟨p, l, _, rfl, by omega, by omega, hD4, fun a H5 ha0 ha hD5 k5 => ?_⟩
  walk_at "u"
  have h1l : (⟨#[c]⟩ : Str).length = 1 := rfl
  walk_at "ui"
  refine br_d (fun h4 => ?_) (fun h4 => ?_)
  · walk_at "u"
    have b1 := cutS_length W none (some a)
    have b2 := cutS_length W (some a) none
    have hA : ∀ x y : Str, (x ++ y).length = x.length + y.length := fun x y => by
      show (x.cps ++ y.cps).size = _
      rw [Array.size_append]; rfl
    refine r_addS (szl (by omega)) ?_
    walk_at "u"
    refine r_addS (szl (by rw [hA]; omega)) ?_
    exact q _ _ (by rw [hA, hA]; omega) (by rw [hA, hA]; omega) hD5
  · walk_at "u"
    refine ⟨p, l, _, rfl, by decide, by decide, hD5, fun z H6 hz0 hz hD6 k6 => ?_⟩
    walk_at "u"
    have hm1 : (Str.ofString "-").length = 1 := by decide +kernel
    refine r_mulS (by rw [hm1]; omega) (by omega) (by omega) ?_
    walk_at "u"
    have hA : ∀ x y : Str, (x ++ y).length = x.length + y.length := fun x y => by
      show (x.cps ++ y.cps).size = _
      rw [Array.size_append]; rfl
    have hM := PyProof.Rows.len_mul (Str.ofString "-") z
    rw [hm1] at hM
    rw [decide_eq_false (show ¬ z < 0 by omega)] at hM
    simp only [Bool.false_eq_true, if_false] at hM
    refine r_addS (szl (by omega)) ?_
    exact q _ _ (by rw [hA]; omega) (by rw [hA]; omega) hD6
theorem rd_law (h : sp_law K vs H Q E) : t_law K { nx := fun _ H' => Q .non H', rt := Q } (start n_law vs) H := by
  obtain ⟨a, ns, rfl, hs, hlen, q⟩ := h
  unfold t_law
  walk_at "u"
  refine ⟨a, ns, rfl, hs, hlen, fun p l H1 _ _ hD => ?_⟩
  walk_at "u"
  refine r_cut (fun _ _ => True) ?_ ?_
  · walk_at "u"
    refine ⟨by decide, by decide, f_range (fun i σ' H' => Dr H' p l ∧ ∃ y2 y3 y4 y5, σ' = [some (.ref a), some (.ref p), y2, y3, y4, y5]) ⟨hD, none, none, none, none, rfl⟩ ?_ ?_⟩
    · rintro i σ' H' hi ⟨hD2, y2, y3, y4, y5, rfl⟩
      walk_at "u"
      refine ⟨p, l, rfl, hD2, fun w H3 hw0 hw hD3 => ?_⟩
      walk_at "u"
      refine ⟨w, rfl, hw0, by omega, ?_⟩
      walk_at "u"
      refine ⟨w, rfl, by omega, fun H4 s4 => ?_⟩
      walk_at "u"
      have hD4 : Dr H4 p l := by
        obtain ⟨ns, cur, seed, at_, hp, hl, hne, h0⟩ := hD3
        exact ⟨ns, cur, seed, at_, s4 _ _ hp, s4 _ _ hl, hne, h0⟩
      cases numv w.cps.toList with
      | none =>
        dsimp only [optV]
        walk_at "u"
        exact ⟨hD4, _, _, _, _, rfl⟩
      | some n =>
        dsimp only [optV]
        walk_at "u"
        refine ⟨n, rfl, ?_⟩
        walk_at "u"
        exact ⟨hD4, _, _, _, _, rfl⟩
    · rintro σ' H' _
      walk_at "u"
      trivial
  rintro σ' H' _
  walk_at "u"
  exact q _
end
section
variable {K : PySem.W.Frag} {vs : List V} {H : Hp} {Q : VK} {E : XK}
theorem len_is_integer (h : sp_is_integer K vs H Q E) : vs.length = (["value"] : List Str).length := by
  first | (obtain ⟨rfl, _⟩ := h; rfl) | (obtain ⟨_, rfl, _⟩ := h; rfl) | (obtain ⟨_, _, rfl, _⟩ := h; rfl) | (obtain ⟨_, _, _, rfl, _⟩ := h; rfl) | (obtain ⟨_, _, _, _, rfl, _⟩ := h; rfl) | (obtain ⟨_, _, _, _, _, rfl, _⟩ := h; rfl) | (obtain ⟨_, _, _, _, _, _, rfl, _⟩ := h; rfl) | (obtain ⟨_, _, _, _, _, _, _, rfl, _⟩ := h; rfl) | (obtain ⟨_, _, _, _, _, _, _, _, rfl, _⟩ := h; rfl)
theorem len_in_range (h : sp_in_range K vs H Q E) : vs.length = (["value"] : List Str).length := by
  first | (obtain ⟨rfl, _⟩ := h; rfl) | (obtain ⟨_, rfl, _⟩ := h; rfl) | (obtain ⟨_, _, rfl, _⟩ := h; rfl) | (obtain ⟨_, _, _, rfl, _⟩ := h; rfl) | (obtain ⟨_, _, _, _, rfl, _⟩ := h; rfl) | (obtain ⟨_, _, _, _, _, rfl, _⟩ := h; rfl) | (obtain ⟨_, _, _, _, _, _, rfl, _⟩ := h; rfl) | (obtain ⟨_, _, _, _, _, _, _, rfl, _⟩ := h; rfl) | (obtain ⟨_, _, _, _, _, _, _, _, rfl, _⟩ := h; rfl)
theorem len_numeral_value (h : sp_numeral_value K vs H Q E) : vs.length = (["word"] : List Str).length := by
  first | (obtain ⟨rfl, _⟩ := h; rfl) | (obtain ⟨_, rfl, _⟩ := h; rfl) | (obtain ⟨_, _, rfl, _⟩ := h; rfl) | (obtain ⟨_, _, _, rfl, _⟩ := h; rfl) | (obtain ⟨_, _, _, _, rfl, _⟩ := h; rfl) | (obtain ⟨_, _, _, _, _, rfl, _⟩ := h; rfl) | (obtain ⟨_, _, _, _, _, _, rfl, _⟩ := h; rfl) | (obtain ⟨_, _, _, _, _, _, _, rfl, _⟩ := h; rfl) | (obtain ⟨_, _, _, _, _, _, _, _, rfl, _⟩ := h; rfl)
theorem len_read_numeral (h : sp_read_numeral K vs H Q E) : vs.length = (["word"] : List Str).length := by
  first | (obtain ⟨rfl, _⟩ := h; rfl) | (obtain ⟨_, rfl, _⟩ := h; rfl) | (obtain ⟨_, _, rfl, _⟩ := h; rfl) | (obtain ⟨_, _, _, rfl, _⟩ := h; rfl) | (obtain ⟨_, _, _, _, rfl, _⟩ := h; rfl) | (obtain ⟨_, _, _, _, _, rfl, _⟩ := h; rfl) | (obtain ⟨_, _, _, _, _, _, rfl, _⟩ := h; rfl) | (obtain ⟨_, _, _, _, _, _, _, rfl, _⟩ := h; rfl) | (obtain ⟨_, _, _, _, _, _, _, _, rfl, _⟩ := h; rfl)
theorem len_l_start (h : sp_l_start K vs H Q E) : vs.length = (["_law_script"] : List Str).length := by
  first | (obtain ⟨rfl, _⟩ := h; rfl) | (obtain ⟨_, rfl, _⟩ := h; rfl) | (obtain ⟨_, _, rfl, _⟩ := h; rfl) | (obtain ⟨_, _, _, rfl, _⟩ := h; rfl) | (obtain ⟨_, _, _, _, rfl, _⟩ := h; rfl) | (obtain ⟨_, _, _, _, _, rfl, _⟩ := h; rfl) | (obtain ⟨_, _, _, _, _, _, rfl, _⟩ := h; rfl) | (obtain ⟨_, _, _, _, _, _, _, rfl, _⟩ := h; rfl) | (obtain ⟨_, _, _, _, _, _, _, _, rfl, _⟩ := h; rfl)
theorem len_l_draw (h : sp_l_draw K vs H Q E) : vs.length = (["_law_state", "_law_many"] : List Str).length := by
  first | (obtain ⟨rfl, _⟩ := h; rfl) | (obtain ⟨_, rfl, _⟩ := h; rfl) | (obtain ⟨_, _, rfl, _⟩ := h; rfl) | (obtain ⟨_, _, _, rfl, _⟩ := h; rfl) | (obtain ⟨_, _, _, _, rfl, _⟩ := h; rfl) | (obtain ⟨_, _, _, _, _, rfl, _⟩ := h; rfl) | (obtain ⟨_, _, _, _, _, _, rfl, _⟩ := h; rfl) | (obtain ⟨_, _, _, _, _, _, _, rfl, _⟩ := h; rfl) | (obtain ⟨_, _, _, _, _, _, _, _, rfl, _⟩ := h; rfl)
theorem len_l_is_integer (h : sp_l_is_integer K vs H Q E) : vs.length = (["_law_actual"] : List Str).length := by
  first | (obtain ⟨rfl, _⟩ := h; rfl) | (obtain ⟨_, rfl, _⟩ := h; rfl) | (obtain ⟨_, _, rfl, _⟩ := h; rfl) | (obtain ⟨_, _, _, rfl, _⟩ := h; rfl) | (obtain ⟨_, _, _, _, rfl, _⟩ := h; rfl) | (obtain ⟨_, _, _, _, _, rfl, _⟩ := h; rfl) | (obtain ⟨_, _, _, _, _, _, rfl, _⟩ := h; rfl) | (obtain ⟨_, _, _, _, _, _, _, rfl, _⟩ := h; rfl) | (obtain ⟨_, _, _, _, _, _, _, _, rfl, _⟩ := h; rfl)
theorem len_l_word (h : sp_l_word K vs H Q E) : vs.length = (["_law_state"] : List Str).length := by
  first | (obtain ⟨rfl, _⟩ := h; rfl) | (obtain ⟨_, rfl, _⟩ := h; rfl) | (obtain ⟨_, _, rfl, _⟩ := h; rfl) | (obtain ⟨_, _, _, rfl, _⟩ := h; rfl) | (obtain ⟨_, _, _, _, rfl, _⟩ := h; rfl) | (obtain ⟨_, _, _, _, _, rfl, _⟩ := h; rfl) | (obtain ⟨_, _, _, _, _, _, rfl, _⟩ := h; rfl) | (obtain ⟨_, _, _, _, _, _, _, rfl, _⟩ := h; rfl) | (obtain ⟨_, _, _, _, _, _, _, _, rfl, _⟩ := h; rfl)
theorem len_l_value (h : sp_l_value K vs H Q E) : vs.length = (["_law_word_here"] : List Str).length := by
  first | (obtain ⟨rfl, _⟩ := h; rfl) | (obtain ⟨_, rfl, _⟩ := h; rfl) | (obtain ⟨_, _, rfl, _⟩ := h; rfl) | (obtain ⟨_, _, _, rfl, _⟩ := h; rfl) | (obtain ⟨_, _, _, _, rfl, _⟩ := h; rfl) | (obtain ⟨_, _, _, _, _, rfl, _⟩ := h; rfl) | (obtain ⟨_, _, _, _, _, _, rfl, _⟩ := h; rfl) | (obtain ⟨_, _, _, _, _, _, _, rfl, _⟩ := h; rfl) | (obtain ⟨_, _, _, _, _, _, _, _, rfl, _⟩ := h; rfl)
theorem len_law (h : sp_law K vs H Q E) : vs.length = (["_law_script"] : List Str).length := by
  first | (obtain ⟨rfl, _⟩ := h; rfl) | (obtain ⟨_, rfl, _⟩ := h; rfl) | (obtain ⟨_, _, rfl, _⟩ := h; rfl) | (obtain ⟨_, _, _, rfl, _⟩ := h; rfl) | (obtain ⟨_, _, _, _, rfl, _⟩ := h; rfl) | (obtain ⟨_, _, _, _, _, rfl, _⟩ := h; rfl) | (obtain ⟨_, _, _, _, _, _, rfl, _⟩ := h; rfl) | (obtain ⟨_, _, _, _, _, _, _, rfl, _⟩ := h; rfl) | (obtain ⟨_, _, _, _, _, _, _, _, rfl, _⟩ := h; rfl)
end
theorem law_in {K : PySem.W.Frag} {H : Hp} (a : Addr) (ns : List Int) (hl : ns.length ≤ 63) (h : SqL K H a (ns.map V.int)) : sp_law K [.ref a] H (fun v _ => v = .bl true) (fun _ _ _ => False) := ⟨a, ns, rfl, h, hl, fun _ => rfl⟩
def topS (i : Nat) : Stmt := PySem.Challenge.pw_escheat_k02_read_numeral.main.body.getD i (.Pass ⟨0, 0, 0, 0⟩)
abbrev s_is_integer : Stmt := topS 2
theorem sc_is_integer : FnScope n_is_integer ["value"] (defScope s_is_integer) := ⟨rfl, rfl, rfl, by decide +kernel, rfl, by decide +kernel, by decide +kernel⟩
abbrev s_in_range : Stmt := topS 3
theorem sc_in_range : FnScope n_in_range ["value"] (defScope s_in_range) := ⟨rfl, rfl, rfl, by decide +kernel, rfl, by decide +kernel, by decide +kernel⟩
abbrev s_numeral_value : Stmt := topS 7
theorem sc_numeral_value : FnScope n_numeral_value ["word"] (defScope s_numeral_value) := ⟨rfl, rfl, rfl, by decide +kernel, rfl, by decide +kernel, by decide +kernel⟩
abbrev s_read_numeral : Stmt := topS 9
theorem sc_read_numeral : FnScope n_read_numeral ["word"] (defScope s_read_numeral) := ⟨rfl, rfl, rfl, by decide +kernel, rfl, by decide +kernel, by decide +kernel⟩
abbrev s_l_start : Stmt := topS 11
theorem sc_l_start : FnScope n_l_start ["_law_script"] (defScope s_l_start) := ⟨rfl, rfl, rfl, by decide +kernel, rfl, by decide +kernel, by decide +kernel⟩
abbrev s_l_draw : Stmt := topS 12
theorem sc_l_draw : FnScope n_l_draw ["_law_state", "_law_many"] (defScope s_l_draw) := ⟨rfl, rfl, rfl, by decide +kernel, rfl, by decide +kernel, by decide +kernel⟩
abbrev s_l_is_integer : Stmt := topS 13
theorem sc_l_is_integer : FnScope n_l_is_integer ["_law_actual"] (defScope s_l_is_integer) := ⟨rfl, rfl, rfl, by decide +kernel, rfl, by decide +kernel, by decide +kernel⟩
abbrev s_l_word : Stmt := topS 14
theorem sc_l_word : FnScope n_l_word ["_law_state"] (defScope s_l_word) := ⟨rfl, rfl, rfl, by decide +kernel, rfl, by decide +kernel, by decide +kernel⟩
abbrev s_l_value : Stmt := topS 15
theorem sc_l_value : FnScope n_l_value ["_law_word_here"] (defScope s_l_value) := ⟨rfl, rfl, rfl, by decide +kernel, rfl, by decide +kernel, by decide +kernel⟩
abbrev s_law : Stmt := topS 16
theorem sc_law : FnScope n_law ["_law_script"] (defScope s_law) := ⟨rfl, rfl, rfl, by decide +kernel, rfl, by decide +kernel, by decide +kernel⟩
/-- what the top has left -/
structure Txt (K : PySem.W.Frag) (mg : Str → Option Value) : Prop where
  b_isinstance : mg "isinstance" = none
  b_int : mg "int" = none
  b_bool : mg "bool" = none
  c_HALF : ∃ t, mg "HALF" = some (.int 2147483648 t)
  b_len : mg "len" = none
  c_MAX_DIGITS : ∃ t, mg "MAX_DIGITS" = some (.int 10 t)
  b_all : mg "all" = none
  c_DIGITS : ∃ t, mg "DIGITS" = some (.str "0123456789" t)
  b_list : mg "list" = none
  b_abs : mg "abs" = none
  b_str : mg "str" = none
  b_range : mg "range" = none
  g_is_integer : mg "is_integer" = some (.ref (He.ga K "is_integer"))
  F_is_integer : ∃ fd, FunD K "is_integer" "is_integer" (defArgs s_is_integer) (defBody s_is_integer) (defScope s_is_integer) [] [] (He.ga K "is_integer") fd
  g_in_range : mg "in_range" = some (.ref (He.ga K "in_range"))
  F_in_range : ∃ fd, FunD K "in_range" "in_range" (defArgs s_in_range) (defBody s_in_range) (defScope s_in_range) [] [] (He.ga K "in_range") fd
  g_numeral_value : mg "numeral_value" = some (.ref (He.ga K "numeral_value"))
  F_numeral_value : ∃ fd, FunD K "numeral_value" "numeral_value" (defArgs s_numeral_value) (defBody s_numeral_value) (defScope s_numeral_value) [] [] (He.ga K "numeral_value") fd
  g_read_numeral : mg "read_numeral" = some (.ref (He.ga K "read_numeral"))
  F_read_numeral : ∃ fd, FunD K "read_numeral" "read_numeral" (defArgs s_read_numeral) (defBody s_read_numeral) (defScope s_read_numeral) [] [] (He.ga K "read_numeral") fd
  g_l_start : mg "_law_start" = some (.ref (He.ga K "_law_start"))
  F_l_start : ∃ fd, FunD K "_law_start" "_law_start" (defArgs s_l_start) (defBody s_l_start) (defScope s_l_start) [] [] (He.ga K "_law_start") fd
  g_l_draw : mg "_law_draw" = some (.ref (He.ga K "_law_draw"))
  F_l_draw : ∃ fd, FunD K "_law_draw" "_law_draw" (defArgs s_l_draw) (defBody s_l_draw) (defScope s_l_draw) [] [] (He.ga K "_law_draw") fd
  g_l_is_integer : mg "_law_is_integer" = some (.ref (He.ga K "_law_is_integer"))
  F_l_is_integer : ∃ fd, FunD K "_law_is_integer" "_law_is_integer" (defArgs s_l_is_integer) (defBody s_l_is_integer) (defScope s_l_is_integer) [] [] (He.ga K "_law_is_integer") fd
  g_l_word : mg "_law_word" = some (.ref (He.ga K "_law_word"))
  F_l_word : ∃ fd, FunD K "_law_word" "_law_word" (defArgs s_l_word) (defBody s_l_word) (defScope s_l_word) [] [] (He.ga K "_law_word") fd
  g_l_value : mg "_law_value" = some (.ref (He.ga K "_law_value"))
  F_l_value : ∃ fd, FunD K "_law_value" "_law_value" (defArgs s_l_value) (defBody s_l_value) (defScope s_l_value) [] [] (He.ga K "_law_value") fd
  g_law : mg "law" = some (.ref (He.ga K "law"))
  F_law : ∃ fd, FunD K "law" "law" (defArgs s_law) (defBody s_law) (defScope s_law) [] [] (He.ga K "law") fd
section
variable {P : Program} {w : World} {K : PySem.W.Frag} {mg : Str → Option Value} {base : Heap}
theorem ok_is_integer (T : Txt K mg)  : OkF P w K mg base 1 "is_integer" ["value"] (sp_is_integer K) := by
  obtain ⟨fd, F⟩ := T.F_is_integer
  refine ⟨_, fd, T.g_is_integer, F.ok sc_is_integer (fun vs H Q E h => len_is_integer h) (fun cdv A outer s H vs Q E hr h => ⟨t_is_integer K, PSs.nox ?_, rd_is_integer h⟩), FunD.bindsN F fun _ _ _ _ _ _ us hl => match us, hl with | [_], _ => rfl, F.kp⟩
  exact (pss_one (ps_ret (pe_and (pe_callB c_isi (by rfl) T.b_isinstance (by decide +kernel) (pa_cons (pv 0) (pa_cons (pe_ty rfl T.b_int (by decide +kernel)) pa_nil))) (pe_one (pe_not (pe_callB c_isi (by rfl) T.b_isinstance (by decide +kernel) (pa_cons (pv 0) (pa_cons (pe_ty rfl T.b_bool (by decide +kernel)) pa_nil))))))))
theorem ok_in_range (T : Txt K mg) (O_is_integer : OkF P w K mg base 1 "is_integer" ["value"] (sp_is_integer K)) : OkF P w K mg base 2 "in_range" ["value"] (sp_in_range K) := by
  obtain ⟨fd, F⟩ := T.F_in_range
  refine ⟨_, fd, T.g_in_range, F.ok sc_in_range (fun vs H Q E h => len_in_range h) (fun cdv A outer s H vs Q E hr h => ⟨t_in_range K, PSs.nox ?_, rd_in_range h⟩), FunD.bindsN F fun _ _ _ _ _ _ us hl => match us, hl with | [_], _ => rfl, F.kp⟩
  exact (pss_one (ps_ret (pe_and (pe_fn O_is_integer (hr.mono (by decide)) rfl (pa_cons (pv 0) pa_nil)) (pe_one (pe_chain o_le o_lt (pe_un u_neg (pe_gint rfl T.c_HALF)) (pv 0) (pe_gint rfl T.c_HALF))))))
theorem ok_numeral_value (T : Txt K mg) (O_in_range : OkF P w K mg base 2 "in_range" ["value"] (sp_in_range K)) : OkF P w K mg base 3 "numeral_value" ["word"] (sp_numeral_value K) := by
  obtain ⟨fd, F⟩ := T.F_numeral_value
  refine ⟨_, fd, T.g_numeral_value, F.ok sc_numeral_value (fun vs H Q E h => len_numeral_value h) (fun cdv A outer s H vs Q E hr h => ⟨t_numeral_value K, PSs.nox ?_, rd_numeral_value h⟩), FunD.bindsN F fun _ _ _ _ _ _ us hl => match us, hl with | [_], _ => rfl, F.kp⟩
  exact (pss_c (ps_set (i := 1) sc_numeral_value.nd rfl (Or.inl rfl) (pv 0))
    (pss_c (ps_if (pt_tru (pe_bm PySem.F.plainAttrs_str PySem.F.slot_str_startswith PySem.F.type_str_startswith m_starts (pv 0) (pa_cons pe_str pa_nil))) (pss_one (ps_set (i := 1) sc_numeral_value.nd rfl (Or.inl rfl) (pe_slice s_l (pv 0) (po_some pe_int) po_none))) pss_nil)
    (pss_c (ps_if (PW.pt (pw_or (pt_not (pt_chain o_le o_le pe_int (pe_callB c_len (by rfl) T.b_len (by decide +kernel) (pa_cons (pv 1) pa_nil)) (pe_gint rfl T.c_MAX_DIGITS))) (pw_or1 (pt_not (pt_tru (pe_callB (c_all rfl) (by rfl) T.b_all (by decide +kernel) (pa_cons (pe_lc (own := [("character", 3)]) (g := (gName 3)) (tt := tYes) rfl sc_numeral_value.nd (pi_any (pv 1)) (blkOk_by (own := [("character", 3)]) (N := n_numeral_value) (sc := defScope s_numeral_value) (by decide +kernel)) (fun _ _ _ _ _ => pg_name (i := 3) sc_numeral_value.nd rfl (Or.inl rfl)) (fun _ _ _ _ _ => pts_nil) (fun _ _ _ _ _ => (pe_cmpR o_in (pv 3) (pe_gstr rfl T.c_DIGITS) (by rfl)))) pa_nil))))))) (pss_one (ps_ret pe_non)) pss_nil)
    (pss_c (ps_if (PW.pt (pw_and (pt_cmpR (o_eq hr.units) (pe_ix i_x (pv 1) pe_int (fun _ _ => rfl)) pe_str (nomark _)) (pw_and1 (pt_cmpR (o_ne hr.units) (pv 0) pe_str (nomark _))))) (pss_one (ps_ret pe_non)) pss_nil)
    (pss_c (ps_set (i := 2) sc_numeral_value.nd rfl (Or.inl rfl) (pe_callTy c_int (by rfl) T.b_int (by decide +kernel) (pa_cons (pv 0) pa_nil)))
    (pss_c (ps_if (pt_tru (pe_fn O_in_range (hr.mono (by decide)) rfl (pa_cons (pv 2) pa_nil))) (pss_one (ps_ret (pv 2))) pss_nil)
    (pss_one (ps_ret pe_non))))))))
theorem ok_read_numeral (T : Txt K mg) (O_numeral_value : OkF P w K mg base 3 "numeral_value" ["word"] (sp_numeral_value K)) : OkF P w K mg base 4 "read_numeral" ["word"] (sp_read_numeral K) := by
  obtain ⟨fd, F⟩ := T.F_read_numeral
  refine ⟨_, fd, T.g_read_numeral, F.ok sc_read_numeral (fun vs H Q E h => len_read_numeral h) (fun cdv A outer s H vs Q E hr h => ⟨t_read_numeral K, PSs.nox ?_, rd_read_numeral h⟩), FunD.bindsN F fun _ _ _ _ _ _ us hl => match us, hl with | [_], _ => rfl, F.kp⟩
  exact (pss_one (ps_ret (pe_fn O_numeral_value (hr.mono (by decide)) rfl (pa_cons (pv 0) pa_nil))))
theorem ok_l_start (T : Txt K mg)  : OkF P w K mg base 1 "_law_start" ["_law_script"] (sp_l_start K) := by
  obtain ⟨fd, F⟩ := T.F_l_start
  refine ⟨_, fd, T.g_l_start, F.ok sc_l_start (fun vs H Q E h => len_l_start h) (fun cdv A outer s H vs Q E hr h => ⟨t_l_start K, PSs.nox ?_, rd_l_start h⟩), FunD.bindsN F fun _ _ _ _ _ _ us hl => match us, hl with | [_], _ => rfl, F.kp⟩
  exact (pss_c (ps_set (i := 1) sc_l_start.nd rfl (Or.inl rfl) pe_int)
    (pss_c (ps_for PassesOwn.never rfl (pi_any (pv 0)) (pg_name (i := 2) sc_l_start.nd rfl (Or.inl rfl)) (pss_one (ps_set (i := 1) sc_l_start.nd rfl (Or.inl rfl) (pe_op o_add (pe_op o_mod (pe_callTy c_int (by rfl) T.b_int (by decide +kernel) (pa_cons (pe_op o_add (pe_op o_mul (pv 1) pe_int) (pv 2)) pa_nil)) pe_int) pe_int))))
    (pss_one (ps_ret (pe_lst (pa_cons (pe_callTy c_list (by rfl) T.b_list (by decide +kernel) (pa_cons (pv 0) pa_nil)) (pa_cons pe_int (pa_cons pe_int (pa_cons (pv 1) pa_nil)))))))))
theorem ok_l_draw (T : Txt K mg)  : OkF P w K mg base 1 "_law_draw" ["_law_state", "_law_many"] (sp_l_draw K) := by
  obtain ⟨fd, F⟩ := T.F_l_draw
  refine ⟨_, fd, T.g_l_draw, F.ok sc_l_draw (fun vs H Q E h => len_l_draw h) (fun cdv A outer s H vs Q E hr h => ⟨t_l_draw K, PSs.nox ?_, rd_l_draw h⟩), FunD.bindsN F fun _ _ _ _ _ _ us hl => match us, hl with | [_, _], _ => rfl, F.kp⟩
  exact (pss_c (ps_if (PW.pt (pw_and (pt_cmpR (o_eq hr.units) (pe_ix i_x (pv 0) pe_int (fun _ _ => rfl)) pe_int (nomark _)) (pw_and1 (pt_cmpR o_ge (pe_ix i_x (pv 0) pe_int (fun _ _ => rfl)) (pe_callB c_len (by rfl) T.b_len (by decide +kernel) (pa_cons (pe_ix i_x (pv 0) pe_int (fun _ _ => rfl)) pa_nil)) (nomark _))))) (pss_c (ps_asg (pe_op o_mod (pe_callTy c_int (by rfl) T.b_int (by decide +kernel) (pa_cons (pe_op o_add (pe_op o_mul (pe_ix i_x (pv 0) pe_int (fun _ _ => rfl)) pe_int) pe_int) pa_nil)) pe_int) (pg_sub (pv 0) pe_int p_list))
    (pss_one (ps_ret (pe_op o_mod (pe_callTy c_int (by rfl) T.b_int (by decide +kernel) (pa_cons (pe_op o_fdiv (pe_ix i_x (pv 0) pe_int (fun _ _ => rfl)) pe_int) pa_nil)) (pv 1))))) pss_nil)
    (pss_c (ps_if (pt_cmpR (o_eq hr.units) (pe_ix i_x (pv 0) pe_int (fun _ _ => rfl)) pe_int (nomark _)) (pss_c (ps_asg (pe_callB c_abs (by rfl) T.b_abs (by decide +kernel) (pa_cons (pe_ix i_x (pe_ix i_x (pv 0) pe_int (fun _ _ => rfl)) (pe_ix i_x (pv 0) pe_int (fun _ _ => rfl)) (fun _ _ => rfl)) pa_nil)) (pg_sub (pv 0) pe_int p_list))
    (pss_one (ps_augS (pv 0) pe_int g_list pe_int a_add p_list))) pss_nil)
    (pss_c (ps_set (i := 2) sc_l_draw.nd rfl (Or.inl rfl) (pe_op o_mod (pe_callTy c_int (by rfl) T.b_int (by decide +kernel) (pa_cons (pe_ix i_x (pv 0) pe_int (fun _ _ => rfl)) pa_nil)) (pv 1)))
    (pss_c (ps_asg (pe_op o_fdiv (pe_ix i_x (pv 0) pe_int (fun _ _ => rfl)) (pv 1)) (pg_sub (pv 0) pe_int p_list))
    (pss_one (ps_ret (pv 2)))))))
theorem ok_l_is_integer (T : Txt K mg)  : OkF P w K mg base 1 "_law_is_integer" ["_law_actual"] (sp_l_is_integer K) := by
  obtain ⟨fd, F⟩ := T.F_l_is_integer
  refine ⟨_, fd, T.g_l_is_integer, F.ok sc_l_is_integer (fun vs H Q E h => len_l_is_integer h) (fun cdv A outer s H vs Q E hr h => ⟨t_l_is_integer K, PSs.nox ?_, rd_l_is_integer h⟩), FunD.bindsN F fun _ _ _ _ _ _ us hl => match us, hl with | [_], _ => rfl, F.kp⟩
  exact (pss_one (ps_ret (pe_and (pe_callB c_isi (by rfl) T.b_isinstance (by decide +kernel) (pa_cons (pv 0) (pa_cons (pe_ty rfl T.b_int (by decide +kernel)) pa_nil))) (pe_one (pe_not (pe_callB c_isi (by rfl) T.b_isinstance (by decide +kernel) (pa_cons (pv 0) (pa_cons (pe_ty rfl T.b_bool (by decide +kernel)) pa_nil))))))))
theorem ok_l_word (T : Txt K mg) (O_l_draw : OkF P w K mg base 1 "_law_draw" ["_law_state", "_law_many"] (sp_l_draw K)) : OkF P w K mg base 2 "_law_word" ["_law_state"] (sp_l_word K) := by
  obtain ⟨fd, F⟩ := T.F_l_word
  refine ⟨_, fd, T.g_l_word, F.ok sc_l_word (fun vs H Q E h => len_l_word h) (fun cdv A outer s H vs Q E hr h => ⟨t_l_word K, PSs.nox ?_, rd_l_word h⟩), FunD.bindsN F fun _ _ _ _ _ _ us hl => match us, hl with | [_], _ => rfl, F.kp⟩
  exact (pss_c (ps_set (i := 1) sc_l_word.nd rfl (Or.inl rfl) (pe_fn O_l_draw (hr.mono (by decide)) rfl (pa_cons (pv 0) (pa_cons pe_int pa_nil))))
    (pss_c (ps_if (pt_cmpR (o_eq hr.units) (pv 1) pe_int (nomark _)) (pss_one (ps_ret (pe_callTy c_str (by rfl) T.b_str (by decide +kernel) (pa_cons (pe_op o_sub (pe_fn O_l_draw (hr.mono (by decide)) rfl (pa_cons (pv 0) (pa_cons pe_int pa_nil))) pe_int) pa_nil)))) pss_nil)
    (pss_c (ps_if (pt_cmpR (o_eq hr.units) (pv 1) pe_int (nomark _)) (pss_one (ps_ret (pe_callTy c_str (by rfl) T.b_str (by decide +kernel) (pa_cons (pe_op o_sub (pe_op o_add (pe_ix i_x (pe_lst (pa_cons (pe_un u_neg pe_int) (pa_cons pe_int pa_nil))) (pe_fn O_l_draw (hr.mono (by decide)) rfl (pa_cons (pv 0) (pa_cons pe_int pa_nil))) (fun _ _ => rfl)) (pe_fn O_l_draw (hr.mono (by decide)) rfl (pa_cons (pv 0) (pa_cons pe_int pa_nil)))) pe_int) pa_nil)))) pss_nil)
    (pss_c (ps_if (pt_cmpR (o_eq hr.units) (pv 1) pe_int (nomark _)) (pss_one (ps_ret (pe_callTy c_str (by rfl) T.b_str (by decide +kernel) (pa_cons (pe_op o_sub (pe_fn O_l_draw (hr.mono (by decide)) rfl (pa_cons (pv 0) (pa_cons pe_int pa_nil))) pe_int) pa_nil)))) pss_nil)
    (pss_c (ps_set (i := 2) sc_l_word.nd rfl (Or.inl rfl) (pe_bm PySem.F.plainAttrs_str PySem.F.slot_str_join PySem.F.type_str_join m_join pe_str (pa_cons (pe_lc (own := [("_law_k", 5)]) (g := (gName 5)) (tt := tYes) rfl sc_l_word.nd (pi_range1 rfl T.b_range (pa_cons (pe_op o_add pe_int (pe_fn O_l_draw (hr.mono (by decide)) rfl (pa_cons (pv 0) (pa_cons pe_int pa_nil)))) pa_nil)) (blkOk_by (own := [("_law_k", 5)]) (N := n_l_word) (sc := defScope s_l_word) (by decide +kernel)) (fun _ _ _ _ _ => pg_name (i := 5) sc_l_word.nd rfl (Or.inl rfl)) (fun _ _ _ _ _ => pts_nil) (fun _ _ _ _ _ => (pe_ix i_x pe_str (pe_fn O_l_draw (hr.mono (by decide)) rfl (pa_cons (pv 0) (pa_cons pe_int pa_nil))) (fun _ _ => rfl)))) pa_nil)))
    (pss_c (ps_set (i := 3) sc_l_word.nd rfl (Or.inl rfl) (pe_ix i_x pe_str (pe_fn O_l_draw (hr.mono (by decide)) rfl (pa_cons (pv 0) (pa_cons pe_int pa_nil))) (fun _ _ => rfl)))
    (pss_c (ps_set (i := 4) sc_l_word.nd rfl (Or.inl rfl) (pe_fn O_l_draw (hr.mono (by decide)) rfl (pa_cons (pv 0) (pa_cons (pe_op o_add (pe_callB c_len (by rfl) T.b_len (by decide +kernel) (pa_cons (pv 2) pa_nil)) pe_int) pa_nil))))
    (pss_c (ps_if (pt_cmpR (o_eq hr.units) (pv 1) pe_int (nomark _)) (pss_one (ps_ret (pe_op o_add (pe_op o_add (pe_slice s_l (pv 2) po_none (po_some (pv 4))) (pv 3)) (pe_slice s_l (pv 2) (po_some (pv 4)) po_none)))) pss_nil)
    (pss_one (ps_ret (pe_op o_add (pe_op o_mul pe_str (pe_fn O_l_draw (hr.mono (by decide)) rfl (pa_cons (pv 0) (pa_cons pe_int pa_nil)))) (pv 2))))))))))))
theorem ok_l_value (T : Txt K mg)  : OkF P w K mg base 1 "_law_value" ["_law_word_here"] (sp_l_value K) := by
  obtain ⟨fd, F⟩ := T.F_l_value
  refine ⟨_, fd, T.g_l_value, F.ok sc_l_value (fun vs H Q E h => len_l_value h) (fun cdv A outer s H vs Q E hr h => ⟨t_l_value K, PSs.nox ?_, rd_l_value h⟩), FunD.bindsN F fun _ _ _ _ _ _ us hl => match us, hl with | [_], _ => rfl, F.kp⟩
  exact (pss_c (ps_set (i := 1) sc_l_value.nd rfl (Or.inl rfl) (pv 0))
    (pss_c (ps_if (pt_cmpR (o_eq hr.units) (pe_ix i_x (pv 0) pe_int (fun _ _ => rfl)) pe_str (nomark _)) (pss_one (ps_set (i := 1) sc_l_value.nd rfl (Or.inl rfl) (pe_slice s_l (pv 0) (po_some pe_int) po_none))) pss_nil)
    (pss_c (ps_if (PW.pt (pw_or (pt_cmpR (o_eq hr.units) (pv 1) pe_str (nomark _)) (pw_or1 (pt_cmpR o_gt (pe_callB c_len (by rfl) T.b_len (by decide +kernel) (pa_cons (pv 1) pa_nil)) pe_int (nomark _))))) (pss_one (ps_ret pe_non)) pss_nil)
    (pss_c (ps_for PassesOwn.never rfl (pi_any (pv 1)) (pg_name (i := 2) sc_l_value.nd rfl (Or.inl rfl)) (pss_one (ps_if (pt_cmpR o_notIn (pv 2) pe_str (by rfl)) (pss_one (ps_ret pe_non)) pss_nil)))
    (pss_c (ps_if (PW.pt (pw_and (pt_cmpR (o_eq hr.units) (pe_ix i_x (pv 1) pe_int (fun _ _ => rfl)) pe_str (nomark _)) (pw_and1 (pt_cmpR (o_ne hr.units) (pv 0) pe_str (nomark _))))) (pss_one (ps_ret pe_non)) pss_nil)
    (pss_c (ps_set (i := 3) sc_l_value.nd rfl (Or.inl rfl) (pe_callTy c_int (by rfl) T.b_int (by decide +kernel) (pa_cons (pv 1) pa_nil)))
    (pss_c (ps_if (pt_cmpR (o_eq hr.units) (pe_ix i_x (pv 0) pe_int (fun _ _ => rfl)) pe_str (nomark _)) (pss_one (ps_set (i := 3) sc_l_value.nd rfl (Or.inl rfl) (pe_un u_neg (pv 3)))) pss_nil)
    (pss_c (ps_if (PW.pt (pw_or (pt_cmpR o_lt (pv 3) (pe_un u_neg pe_int) (nomark _)) (pw_or1 (pt_cmpR o_gt (pv 3) pe_int (nomark _))))) (pss_one (ps_ret pe_non)) pss_nil)
    (pss_one (ps_ret (pv 3)))))))))))
theorem okf_law (T : Txt K mg) (O_l_start : OkF P w K mg base 1 "_law_start" ["_law_script"] (sp_l_start K)) (O_l_word : OkF P w K mg base 2 "_law_word" ["_law_state"] (sp_l_word K)) (O_l_value : OkF P w K mg base 1 "_law_value" ["_law_word_here"] (sp_l_value K)) (O_read_numeral : OkF P w K mg base 4 "read_numeral" ["word"] (sp_read_numeral K)) (O_l_is_integer : OkF P w K mg base 1 "_law_is_integer" ["_law_actual"] (sp_l_is_integer K)) {fd : FuncData} (F : FunD K "law" "law" (defArgs s_law) (defBody s_law) (defScope s_law) [] [] (He.ga K "law") fd) : FnOk P w K mg base CX0 5 (He.ga K "law") fd ["_law_script"] (sp_law K) := by
  refine F.ok sc_law (fun vs H Q E h => len_law h) (fun cdv A outer s H vs Q E hr h => ⟨t_law K, PSs.nox ?_, rd_law h⟩)
  exact (pss_c (ps_set (i := 1) sc_law.nd rfl (Or.inl rfl) (pe_fn O_l_start (hr.mono (by decide)) rfl (pa_cons (pv 0) pa_nil)))
    (pss_c (ps_for PassesOwn.never rfl (pi_range1 rfl T.b_range (pa_cons pe_int pa_nil)) (pg_name (i := 2) sc_law.nd rfl (Or.inl rfl)) (pss_c (ps_set (i := 3) sc_law.nd rfl (Or.inl rfl) (pe_fn O_l_word (hr.mono (by decide)) rfl (pa_cons (pv 1) pa_nil)))
    (pss_c (ps_set (i := 4) sc_law.nd rfl (Or.inl rfl) (pe_fn O_l_value (hr.mono (by decide)) rfl (pa_cons (pv 3) pa_nil)))
    (pss_c (ps_set (i := 5) sc_law.nd rfl (Or.inl rfl) (pe_fn O_read_numeral (hr.mono (by decide)) rfl (pa_cons (pv 3) pa_nil)))
    (pss_one (ps_if (pt_cmpR o_is (pv 4) pe_non (nomark _)) (pss_one (ps_if (pt_cmpR o_isNot (pv 5) pe_non (nomark _)) (pss_one (ps_ret pe_bl)) pss_nil)) (pss_one (ps_if (PW.pt (pw_or (pt_not (pt_tru (pe_fn O_l_is_integer (hr.mono (by decide)) rfl (pa_cons (pv 5) pa_nil)))) (pw_or1 (pt_cmpR (o_ne hr.units) (pv 5) (pv 4) (nomark _))))) (pss_one (ps_ret pe_bl)) pss_nil))))))))
    (pss_one (ps_ret pe_bl))))
end
/-! ### the head -/
def d_is_integer : He.DefD := ⟨("is_integer", none), "is_integer", "is_integer", defArgs s_is_integer, defBody s_is_integer, defScope s_is_integer, [], []⟩
def d_in_range : He.DefD := ⟨("in_range", none), "in_range", "in_range", defArgs s_in_range, defBody s_in_range, defScope s_in_range, [], []⟩
def d_numeral_value : He.DefD := ⟨("numeral_value", none), "numeral_value", "numeral_value", defArgs s_numeral_value, defBody s_numeral_value, defScope s_numeral_value, [], []⟩
def d_read_numeral : He.DefD := ⟨("read_numeral", none), "read_numeral", "read_numeral", defArgs s_read_numeral, defBody s_read_numeral, defScope s_read_numeral, [], []⟩
def d_l_start : He.DefD := ⟨("_law_start", none), "_law_start", "_law_start", defArgs s_l_start, defBody s_l_start, defScope s_l_start, [], []⟩
def d_l_draw : He.DefD := ⟨("_law_draw", none), "_law_draw", "_law_draw", defArgs s_l_draw, defBody s_l_draw, defScope s_l_draw, [], []⟩
def d_l_is_integer : He.DefD := ⟨("_law_is_integer", none), "_law_is_integer", "_law_is_integer", defArgs s_l_is_integer, defBody s_l_is_integer, defScope s_l_is_integer, [], []⟩
def d_l_word : He.DefD := ⟨("_law_word", none), "_law_word", "_law_word", defArgs s_l_word, defBody s_l_word, defScope s_l_word, [], []⟩
def d_l_value : He.DefD := ⟨("_law_value", none), "_law_value", "_law_value", defArgs s_l_value, defBody s_l_value, defScope s_l_value, [], []⟩
def d_law : He.DefD := ⟨("law", none), "law", "law", defArgs s_law, defBody s_law, defScope s_law, [], []⟩
def fn : List He.DefD := [d_is_integer, d_in_range, d_numeral_value, d_read_numeral, d_l_start, d_l_draw, d_l_is_integer, d_l_word, d_l_value, d_law]
def fa : List He.Fa := [.free "isinstance", .free "int", .free "bool", .int "HALF" 2147483648, .free "len", .int "MAX_DIGITS" 10, .free "all", .str "DIGITS" "0123456789", .free "list", .free "abs", .free "str", .free "range", .glo "is_integer", .glo "in_range", .glo "numeral_value", .glo "read_numeral", .glo "_law_start", .glo "_law_draw", .glo "_law_is_integer", .glo "_law_word", .glo "_law_value", .glo "law"]
abbrev R : PySem.W.OpenRow := PySem.W.OpenLaw.row PySem.Challenge.rw_escheat_k02_read_numeral
abbrev hk : PySem.W.Hook := He.hookD 5 fa fn
def ob (s : PySem.W.SharedT) : He.AlD := He.obsDG 5 fa fn (HandSHeadRun.getT s)
theorem ob_eq (s : PySem.W.SharedT) : ob s = hk.obs s.abs := He.obsDG_eq (HandSHeadRun.getT_eq s)
theorem txt {K : PySem.W.Frag} {h : Heap} {mg : Str → Option Value} (X : K.In h) (G : h.Ns mainGlobals mg) (c : He.SaysD fa fn K) : Txt K mg :=
  ⟨He.free_ok X G (c.fact 0 (f := .free "isinstance") rfl),
   He.free_ok X G (c.fact 1 (f := .free "int") rfl),
   He.free_ok X G (c.fact 2 (f := .free "bool") rfl),
   He.int_ok X G (c.fact 3 (f := .int "HALF" 2147483648) rfl),
   He.free_ok X G (c.fact 4 (f := .free "len") rfl),
   He.int_ok X G (c.fact 5 (f := .int "MAX_DIGITS" 10) rfl),
   He.free_ok X G (c.fact 6 (f := .free "all") rfl),
   He.str_ok X G (c.fact 7 (f := .str "DIGITS" "0123456789") rfl),
   He.free_ok X G (c.fact 8 (f := .free "list") rfl),
   He.free_ok X G (c.fact 9 (f := .free "abs") rfl),
   He.free_ok X G (c.fact 10 (f := .free "str") rfl),
   He.free_ok X G (c.fact 11 (f := .free "range") rfl),
   He.glo_ok X G (c.fact 12 (f := .glo "is_integer") rfl),
   c.def_ 0 (d := d_is_integer) rfl,
   He.glo_ok X G (c.fact 13 (f := .glo "in_range") rfl),
   c.def_ 1 (d := d_in_range) rfl,
   He.glo_ok X G (c.fact 14 (f := .glo "numeral_value") rfl),
   c.def_ 2 (d := d_numeral_value) rfl,
   He.glo_ok X G (c.fact 15 (f := .glo "read_numeral") rfl),
   c.def_ 3 (d := d_read_numeral) rfl,
   He.glo_ok X G (c.fact 16 (f := .glo "_law_start") rfl),
   c.def_ 4 (d := d_l_start) rfl,
   He.glo_ok X G (c.fact 17 (f := .glo "_law_draw") rfl),
   c.def_ 5 (d := d_l_draw) rfl,
   He.glo_ok X G (c.fact 18 (f := .glo "_law_is_integer") rfl),
   c.def_ 6 (d := d_l_is_integer) rfl,
   He.glo_ok X G (c.fact 19 (f := .glo "_law_word") rfl),
   c.def_ 7 (d := d_l_word) rfl,
   He.glo_ok X G (c.fact 20 (f := .glo "_law_value") rfl),
   c.def_ 8 (d := d_l_value) rfl,
   He.glo_ok X G (c.fact 21 (f := .glo "law") rfl),
   c.def_ 9 (d := d_law) rfl⟩
theorem run (w : World) : HandSHeadRun.RunEq R (PySem.W.view R.prog [16]) hk ob 4000 ["HALF", "is_integer", "in_range", "DIGITS", "MAX_DIGITS", "numeral_value", "read_numeral", "_law_start", "_law_draw", "_law_is_integer", "_law_word", "_law_value"] w := by
  intro os
  kernel_rfl
theorem facts {P : Program} {w : World} {K : PySem.W.Frag} {h : Heap} {mg : Str → Option Value} {f : Addr} (X : K.In h) (G : h.Ns mainGlobals mg) (hfa : mg ("law" : Str) = some (.ref f)) (c : He.SaysD fa fn K) :
    ∃ fd : FuncData, (∀ (s : Shared) (v : Value), BindsTo s fd ⟨[v], []⟩ [("_law_script", v)]) ∧ ∀ base : Heap, K.In base → base.Ns mainGlobals mg → FnOk P w K mg base CX0 5 f fd ["_law_script"] (sp_law K) := by
  have T : Txt K mg := txt X G c
  obtain ⟨fd, F⟩ := T.F_law
  have e := hfa.symm.trans T.g_law
  cases e
  have b := FunD.bindsA (ps := ["_law_script"]) F fun _ _ _ _ _ _ us hl => match us, hl with | [_], _ => rfl
  refine ⟨fd, fun s v => b s [v] rfl, fun base _ _ => ?_⟩
  have O_l_start : OkF P w K mg base 1 "_law_start" ["_law_script"] (sp_l_start K) := ok_l_start T 
  have O_l_draw : OkF P w K mg base 1 "_law_draw" ["_law_state", "_law_many"] (sp_l_draw K) := ok_l_draw T 
  have O_l_word : OkF P w K mg base 2 "_law_word" ["_law_state"] (sp_l_word K) := ok_l_word T O_l_draw
  have O_l_value : OkF P w K mg base 1 "_law_value" ["_law_word_here"] (sp_l_value K) := ok_l_value T 
  have O_is_integer : OkF P w K mg base 1 "is_integer" ["value"] (sp_is_integer K) := ok_is_integer T 
  have O_in_range : OkF P w K mg base 2 "in_range" ["value"] (sp_in_range K) := ok_in_range T O_is_integer
  have O_numeral_value : OkF P w K mg base 3 "numeral_value" ["word"] (sp_numeral_value K) := ok_numeral_value T O_in_range
  have O_read_numeral : OkF P w K mg base 4 "read_numeral" ["word"] (sp_read_numeral K) := ok_read_numeral T O_numeral_value
  have O_l_is_integer : OkF P w K mg base 1 "_law_is_integer" ["_law_actual"] (sp_l_is_integer K) := ok_l_is_integer T 
  exact okf_law (base := base) (P := P) (w := w) T O_l_start O_l_word O_l_value O_read_numeral O_l_is_integer F
end U
open PySem PySem.W PySem.Calls PyProof.Rows
set_option maxHeartbeats 0 in
theorem PySem.Challenge.cw_escheat_k02_read_numeral_holds : PySem.Challenge.rw_escheat_k02_read_numeral.Holds := by
  w_on; o_law
  refine HandSHeadRun.head_any (r := OpenLaw.row PySem.Challenge.rw_escheat_k02_read_numeral) (q := view (OpenLaw.row PySem.Challenge.rw_escheat_k02_read_numeral).prog [16]) (H := U.hk) (ob := U.ob) (M := 4000) (loose := ["HALF", "is_integer", "in_range", "DIGITS", "MAX_DIGITS", "numeral_value", "read_numeral", "_law_start", "_law_draw", "_law_is_integer", "_law_word", "_law_value"]) (d := HandSHeadRun.topDef (OpenLaw.row PySem.Challenge.rw_escheat_k02_read_numeral).prog 16) (kwd := []) U.ob_eq
    (by kernel_rfl) (fun s => by kernel_rfl) U.run (by kernel_rfl) (by kernel_rfl) (by kernel_rfl) (by rfl) (by first | assumption | decide +kernel) (by decide +kernel) ⟨rfl, rfl, rfl, rfl, rfl, by decide +kernel⟩ ?hw ?hc
  case hw => w_witness2
  case hc =>
    refine L2.walk_ofE (l := PySem.Challenge.rw_escheat_k02_read_numeral) (n := 63) (k := 5) (x := "_law_script") (CX := L2.CX0) rfl (by decide) (by kernel_rfl) ⟨rfl, by decide, by decide⟩ ?F (fun _ _ _ _ z => z)
    intro w mg fa h Y G hmg0
    obtain ⟨K, KX, c⟩ := Y
    have hmg : mg ("law" : PySem.Str) = some (.ref fa) := by
      have e : (HandSHeadRun.topDef (OpenLaw.row PySem.Challenge.rw_escheat_k02_read_numeral).prog 16).name = ("law" : PySem.Str) := by kernel_rfl
      rw [← e]
      exact hmg0
    obtain ⟨fd, hb, hF⟩ := U.facts (P := (PySem.Challenge.rw_escheat_k02_read_numeral).prog) (w := w) KX G hmg c
    exact ⟨K, fd, U.sp_law K, KX, hb, fun H a ns hl _ hS => U.law_in a ns hl hS, hF⟩


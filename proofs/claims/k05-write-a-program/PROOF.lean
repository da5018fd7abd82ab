import PyProof.Rows.All
import Wide.All
import OpenK.AllK
import Wide.FinOn
import HandS.ForMost
import HandS.Flow
import HandS.Wide
import HandS.IsInst
import HandS.TupAny
import HandS.StrMore
import HandS.SortInts
import HandS.Walk
import HandS.Style
import HandS.More
import HandS.HeadHook1
import HandS.Nested
import HandS.Exc
import HandS.ExcInit
import HandS.ExcSuper
import HandS.ExcOwn
import HandS.TryOnly
import HandS.ExcField
import HandS.ExcIs
import HandS.WordsExc
import HandS.HeadHook2
import KE.KExcSuper
import HandS.HotCalls
import HandS.Property
import KE.KIsAll
import HandS.SlotsOwn
import HandS.Zip
import HandS.SetFor
import KE.GoesEnum
import KE.KDictZip
import HandS.CallLocal
import HandS.Defaults
import HandS.Head0
import HandS.Head1
import HandS.Head2
import HandS.HeadEnd
import PySem.Challenge.RW_escheat_k05_write_a_program
set_option Elab.async false
set_option linter.all false
set_option maxRecDepth 100000
set_option maxHeartbeats 4000000
/-! U: operators by value, as functions of the values' shapes (so that a reading computes), and the steps of a reading. -/
namespace U
open PySem PySem.Spec PyProof.Rows L2

/-! ### operators by value -/
section
variable {X : Cx}
def uAdd (K : PySem.W.Frag) : R2 := fun x y H Q => match x, y with
  | .int i, .int j => Q (.int (i + j)) H
  | .str a, .str b => a.length + b.length ≤ sizeLine ∧ Q (.str (a ++ b)) H
  | .ref a, .ref b => (∃ xs ys, H a = some (.lst xs) ∧ H b = some (.lst ys) ∧ xs.length + ys.length ≤ sizeLine ∧ ∀ p, H p = none → Q (.ref p) (upd H p (.lst (xs ++ ys)))) ∨ rCatA K x y H Q
  | _, _ => False
theorem o_add : OpR X (binaryOp .Add) (uAdd X.K) := by
  intro pins s σ H x y v u Q I rx ry h
  cases x <;> cases y <;> first | exact (show False from h).elim | skip
  · exact op_add pins s σ H _ _ v u Q I rx ry ⟨_, _, rfl, rfl, h⟩
  · exact op_add_str pins s σ H _ _ v u Q I rx ry ⟨_, _, rfl, rfl, h.1, h.2⟩
  · rcases h with h | h
    · obtain ⟨xs, ys, h1, h2, h3, h4⟩ := h
      exact op_cat pins s σ H _ _ v u Q I rx ry ⟨_, _, xs, ys, rfl, rfl, h1, h2, h3, h4⟩
    · exact op_catA pins s σ H _ _ v u Q I rx ry h
def uSub : R2 := fun x y H Q => match x, y with
  | .int i, .int j => Q (.int (i - j)) H
  | _, _ => False
theorem o_sub : OpR X (binaryOp .Sub) uSub := by
  intro pins s σ H x y v u Q I rx ry h
  cases x <;> cases y <;> first | exact (show False from h).elim | skip
  exact op_sub pins s σ H _ _ v u Q I rx ry ⟨_, _, rfl, rfl, h⟩
def uMul : R2 := fun x y H Q => match x, y with
  | .int i, .int j => (CMul i j ∨ CMulW i j) ∧ Q (.int (i * j)) H
  | .str z, .int k => z.length * k.toNat ≤ 1000000 ∧ k ≤ 1000000 ∧ -(2 ^ 63) ≤ k ∧ Q (.str (Txt.mul z k)) H
  | .ref a, .int k => ∃ xs, H a = some (.lst xs) ∧ -(2 ^ 63) ≤ k ∧ k < 2 ^ 63 ∧ xs.length * k.toNat ≤ sizeLine ∧ ∀ p, H p = none → Q (.ref p) (upd H p (.lst (List.replicate k.toNat xs).flatten))
  | _, _ => False
theorem o_mul : OpR X (binaryOp .Mult) uMul := by
  intro pins s σ H x y v u Q I rx ry h
  cases x <;> cases y <;> first | exact (show False from h).elim | skip
  · rcases h.1 with c | c
    · exact op_mul pins s σ H _ _ v u Q I rx ry ⟨_, _, rfl, rfl, c, h.2⟩
    · exact op_mulW pins s σ H _ _ v u Q I rx ry ⟨_, _, rfl, rfl, c, h.2⟩
  · rename_i z k
    obtain ⟨h1, h2, h3, q⟩ := h
    obtain ⟨t, rfl⟩ := rx
    obtain ⟨t', rfl⟩ := ry
    have hok : PySem.MulOk z k := by
      refine ⟨?_, fun h _ => ?_, fun h _ => ?_⟩
      · have a1 : ¬ k < -(2 ^ 63 : Int) := by omega
        have a2 : ¬ k ≥ (2 ^ 63 : Int) := by omega
        rw [decide_eq_false a1, decide_eq_false a2]; rfl
      · have hpos : 0 < k := by omega
        have e : ((z.length * k.toNat : Nat) : Int) = (z.length : Int) * k := by
          rw [Int.natCast_mul, Int.toNat_of_nonneg (by omega)]
        have h3 : (z.length : Int) * k ≤ 2 ^ 63 - 1 := by rw [← e]; omega
        have h4 : (z.length : Int) ≤ (2 ^ 63 - 1) / k := (Int.le_ediv_iff_mul_le hpos).mpr h3
        omega
      · exact PyProof.Rows.short24 (by omega)
    exact SB.mul hok fun t' n => ⟨.str _, H, I.tok _, ⟨_, rfl⟩, q⟩
  · obtain ⟨xs, h1, h2, h3, h4, h5⟩ := h
    exact op_rep pins s σ H _ _ v u Q I rx ry ⟨_, _, xs, rfl, rfl, h1, h2, h3, h4, h5⟩
def uFdiv : R2 := fun x y H Q => match x, y with
  | .int i, .int j => CDivW i j ∧ Q (.int (i / j)) H
  | _, _ => False
theorem o_fdiv : OpR X (binaryOp .FloorDiv) uFdiv := by
  intro pins s σ H x y v u Q I rx ry h
  cases x <;> cases y <;> first | exact (show False from h).elim | skip
  exact op_fdivW pins s σ H _ _ v u Q I rx ry ⟨_, _, rfl, rfl, h.1, h.2⟩
def uMod : R2 := fun x y H Q => match x, y with
  | .int i, .int j => 0 < j ∧ Q (.int (i % j)) H
  | _, _ => False
theorem o_mod : OpR X (binaryOp .Mod) uMod := by
  intro pins s σ H x y v u Q I rx ry h
  cases x <;> cases y <;> first | exact (show False from h).elim | skip
  exact op_mod pins s σ H _ _ v u Q I rx ry ⟨_, _, rfl, rfl, h.1, h.2⟩
def uPow : R2 := fun x y H Q => match x, y with
  | .int i, .int j => CPow i j ∧ Q (.int (i ^ j.toNat)) H
  | _, _ => False
theorem o_pow : OpR X (binaryOp .Pow) uPow := by
  intro pins s σ H x y v u Q I rx ry h
  cases x <;> cases y <;> first | exact (show False from h).elim | skip
  exact op_pow pins s σ H _ _ v u Q I rx ry ⟨_, _, rfl, rfl, h.1, h.2⟩
def uNeg : V → Hp → VK → Prop := fun x H Q => match x with
  | .int i => Q (.int (-i)) H
  | _ => False
theorem u_neg : UnR X (unaryOp .USub) uNeg := by
  intro pins s σ H x v Q I rx h
  cases x <;> first | exact (show False from h).elim | skip
  exact un_neg pins s σ H _ v Q I rx ⟨_, rfl, h⟩
/-! comparisons -/
def uEq (K : PySem.W.Frag) : R2 := fun x y H Q => (scal x y = true ∧ Q (.bl (decide (x = y))) H) ∨ rEqD K x y H Q
theorem o_eq (hu : X.A.units + 64 < cLine) : OpR X (compareOp .Eq) (uEq X.K) := op_eq.or (op_eqD hu)
def uNe (K : PySem.W.Frag) : R2 := fun x y H Q => (scal x y = true ∧ Q (.bl (!decide (x = y))) H) ∨ rNeD K x y H Q
theorem o_ne (hu : X.A.units + 64 < cLine) : OpR X (compareOp .NotEq) (uNe X.K) := op_ne.or (op_neD hu)
def uCmpI (p : Int → Int → Bool) : R2 := fun x y H Q => match x, y with
  | .int i, .int j => Q (.bl (p i j)) H
  | _, _ => False
abbrev uLt : R2 := uCmpI fun i j => decide (i < j)
abbrev uLe : R2 := uCmpI fun i j => decide (i ≤ j)
abbrev uGt : R2 := uCmpI fun i j => decide (j < i)
abbrev uGe : R2 := uCmpI fun i j => decide (j ≤ i)
theorem o_lt : OpR X (compareOp .Lt) uLt := by
  intro pins s σ H x y v u Q I rx ry h
  cases x <;> cases y <;> first | exact (show False from h).elim | skip
  exact op_lt pins s σ H _ _ v u Q I rx ry ⟨_, _, rfl, rfl, h⟩
theorem o_le : OpR X (compareOp .LtE) uLe := by
  intro pins s σ H x y v u Q I rx ry h
  cases x <;> cases y <;> first | exact (show False from h).elim | skip
  exact op_le pins s σ H _ _ v u Q I rx ry ⟨_, _, rfl, rfl, h⟩
theorem o_gt : OpR X (compareOp .Gt) uGt := by
  intro pins s σ H x y v u Q I rx ry h
  cases x <;> cases y <;> first | exact (show False from h).elim | skip
  exact op_gt pins s σ H _ _ v u Q I rx ry ⟨_, _, rfl, rfl, h⟩
theorem o_ge : OpR X (compareOp .GtE) uGe := by
  intro pins s σ H x y v u Q I rx ry h
  cases x <;> cases y <;> first | exact (show False from h).elim | skip
  exact op_ge pins s σ H _ _ v u Q I rx ry ⟨_, _, rfl, rfl, h⟩
/-- one sign in a text | a flat thing in a list, a tuple -/
def uIn (K : PySem.W.Frag) (f : Bool → Bool) : R2 := fun x y H Q => match y with
  | .str z => ∃ c : Nat, x = .str ⟨#[c]⟩ ∧ Q (.bl (f (decide (c ∈ z.cps.toList)))) H
  | .ref p => ∃ xs, (SqL K H p xs ∨ SqT K H p xs) ∧ flatV x = true ∧ xs.all flatV = true ∧ Q (.bl (f (inV x xs))) H
  | _ => False
theorem o_in : OpR X (compareOp .In) (uIn X.K id) := by
  intro pins s σ H x y v u Q I rx ry h
  cases y <;> first | exact (show False from h).elim | skip
  · obtain ⟨c, e, q⟩ := h
    exact op_in_sign pins s σ H _ _ v u Q I rx ry ⟨c, _, e, rfl, q⟩
  · obtain ⟨xs, h1, h2, h3, q⟩ := h
    exact op_in_seq pins s σ H _ _ v u Q I rx ry ⟨_, xs, rfl, h1, h2, h3, q⟩
theorem o_notIn : OpR X (compareOp .NotIn) (uIn X.K not) := by
  intro pins s σ H x y v u Q I rx ry h
  cases y <;> first | exact (show False from h).elim | skip
  · obtain ⟨c, e, q⟩ := h
    exact op_notIn_sign pins s σ H _ _ v u Q I rx ry ⟨c, _, e, rfl, q⟩
  · obtain ⟨xs, h1, h2, h3, q⟩ := h
    exact op_notIn_seq pins s σ H _ _ v u Q I rx ry ⟨_, xs, rfl, h1, h2, h3, q⟩
/-- is None (the right one), by the left one's shape -/
def isNonV : V → Bool
  | .non => true
  | _ => false
theorem isNonV_eq (x : V) : isNonV x = decide (x = .non) := by cases x <;> simp [isNonV]
def uIsN (f : Bool → Bool) : R2 := fun x y H Q => match y with
  | .non => Q (.bl (f (isNonV x))) H
  | _ => False
theorem o_is : OpR X (compareOp .Is) (uIsN id) := by
  intro pins s σ H x y v u Q I rx ry h
  cases y <;> first | exact (show False from h).elim | skip
  exact op_isN pins s σ H _ _ v u Q I rx ry ⟨rfl, by rw [← isNonV_eq]; exact h⟩
theorem o_isNot : OpR X (compareOp .IsNot) (uIsN not) := by
  intro pins s σ H x y v u Q I rx ry h
  cases y <;> first | exact (show False from h).elim | skip
  exact op_notN pins s σ H _ _ v u Q I rx ry ⟨rfl, by rw [← isNonV_eq]; exact h⟩
/-! subscripts -/
def uIx (K : PySem.W.Frag) : R2 := fun x y H Q => match x, y with
  | .ref a, .int i => ∃ xs v, (SqL K H a xs ∨ SqT K H a xs) ∧ atI xs i = some v ∧ Q v H
  | .str z, .int i => ∃ c, z.length ≤ sizeLine ∧ atI z.cps.toList i = some c ∧ Q (.str ⟨#[c]⟩) H
  | _, _ => False
theorem i_x : IxR X (uIx X.K) := by
  intro value slice pins s σ H x y v u Q I rx ry h hs
  cases x <;> cases y <;> first | exact (show False from h).elim | skip
  · obtain ⟨c, h1, h2, q⟩ := h
    exact ix_str value slice pins s σ H _ _ v u Q I rx ry ⟨_, _, c, rfl, rfl, h1, h2, q⟩ hs
  · obtain ⟨xs, w, h1, h2, q⟩ := h
    rcases h1 with h1 | h1
    · exact ix_list value slice pins s σ H _ _ v u Q I rx ry ⟨_, xs, _, w, rfl, rfl, h1, h2, q⟩ hs
    · exact ix_tup value slice pins s σ H _ _ v u Q I rx ry ⟨_, xs, _, w, rfl, rfl, h1, h2, q⟩ hs
def uSl (K : PySem.W.Frag) : V → Option Int → Option Int → Hp → VK → Prop := fun x lo hi H Q => match x with
  | .str z => z.length ≤ sizeLine ∧ Q (.str (cutS z lo hi)) H
  | .ref _ => rSlL K x lo hi H Q ∨ rSlA K x lo hi H Q
  | _ => False
theorem s_l : SlR X (uSl X.K) := by
  intro pins s σ H x v vl vu lo hi sl Q I rx hs pl pu q
  cases x <;> first | exact (show False from q).elim | skip
  · exact sl_str pins s σ H _ v vl vu lo hi sl Q I rx hs pl pu ⟨_, rfl, q.1, q.2⟩
  · rcases q with q | q
    · exact sl_list pins s σ H _ v vl vu lo hi sl Q I rx hs pl pu q
    · exact sl_tupA pins s σ H _ v vl vu lo hi sl Q I rx hs pl pu q
/-! calls of built-ins -/
abbrev RC : Type := List V → Hp → VK → Prop
def uLen (K : PySem.W.Frag) : RC := fun xs H Q => match xs with
  | [.str z] => z.length ≤ sizeLine ∧ Q (.int (z.length : Int)) H
  | [.ref a] => ∃ ys, (SqL K H a ys ∨ SqT K H a ys) ∧ Q (.int (ys.length : Int)) H
  | _ => False
theorem c_len : CallR X (.builtin "len") (uLen X.K) := by
  intro pins s σ H xs us Q I r h
  unfold uLen at h
  split at h
  · exact call_len_str pins s σ H _ us Q I r ⟨_, rfl, h.1, h.2⟩
  · obtain ⟨ys, h1, q⟩ := h
    exact call_len_seq pins s σ H _ us Q I r ⟨_, ys, rfl, h1, q⟩
  · exact h.elim
def uAbs : RC := fun xs H Q => match xs with
  | [.int i] => Q (.int (i.natAbs : Int)) H
  | _ => False
theorem abs_ite (i : Int) : (if i < 0 then -i else i) = (i.natAbs : Int) := by split <;> omega
theorem c_abs : CallR X (.builtin "abs") uAbs := by
  intro pins s σ H xs us Q I r h
  unfold uAbs at h
  split at h
  · exact call_abs pins s σ H _ us Q I r ⟨_, rfl, by rw [abs_ite]; exact h⟩
  · exact h.elim
def uInt : RC := fun xs H Q => match xs with
  | [.int i] => Q (.int i) H
  | [.bl k] => Q (.int (if k then 1 else 0)) H
  | [.str a] => a.length ≤ 640 ∧ ∃ n, PySem.intText? a = some n ∧ Q (.int n) H
  | _ => False
theorem c_int : CallR X (.type "int") uInt := by
  intro pins s σ H xs us Q I r h
  unfold uInt at h
  split at h
  · exact call_int1 pins s σ H _ us Q I r (.inl ⟨_, rfl, h⟩)
  · exact call_int1 pins s σ H _ us Q I r (.inr ⟨_, rfl, h⟩)
  · obtain ⟨h1, n, h2, q⟩ := h
    exact call_int_str pins s σ H _ us Q I r ⟨_, n, rfl, h2, h1, q⟩
  · exact h.elim
def uStr : RC := fun xs H Q => match xs with
  | [.int i] => i.natAbs.log2 < 1920 ∧ Q (.str (toString i)) H
  | _ => False
theorem c_str : CallR X (.type "str") uStr := by
  intro pins s σ H xs us Q I r h
  unfold uStr at h
  split at h
  · exact call_str_int pins s σ H _ us Q I r ⟨_, rfl, h.1, h.2⟩
  · exact h.elim
def uList (K : PySem.W.Frag) : RC := fun xs H Q => match xs with
  | [.ref p] => ∃ ys, (SqL K H p ys ∨ SqT K H p ys) ∧ ∀ l, H l = none → Q (.ref l) (upd H l (.lst ys))
  | _ => False
theorem c_list : CallR X (.type "list") (uList X.K) := by
  intro pins s σ H xs us Q I r h
  unfold uList at h
  split at h
  · obtain ⟨ys, h1, q⟩ := h
    exact call_list_of pins s σ H _ us Q I r ⟨_, ys, rfl, h1, q⟩
  · exact h.elim
def uTuple (K : PySem.W.Frag) : RC := fun xs H Q => match xs with
  | [.ref p] => ∃ ys, (SqL K H p ys ∧ ∀ l, H l = none → Q (.ref l) (upd H l (.tup ys))) ∨ (SqT K H p ys ∧ Q (.ref p) H)
  | _ => False
theorem c_tuple : CallR X (.type "tuple") (uTuple X.K) := by
  intro pins s σ H xs us Q I r h
  unfold uTuple at h
  split at h
  · obtain ⟨ys, h⟩ := h
    exact call_tuple_of pins s σ H _ us Q I r ⟨_, ys, rfl, h⟩
  · exact h.elim
def uAll (K : PySem.W.Frag) : RC := fun xs H Q => match xs with
  | [.ref a] => ∃ bs : List Bool, SqL K H a (bs.map V.bl) ∧ Q (.bl (bs.all id)) H
  | _ => False
theorem c_all (hc : X.calm = true) : CallR X (.builtin "all") (uAll X.K) := by
  intro pins s σ H xs us Q I r h
  unfold uAll at h
  split at h
  · obtain ⟨bs, h1, q⟩ := h
    exact cr_all hc pins s σ H _ us Q I r ⟨_, bs, rfl, h1, q⟩
  · exact h.elim
def uAny (K : PySem.W.Frag) : RC := fun xs H Q => match xs with
  | [.ref a] => ∃ bs : List Bool, SqL K H a (bs.map V.bl) ∧ Q (.bl (bs.any id)) H
  | _ => False
theorem c_any (hc : X.calm = true) : CallR X (.builtin "any") (uAny X.K) := by
  intro pins s σ H xs us Q I r h
  unfold uAny at h
  split at h
  · obtain ⟨bs, h1, q⟩ := h
    exact cr_any hc pins s σ H _ us Q I r ⟨_, bs, rfl, h1, q⟩
  · exact h.elim
def uSum (K : PySem.W.Frag) : RC := fun xs H Q => match xs with
  | [.ref a] => ∃ ns : List Int, SqL K H a (ns.map V.int) ∧ Q (.int ns.sum) H
  | _ => False
theorem c_sum (hc : X.calm = true) : CallR X (.builtin "sum") (uSum X.K) := by
  intro pins s σ H xs us Q I r h
  unfold uSum at h
  split at h
  · obtain ⟨bs, h1, q⟩ := h
    exact cr_sum hc pins s σ H _ us Q I r ⟨_, bs, rfl, h1, q⟩
  · exact h.elim
def uMax : RC := fun xs H Q => match xs with
  | [.int i, .int j] => Q (.int (max i j)) H
  | _ => False
theorem c_max (hc : X.calm = true) : CallR X (.builtin "max") uMax := by
  intro pins s σ H xs us Q I r h
  unfold uMax at h
  split at h
  · rename_i i j
    refine call_max2 hc pins s σ H _ us Q I r ⟨_, _, rfl, ?_⟩
    have e : (if j > i then j else i) = max i j := by
      rw [Int.max_def]; split <;> split <;> omega
    rw [e]; exact h
  · exact h.elim
def uMin : RC := fun xs H Q => match xs with
  | [.int i, .int j] => Q (.int (min i j)) H
  | _ => False
theorem c_min (hc : X.calm = true) : CallR X (.builtin "min") uMin := by
  intro pins s σ H xs us Q I r h
  unfold uMin at h
  split at h
  · rename_i i j
    refine call_min2 hc pins s σ H _ us Q I r ⟨_, _, rfl, ?_⟩
    have e : (if j < i then j else i) = min i j := by
      rw [Int.min_def]; split <;> split <;> omega
    rw [e]; exact h
  · exact h.elim
/-- isinstance(x, T), T a built-in type: by the value's shape; an object's type is told -/
def tyName : V → Option String
  | .non => some "NoneType"
  | .bl _ => some "bool"
  | .int _ => some "int"
  | .str _ => some "str"
  | _ => none
def uIsi (K : PySem.W.Frag) : RC := fun xs H Q => match xs with
  | [x, .ty T] => ∃ t b, (match tyName x with | some n => t = n | none => TyX K H x (.type t)) ∧ kitB t T = some b ∧ Q (.bl b) H
  | [x, .ref C] => ∃ t b, TyX K H x t ∧ PySem.W.kitOne K t (.ref C) = some b ∧ Q (.bl b) H
  | _ => False
theorem c_isi : CallR X (.builtin "isinstance") (uIsi X.K) := by
  intro pins s σ H xs us Q I r h
  unfold uIsi at h
  split at h
  · rename_i x T
    obtain ⟨t, b, h1, h2, q⟩ := h
    have ty : TyX X.K H x (.type t) := by
      cases x with
      | non => have e : t = "NoneType" := h1; subst e; exact .base .non
      | bl b => have e : t = "bool" := h1; subst e; exact .base (.bl b)
      | int i => have e : t = "int" := h1; subst e; exact .base (.int i)
      | str z => have e : t = "str" := h1; subst e; exact .base (.str z)
      | _ => exact h1
    exact call_isi pins s σ H _ us Q I r ⟨x, _, _, _, b, rfl, .ty T, ty, kit_ty h2, q⟩
  · obtain ⟨t, b, h1, h2, q⟩ := h
    exact call_isi pins s σ H _ us Q I r ⟨_, _, t, _, b, rfl, .own _, h1, h2, q⟩
  · exact h.elim
/-! methods of built-in types -/
abbrev RM : Type := V → List V → Hp → VK → Prop
def uStarts : RM := fun x xs H Q => match x, xs with
  | .str a, [.str b] => Q (.bl (Txt.startswith a b)) H
  | _, _ => False
theorem m_starts : MtR X "str.startswith" uStarts := by
  intro pins s σ H x xs v us Q I rx rs h
  unfold uStarts at h
  split at h
  · exact mt_startswith pins s σ H _ _ v us Q I rx rs ⟨_, _, rfl, rfl, h⟩
  · exact h.elim
def uJoin (K : PySem.W.Frag) : RM := fun x xs H Q => match x, xs with
  | .str a, [.ref p] => ∃ ys : List Str, (SqL K H p (ys.map V.str) ∨ SqT K H p (ys.map V.str)) ∧ (ys.map (·.length)).sum + ys.length * a.length ≤ 16777216 ∧ Q (.str (Txt.join a ys)) H
  | _, _ => False
theorem m_join : MtR X "str.join" (uJoin X.K) := by
  intro pins s σ H x xs v us Q I rx rs h
  unfold uJoin at h
  split at h
  · obtain ⟨ys, h1, h2, q⟩ := h
    exact mt_join pins s σ H _ _ v us Q I rx rs ⟨_, _, ys, rfl, rfl, h1, h2, q⟩
  · exact h.elim
def uAppend : RM := fun x vs H Q => match x, vs with
  | .ref l, [y] => ∃ xs, H l = some (.lst xs) ∧ xs.length < sizeLine ∧ Q .non (upd H l (.lst (xs ++ [y])))
  | _, _ => False
theorem m_append : MtM X "list.append" uAppend := by
  intro pins s σ H x xs v us Q I rx rs h
  unfold uAppend at h
  split at h
  · obtain ⟨ys, h1, h2, q⟩ := h
    exact mt_append pins s σ H _ _ v us Q I rx rs ⟨_, ys, _, rfl, rfl, h1, h2, q⟩
  · exact h.elim
end
end U
/-! R: the steps of a reading (each a row that holds by what its left side means). -/
namespace U
open PySem PySem.Spec L2
section
variable {σ : St} {H : Hp} {Q : VK} {D : Ends} {v x y : V} {ta tb tc te tv : TE} {K : PySem.W.Frag} {t u : TT} {QB : Bool → Hp → Prop}
theorem szl {n : Nat} (h : n ≤ 16777216) : n ≤ sizeLine := by rw [sizeLine_eq]; exact h
theorem szt {n : Nat} (h : n < 16777216) : n < sizeLine := by rw [sizeLine_eq]; exact h
/-! statements -/
theorem r_seq {s1 s2 : TS} (h : s1 { D with nx := s2 D } σ H) : tSeq s1 s2 D σ H := h
theorem r_next (h : D.nx σ H) : tNext D σ H := h
theorem r_brk (h : D.bk σ H) : tBreak D σ H := h
theorem r_cont (h : D.ct σ H) : tCont D σ H := h
theorem r_drop (h : te σ H fun _ H1 => D.nx σ H1) : tDrop te D σ H := h
theorem r_ret (h : te σ H D.rt) : tRet te D σ H := h
theorem r_retN (h : D.rt .non H) : tRetN D σ H := h
theorem r_ifS {c : TT} {s1 s2 : TS} (h : c σ H fun b H1 => if b = true then s1 D σ H1 else s2 D σ H1) : tIfS c s1 s2 D σ H := h
theorem r_asg {g : TG} (h : te σ H fun x H1 => g x σ H1 D.nx) : tAsg te g D σ H := h
theorem r_gname {i : Nat} {R : St → Hp → Prop} (h : R (σ.set i (some v)) H) : gName i v σ H R := h
theorem r_aug {i : Nat} {ti : TIp} (hx : σ[i]? = some (some x)) (h : te σ H fun y H1 => ti x y H1 fun z H2 => D.nx (σ.set i (some z)) H2) : tAug i te ti D σ H := ⟨x, hx, h⟩
theorem r_nx {a : St → Hp → Prop} {b : VK} {c d : St → Hp → Prop} (h : a σ H) : (Ends.mk a b c d).nx σ H := h
theorem r_rt {a : St → Hp → Prop} {b : VK} {c d : St → Hp → Prop} (h : b v H) : (Ends.mk a b c d).rt v H := h
/-! expressions -/
theorem r_var {i : Nat} (hx : σ[i]? = some (some v)) (h : Q v H) : tVar i σ H Q := ⟨v, hx, h⟩
theorem r_c (h : Q v H) : tC v σ H Q := h
theorem r_op {r : R2} (h : ta σ H fun x H1 => tb σ H1 fun y H2 => r x y H2 Q) : tOp r ta tb σ H Q := h
theorem r_un {r : V → Hp → VK → Prop} (h : ta σ H fun x H1 => r x H1 Q) : tUn r ta σ H Q := h
theorem r_cons {tr : TA} {QA : List V → Hp → Prop} (h : ta σ H fun x H1 => tr σ H1 fun xs H2 => QA (x :: xs) H2) : tCons ta tr σ H QA := h
theorem r_nil {QA : List V → Hp → Prop} (h : QA [] H) : tNil σ H QA := h
theorem r_cb {r : RC} {t : TA} (h : t σ H fun vs H1 => r vs H1 Q) : tCB r t σ H Q := h
theorem r_bm {T : String} {r : RM} {t : TA} (h : ta σ H fun x H1 => tyV K T x H1 ∧ t σ H1 fun xs H2 => r x xs H2 Q) : tBM K T r ta t σ H Q := h
theorem r_bm0 {T : String} {r : RM} (h : ta σ H fun x H1 => tyV K T x H1 ∧ r x [] H1 Q) : tBM0 K T r ta σ H Q := h
theorem r_sl {r : V → Option Int → Option Int → Hp → VK → Prop} {tl th : TO} (h : te σ H fun x H1 => tl σ H1 fun l H2 => th σ H2 fun u H3 => r x l u H3 Q) : tSl r te tl th σ H Q := h
theorem r_nop {QO : Option Int → Hp → Prop} (h : QO none H) : tNoPart σ H QO := h
theorem r_part {QO : Option Int → Hp → Prop} (h : te σ H fun x H1 => ∃ i, x = .int i ∧ QO (some i) H1) : tPart te σ H QO := h
theorem r_partI {i : Int} {P : Int → Prop} (h : P i) : ∃ j, V.int i = .int j ∧ P j := ⟨i, rfl, h⟩
theorem r_tup {ta : TA} (h : ta σ H fun xs H1 => xs.length ≤ sizeLine ∧ ∀ p, H1 p = none → Q (.ref p) (upd H1 p (.tup xs))) : tTup ta σ H Q := h
theorem r_lst {ta : TA} (h : ta σ H fun xs H1 => xs.length ≤ sizeLine ∧ ∀ p, H1 p = none → Q (.ref p) (upd H1 p (.lst xs))) : tLst ta σ H Q := h
theorem r_if {c : TT} (h : c σ H fun b H1 => if b = true then ta σ H1 Q else tb σ H1 Q) : tIf c ta tb σ H Q := h
theorem r_call {sp : Sp} {E : XK} {t : TA} (h : t σ H fun vs H1 => sp vs H1 Q E) : tCall sp [] E t σ H Q := by
  have e : (fun vs H1 => sp (vs ++ []) H1 Q E) = fun vs H1 => sp vs H1 Q E := by
    funext vs H1
    rw [List.append_nil]
  show t σ H fun vs H1 => sp (vs ++ []) H1 Q E
  rw [e]
  exact h
theorem r_andV (h : ta σ H fun x H1 => ∃ c, x = .bl c ∧ if c = true then tb σ H1 Q else Q (.bl false) H1) : tAndV ta tb σ H Q := h
theorem r_orV (h : ta σ H fun x H1 => ∃ c, x = .bl c ∧ if c = true then Q (.bl true) H1 else tb σ H1 Q) : tOrV ta tb σ H Q := h
theorem r_notV (h : ta σ H fun x H1 => ∃ c, x = .bl c ∧ Q (.bl (!c)) H1) : tNotV ta σ H Q := h
theorem r_bl {c : Bool} {P : Bool → Prop} (h : P c) : ∃ k, V.bl c = .bl k ∧ P k := ⟨c, rfl, h⟩
theorem r_chain {r r' : R2} (h : ta σ H fun x H1 => tb σ H1 fun y H2 => r x y H2 fun z H3 => ∃ k, z = .bl k ∧ (if k = true then tc σ H3 fun w' H4 => r' y w' H4 Q else Q (.bl false) H3)) : tChain r r' ta tb tc σ H Q := h
/-! tests -/
theorem r_test (h : te σ H fun x H' => ∃ k, x = .bl k ∧ QB k H') : tTest te σ H QB := h
theorem r_tb (h : te σ H fun x H' => ∃ k, x = .bl k ∧ QB k H') : tB te σ H QB := h
theorem r_and (h : t σ H fun c H1 => if c = true then u σ H1 QB else QB false H1) : tAnd t u σ H QB := h
theorem r_or (h : t σ H fun c H1 => if c = true then QB true H1 else u σ H1 QB) : tOr t u σ H QB := h
theorem r_not (h : t σ H fun c H1 => QB (!c) H1) : tNot t σ H QB := h
/-! truth of a value -/
def uTru (K : PySem.W.Frag) (te : TE) : TT := fun σ H Q => te σ H fun x H' => ∃ k, TruV K x H' k ∧ Q k H'
theorem pt_tru {X : Cx} {a : Expr} {ta : TE} (ha : PE X a ta) (he : ∀ whole, isTrue a X.env whole = (do let v ← whole; standAt a.pos; holding [v] (truthy v)) := by intro _; rfl) : PT X a (uTru X.K ta) := pt_truth ha he
theorem r_tru (h : te σ H fun x H' => ∃ k, TruV K x H' k ∧ QB k H') : uTru K te σ H QB := h
theorem r_truBl {c : Bool} {P : Bool → Prop} (h : P c) : ∃ k, TruV K (.bl c) H k ∧ P k := ⟨c, rfl, h⟩
theorem r_truInt {i : Int} {P : Bool → Prop} (h : P (decide (i ≠ 0))) : ∃ k, TruV K (.int i) H k ∧ P k := ⟨_, by simp [TruV, bne, Bool.beq_eq_decide_eq], h⟩
theorem r_truNon {P : Bool → Prop} (h : P false) : ∃ k, TruV K .non H k ∧ P k := ⟨_, rfl, h⟩
/-! operators -/
variable {i j : Int} {a b : Str}
theorem r_addI (h : Q (.int (i + j)) H) : uAdd K (.int i) (.int j) H Q := h
theorem r_addS (hl : a.length + b.length ≤ sizeLine) (h : Q (.str (a ++ b)) H) : uAdd K (.str a) (.str b) H Q := ⟨hl, h⟩
theorem r_sub (h : Q (.int (i - j)) H) : uSub (.int i) (.int j) H Q := h
theorem r_mul (hc : CMul i j ∨ CMulW i j) (h : Q (.int (i * j)) H) : uMul (.int i) (.int j) H Q := ⟨hc, h⟩
theorem r_fdiv (hc : CDivW i j) (h : Q (.int (i / j)) H) : uFdiv (.int i) (.int j) H Q := ⟨hc, h⟩
theorem r_mod (hc : 0 < j) (h : Q (.int (i % j)) H) : uMod (.int i) (.int j) H Q := ⟨hc, h⟩
theorem r_neg (h : Q (.int (-i)) H) : uNeg (.int i) H Q := h
theorem r_cmpI {p : Int → Int → Bool} (h : Q (.bl (p i j)) H) : uCmpI p (.int i) (.int j) H Q := h
theorem dec_int : decide (V.int i = .int j) = decide (i = j) := by simp
theorem dec_str : decide (V.str a = .str b) = decide (a = b) := by simp
theorem dec_bl {c d : Bool} : decide (V.bl c = .bl d) = decide (c = d) := by simp
theorem r_eqI (h : Q (.bl (decide (i = j))) H) : uEq K (.int i) (.int j) H Q := .inl ⟨rfl, by rw [dec_int]; exact h⟩
theorem r_eqS (h : Q (.bl (decide (a = b))) H) : uEq K (.str a) (.str b) H Q := .inl ⟨rfl, by rw [dec_str]; exact h⟩
theorem r_eqB {c d : Bool} (h : Q (.bl (decide (c = d))) H) : uEq K (.bl c) (.bl d) H Q := .inl ⟨rfl, by rw [dec_bl]; exact h⟩
theorem r_neI (h : Q (.bl (!decide (i = j))) H) : uNe K (.int i) (.int j) H Q := .inl ⟨rfl, by rw [dec_int]; exact h⟩
theorem r_neS (h : Q (.bl (!decide (a = b))) H) : uNe K (.str a) (.str b) H Q := .inl ⟨rfl, by rw [dec_str]; exact h⟩
theorem r_neB {c d : Bool} (h : Q (.bl (!decide (c = d))) H) : uNe K (.bl c) (.bl d) H Q := .inl ⟨rfl, by rw [dec_bl]; exact h⟩
theorem r_isNN (h : Q (.bl true) H) : uIsN id .non .non H Q := h
theorem r_isNI (h : Q (.bl false) H) : uIsN id (.int i) .non H Q := h
theorem r_isNB {c : Bool} (h : Q (.bl false) H) : uIsN id (.bl c) .non H Q := h
theorem r_isNS (h : Q (.bl false) H) : uIsN id (.str a) .non H Q := h
theorem r_isNR {p : Addr} (h : Q (.bl false) H) : uIsN id (.ref p) .non H Q := h
theorem r_notNN (h : Q (.bl false) H) : uIsN not .non .non H Q := h
theorem r_notNI (h : Q (.bl true) H) : uIsN not (.int i) .non H Q := h
theorem r_notNB {c : Bool} (h : Q (.bl true) H) : uIsN not (.bl c) .non H Q := h
theorem r_notNS (h : Q (.bl true) H) : uIsN not (.str a) .non H Q := h
theorem r_notNR {p : Addr} (h : Q (.bl true) H) : uIsN not (.ref p) .non H Q := h
theorem r_inC {c : Nat} (h : Q (.bl (decide (c ∈ a.cps.toList))) H) : uIn K id (.str ⟨#[c]⟩) (.str a) H Q := ⟨c, rfl, h⟩
theorem r_notInC {c : Nat} (h : Q (.bl (!decide (c ∈ a.cps.toList))) H) : uIn K not (.str ⟨#[c]⟩) (.str a) H Q := ⟨c, rfl, h⟩
theorem r_mulS {k : Int} (h1 : a.length * k.toNat ≤ 1000000) (h2 : k ≤ 1000000) (h3 : -(2 ^ 63) ≤ k) (h : Q (.str (Txt.mul a k)) H) : uMul (.str a) (.int k) H Q := ⟨h1, h2, h3, h⟩
theorem r_ixS {c : Nat} (h1 : a.length ≤ sizeLine) (h2 : atI a.cps.toList i = some c) (h : Q (.str ⟨#[c]⟩) H) : uIx K (.str a) (.int i) H Q := ⟨c, h1, h2, h⟩
theorem r_ixL {p : Addr} {xs : List V} (h1 : SqL K H p xs) (h2 : atI xs i = some v) (h : Q v H) : uIx K (.ref p) (.int i) H Q := ⟨xs, v, .inl h1, h2, h⟩
theorem r_ixT {p : Addr} {xs : List V} (h1 : SqT K H p xs) (h2 : atI xs i = some v) (h : Q v H) : uIx K (.ref p) (.int i) H Q := ⟨xs, v, .inr h1, h2, h⟩
theorem r_slS {lo hi : Option Int} (hl : a.length ≤ sizeLine) (h : Q (.str (cutS a lo hi)) H) : uSl K (.str a) lo hi H Q := ⟨hl, h⟩
theorem r_lenL {p : Addr} {xs : List V} (h1 : SqL K H p xs) (h : Q (.int (xs.length : Int)) H) : uLen K [.ref p] H Q := ⟨xs, .inl h1, h⟩
theorem r_lenT {p : Addr} {xs : List V} (h1 : SqT K H p xs) (h : Q (.int (xs.length : Int)) H) : uLen K [.ref p] H Q := ⟨xs, .inr h1, h⟩
theorem r_allL {p : Addr} {bs : List Bool} (h1 : SqL K H p (bs.map V.bl)) (h : Q (.bl (bs.all id)) H) : uAll K [.ref p] H Q := ⟨bs, h1, h⟩
theorem r_listL {p : Addr} {xs : List V} (h1 : SqL K H p xs) (h : ∀ l, H l = none → Q (.ref l) (upd H l (.lst xs))) : uList K [.ref p] H Q := ⟨xs, .inl h1, h⟩
theorem r_listT {p : Addr} {xs : List V} (h1 : SqT K H p xs) (h : ∀ l, H l = none → Q (.ref l) (upd H l (.lst xs))) : uList K [.ref p] H Q := ⟨xs, .inr h1, h⟩
theorem r_tupleL {p : Addr} {xs : List V} (h1 : SqL K H p xs) (h : ∀ l, H l = none → Q (.ref l) (upd H l (.tup xs))) : uTuple K [.ref p] H Q := ⟨xs, .inl ⟨h1, h⟩⟩
theorem r_append {p : Addr} {xs : List V} (h1 : H p = some (.lst xs)) (h2 : xs.length < sizeLine) (h : Q .non (upd H p (.lst (xs ++ [v])))) : uAppend (.ref p) [v] H Q := ⟨xs, h1, h2, h⟩
theorem r_tyStr {A : Prop} (h : A) : tyV K "str" (.str a) H ∧ A := ⟨rfl, h⟩
theorem r_tyLst {p : Addr} {xs : List V} {A : Prop} (h1 : H p = some (.lst xs)) (h : A) : tyV K "list" (.ref p) H ∧ A := ⟨.inl ⟨rfl, _, SqL.of h1⟩, h⟩
theorem r_lenS (hl : a.length ≤ sizeLine) (h : Q (.int (a.length : Int)) H) : uLen K [.str a] H Q := ⟨hl, h⟩
theorem r_abs (h : Q (.int (i.natAbs : Int)) H) : uAbs [.int i] H Q := h
theorem r_intI (h : Q (.int i) H) : uInt [.int i] H Q := h
theorem r_intB {c : Bool} (h : Q (.int (if c then 1 else 0)) H) : uInt [.bl c] H Q := h
theorem r_strI (hl : i.natAbs.log2 < 1920) (h : Q (.str (toString i)) H) : uStr [.int i] H Q := ⟨hl, h⟩
theorem r_maxI (h : Q (.int (max i j)) H) : uMax [.int i, .int j] H Q := h
theorem r_minI (h : Q (.int (min i j)) H) : uMin [.int i, .int j] H Q := h
theorem r_starts (h : Q (.bl (Txt.startswith a b)) H) : uStarts (.str a) [.str b] H Q := h
theorem r_iI_int (h : Q (.bl true) H) : uIsi K [(.int i), .ty "int"] H Q := ⟨"int", true, rfl, by decide +kernel, h⟩
theorem r_iI_bool (h : Q (.bl false) H) : uIsi K [(.int i), .ty "bool"] H Q := ⟨"int", false, rfl, by decide +kernel, h⟩
theorem r_iI_str (h : Q (.bl false) H) : uIsi K [(.int i), .ty "str"] H Q := ⟨"int", false, rfl, by decide +kernel, h⟩
theorem r_iI_tuple (h : Q (.bl false) H) : uIsi K [(.int i), .ty "tuple"] H Q := ⟨"int", false, rfl, by decide +kernel, h⟩
theorem r_iI_list (h : Q (.bl false) H) : uIsi K [(.int i), .ty "list"] H Q := ⟨"int", false, rfl, by decide +kernel, h⟩
theorem r_iB_int {d : Bool} (h : Q (.bl true) H) : uIsi K [(.bl d), .ty "int"] H Q := ⟨"bool", true, rfl, by decide +kernel, h⟩
theorem r_iB_bool {d : Bool} (h : Q (.bl true) H) : uIsi K [(.bl d), .ty "bool"] H Q := ⟨"bool", true, rfl, by decide +kernel, h⟩
theorem r_iB_str {d : Bool} (h : Q (.bl false) H) : uIsi K [(.bl d), .ty "str"] H Q := ⟨"bool", false, rfl, by decide +kernel, h⟩
theorem r_iB_tuple {d : Bool} (h : Q (.bl false) H) : uIsi K [(.bl d), .ty "tuple"] H Q := ⟨"bool", false, rfl, by decide +kernel, h⟩
theorem r_iB_list {d : Bool} (h : Q (.bl false) H) : uIsi K [(.bl d), .ty "list"] H Q := ⟨"bool", false, rfl, by decide +kernel, h⟩
theorem r_iS_int (h : Q (.bl false) H) : uIsi K [(.str a), .ty "int"] H Q := ⟨"str", false, rfl, by decide +kernel, h⟩
theorem r_iS_bool (h : Q (.bl false) H) : uIsi K [(.str a), .ty "bool"] H Q := ⟨"str", false, rfl, by decide +kernel, h⟩
theorem r_iS_str (h : Q (.bl true) H) : uIsi K [(.str a), .ty "str"] H Q := ⟨"str", true, rfl, by decide +kernel, h⟩
theorem r_iS_tuple (h : Q (.bl false) H) : uIsi K [(.str a), .ty "tuple"] H Q := ⟨"str", false, rfl, by decide +kernel, h⟩
theorem r_iS_list (h : Q (.bl false) H) : uIsi K [(.str a), .ty "list"] H Q := ⟨"str", false, rfl, by decide +kernel, h⟩
theorem r_iN_int (h : Q (.bl false) H) : uIsi K [.non, .ty "int"] H Q := ⟨"NoneType", false, rfl, by decide +kernel, h⟩
theorem r_iN_bool (h : Q (.bl false) H) : uIsi K [.non, .ty "bool"] H Q := ⟨"NoneType", false, rfl, by decide +kernel, h⟩
theorem r_iN_str (h : Q (.bl false) H) : uIsi K [.non, .ty "str"] H Q := ⟨"NoneType", false, rfl, by decide +kernel, h⟩
theorem r_iN_tuple (h : Q (.bl false) H) : uIsi K [.non, .ty "tuple"] H Q := ⟨"NoneType", false, rfl, by decide +kernel, h⟩
theorem r_iN_list (h : Q (.bl false) H) : uIsi K [.non, .ty "list"] H Q := ⟨"NoneType", false, rfl, by decide +kernel, h⟩
theorem r_iT_int {p : Addr} {xs : List V} (hp : H p = some (.tup xs)) (h : Q (.bl false) H) : uIsi K [.ref p, .ty "int"] H Q := ⟨"tuple", false, .base (.tup hp), by decide +kernel, h⟩
theorem r_iL_int {p : Addr} {xs : List V} (hp : H p = some (.lst xs)) (h : Q (.bl false) H) : uIsi K [.ref p, .ty "int"] H Q := ⟨"list", false, .base (.lst hp), by decide +kernel, h⟩
theorem r_iT_bool {p : Addr} {xs : List V} (hp : H p = some (.tup xs)) (h : Q (.bl false) H) : uIsi K [.ref p, .ty "bool"] H Q := ⟨"tuple", false, .base (.tup hp), by decide +kernel, h⟩
theorem r_iL_bool {p : Addr} {xs : List V} (hp : H p = some (.lst xs)) (h : Q (.bl false) H) : uIsi K [.ref p, .ty "bool"] H Q := ⟨"list", false, .base (.lst hp), by decide +kernel, h⟩
theorem r_iT_str {p : Addr} {xs : List V} (hp : H p = some (.tup xs)) (h : Q (.bl false) H) : uIsi K [.ref p, .ty "str"] H Q := ⟨"tuple", false, .base (.tup hp), by decide +kernel, h⟩
theorem r_iL_str {p : Addr} {xs : List V} (hp : H p = some (.lst xs)) (h : Q (.bl false) H) : uIsi K [.ref p, .ty "str"] H Q := ⟨"list", false, .base (.lst hp), by decide +kernel, h⟩
theorem r_iT_tuple {p : Addr} {xs : List V} (hp : H p = some (.tup xs)) (h : Q (.bl true) H) : uIsi K [.ref p, .ty "tuple"] H Q := ⟨"tuple", true, .base (.tup hp), by decide +kernel, h⟩
theorem r_iL_tuple {p : Addr} {xs : List V} (hp : H p = some (.lst xs)) (h : Q (.bl false) H) : uIsi K [.ref p, .ty "tuple"] H Q := ⟨"list", false, .base (.lst hp), by decide +kernel, h⟩
theorem r_iT_list {p : Addr} {xs : List V} (hp : H p = some (.tup xs)) (h : Q (.bl false) H) : uIsi K [.ref p, .ty "list"] H Q := ⟨"tuple", false, .base (.tup hp), by decide +kernel, h⟩
theorem r_iL_list {p : Addr} {xs : List V} (hp : H p = some (.lst xs)) (h : Q (.bl true) H) : uIsi K [.ref p, .ty "list"] H Q := ⟨"list", true, .base (.lst hp), by decide +kernel, h⟩
/-! branches -/
theorem br_t {A B : Prop} (h : A) : if true = true then A else B := by rw [if_pos rfl]; exact h
theorem br_f {A B : Prop} (h : B) : if false = true then A else B := by rw [if_neg Bool.false_ne_true]; exact h
theorem br {c : Bool} {A B : Prop} (h1 : c = true → A) (h2 : c = false → B) : if c = true then A else B := by
  cases c with
  | true => exact br_t (h1 rfl)
  | false => exact br_f (h2 rfl)
theorem br_y {p : Prop} [Decidable p] {A B : Prop} (hp : p) (h : A) : if decide p = true then A else B := by rw [decide_eq_true hp]; exact br_t h
theorem br_n {p : Prop} [Decidable p] {A B : Prop} (hp : ¬ p) (h : B) : if decide p = true then A else B := by rw [decide_eq_false hp]; exact br_f h
theorem br_ny {p : Prop} [Decidable p] {A B : Prop} (hp : p) (h : B) : if (!decide p) = true then A else B := by rw [decide_eq_true hp]; exact br_f h
theorem br_nn {p : Prop} [Decidable p] {A B : Prop} (hp : ¬ p) (h : A) : if (!decide p) = true then A else B := by rw [decide_eq_false hp]; exact br_t h
theorem br_nt {A B : Prop} (h : B) : if (!true) = true then A else B := br_f h
theorem br_nf {A B : Prop} (h : A) : if (!false) = true then A else B := br_t h
/-- a bool by its two ways (an open test) -/
theorem br_d {p : Prop} [Decidable p] {A B : Prop} (h1 : p → A) (h2 : ¬ p → B) : if decide p = true then A else B := by
  by_cases h : p
  · rw [decide_eq_true h]; exact br_t (h1 h)
  · rw [decide_eq_false h]; exact br_f (h2 h)
theorem br_nd {p : Prop} [Decidable p] {A B : Prop} (h1 : ¬ p → A) (h2 : p → B) : if (!decide p) = true then A else B := by
  by_cases h : p
  · rw [decide_eq_true h]; exact br_f (h2 h)
  · rw [decide_eq_false h]; exact br_t (h1 h)
end
end U
/-! U2: a def taken by name; constants; stores; loops and comprehensions over what yields one thing after another. -/
namespace U
open PySem PySem.Spec L2
section
variable {X : Cx} {x : Str} {p pos : Pos} {e : Expr} {es : List Expr} {t : TA}
/-- a def of the module's, by its name: where it stands, that it keeps its promise -/
structure OkF (P : Program) (w : World) (K : PySem.W.Frag) (mg : Str → Option Value) (base : Heap) (k : Nat) (x : Str) (ps : List Str) (sp : Sp) : Prop where
  ex : ∃ (f : Addr) (fd : FuncData), mg x = some (.ref f) ∧ FnOk P w K mg base CX0 k f fd ps sp ∧ Binds K fd ps [] ∧ PySem.W.keepIn K (.ref f) = true
theorem pe_fn {k : Nat} {ps : List Str} {sp : Sp} (O : OkF X.prog X.w X.K X.mg X.base k x ps sp) (hr : Room k X.A) (hg : Gl X x) (ha : PA X (e :: es) t) (hdb : (x == ("__debug__" : Str)) = false := by decide)
    (he : starEach (e :: es) X.env = (false, eval e X.env) :: starEach es X.env := by rfl) (hpl : (backTo pos (starEach es X.env)).any (·.1) = false := by rfl) : PE X (.Call (.Name x p) (e :: es) [] pos) (tCall sp [] E0 t) := by
  obtain ⟨f, fd, hm, F, hb, hk⟩ := O.ex
  exact pe_call F hr hg hm hk hb .nil pass0 ha hdb he hpl
theorem pe_fn0 {k : Nat} {ps : List Str} {sp : Sp} (O : OkF X.prog X.w X.K X.mg X.base k x ps sp) (hr : Room k X.A) (hg : Gl X x) (hdb : (x == ("__debug__" : Str)) = false := by decide) : PE X (.Call (.Name x p) [] [] pos) (tCall sp [] E0 tNil) := by
  obtain ⟨f, fd, hm, F, hb, hk⟩ := O.ex
  exact pe_call0 F hr hg hm hk hb .nil pass0 hdb
theorem pe_gint {i : Int} (hg : Gl X x) (h : ∃ t, X.mg x = some (.int i t)) (hd : (x == ("__debug__" : Str)) = false := by decide) : PE X (.Name x pos) (tC (.int i)) := by
  obtain ⟨t, h⟩ := h
  exact pe_glob hg h ⟨_, rfl⟩ hd
theorem pe_gstr {z : Str} (hg : Gl X x) (h : ∃ t, X.mg x = some (.str z t)) (hd : (x == ("__debug__" : Str)) = false := by decide) : PE X (.Name x pos) (tC (.str z)) := by
  obtain ⟨t, h⟩ := h
  exact pe_glob hg h ⟨_, rfl⟩ hd
theorem pe_gref {a : Addr} (hg : Gl X x) (h : X.mg x = some (.ref a)) (hd : (x == ("__debug__" : Str)) = false := by decide) : PE X (.Name x pos) (tC (.ref a)) := pe_glob hg h rfl hd
theorem pe_ty {T : String} (hg : Gl X x) (hm : X.mg x = none) (hv : bootBuiltins x = some (.type T)) (hn : x ≠ "__name__" := by decide) (hd : (x == ("__debug__" : Str)) = false := by decide) : PE X (.Name x pos) (tC (.ty T)) := pe_bltn hg hm hv rfl hn hd
/-- a block: what holds between its first statement and the rest -/
def tSq (t u : TS) : TS := fun D σ H => ∃ M : St → Hp → Prop, t { D with nx := M } σ H ∧ ∀ σ' H', M σ' H' → u D σ' H'
theorem pss_c {st : Stmt} {rest : List Stmt} {t u : TS} (h1 : PS X st t) (h2 : PSs X rest u) : PSs X (st :: rest) (tSq t u) := by
  refine ⟨fun pins s σ H D I h => ?_⟩
  obtain ⟨M, hm, hu⟩ := h
  refine wpAny_execs_cons (thn (h1.run pins s σ H { D with nx := M } I hm) fun f s1 q => ?_)
  cases f with
  | next =>
    obtain ⟨σ', H', I', q⟩ := q
    exact h2.run pins s1 σ' H' D I' (hu σ' H' q)
  | ret v => exact q
  | brk => exact q
  | cont => exact q
/-- what is walked: a list, a tuple, a text -/
def uIt (K : PySem.W.Frag) (te : TE) : TI := fun σ H R => iList K te σ H R ∨ iTup K te σ H R ∨ iStr te σ H R
theorem pi_any {tg : Expr} {te : TE} (he : PE X e te) : PI X tg e (uIt X.K te) := ⟨fun pins s σ H R I h => by
  rcases h with h | h | h
  · exact (pi_list he).run pins s σ H R I h
  · exact (pi_tup he).run pins s σ H R I h
  · exact (pi_str he).run pins s σ H R I h⟩
/-- isinstance(x, (T1, T2, ..)), built-in types -/
def kitL (t : String) : List String → Option Bool
  | [] => some false
  | T :: Ts => match kitB t T with
    | some true => some true
    | some false => kitL t Ts
    | none => none
theorem kitL_any {K : PySem.W.Frag} {t : String} : ∀ {Ts : List String} {b : Bool}, kitL t Ts = some b → PySem.W.kitAny K (.type t) (Ts.map Value.type) = some b
  | [], b, h => by cases h; rfl
  | T :: Ts, b, h => by
    unfold kitL at h
    cases e : kitB t T with
    | none => rw [e] at h; cases h
    | some c =>
      rw [e] at h
      cases c with
      | true => cases h; exact kitAny_cons (b := true) (kit_ty e) (fun z => by cases z) (fun _ => rfl)
      | false => exact kitAny_cons (b := false) (kit_ty e) (fun _ => kitL_any h) (fun z => by cases z)
theorem clsL : ∀ Ts : List String, Paired ClsV (Ts.map V.ty) (Ts.map Value.type)
  | [] => .nil
  | T :: Ts => .cons (.ty T) (clsL Ts)
def uIsiT (K : PySem.W.Frag) : RC := fun xs H Q => match xs with
  | [x, .ref p] => ∃ (t : String) (Ts : List String) (b : Bool), H p = some (.tup (Ts.map V.ty)) ∧ (match tyName x with | some n => t = n | none => TyX K H x (.type t)) ∧ kitL t Ts = some b ∧ Q (.bl b) H
  | _ => False
theorem c_isiT : CallR X (.builtin "isinstance") (uIsiT X.K) := by
  intro pins s σ H xs us Q I r h
  unfold uIsiT at h
  split at h
  · rename_i x p
    obtain ⟨t, Ts, b, h0, h1, h2, q⟩ := h
    have ty : TyX X.K H x (.type t) := by
      cases x with
      | non => have e : t = "NoneType" := h1; subst e; exact .base .non
      | bl b => have e : t = "bool" := h1; subst e; exact .base (.bl b)
      | int i => have e : t = "int" := h1; subst e; exact .base (.int i)
      | str z => have e : t = "str" := h1; subst e; exact .base (.str z)
      | _ => exact h1
    exact call_isiT pins s σ H _ us Q I r ⟨x, p, _, _, _, b, rfl, h0, clsL Ts, ty, kitL_any h2, q⟩
  · exact h.elim
/-! stores -/
def uGetL (K : PySem.W.Frag) (o i : V) (H : Hp) (Q : VK) : Prop := match o, i with
  | .ref a, .int k => ∃ xs v, SqL K H a xs ∧ 0 ≤ k ∧ xs[k.toNat]? = some v ∧ Q v H
  | _, _ => False
theorem g_list : PGet X (uGetL X.K) := by
  intro pins s σ H o i ov iv Q I r1 r2 h
  cases o <;> cases i <;> first | exact (show False from h).elim | skip
  obtain ⟨xs, v, h1, h2, h3, q⟩ := h
  cases r1
  obtain ⟨t, rfl⟩ := r2
  obtain ⟨its, r, pl, hz⟩ := I.list h1
  obtain ⟨w, ew, rw'⟩ := r.get h3
  have hl := line63
  have hj := (List.getElem?_eq_some_iff.mp h3).1
  exact wpAny_getItem_list pl.isList h2 (by omega) (by simpa using ew) ⟨v, H, I, rw', q⟩
def uSetL (o i v : V) (H : Hp) (Q : Hp → Prop) : Prop := match o, i with
  | .ref a, .int k => ∃ xs j, H a = some (.lst xs) ∧ ixN xs.length k = some j ∧ Q (upd H a (.lst (xs.set j v)))
  | _, _ => False
theorem p_list : PSet X uSetL := by
  intro pins s σ H o i v ov iv u Q I r1 r2 r3 h
  cases o <;> cases i <;> first | exact (show False from h).elim | skip
  obtain ⟨xs, j, h1, h2, q⟩ := h
  exact set_list pins s σ H _ _ v ov iv u Q I r1 r2 r3 ⟨_, xs, _, j, rfl, rfl, h1, h2, q⟩
def uIpI (f : Int → Int → Int) (x y : V) (H : Hp) (Q : VK) : Prop := match x, y with
  | .int i, .int j => Q (.int (f i j)) H
  | _, _ => False
theorem a_add : PIp X .Add (uIpI fun i j => i + j) := by
  intro pins s σ H x y v u Q I r1 r2 h
  cases x <;> cases y <;> first | exact (show False from h).elim | skip
  exact ip_add pins s σ H _ _ v u Q I r1 r2 ⟨_, _, rfl, rfl, h⟩
theorem a_sub : PIp X .Sub (uIpI fun i j => i - j) := by
  intro pins s σ H x y v u Q I r1 r2 h
  cases x <;> cases y <;> first | exact (show False from h).elim | skip
  exact ip_sub pins s σ H _ _ v u Q I r1 r2 ⟨_, _, rfl, rfl, h⟩
end
section
variable {σ : St} {H : Hp} {Q : VK} {D : Ends} {K : PySem.W.Frag} {i j : Int}
theorem r_sq {t u : TS} (h : t { D with nx := u D } σ H) : tSq t u D σ H := ⟨u D, h, fun _ _ x => x⟩
theorem r_cut {t u : TS} (M : St → Hp → Prop) (h : t { D with nx := M } σ H) (k : ∀ σ' H', M σ' H' → u D σ' H') : tSq t u D σ H := ⟨M, h, k⟩
theorem r_sqA {te : TE} {g : TG} {u : TS} (h : te σ H fun x H1 => g x σ H1 (u D)) : tSq (tAsg te g) u D σ H := r_sq h
theorem r_sqD {te : TE} {u : TS} (h : te σ H fun _ H1 => u D σ H1) : tSq (tDrop te) u D σ H := r_sq h
theorem r_sqG {x : V} {i : Nat} {te : TE} {ti : TIp} {u : TS} (hx : σ[i]? = some (some x)) (h : te σ H fun y H1 => ti x y H1 fun z H2 => u D (σ.set i (some z)) H2) : tSq (tAug i te ti) u D σ H := r_sq ⟨x, hx, h⟩
theorem r_sqS {to ti te : TE} {tg : V → V → Hp → VK → Prop} {tp : TIp} {ts : TSet} {u : TS} (h : to σ H fun o H1 => ti σ H1 fun k H2 => tg o k H2 fun x H3 => te σ H3 fun y H4 => tp x y H4 fun z H5 => ts o k z H5 fun H6 => u D σ H6) : tSq (tAugS to ti te tg tp ts) u D σ H := r_sq h
theorem r_yes {QB : Bool → Hp → Prop} (h : QB true H) : tYes σ H QB := h
theorem same_new {p : Addr} {o : HO} (h : H p = none) : Same H (upd H p o) := fun b x e => by
  rw [upd_ne (ne_of_none e h)]
  exact e
theorem same_mut {H' : Hp} {p : Addr} {o : HO} (e : Same H H') (h : H p = none) : Same H (upd H' p o) := fun b x eb => by
  rw [upd_ne (ne_of_none eb h)]
  exact e b x eb
theorem r_sub3 {to ti : TE} {ts : TSet} {v : V} {R : St → Hp → Prop} (h : to σ H fun o H1 => ti σ H1 fun k H2 => ts o k v H2 fun H3 => R σ H3) : gSub to ti ts v σ H R := h
theorem r_augS {to ti te : TE} {tg : V → V → Hp → VK → Prop} {tp : TIp} {ts : TSet} (h : to σ H fun o H1 => ti σ H1 fun k H2 => tg o k H2 fun x H3 => te σ H3 fun y H4 => tp x y H4 fun z H5 => ts o k z H5 fun H6 => D.nx σ H6) : tAugS to ti te tg tp ts D σ H := h
theorem r_ipI {f : Int → Int → Int} (h : Q (.int (f i j)) H) : uIpI f (.int i) (.int j) H Q := h
theorem r_getL {a : Addr} {k : Int} {xs : List V} {v : V} (h1 : SqL K H a xs) (h2 : 0 ≤ k) (h3 : xs[k.toNat]? = some v) (h : Q v H) : uGetL K (.ref a) (.int k) H Q := ⟨xs, v, h1, h2, h3, h⟩
theorem r_setL {a : Addr} {k : Int} {xs : List V} {m : Nat} {v : V} {R : Hp → Prop} (h1 : H a = some (.lst xs)) (h2 : ixN xs.length k = some m) (h : R (upd H a (.lst (xs.set m v)))) : uSetL (.ref a) (.int k) v H R := ⟨xs, m, h1, h2, h⟩
/-! loops -/
/-- a loop over n things: P holds ahead of each turn -/
theorem l_for {J : It} {n : Nat} {g : TG} {tb : TS} (P : Nat → St → Hp → Prop) (h0 : P 0 σ H) (go : ∀ i σ H, i < n → P i σ H → J.go i H) (stop : ∀ σ H, P n σ H → J.stop n H)
    (step : ∀ i σ H, i < n → P i σ H → ∀ x H', J.yld i H x H' → g x σ H' fun σ2 H2 => tb { D with nx := P (i + 1), ct := P (i + 1), bk := D.nx } σ2 H2) (done : ∀ σ H, P n σ H → D.nx σ H) :
    ∃ W : Nat → Nat → St → Hp → Prop, (∃ m, W 0 m σ H) ∧ ∀ i m σ H, W i m σ H →
      (J.stop i H ∧ D.nx σ H) ∨ (J.go i H ∧ ∃ N : St → Hp → Prop, (∀ σ' H', N σ' H' → ∃ m', m' < m ∧ W (i + 1) m' σ' H') ∧ ∀ x H', J.yld i H x H' → g x σ H' fun σ2 H2 => tb { D with nx := N, ct := N, bk := D.nx } σ2 H2) := by
  refine ⟨fun i m σ H => m = n - i ∧ i ≤ n ∧ P i σ H, ⟨n, by simp, Nat.zero_le _, h0⟩, ?_⟩
  rintro i m σ H ⟨rfl, hi, p⟩
  by_cases hlt : i < n
  · exact .inr ⟨go i σ H hlt p, P (i + 1), fun σ' H' p' => ⟨n - (i + 1), by omega, rfl, hlt, p'⟩, fun x H' y => step i σ H hlt p x H' y⟩
  · have e : i = n := by omega
    subst e
    exact .inl ⟨stop σ H p, done σ H p⟩
theorem r_for {wi : TI} {g : TG} {tb : TS} (h : wi σ H fun J H1 => ∃ W : Nat → Nat → St → Hp → Prop, (∃ m, W 0 m σ H1) ∧ ∀ i m σ H, W i m σ H →
  (J.stop i H ∧ D.nx σ H) ∨ (J.go i H ∧ ∃ N : St → Hp → Prop, (∀ σ' H', N σ' H' → ∃ m', m' < m ∧ W (i + 1) m' σ' H') ∧ ∀ x H', J.yld i H x H' → g x σ H' fun σ2 H2 => tb { D with nx := N, ct := N, bk := D.nx } σ2 H2)) : tFor wi g tb D σ H := h
theorem it_list {te : TE} {R : It → Hp → Prop} (h : te σ H fun x H1 => ∃ a, x = .ref a ∧ (∃ xs, SqL K H1 a xs) ∧ R (Itl K a) H1) : uIt K te σ H R := .inl h
theorem it_tup {te : TE} {R : It → Hp → Prop} (h : te σ H fun x H1 => ∃ a, x = .ref a ∧ (∃ xs, SqT K H1 a xs) ∧ R (Itt K a) H1) : uIt K te σ H R := .inr (.inl h)
theorem it_str {te : TE} {R : It → Hp → Prop} (h : te σ H fun v H1 => ∃ x, v = .str x ∧ R (Its x) H1) : uIt K te σ H R := .inr (.inr h)
theorem r_rng1 {ta : TA} {R : It → Hp → Prop} (h : ta σ H fun vs H1 => ∃ j : Int, vs = [.int j] ∧ -(2 ^ 62) ≤ j ∧ j < 2 ^ 62 ∧ R (Itr 0 j.toNat) H1) : iRng1 ta σ H R := h
theorem r_rng1v {k : Int} {P : Int → Prop} (h : P k) : ∃ j : Int, [V.int k] = [V.int j] ∧ P j := ⟨k, rfl, h⟩
theorem r_rng2 {ta : TA} {R : It → Hp → Prop} (h : ta σ H fun vs H1 => ∃ i j : Int, vs = [.int i, .int j] ∧ (-(2 ^ 62) ≤ i ∧ i < 2 ^ 62 ∧ -(2 ^ 62) ≤ j ∧ j < 2 ^ 62) ∧ R (Itr i (j - i).toNat) H1) : iRng2 ta σ H R := h
theorem r_rng2v {a b : Int} {P : Int → Int → Prop} (h : P a b) : ∃ i j : Int, [V.int a, V.int b] = [V.int i, V.int j] ∧ P i j := ⟨a, b, rfl, h⟩
/-- over a range that is told by its number of turns -/
theorem f_range {lo : Int} {n : Nat} {g : TG} {tb : TS} (P : Nat → St → Hp → Prop) (h0 : P 0 σ H)
    (step : ∀ i σ H, i < n → P i σ H → g (.int (lo + i)) σ H fun σ2 H2 => tb { D with nx := P (i + 1), ct := P (i + 1), bk := D.nx } σ2 H2) (done : ∀ σ H, P n σ H → D.nx σ H) :
    ∃ W : Nat → Nat → St → Hp → Prop, (∃ m, W 0 m σ H) ∧ ∀ i m σ H, W i m σ H →
      ((Itr lo n).stop i H ∧ D.nx σ H) ∨ ((Itr lo n).go i H ∧ ∃ N : St → Hp → Prop, (∀ σ' H', N σ' H' → ∃ m', m' < m ∧ W (i + 1) m' σ' H') ∧ ∀ x H', (Itr lo n).yld i H x H' → g x σ H' fun σ2 H2 => tb { D with nx := N, ct := N, bk := D.nx } σ2 H2) :=
  l_for P h0 (fun i σ H h _ => h) (fun _ _ _ => Nat.le_refl _) (fun i σ H h p x H' y => by
    obtain ⟨e1, e2⟩ := y
    subst e1 e2
    exact step i σ H' h p) done
/-- over a text, sign by sign -/
theorem f_str {z : Str} {g : TG} {tb : TS} (P : Nat → St → Hp → Prop) (h0 : P 0 σ H)
    (step : ∀ i (c : Nat) σ H, z.cps.toList[i]? = some c → P i σ H → g (.str ⟨#[c]⟩) σ H fun σ2 H2 => tb { D with nx := P (i + 1), ct := P (i + 1), bk := D.nx } σ2 H2) (done : ∀ σ H, P z.cps.toList.length σ H → D.nx σ H) :
    ∃ W : Nat → Nat → St → Hp → Prop, (∃ m, W 0 m σ H) ∧ ∀ i m σ H, W i m σ H →
      ((Its z).stop i H ∧ D.nx σ H) ∨ ((Its z).go i H ∧ ∃ N : St → Hp → Prop, (∀ σ' H', N σ' H' → ∃ m', m' < m ∧ W (i + 1) m' σ' H') ∧ ∀ x H', (Its z).yld i H x H' → g x σ H' fun σ2 H2 => tb { D with nx := N, ct := N, bk := D.nx } σ2 H2) :=
  l_for P h0 (fun i σ H h _ => by show i < z.cps.size; simpa using h) (fun _ _ _ => by show z.cps.size ≤ _; simp) (fun i σ H h p x H' y => by
    obtain ⟨e1, c, e, e2⟩ := y
    subst e1 e2
    exact step i c σ H' (by simpa using e) p) done
/-- over a list that stays -/
theorem f_list {a : Addr} {xs : List V} {g : TG} {tb : TS} (P : Nat → St → Hp → Prop) (h0 : P 0 σ H) (hl : ∀ i σ H, P i σ H → SqL K H a xs)
    (step : ∀ i x σ H, xs[i]? = some x → P i σ H → g x σ H fun σ2 H2 => tb { D with nx := P (i + 1), ct := P (i + 1), bk := D.nx } σ2 H2) (done : ∀ σ H, P xs.length σ H → D.nx σ H) :
    ∃ W : Nat → Nat → St → Hp → Prop, (∃ m, W 0 m σ H) ∧ ∀ i m σ H, W i m σ H →
      ((Itl K a).stop i H ∧ D.nx σ H) ∨ ((Itl K a).go i H ∧ ∃ N : St → Hp → Prop, (∀ σ' H', N σ' H' → ∃ m', m' < m ∧ W (i + 1) m' σ' H') ∧ ∀ x H', (Itl K a).yld i H x H' → g x σ H' fun σ2 H2 => tb { D with nx := N, ct := N, bk := D.nx } σ2 H2) :=
  for_list P h0 (fun i σ H _ p => hl i σ H p) step done
theorem f_tup {a : Addr} {xs : List V} {g : TG} {tb : TS} (P : Nat → St → Hp → Prop) (h0 : P 0 σ H) (hl : ∀ i σ H, P i σ H → SqT K H a xs)
    (step : ∀ i x σ H, xs[i]? = some x → P i σ H → g x σ H fun σ2 H2 => tb { D with nx := P (i + 1), ct := P (i + 1), bk := D.nx } σ2 H2) (done : ∀ σ H, P xs.length σ H → D.nx σ H) :
    ∃ W : Nat → Nat → St → Hp → Prop, (∃ m, W 0 m σ H) ∧ ∀ i m σ H, W i m σ H →
      ((Itt K a).stop i H ∧ D.nx σ H) ∨ ((Itt K a).go i H ∧ ∃ N : St → Hp → Prop, (∀ σ' H', N σ' H' → ∃ m', m' < m ∧ W (i + 1) m' σ' H') ∧ ∀ x H', (Itt K a).yld i H x H' → g x σ H' fun σ2 H2 => tb { D with nx := N, ct := N, bk := D.nx } σ2 H2) :=
  for_tup P h0 (fun i σ H _ p => hl i σ H p) step done
/-! comprehensions: P by the turn and what the new list holds so far -/
/-- what is wanted behind an element -/
abbrev LcEnd (D : Addr) (N : Hp → Prop) (y : V) (H4 : Hp) : Prop := ∃ acc, H4 D = some (.lst acc) ∧ acc.length < sizeLine ∧ N (upd H4 D (.lst (acc ++ [y])))
theorem l_lc {J : It} {n : Nat} {g : TG} {tt : TT} {te : TE} {vs : List Nat} {D : Addr} {H1 : Hp} {Qd : Hp → Prop} (P : Nat → Hp → Prop) (h0 : P 0 (upd H1 D (.lst [])))
    (go : ∀ i H, i < n → P i H → J.go i H) (stop : ∀ H, P n H → J.stop n H)
    (step : ∀ i H, i < n → P i H → ∀ x H', J.yld i H x H' → g x (wipe σ vs) H' fun σ2 H2 => wipe σ2 vs = wipe σ vs ∧ tt σ2 H2 fun b H3 => if b = true then te σ2 H3 (LcEnd D (P (i + 1))) else P (i + 1) H3) (done : ∀ H, P n H → Qd H) :
    ∃ W : Nat → Nat → Hp → Prop, (∃ m, W 0 m (upd H1 D (.lst []))) ∧ ∀ i m H, W i m H →
      (J.stop i H ∧ Qd H) ∨ (J.go i H ∧ ∃ Nx : Hp → Prop, (∀ H', Nx H' → ∃ m', m' < m ∧ W (i + 1) m' H') ∧ ∀ x H', J.yld i H x H' → g x (wipe σ vs) H' fun σ2 H2 => wipe σ2 vs = wipe σ vs ∧ tt σ2 H2 fun b H3 =>
        if b = true then te σ2 H3 fun y H4 => ∃ acc, H4 D = some (.lst acc) ∧ acc.length < sizeLine ∧ Nx (upd H4 D (.lst (acc ++ [y]))) else Nx H3) := by
  refine ⟨fun i m H => m = n - i ∧ i ≤ n ∧ P i H, ⟨n, by simp, Nat.zero_le _, h0⟩, ?_⟩
  rintro i m H ⟨rfl, hi, p⟩
  by_cases hlt : i < n
  · exact .inr ⟨go i H hlt p, P (i + 1), fun H' p' => ⟨n - (i + 1), by omega, rfl, hlt, p'⟩, fun x H' y => step i H hlt p x H' y⟩
  · have e : i = n := by omega
    subst e
    exact .inl ⟨stop H p, done H p⟩
theorem r_lc {wi : TI} {g : TG} {tt : TT} {te : TE} {vs : List Nat} (h : wi σ H fun J H1 => ∀ D, H1 D = none → ∃ W : Nat → Nat → Hp → Prop, (∃ m, W 0 m (upd H1 D (.lst []))) ∧ ∀ i m H, W i m H →
  (J.stop i H ∧ Q (.ref D) H) ∨ (J.go i H ∧ ∃ Nx : Hp → Prop, (∀ H', Nx H' → ∃ m', m' < m ∧ W (i + 1) m' H') ∧ ∀ x H', J.yld i H x H' → g x (wipe σ vs) H' fun σ2 H2 => wipe σ2 vs = wipe σ vs ∧ tt σ2 H2 fun b H3 =>
    if b = true then te σ2 H3 fun y H4 => ∃ acc, H4 D = some (.lst acc) ∧ acc.length < sizeLine ∧ Nx (upd H4 D (.lst (acc ++ [y]))) else Nx H3)) : tLc wi g tt te vs σ H Q := h
/-- a comprehension over a range of n turns -/
theorem c_range {lo : Int} {n : Nat} {g : TG} {tt : TT} {te : TE} {vs : List Nat} {D : Addr} {H1 : Hp} {Qd : Hp → Prop} (P : Nat → Hp → Prop) (h0 : P 0 (upd H1 D (.lst [])))
    (step : ∀ i H, i < n → P i H → g (.int (lo + i)) (wipe σ vs) H fun σ2 H2 => wipe σ2 vs = wipe σ vs ∧ tt σ2 H2 fun b H3 => if b = true then te σ2 H3 (LcEnd D (P (i + 1))) else P (i + 1) H3) (done : ∀ H, P n H → Qd H) :
    ∃ W : Nat → Nat → Hp → Prop, (∃ m, W 0 m (upd H1 D (.lst []))) ∧ ∀ i m H, W i m H →
      ((Itr lo n).stop i H ∧ Qd H) ∨ ((Itr lo n).go i H ∧ ∃ Nx : Hp → Prop, (∀ H', Nx H' → ∃ m', m' < m ∧ W (i + 1) m' H') ∧ ∀ x H', (Itr lo n).yld i H x H' → g x (wipe σ vs) H' fun σ2 H2 => wipe σ2 vs = wipe σ vs ∧ tt σ2 H2 fun b H3 =>
        if b = true then te σ2 H3 fun y H4 => ∃ acc, H4 D = some (.lst acc) ∧ acc.length < sizeLine ∧ Nx (upd H4 D (.lst (acc ++ [y]))) else Nx H3) :=
  l_lc P h0 (fun i H h _ => h) (fun _ _ => Nat.le_refl _) (fun i H h p x H' y => by
    obtain ⟨e1, e2⟩ := y
    subst e1 e2
    exact step i H' h p) done
theorem c_strs {z : Str} {g : TG} {tt : TT} {te : TE} {vs : List Nat} {D : Addr} {H1 : Hp} {Qd : Hp → Prop} (P : Nat → Hp → Prop) (h0 : P 0 (upd H1 D (.lst [])))
    (step : ∀ i (c : Nat) H, z.cps.toList[i]? = some c → P i H → g (.str ⟨#[c]⟩) (wipe σ vs) H fun σ2 H2 => wipe σ2 vs = wipe σ vs ∧ tt σ2 H2 fun b H3 => if b = true then te σ2 H3 (LcEnd D (P (i + 1))) else P (i + 1) H3) (done : ∀ H, P z.cps.toList.length H → Qd H) :
    ∃ W : Nat → Nat → Hp → Prop, (∃ m, W 0 m (upd H1 D (.lst []))) ∧ ∀ i m H, W i m H →
      ((Its z).stop i H ∧ Qd H) ∨ ((Its z).go i H ∧ ∃ Nx : Hp → Prop, (∀ H', Nx H' → ∃ m', m' < m ∧ W (i + 1) m' H') ∧ ∀ x H', (Its z).yld i H x H' → g x (wipe σ vs) H' fun σ2 H2 => wipe σ2 vs = wipe σ vs ∧ tt σ2 H2 fun b H3 =>
        if b = true then te σ2 H3 fun y H4 => ∃ acc, H4 D = some (.lst acc) ∧ acc.length < sizeLine ∧ Nx (upd H4 D (.lst (acc ++ [y]))) else Nx H3) :=
  l_lc P h0 (fun i H h _ => by show i < z.cps.size; simpa using h) (fun _ _ => by show z.cps.size ≤ _; simp) (fun i H h p x H' y => by
    obtain ⟨e1, c, e, e2⟩ := y
    subst e1 e2
    exact step i c H' (by simpa using e) p) done
theorem c_lists {a : Addr} {xs : List V} {g : TG} {tt : TT} {te : TE} {vs : List Nat} {D : Addr} {H1 : Hp} {Qd : Hp → Prop} (P : Nat → Hp → Prop) (h0 : P 0 (upd H1 D (.lst []))) (hl : ∀ i H, P i H → SqL K H a xs)
    (step : ∀ i x H, xs[i]? = some x → P i H → g x (wipe σ vs) H fun σ2 H2 => wipe σ2 vs = wipe σ vs ∧ tt σ2 H2 fun b H3 => if b = true then te σ2 H3 (LcEnd D (P (i + 1))) else P (i + 1) H3) (done : ∀ H, P xs.length H → Qd H) :
    ∃ W : Nat → Nat → Hp → Prop, (∃ m, W 0 m (upd H1 D (.lst []))) ∧ ∀ i m H, W i m H →
      ((Itl K a).stop i H ∧ Qd H) ∨ ((Itl K a).go i H ∧ ∃ Nx : Hp → Prop, (∀ H', Nx H' → ∃ m', m' < m ∧ W (i + 1) m' H') ∧ ∀ x H', (Itl K a).yld i H x H' → g x (wipe σ vs) H' fun σ2 H2 => wipe σ2 vs = wipe σ vs ∧ tt σ2 H2 fun b H3 =>
        if b = true then te σ2 H3 fun y H4 => ∃ acc, H4 D = some (.lst acc) ∧ acc.length < sizeLine ∧ Nx (upd H4 D (.lst (acc ++ [y]))) else Nx H3) :=
  l_lc P h0 (fun i H h p => ⟨xs, xs[i], hl i H p, by simp [h]⟩) (fun H p => ⟨xs, hl _ H p, Nat.le_refl _⟩) (fun i H h p x H' y => by
    obtain ⟨e1, e2⟩ := y
    subst e1
    exact step i x H' (e2 xs (hl i _ p)) p) done
theorem c_tups {a : Addr} {xs : List V} {g : TG} {tt : TT} {te : TE} {vs : List Nat} {D : Addr} {H1 : Hp} {Qd : Hp → Prop} (P : Nat → Hp → Prop) (h0 : P 0 (upd H1 D (.lst []))) (hl : ∀ i H, P i H → SqT K H a xs)
    (step : ∀ i x H, xs[i]? = some x → P i H → g x (wipe σ vs) H fun σ2 H2 => wipe σ2 vs = wipe σ vs ∧ tt σ2 H2 fun b H3 => if b = true then te σ2 H3 (LcEnd D (P (i + 1))) else P (i + 1) H3) (done : ∀ H, P xs.length H → Qd H) :
    ∃ W : Nat → Nat → Hp → Prop, (∃ m, W 0 m (upd H1 D (.lst []))) ∧ ∀ i m H, W i m H →
      ((Itt K a).stop i H ∧ Qd H) ∨ ((Itt K a).go i H ∧ ∃ Nx : Hp → Prop, (∀ H', Nx H' → ∃ m', m' < m ∧ W (i + 1) m' H') ∧ ∀ x H', (Itt K a).yld i H x H' → g x (wipe σ vs) H' fun σ2 H2 => wipe σ2 vs = wipe σ vs ∧ tt σ2 H2 fun b H3 =>
        if b = true then te σ2 H3 fun y H4 => ∃ acc, H4 D = some (.lst acc) ∧ acc.length < sizeLine ∧ Nx (upd H4 D (.lst (acc ++ [y]))) else Nx H3) :=
  l_lc P h0 (fun i H h p => ⟨xs, xs[i], hl i H p, by simp [h]⟩) (fun H p => ⟨xs, hl _ H p, Nat.le_refl _⟩) (fun i H h p x H' y => by
    obtain ⟨e1, e2⟩ := y
    subst e1
    exact step i x H' (e2 xs (hl i _ p)) p) done
end
end U
/-! U3: data of tuples, and how a heap bears them. -/
namespace U
open PySem PySem.Spec L2
/-- data of tuples -/
inductive D where
  | non | bl (b : Bool) | int (i : Int) | str (x : Str) | tup (ds : List D)
mutual
def D.py : D → PyData
  | .non => .none
  | .bl b => .bool b
  | .int i => .int i
  | .str x => .str x
  | .tup ds => .tuple (D.pyL ds)
def D.pyL : List D → List PyData
  | [] => []
  | d :: ds => D.py d :: D.pyL ds
end
theorem D.pyL_map : ∀ ds : List D, D.pyL ds = ds.map D.py
  | [] => rfl
  | d :: ds => by rw [D.pyL, D.pyL_map ds]; rfl
mutual
inductive Td (K : PySem.W.Frag) (H : Hp) : V → D → Prop
  | non : Td K H .non .non
  | bl (b : Bool) : Td K H (.bl b) (.bl b)
  | int (i : Int) : Td K H (.int i) (.int i)
  | str (x : Str) : Td K H (.str x) (.str x)
  | tup {a : Addr} {vs : List V} {ds : List D} : SqT K H a vs → TdL K H vs ds → Td K H (.ref a) (.tup ds)
inductive TdL (K : PySem.W.Frag) (H : Hp) : List V → List D → Prop
  | nil : TdL K H [] []
  | cons {v : V} {vs : List V} {d : D} {ds : List D} : Td K H v d → TdL K H vs ds → TdL K H (v :: vs) (d :: ds)
end
/-- the tuples stay -/
def Tk (K : PySem.W.Frag) (H H' : Hp) : Prop := ∀ a xs, SqT K H a xs → SqT K H' a xs
section
variable {K : PySem.W.Frag} {H H' H2 : Hp}
theorem Tk.refl : Tk K H H := fun _ _ h => h
theorem Tk.trans (a : Tk K H H') (b : Tk K H' H2) : Tk K H H2 := fun x xs h => b x xs (a x xs h)
theorem Same.tk (e : Same H H') : Tk K H H' := fun a xs h => by
  rcases h with (h | ⟨o, h⟩) | h
  · exact .inl (.inl (e _ _ h))
  · exact .inl (.inr ⟨o, e _ _ h⟩)
  · exact .inr h
/-- what is no tuple may change -/
theorem Tk.mut {p : Addr} {o : HO} (h1 : ∀ xs, H p ≠ some (.tup xs)) (h2 : ∀ ob xs, H p ≠ some (.frz ob (.tup xs))) : Tk K H (upd H p o) := fun a xs h => by
  rcases h with (h | ⟨ob, h⟩) | h
  · have n : a ≠ p := fun e => h1 xs (e ▸ h)
    exact .inl (.inl (by rw [upd_ne n]; exact h))
  · have n : a ≠ p := fun e => h2 ob xs (e ▸ h)
    exact .inl (.inr ⟨ob, by rw [upd_ne n]; exact h⟩)
  · exact .inr h
theorem Tk.new {p : Addr} {o : HO} (h : H p = none) : Tk K H (upd H p o) := Tk.mut (fun xs e => by rw [h] at e; cases e) (fun _ xs e => by rw [h] at e; cases e)
theorem Tk.lst {p : Addr} {xs : List V} {o : HO} (h : H p = some (.lst xs)) : Tk K H (upd H p o) := Tk.mut (fun ys e => by rw [h] at e; cases e) (fun _ ys e => by rw [h] at e; cases e)
theorem Tk.dK {p : Addr} {xs : List (Key × V)} {o : HO} (h : H p = some (.dK xs)) : Tk K H (upd H p o) := Tk.mut (fun ys e => by rw [h] at e; cases e) (fun _ ys e => by rw [h] at e; cases e)
theorem Tk.ins {p C dx : Addr} {fs : List (Str × V)} {o : HO} (h : H p = some (.ins C dx fs)) : Tk K H (upd H p o) := Tk.mut (fun ys e => by rw [h] at e; cases e) (fun _ ys e => by rw [h] at e; cases e)
mutual
theorem Td.mono (e : Tk K H H') : ∀ (d : D) (v : V), Td K H v d → Td K H' v d
  | .non, _, h => by cases h; exact .non
  | .bl _, _, h => by cases h; exact .bl _
  | .int _, _, h => by cases h; exact .int _
  | .str _, _, h => by cases h; exact .str _
  | .tup ds, _, h => by
    cases h with
    | tup h1 h2 => exact .tup (e _ _ h1) (TdL.mono e ds _ h2)
theorem TdL.mono (e : Tk K H H') : ∀ (ds : List D) (vs : List V), TdL K H vs ds → TdL K H' vs ds
  | [], _, h => by cases h; exact .nil
  | d :: ds, _, h => by
    cases h with
    | cons h1 h2 => exact .cons (Td.mono e d _ h1) (TdL.mono e ds _ h2)
end
theorem Td.k {d : D} {v : V} (h : Td K H v d) (e : Tk K H H') : Td K H' v d := Td.mono e d v h
theorem TdL.k {ds : List D} {vs : List V} (h : TdL K H vs ds) (e : Tk K H H') : TdL K H' vs ds := TdL.mono e ds vs h
mutual
theorem Td.dp : ∀ (d : D) (v : V), Td K H v d → Dp K H v d.py
  | .non, _, h => by cases h; exact .non
  | .bl _, _, h => by cases h; exact .bl _
  | .int _, _, h => by cases h; exact .int _
  | .str _, _, h => by cases h; exact .str _
  | .tup ds, _, h => by
    cases h with
    | tup h1 h2 => rw [D.py]; exact .tup h1 (TdL.dp ds _ h2)
theorem TdL.dp : ∀ (ds : List D) (vs : List V), TdL K H vs ds → DpAll K H vs (D.pyL ds)
  | [], _, h => by cases h; exact .nil
  | d :: ds, _, h => by
    cases h with
    | cons h1 h2 => rw [D.pyL]; exact .cons (Td.dp d _ h1) (TdL.dp ds _ h2)
end
theorem TdL.len : ∀ {vs : List V} {ds : List D}, TdL K H vs ds → vs.length = ds.length
  | _, _, .nil => rfl
  | _, _, .cons _ t => by rw [List.length_cons, List.length_cons, TdL.len t]
theorem TdL.get : ∀ {vs : List V} {ds : List D} {i : Nat} {d : D}, TdL K H vs ds → ds[i]? = some d → ∃ v, vs[i]? = some v ∧ Td K H v d
  | _, _, i, _, .nil, h => by simp at h
  | _, _, 0, _, .cons h t, e => by simp at e; subst e; exact ⟨_, rfl, h⟩
  | _, _, i + 1, _, .cons h t, e => by
    obtain ⟨v, h1, h2⟩ := TdL.get (i := i) t (by simpa using e)
    exact ⟨v, by simpa using h1, h2⟩
theorem TdL.append : ∀ {vs ws : List V} {ds es : List D}, TdL K H vs ds → TdL K H ws es → TdL K H (vs ++ ws) (ds ++ es)
  | _, _, _, _, .nil, s => s
  | _, _, _, _, .cons h t, s => .cons h (TdL.append t s)
theorem TdL.take : ∀ {vs : List V} {ds : List D} (n : Nat), TdL K H vs ds → TdL K H (vs.take n) (ds.take n)
  | _, _, 0, _ => .nil
  | _, _, _ + 1, .nil => .nil
  | _, _, n + 1, .cons h t => .cons h (TdL.take n t)
theorem TdL.drop : ∀ {vs : List V} {ds : List D} (n : Nat), TdL K H vs ds → TdL K H (vs.drop n) (ds.drop n)
  | _, _, 0, r => r
  | _, _, _ + 1, .nil => .nil
  | _, _, n + 1, .cons _ t => TdL.drop n t
theorem TdL.one {v : V} {d : D} (h : Td K H v d) : TdL K H [v] [d] := .cons h .nil
/-- a tuple that was just made -/
theorem Td.made {p : Addr} {vs : List V} {ds : List D} (h : TdL K H vs ds) (hp : H p = some (.tup vs)) : Td K H (.ref p) (.tup ds) := .tup (SqT.of hp) h
theorem Td.newT {p : Addr} {vs : List V} {ds : List D} (h : TdL K H vs ds) (hp : H p = none) : Td K (upd H p (.tup vs)) (.ref p) (.tup ds) := .tup (SqT.of upd_same) (h.k (Tk.new hp))
end
/-! equality -/
mutual
def D.eqb : D → D → Bool
  | .non, .non => true
  | .bl a, .bl b => a == b
  | .bl a, .int j => (if a then 1 else 0) == j
  | .int i, .bl b => i == (if b then 1 else 0)
  | .int i, .int j => i == j
  | .str x, .str y => x == y
  | .tup xs, .tup ys => D.eqL xs ys
  | _, _ => false
def D.eqL : List D → List D → Bool
  | [], [] => true
  | x :: xs, y :: ys => D.eqb x y && D.eqL xs ys
  | _, _ => false
end
mutual
theorem D.eqb_py : ∀ a b : D, PyData.eqv a.py b.py = D.eqb a b
  | .non, b => by cases b <;> simp [D.py, PyData.eqv, D.eqb]
  | .bl _, b => by cases b <;> simp [D.py, PyData.eqv, D.eqb]
  | .int _, b => by cases b <;> simp [D.py, PyData.eqv, D.eqb]
  | .str _, b => by cases b <;> simp [D.py, PyData.eqv, D.eqb]
  | .tup xs, b => by
    cases b with
    | tup ys => rw [D.py, D.py, PyData.eqv, D.eqb, D.eqL_py xs ys]
    | _ => simp [D.py, PyData.eqv, D.eqb]
theorem D.eqL_py : ∀ xs ys : List D, PyData.eqvAll (D.pyL xs) (D.pyL ys) = D.eqL xs ys
  | [], [] => by simp [D.pyL, PyData.eqvAll, D.eqL]
  | [], _ :: _ => by simp [D.pyL, PyData.eqvAll, D.eqL]
  | _ :: _, [] => by simp [D.pyL, PyData.eqvAll, D.eqL]
  | x :: xs, y :: ys => by rw [D.pyL, D.pyL, PyData.eqvAll, D.eqL, D.eqb_py x y, D.eqL_py xs ys]
end
/-! fit to be compared: sound texts, no deeper than n, no wider than 60000 -/
mutual
def D.fit : Nat → D → Bool
  | _, .str x => PyData.strOk x && decide (x.length ≤ 60000)
  | 0, .tup _ => false
  | n + 1, .tup ds => decide (ds.length ≤ 60000) && D.fitL n ds
  | _, _ => true
def D.fitL : Nat → List D → Bool
  | _, [] => true
  | n, d :: ds => D.fit n d && D.fitL n ds
end
theorem D.fitL_iff {n : Nat} : ∀ {ds : List D}, D.fitL n ds = true ↔ ∀ d ∈ ds, D.fit n d = true
  | [] => by simp [D.fitL]
  | d :: ds => by rw [D.fitL, Bool.and_eq_true, D.fitL_iff (ds := ds)]; simp
theorem D.fit_tup {n : Nat} {ds : List D} : D.fit (n + 1) (.tup ds) = true ↔ ds.length ≤ 60000 ∧ ∀ d ∈ ds, D.fit n d = true := by
  rw [D.fit, Bool.and_eq_true, decide_eq_true_eq, D.fitL_iff]
theorem D.fit_str {n : Nat} {x : Str} : D.fit n (.str x) = true ↔ PyData.strOk x = true ∧ x.length ≤ 60000 := by
  cases n <;> rw [D.fit, Bool.and_eq_true, decide_eq_true_eq]
theorem D.fit_int {n : Nat} {i : Int} : D.fit n (.int i) = true := by cases n <;> rfl
theorem D.fit_bl {n : Nat} {b : Bool} : D.fit n (.bl b) = true := by cases n <;> rfl
theorem D.fit_non {n : Nat} : D.fit n .non = true := by cases n <;> rfl
mutual
theorem D.fit_lay : ∀ (d : D) (n : Nat), D.fit n d = true → d.py.canLay0 = true ∧ d.py.depth ≤ n + 1
  | .non, n, _ => by simp [D.py, PyData.canLay0, PyData.depth]
  | .bl _, n, _ => by simp [D.py, PyData.canLay0, PyData.depth]
  | .int _, n, _ => by simp [D.py, PyData.canLay0, PyData.depth]
  | .str x, n, h => by
    have h' : PyData.strOk x = true := (D.fit_str.mp h).1
    simp [D.py, PyData.canLay0, PyData.depth, h']
  | .tup ds, 0, h => by simp [D.fit] at h
  | .tup ds, n + 1, h => by
    have h' : D.fitL n ds = true := by
      rw [D.fit, Bool.and_eq_true] at h
      exact h.2
    obtain ⟨h1, h2⟩ := D.fitL_lay ds n h'
    simp only [D.py, PyData.canLay0, PyData.depth]
    exact ⟨h1, by omega⟩
theorem D.fitL_lay : ∀ (ds : List D) (n : Nat), D.fitL n ds = true → PyData.canLayAll0 (D.pyL ds) = true ∧ PyData.depthAll (D.pyL ds) ≤ n + 1
  | [], n, _ => by simp [D.pyL, PyData.canLayAll0, PyData.depthAll]
  | d :: ds, n, h => by
    have h' : (D.fit n d && D.fitL n ds) = true := by simpa [D.fitL] using h
    obtain ⟨a, b⟩ := Bool.and_eq_true_iff.mp h'
    obtain ⟨a1, a2⟩ := D.fit_lay d n a
    obtain ⟨b1, b2⟩ := D.fitL_lay ds n b
    simp only [D.pyL, PyData.canLayAll0, PyData.depthAll, a1, b1]
    exact ⟨rfl, by omega⟩
end
theorem D.shaped {d : D} {n : Nat} (h : D.fit n d = true) (hn : n ≤ 63) : SeqAt.shaped d.py = true := by
  obtain ⟨a, b⟩ := D.fit_lay d n h
  exact Bool.and_eq_true_iff.mpr ⟨a, decide_eq_true (by omega)⟩
mutual
theorem D.fit_mono : ∀ (d : D) {n m : Nat}, n ≤ m → D.fit n d = true → D.fit m d = true
  | .non, _, _, _, _ => D.fit_non
  | .bl _, _, _, _, _ => D.fit_bl
  | .int _, _, _, _, _ => D.fit_int
  | .str x, _, _, _, h => D.fit_str.mpr (D.fit_str.mp h)
  | .tup ds, 0, _, _, h => by simp [D.fit] at h
  | .tup ds, n + 1, 0, l, h => by omega
  | .tup ds, n + 1, m + 1, l, h => by
    rw [D.fit, Bool.and_eq_true] at h ⊢
    exact ⟨h.1, D.fitL_mono ds (by omega) h.2⟩
theorem D.fitL_mono : ∀ (ds : List D) {n m : Nat}, n ≤ m → D.fitL n ds = true → D.fitL m ds = true
  | [], _, _, _, _ => by simp [D.fitL]
  | d :: ds, n, m, l, h => by
    rw [D.fitL, Bool.and_eq_true] at h ⊢
    exact ⟨D.fit_mono d l h.1, D.fitL_mono ds l h.2⟩
end
/-! kinds of data -/
def D.isI : D → Bool
  | .bl _ => true
  | .int _ => true
  | _ => false
def D.isB : D → Bool
  | .bl _ => true
  | _ => false
def D.isS : D → Bool
  | .str _ => true
  | _ => false
def D.isT : D → Bool
  | .tup _ => true
  | _ => false
def D.isN : D → Bool
  | .non => true
  | _ => false
theorem sqT_ty {K : PySem.W.Frag} {H : Hp} {a : Addr} {vs : List V} (h : SqT K H a vs) : TyX K H (.ref a) (.type "tuple") := by
  rcases h with (h | ⟨o, h⟩) | ⟨o, its, n, h1, h2, _⟩
  · exact .base (.tup h)
  · exact .fTuple h
  · exact .kTuple h1 h2
section
variable {K : PySem.W.Frag} {H : Hp} {Q : VK} {v w : V} {a b d : D}
theorem r_isD0_int (h : Td K H v d) (q : Q (.bl d.isI) H) : uIsi K [v, .ty "int"] H Q := by
  cases h with
  | tup h1 h2 => exact ⟨"tuple", false, sqT_ty h1, by decide +kernel, q⟩
  | non => exact ⟨"NoneType", false, rfl, by decide +kernel, q⟩
  | bl b => exact ⟨"bool", true, rfl, by decide +kernel, q⟩
  | int b => exact ⟨"int", true, rfl, by decide +kernel, q⟩
  | str b => exact ⟨"str", false, rfl, by decide +kernel, q⟩
theorem r_isD0_bool (h : Td K H v d) (q : Q (.bl d.isB) H) : uIsi K [v, .ty "bool"] H Q := by
  cases h with
  | tup h1 h2 => exact ⟨"tuple", false, sqT_ty h1, by decide +kernel, q⟩
  | non => exact ⟨"NoneType", false, rfl, by decide +kernel, q⟩
  | bl b => exact ⟨"bool", true, rfl, by decide +kernel, q⟩
  | int b => exact ⟨"int", false, rfl, by decide +kernel, q⟩
  | str b => exact ⟨"str", false, rfl, by decide +kernel, q⟩
theorem r_isD0_str (h : Td K H v d) (q : Q (.bl d.isS) H) : uIsi K [v, .ty "str"] H Q := by
  cases h with
  | tup h1 h2 => exact ⟨"tuple", false, sqT_ty h1, by decide +kernel, q⟩
  | non => exact ⟨"NoneType", false, rfl, by decide +kernel, q⟩
  | bl b => exact ⟨"bool", false, rfl, by decide +kernel, q⟩
  | int b => exact ⟨"int", false, rfl, by decide +kernel, q⟩
  | str b => exact ⟨"str", true, rfl, by decide +kernel, q⟩
theorem r_isD0_tuple (h : Td K H v d) (q : Q (.bl d.isT) H) : uIsi K [v, .ty "tuple"] H Q := by
  cases h with
  | tup h1 h2 => exact ⟨"tuple", true, sqT_ty h1, by decide +kernel, q⟩
  | non => exact ⟨"NoneType", false, rfl, by decide +kernel, q⟩
  | bl b => exact ⟨"bool", false, rfl, by decide +kernel, q⟩
  | int b => exact ⟨"int", false, rfl, by decide +kernel, q⟩
  | str b => exact ⟨"str", false, rfl, by decide +kernel, q⟩
theorem r_isD_list (h : Td K H v d) (q : Q (.bl false) H) : uIsi K [v, .ty "list"] H Q := by
  cases h with
  | tup h1 h2 => exact ⟨"tuple", false, sqT_ty h1, by decide +kernel, q⟩
  | non => exact ⟨"NoneType", false, rfl, by decide +kernel, q⟩
  | bl b => exact ⟨"bool", false, rfl, by decide +kernel, q⟩
  | int b => exact ⟨"int", false, rfl, by decide +kernel, q⟩
  | str b => exact ⟨"str", false, rfl, by decide +kernel, q⟩
theorem r_isD_int (b : Bool) (h : Td K H v d) (e : d.isI = b) (q : Q (.bl b) H) : uIsi K [v, .ty "int"] H Q := r_isD0_int h (e ▸ q)
theorem r_isD_bool (b : Bool) (h : Td K H v d) (e : d.isB = b) (q : Q (.bl b) H) : uIsi K [v, .ty "bool"] H Q := r_isD0_bool h (e ▸ q)
theorem r_isD_str (b : Bool) (h : Td K H v d) (e : d.isS = b) (q : Q (.bl b) H) : uIsi K [v, .ty "str"] H Q := r_isD0_str h (e ▸ q)
theorem r_isD_tuple (b : Bool) (h : Td K H v d) (e : d.isT = b) (q : Q (.bl b) H) : uIsi K [v, .ty "tuple"] H Q := r_isD0_tuple h (e ▸ q)
/-- isinstance(x, (int, str)) -/
theorem r_isD_intstr {p : Addr} (hp : H p = some (.tup [.ty "int", .ty "str"])) (h : Td K H v d) (q : Q (.bl (d.isI || d.isS)) H) : uIsiT K [v, .ref p] H Q := by
  cases h with
  | tup h1 h2 => exact ⟨"tuple", ["int", "str"], false, hp, sqT_ty h1, by decide +kernel, q⟩
  | non => exact ⟨"NoneType", ["int", "str"], false, hp, rfl, by decide +kernel, q⟩
  | bl b => exact ⟨"bool", ["int", "str"], true, hp, rfl, by decide +kernel, q⟩
  | int b => exact ⟨"int", ["int", "str"], true, hp, rfl, by decide +kernel, q⟩
  | str b => exact ⟨"str", ["int", "str"], true, hp, rfl, by decide +kernel, q⟩
theorem Td.inv {ds : List D} (h : Td K H v (.tup ds)) : ∃ a vs, v = .ref a ∧ SqT K H a vs ∧ TdL K H vs ds := by
  cases h with
  | tup h1 h2 => exact ⟨_, _, rfl, h1, h2⟩
theorem Td.invI {i : Int} (h : Td K H v (.int i)) : v = .int i := by cases h; rfl
theorem Td.invB {i : Bool} (h : Td K H v (.bl i)) : v = .bl i := by cases h; rfl
theorem Td.invS {i : Str} (h : Td K H v (.str i)) : v = .str i := by cases h; rfl
theorem Td.invN (h : Td K H v .non) : v = .non := by cases h; rfl
theorem r_ixD {ds : List D} {k : Nat} (h : Td K H v (.tup ds)) (e : ds[k]? = some d) (q : ∀ u, Td K H u d → Q u H) : uIx K v (.int (k : Int)) H Q := by
  obtain ⟨a, vs, rfl, h1, h2⟩ := h.inv
  obtain ⟨u, h3, h4⟩ := h2.get e
  exact ⟨vs, u, .inr h1, atI_nat h3, q u h4⟩
theorem r_lenD {ds : List D} (h : Td K H v (.tup ds)) (q : Q (.int (ds.length : Int)) H) : uLen K [v] H Q := by
  obtain ⟨a, vs, rfl, h1, h2⟩ := h.inv
  exact ⟨vs, .inr h1, by rw [h2.len]; exact q⟩
theorem r_eqD {n : Nat} (h1 : Td K H v a) (h2 : Td K H w b) (f1 : a.fit n = true) (f2 : b.fit n = true) (hn : n ≤ 63) (h : Q (.bl (D.eqb a b)) H) : uEq K v w H Q :=
  .inr ⟨_, _, Td.dp _ _ h1, Td.dp _ _ h2, D.shaped f1 hn, D.shaped f2 hn, by rw [D.eqb_py]; exact h⟩
theorem r_neD {n : Nat} (h1 : Td K H v a) (h2 : Td K H w b) (f1 : a.fit n = true) (f2 : b.fit n = true) (hn : n ≤ 63) (h : Q (.bl (!D.eqb a b)) H) : uNe K v w H Q :=
  .inr ⟨_, _, Td.dp _ _ h1, Td.dp _ _ h2, D.shaped f1 hn, D.shaped f2 hn, by rw [D.eqb_py]; exact h⟩
/-- a tuple laid: what stands stays -/
theorem r_tupA {vs : List V} {R : Addr → Hp → Prop} (q : ∀ p H', H p = none → Same H H' → H' p = some (.tup vs) → R p H') : ∀ p, H p = none → R p (upd H p (.tup vs)) :=
  fun p hp => q p _ hp (same_new hp) upd_same
theorem r_lstA {vs : List V} {R : Addr → Hp → Prop} (q : ∀ p H', H p = none → Same H H' → H' p = some (.lst vs) → R p H') : ∀ p, H p = none → R p (upd H p (.lst vs)) :=
  fun p hp => q p _ hp (same_new hp) upd_same
/-- a tuple of data laid -/
theorem r_tupD {vs : List V} {ds : List D} {R : V → Hp → Prop} (hd : TdL K H vs ds) (q : ∀ u H', Same H H' → Td K H' u (.tup ds) → R u H') : ∀ p, H p = none → R (.ref p) (upd H p (.tup vs)) :=
  fun p hp => q _ _ (same_new hp) (Td.newT hd hp)
theorem r_tupleD {p : Addr} {vs : List V} {ds : List D} (hp : SqL K H p vs) (hd : TdL K H vs ds) (q : ∀ u H', Same H H' → Td K H' u (.tup ds) → Q u H') : uTuple K [.ref p] H Q :=
  ⟨vs, .inl ⟨hp, fun l hl => q _ _ (same_new hl) (Td.newT hd hl)⟩⟩
theorem r_catD {ds es : List D} (h1 : Td K H v (.tup ds)) (h2 : Td K H w (.tup es)) (hl : ds.length + es.length ≤ sizeLine) (q : ∀ u H', Same H H' → Td K H' u (.tup (ds ++ es)) → Q u H') : uAdd K v w H Q := by
  obtain ⟨x, vs, rfl, s1, t1⟩ := h1.inv
  obtain ⟨y, ws, rfl, s2, t2⟩ := h2.inv
  have nil : ∀ {us : List V} {fs : List D}, TdL K H us fs → us = [] → fs = [] := fun t e => by
    have := t.len
    rw [e] at this
    exact List.eq_nil_of_length_eq_zero this.symm
  refine .inr ⟨x, y, vs, ws, rfl, rfl, s1, s2, by rw [t1.len, t2.len]; exact hl, fun e => ?_, fun _ e => ?_, fun _ _ p hp => ?_⟩
  · have := nil t1 e
    subst this
    exact q _ _ (Same.refl _) h2
  · have := nil t2 e
    subst this
    refine q _ _ (Same.refl _) ?_
    rw [List.append_nil]
    exact h1
  · exact q _ _ (same_new hp) (Td.newT (t1.append t2) hp)
def cutD (ds : List D) (lo hi : Option Int) : List D := (ds.drop (HT.sIx ds.length 0 lo)).take (HT.sIx ds.length ds.length hi - HT.sIx ds.length 0 lo)
theorem r_slD {ds : List D} {lo hi : Option Int} (h1 : Td K H v (.tup ds)) (q : ∀ u H', Same H H' → Td K H' u (.tup (cutD ds lo hi)) → Q u H') : uSl K v lo hi H Q := by
  obtain ⟨x, vs, rfl, s1, t1⟩ := h1.inv
  refine .inr ⟨x, vs, rfl, s1, fun e => ?_, fun _ p hp => ?_⟩
  · have e2 : cutD ds lo hi = ds := by
      unfold cutD
      rw [← t1.len, e.1, e.2, List.drop_zero, Nat.sub_zero, t1.len, List.take_length]
    refine q _ _ (Same.refl _) ?_
    rw [e2]
    exact h1
  · refine q _ _ (same_new hp) (Td.newT ?_ hp)
    unfold cutD cutV
    rw [← t1.len]
    exact (t1.drop _).take _
/-- a text in a written tuple of texts -/
theorem inV_str {z : Str} : ∀ {ss : List Str}, inV (.str z) (ss.map V.str) = decide (z ∈ ss)
  | [] => rfl
  | s :: ss => by
    have ih := inV_str (z := z) (ss := ss)
    unfold inV at ih ⊢
    rw [List.map_cons, List.any_cons, ih]
    show ((s == z) || decide (z ∈ ss)) = _
    by_cases e : z = s
    · subst e
      rw [decide_eq_true (List.mem_cons_self ..)]
      rw [show (z == z) = true from beq_self_eq_true z]
      rfl
    · rw [show (s == z) = false from beq_eq_false_iff_ne.mpr (fun c => e c.symm), Bool.false_or]
      exact decide_eq_decide.mpr ⟨fun h => List.mem_cons_of_mem _ h, fun h => (List.mem_cons.mp h).resolve_left e⟩
theorem flat_strs {ss : List Str} : (ss.map V.str).all flatV = true := by
  induction ss with
  | nil => rfl
  | cons s r ih => rw [List.map_cons, List.all_cons, ih]; rfl
theorem r_inS {p : Addr} {z : Str} {ss : List Str} (hp : SqT K H p (ss.map V.str)) (q : Q (.bl (decide (z ∈ ss))) H) : uIn K id (.str z) (.ref p) H Q := ⟨_, .inr hp, rfl, flat_strs, by rw [inV_str]; exact q⟩
theorem r_niS {p : Addr} {z : Str} {ss : List Str} (hp : SqT K H p (ss.map V.str)) (q : Q (.bl (!decide (z ∈ ss))) H) : uIn K not (.str z) (.ref p) H Q := ⟨_, .inr hp, rfl, flat_strs, by rw [inV_str]; exact q⟩
end
end U
/-! U4: what stays around one cell; texts; data built up in a comprehension; the state of the draws. -/
namespace U
open PySem PySem.Spec L2
/-- all but p stays -/
def Fr (p : Addr) (H H' : Hp) : Prop := ∀ b x, b ≠ p → H b = some x → H' b = some x
section
variable {K : PySem.W.Frag} {H H' H2 : Hp} {p l x : Addr} {o : HO}
theorem Fr.refl : Fr p H H := fun _ _ _ h => h
theorem Fr.trans (a : Fr p H H') (b : Fr p H' H2) : Fr p H H2 := fun c o h e => b c o h (a c o h e)
theorem Fr.of (h : ∀ b, b ≠ p → H' b = H b) : Fr p H H' := fun b x hb e => by rw [h b hb]; exact e
theorem Fr.same (h : Same H H') : Fr p H H' := fun b x _ e => h b x e
theorem Fr.new (h : H x = none) : Fr p H (upd H x o) := .same (same_new h)
theorem Fr.mut (f : Fr p H H') (h : H x = none) : Fr p H (upd H' x o) := fun b y hb e => by
  rw [upd_ne (ne_of_none e h)]
  exact f b y hb e
theorem Fr.self (f : Fr p H H') : Fr p H (upd H' p o) := fun b y hb e => by
  rw [upd_ne hb]
  exact f b y hb e
theorem Fr.tk {xs : List V} (f : Fr p H H') (hp : H p = some (.lst xs)) : Tk K H H' := fun a ys h => by
  rcases h with (h | ⟨ob, h⟩) | h
  · exact .inl (.inl (f _ _ (fun e => by rw [e, hp] at h; cases h) h))
  · exact .inl (.inr ⟨ob, f _ _ (fun e => by rw [e, hp] at h; cases h) h⟩)
  · exact .inr h
theorem Fr.tkD {xs : List (Key × V)} (f : Fr p H H') (hp : H p = some (.dK xs)) : Tk K H H' := fun a ys h => by
  rcases h with (h | ⟨ob, h⟩) | h
  · exact .inl (.inl (f _ _ (fun e => by rw [e, hp] at h; cases h) h))
  · exact .inl (.inr ⟨ob, f _ _ (fun e => by rw [e, hp] at h; cases h) h⟩)
  · exact .inr h
end
/-! texts -/
theorem str_len (w : Str) : w.length = w.cps.toList.length := Array.length_toList.symm
theorem str_eq {a b : Str} : a = b ↔ a.cps.toList = b.cps.toList := by
  constructor
  · intro e; rw [e]
  · intro e
    cases a; cases b
    simp only at e
    congr 1
    exact Array.toList_inj.mp e
theorem str_cat (a b : Str) : (a ++ b).length = a.length + b.length := by
  show (a.cps ++ b.cps).size = _
  rw [Array.size_append]; rfl
theorem str_catL (a b : Str) : (a ++ b).cps.toList = a.cps.toList ++ b.cps.toList := by
  show (a.cps ++ b.cps).toList = _
  rw [Array.toList_append]
theorem str_num_len {i : Int} (h : i.natAbs < 10 ^ 11) : 0 < (Str.ofString (toString i)).length ∧ (Str.ofString (toString i)).length ≤ 12 := by
  have nat : ∀ n : Nat, n < 10 ^ 11 → 0 < (Str.ofString (toString (n : Int))).length ∧ (Str.ofString (toString (n : Int))).length ≤ 11 := fun n hn => by
    refine ⟨?_, PyProof.Rows.toString_length_le (by omega) (by decide) (by omega)⟩
    rw [str_len]
    show 0 < (TL.tl (Str.ofString (toString (n : Int)))).length
    rw [TL.tl_num]
    exact Nat.pos_of_ne_zero (fun e => TL.numL_ne n (List.eq_nil_of_length_eq_zero e))
  cases i with
  | ofNat n =>
    have := nat n (by simpa using h)
    exact ⟨this.1, by have := this.2; show (Str.ofString (toString (n : Int))).length ≤ 12; omega⟩
  | negSucc n =>
    have h1 := nat (n + 1) (by simpa using h)
    have e : toString (Int.negSucc n) = "-" ++ toString ((n + 1 : Nat) : Int) := rfl
    rw [e]
    have e2 : (Str.ofString ("-" ++ toString ((n + 1 : Nat) : Int))).length = 1 + (Str.ofString (toString ((n + 1 : Nat) : Int))).length := by
      rw [PyProof.Rows.ofString_length, PyProof.Rows.ofString_length]
      simp [Nat.add_comm]
    rw [e2]
    omega
theorem log_ok {i : Int} (h : i.natAbs < 10 ^ 11) : i.natAbs.log2 < 1920 := Nat.lt_of_lt_of_le (PySem.Flt.log2_lt_of (k := 64) (by decide) (by omega)) (by decide)
/-! the state of the draws as a list: at p, its script at l -/
def Dr (H : Hp) (p l : Addr) : Prop := ∃ (ns : List Int) (cur seed : Int) (at_ : Nat), H p = some (.lst [.ref l, .int cur, .int at_, .int seed]) ∧ H l = some (.lst (ns.map V.int)) ∧ l ≠ p ∧ 0 ≤ cur
section
variable {K : PySem.W.Frag} {H H' : Hp} {p l x : Addr} {o : HO}
theorem Dr.upd (h : Dr H p l) (h1 : x ≠ p) (h2 : x ≠ l) : Dr (upd H x o) p l := by
  obtain ⟨ns, cur, seed, at_, hp, hl, hne, h0⟩ := h
  exact ⟨ns, cur, seed, at_, by rw [upd_ne h1.symm]; exact hp, by rw [upd_ne h2.symm]; exact hl, hne, h0⟩
theorem Dr.nep (h : Dr H p l) (hx : H x = none) : x ≠ p := by
  obtain ⟨ns, cur, seed, at_, hp, hl, hne, h0⟩ := h
  exact (ne_of_none hp hx).symm
theorem Dr.nel (h : Dr H p l) (hx : H x = none) : x ≠ l := by
  obtain ⟨ns, cur, seed, at_, hp, hl, hne, h0⟩ := h
  exact (ne_of_none hl hx).symm
theorem Dr.new (h : Dr H p l) (hx : H x = none) : Dr (L2.upd H x o) p l := h.upd (h.nep hx) (h.nel hx)
theorem Dr.same (h : Dr H p l) (s : Same H H') : Dr H' p l := by
  obtain ⟨ns, cur, seed, at_, hp, hl, hne, h0⟩ := h
  exact ⟨ns, cur, seed, at_, s _ _ hp, s _ _ hl, hne, h0⟩
theorem Dr.tk (h : Dr H p l) (f : Fr p H H') : Tk K H H' := by
  obtain ⟨ns, cur, seed, at_, hp, hl, hne, h0⟩ := h
  exact f.tk hp
end
abbrev spStartL (K : PySem.W.Frag) : Sp := fun vs H Q _ => ∃ (a : Addr) (ns : List Int), vs = [.ref a] ∧ SqL K H a (ns.map V.int) ∧ ns.length ≤ 63 ∧ ∀ p l H', Same H H' → H p = none → Dr H' p l → Q (.ref p) H'
abbrev spDrawL (K : PySem.W.Frag) : Sp := fun vs H Q _ => ∃ (p l : Addr) (m : Int), vs = [.ref p, .int m] ∧ 0 < m ∧ m < 2 ^ 64 ∧ Dr H p l ∧ ∀ (n : Int) H', 0 ≤ n → n < m → Dr H' p l → (∀ b, b ≠ p → H' b = H b) → Q (.int n) H'
abbrev spLaw (K : PySem.W.Frag) : Sp := fun vs H Q _ => ∃ (a : Addr) (ns : List Int), vs = [.ref a] ∧ SqL K H a (ns.map V.int) ∧ ns.length ≤ 63 ∧ ∀ H', Q (.bl true) H'
/-! data built up in a comprehension at A, beside a state S at p -/
def CD (K : PySem.W.Frag) (S : Hp → Prop) (p A : Addr) (H0 : Hp) (G : D → Prop) (i : Nat) (H : Hp) : Prop :=
  S H ∧ Fr p H0 H ∧ ∃ vs ds, H A = some (.lst vs) ∧ TdL K H vs ds ∧ ds.length = i ∧ ∀ d ∈ ds, G d
theorem CD.start {K : PySem.W.Frag} {S : Hp → Prop} {p A : Addr} {H0 : Hp} {G : D → Prop} (s : S (upd H0 A (.lst []))) (h : H0 A = none) : CD K S p A H0 G 0 (upd H0 A (.lst [])) :=
  ⟨s, Fr.new h, [], [], upd_same, .nil, rfl, fun _ h => nomatch h⟩
theorem CD.step {K : PySem.W.Frag} {S : Hp → Prop} {p A : Addr} {H0 H H' : Hp} {G : D → Prop} {i : Nat} {y : V} {d : D} (c : CD K S p A H0 G i H) (h0 : H0 A = none) (hA : A ≠ p) (hi : i < 60000)
    (s : S (upd H' A (.lst ((H' A).elim [] (fun o => match o with | .lst vs => vs ++ [y] | _ => []))))) (f : Fr p H H') (tk : Tk K H H') (t : Td K H' y d) (g : G d) : LcEnd A (CD K S p A H0 G (i + 1)) y H' := by
  obtain ⟨s0, f0, vs, ds, e, td, l, gs⟩ := c
  have e' : H' A = some (.lst vs) := f _ _ hA e
  rw [e'] at s
  refine ⟨vs, e', szt (by rw [td.len]; omega), s, Fr.mut (f0.trans f) h0, vs ++ [y], ds ++ [d], upd_same, ?_, by simp [l], ?_⟩
  · exact ((td.k tk).append (.one t)).k (Tk.lst e')
  · intro x hx
    rcases List.mem_append.mp hx with h | h
    · exact gs x h
    · rw [List.mem_singleton.mp h]; exact g
/-- the same with the draws' list -/
theorem CD.stepL {K : PySem.W.Frag} {l p A : Addr} {H0 H H' : Hp} {G : D → Prop} {i : Nat} {y : V} {d : D} (c : CD K (fun H => Dr H p l) p A H0 G i H) (h0 : H0 A = none) (hA : A ≠ p) (hl : A ≠ l) (hi : i < 60000)
    (s : Dr H' p l) (f : Fr p H H') (t : Td K H' y d) (g : G d) : LcEnd A (CD K (fun H => Dr H p l) p A H0 G (i + 1)) y H' :=
  c.step h0 hA hi (s.upd hA hl) f (c.1.tk f) t g
/-! the list of given things, built up at A, all else stays -/
def CF (A : Addr) (H0 : Hp) (ys : List V) (i : Nat) (H : Hp) : Prop := Same H0 H ∧ H A = some (.lst (ys.take i))
theorem CF.start {A : Addr} {H0 : Hp} {ys : List V} (h : H0 A = none) : CF A H0 ys 0 (upd H0 A (.lst [])) := ⟨same_new h, upd_same⟩
theorem CF.step {A : Addr} {H0 H H' : Hp} {ys : List V} {i : Nat} {y : V} (c : CF A H0 ys i H) (h0 : H0 A = none) (s : Same H H') (hy : ys[i]? = some y) (hi : i < 16000000) : LcEnd A (CF A H0 ys (i + 1)) y H' := by
  obtain ⟨s0, e⟩ := c
  refine ⟨_, s _ _ e, szt (by rw [List.length_take]; omega), same_mut (s0.trans s) h0, ?_⟩
  rw [upd_same, List.take_add_one, hy]
  rfl
theorem CF.done {A : Addr} {H0 H : Hp} {ys : List V} (c : CF A H0 ys ys.length H) : H A = some (.lst ys) := by
  have := c.2
  rw [List.take_length] at this
  exact this
theorem TdL.getV {K : PySem.W.Frag} {H : Hp} : ∀ {vs : List V} {ds : List D} {i : Nat} {v : V}, TdL K H vs ds → vs[i]? = some v → ∃ d, ds[i]? = some d ∧ Td K H v d
  | _, _, i, _, .nil, h => by simp at h
  | _, _, 0, _, .cons h t, e => by simp at e; subst e; exact ⟨_, rfl, h⟩
  | _, _, i + 1, _, .cons h t, e => by
    obtain ⟨d, h1, h2⟩ := TdL.getV (i := i) t (by simpa using e)
    exact ⟨d, by simpa using h1, h2⟩
/-- a new cell, its heap under one name -/
theorem Td.lay {K : PySem.W.Frag} {H : Hp} {a : Addr} {vs : List V} {ds : List D} (ha : H a = none) (hd : TdL K H vs ds) : ∃ H', upd H a (.tup vs) = H' ∧ Same H H' ∧ Td K H' (.ref a) (.tup ds) := ⟨_, rfl, same_new ha, Td.newT hd ha⟩
theorem lay_new {H : Hp} {a : Addr} {o : HO} (ha : H a = none) : ∃ H', upd H a o = H' ∧ Same H H' ∧ H' a = some o := ⟨_, rfl, same_new ha, upd_same⟩
/-! unpacking data -/
section
variable {K : PySem.W.Frag} {H : Hp} {σ : St} {v : V} {a b c : D} {i j k : Nat} {R : St → Hp → Prop}
theorem r_gT3 (h : Td K H v (.tup [a, b, c])) (q : ∀ x y z, Td K H x a → Td K H y b → Td K H z c → R (((σ.set i (some x)).set j (some y)).set k (some z)) H) :
    gTup K 3 (gCons (gName i) (gCons (gName j) (gCons (gName k) gNil))) v σ H R := by
  obtain ⟨p, vs, rfl, s, t⟩ := h.inv
  cases t with
  | cons h1 t => cases t with
    | cons h2 t => cases t with
      | cons h3 t => cases t; exact ⟨p, _, rfl, s, rfl, _, _, rfl, _, _, rfl, _, _, rfl, rfl, q _ _ _ h1 h2 h3⟩
theorem r_gT2 (h : Td K H v (.tup [a, b])) (q : ∀ x y, Td K H x a → Td K H y b → R ((σ.set i (some x)).set j (some y)) H) :
    gTup K 2 (gCons (gName i) (gCons (gName j) gNil)) v σ H R := by
  obtain ⟨p, vs, rfl, s, t⟩ := h.inv
  cases t with
  | cons h1 t => cases t with
    | cons h2 t => cases t; exact ⟨p, _, rfl, s, rfl, _, _, rfl, _, _, rfl, rfl, q _ _ h1 h2⟩
end
end U
/-! U5: sorted, slices of lists, dicts as sets of numbers, dicts locked while walked, the state of the draws as a dict. -/
namespace U
open PySem PySem.Spec L2
def uSortI (K : PySem.W.Frag) : RC := rSortedI K
theorem c_sortI {X : Cx} : CallR X (.builtin "sorted") (uSortI X.K) := cr_sortedI
section
variable {K : PySem.W.Frag} {H H' : Hp} {Q : VK} {p a d : Addr}
theorem r_sortI {ns : List Int} (h : SqL K H a (ns.map V.int)) (q : ∀ (ns' : List Int) (p : Addr), ns'.Perm ns → ns'.Pairwise (· ≤ ·) → H p = none → Q (.ref p) (upd H p (.lst (ns'.map V.int)))) : uSortI K [.ref a] H Q := ⟨a, ns, rfl, h, q⟩
theorem r_slL {xs : List V} {lo hi : Option Int} (h : SqL K H a xs) (q : ∀ p, H p = none → Q (.ref p) (upd H p (.lst (cutV xs lo hi)))) : uSl K (.ref a) lo hi H Q := .inl ⟨a, xs, rfl, h, q⟩
theorem cutV_all {xs : List V} {k : Nat} (h : xs.length ≤ k) : cutV xs none (some (k : Int)) = xs := by
  unfold cutV
  rw [HT.sIx_none, HT.sIx_nat, List.drop_zero, Nat.sub_zero, List.take_of_length_le (by omega)]
theorem cutV_63 {xs : List V} (h : xs.length ≤ 63) : cutV xs none (some 63) = xs := cutV_all (k := 63) h
theorem lock_put {u : HO} {od : Obj} (h : H d = some u) : upd (upd H d (.frz od u)) d u = H := by
  funext b
  by_cases e : b = d
  · subst e; rw [upd_same, h]
  · rw [upd_ne e, upd_ne e]
end
/-! steps for dicts -/
section
variable {σ : St} {H : Hp} {Q : VK} {D : Ends} {K : PySem.W.Frag} {td ty tv : TE}
theorem r_dget (h : td σ H fun x H1 => ty σ H1 fun y H2 => ∃ a v, x = .ref a ∧ DGet H2 a y (some v) ∧ Q v H2) : tDGet td ty σ H Q := h
theorem r_din (h : ty σ H fun y H1 => td σ H1 fun x H2 => ∃ a o, x = .ref a ∧ DGet H2 a y o ∧ Q (.bl o.isSome) H2) : tDIn ty td σ H Q := h
theorem r_dnotin (h : ty σ H fun y H1 => td σ H1 fun x H2 => ∃ a o, x = .ref a ∧ DGet H2 a y o ∧ Q (.bl (!o.isSome)) H2) : tDNotIn ty td σ H Q := h
theorem r_dput (h : tv σ H fun v H1 => td σ H1 fun x H2 => ty σ H2 fun y H3 => ∃ a H4, x = .ref a ∧ DPut H3 a y v H4 ∧ D.nx σ H4) : sDPut td ty tv D σ H := h
theorem r_sqP {u : TS} (h : tv σ H fun v H1 => td σ H1 fun x H2 => ty σ H2 fun y H3 => ∃ a H4, x = .ref a ∧ DPut H3 a y v H4 ∧ u D σ H4) : tSq (sDPut td ty tv) u D σ H := r_sq h
theorem r_keys {R : It → Hp → Prop} (h : td σ H fun x H1 => ∃ d o, x = .ref d ∧ ((∃ kvs, H1 d = some (.frz o (.dK kvs)) ∧ R (Itk d o kvs) H1) ∨ ∃ kvs, H1 d = some (.frz o (.dT kvs)) ∧ R (Itkt d o kvs) H1)) : iKeys td σ H R := h
theorem r_dnew (h : ∀ p, H p = none → Q (.ref p) (upd H p (.dK []))) : tDNewK σ H Q := h
end
theorem r_ifCI {σ : St} {H : Hp} {Q : VK} {p : Prop} [Decidable p] {a b : Int} (h : Q (.int (if p then a else b)) H) : if decide p = true then tC (.int a) σ H Q else tC (.int b) σ H Q := by
  by_cases e : p
  · rw [if_pos (decide_eq_true e)]; rw [if_pos e] at h; exact h
  · rw [if_neg (by simp [e])]; rw [if_neg e] at h; exact h
theorem SqL.k {K : PySem.W.Frag} {H H' : Hp} {a : Addr} {xs : List V} (h : SqL K H a xs) (s : Same H H') : SqL K H' a xs := by
  rcases h with (h | ⟨o, h⟩) | h
  · exact .inl (.inl (s _ _ h))
  · exact .inl (.inr ⟨o, s _ _ h⟩)
  · exact .inr h
/-! a dict whose keys are numbers and whose values are True -/
def dkS (us : List Int) : List (Key × V) := us.map fun i => (.inl i, .bl true)
theorem dkS_len (us : List Int) : (dkS us).length = us.length := List.length_map ..
theorem dkS_val (us : List Int) (i : Int) : valV (dkS us) (.inl i) = if i ∈ us then some (.bl true) else none := by
  induction us with
  | nil => rfl
  | cons u r ih =>
    show valV ((.inl u, .bl true) :: dkS r) (.inl i) = _
    by_cases e : i = u
    · subst e
      rw [valV_pos rfl, if_pos (List.mem_cons_self ..)]
    · rw [valV_neg (fun c => e (by cases c; rfl)), ih]
      by_cases h : i ∈ r
      · rw [if_pos h, if_pos (List.mem_cons_of_mem _ h)]
      · rw [if_neg h, if_neg (fun c => (List.mem_cons.mp c).elim e h)]
def insS (us : List Int) (i : Int) : List Int := if i ∈ us then us else us ++ [i]
theorem dkS_put (us : List Int) (i : Int) : putK (dkS us) (.inl i) (.bl true) = dkS (insS us i) := by
  have any : (dkS us).any (fun kv => decide (kv.1 = .inl i)) = decide (i ∈ us) := by
    rw [valV_any, dkS_val]
    by_cases h : i ∈ us
    · rw [if_pos h, decide_eq_true h]; rfl
    · rw [if_neg h, decide_eq_false h]; rfl
  unfold putK insS
  rw [any]
  by_cases h : i ∈ us
  · rw [if_pos (decide_eq_true h), if_pos h]
    refine (List.map_congr_left (g := id) fun x hx => ?_).trans (List.map_id _)
    obtain ⟨k, hk, rfl⟩ := List.mem_map.mp hx
    by_cases e : (Sum.inl k : Key) = .inl i
    · rw [if_pos e]; rfl
    · rw [if_neg e]; rfl
  · rw [if_neg (by rw [decide_eq_false h]; exact Bool.false_ne_true), if_neg h]
    unfold dkS
    rw [List.map_append]; rfl
theorem insS_mem {us : List Int} {i x : Int} : x ∈ insS us i ↔ x ∈ us ∨ x = i := by
  unfold insS
  by_cases h : i ∈ us
  · rw [if_pos h]
    exact ⟨.inl, fun c => c.elim id fun e => e ▸ h⟩
  · rw [if_neg h, List.mem_append, List.mem_singleton]
theorem insS_nodup {us : List Int} {i : Int} (h : us.Nodup) : (insS us i).Nodup := by
  unfold insS
  by_cases e : i ∈ us
  · rw [if_pos e]; exact h
  · rw [if_neg e]
    exact List.nodup_append.mpr ⟨h, by simp, fun a ha b hb c => e (by rw [List.mem_singleton.mp hb] at c; exact c ▸ ha)⟩
theorem nodup_small : ∀ {n : Nat} {us : List Int}, us.Nodup → (∀ x ∈ us, 0 ≤ x ∧ x < n) → us.length ≤ n
  | 0, us, _, hb => by
    cases us with
    | nil => exact Nat.le_refl _
    | cons a r => have := hb a (List.mem_cons_self ..); omega
  | n + 1, us, h, hb => by
    have := nodup_small (n := n) (us := us.erase (n : Int)) (h.erase _) (fun x hx => by
      obtain ⟨h1, h2⟩ := h.mem_erase_iff.mp hx
      have := hb x h2
      omega)
    have e := List.length_erase (a := (n : Int)) (l := us)
    split at e <;> omega
/-! the state of the draws as a dict at m, its numbers at l -/
def Dm (H : Hp) (m l : Addr) : Prop := ∃ (xs : List Int) (at_ : Nat), H m = some (.dK [(.inr "draws", .ref l), (.inr "at", .int at_)]) ∧ H l = some (.lst (xs.map V.int))
section
variable {K : PySem.W.Frag} {H H' : Hp} {m l x : Addr} {o : HO}
theorem Dm.ne (h : Dm H m l) : l ≠ m := by
  obtain ⟨xs, at_, hm, hl⟩ := h
  intro e
  rw [e, hm] at hl
  cases hl
theorem Dm.upd (h : Dm H m l) (h1 : x ≠ m) (h2 : x ≠ l) : Dm (upd H x o) m l := by
  obtain ⟨xs, at_, hm, hl⟩ := h
  exact ⟨xs, at_, by rw [upd_ne h1.symm]; exact hm, by rw [upd_ne h2.symm]; exact hl⟩
theorem Dm.nep (h : Dm H m l) (hx : H x = none) : x ≠ m := by
  obtain ⟨xs, at_, hm, hl⟩ := h
  exact (ne_of_none hm hx).symm
theorem Dm.nel (h : Dm H m l) (hx : H x = none) : x ≠ l := by
  obtain ⟨xs, at_, hm, hl⟩ := h
  exact (ne_of_none hl hx).symm
theorem Dm.new (h : Dm H m l) (hx : H x = none) : Dm (L2.upd H x o) m l := h.upd (h.nep hx) (h.nel hx)
theorem Dm.same (h : Dm H m l) (s : Same H H') : Dm H' m l := by
  obtain ⟨xs, at_, hm, hl⟩ := h
  exact ⟨xs, at_, s _ _ hm, s _ _ hl⟩
theorem Dm.tk (h : Dm H m l) (f : Fr m H H') : Tk K H H' := by
  obtain ⟨xs, at_, hm, hl⟩ := h
  exact f.tkD hm
theorem CD.stepM {A : Addr} {H0 H H' : Hp} {G : D → Prop} {i : Nat} {y : V} {d : D} (c : CD K (fun H => Dm H m l) m A H0 G i H) (h0 : H0 A = none) (hA : A ≠ m) (hl : A ≠ l) (hi : i < 60000)
    (s : Dm H' m l) (f : Fr m H H') (t : Td K H' y d) (g : G d) : LcEnd A (CD K (fun H => Dm H m l) m A H0 G (i + 1)) y H' :=
  c.step h0 hA hi (s.upd hA hl) f (c.1.tk f) t g
end
theorem CD.appM {K : PySem.W.Frag} {m l A : Addr} {H0 H H' : Hp} {G : D → Prop} {i : Nat} {y : V} {d : D} {Q : VK} (c : CD K (fun H => Dm H m l) m A H0 G i H) (h0 : H0 A = none) (hA : A ≠ m) (hl : A ≠ l) (hi : i < 60000)
    (s : Dm H' m l) (f : Fr m H H') (t : Td K H' y d) (g : G d) (q : ∀ H'', CD K (fun H => Dm H m l) m A H0 G (i + 1) H'' → Q .non H'') : uAppend (.ref A) [y] H' Q := by
  obtain ⟨acc, h1, h2, h3⟩ := c.stepM h0 hA hl hi s f t g
  exact ⟨acc, h1, h2, q _ h3⟩
theorem ints_of {P : Int → Prop} : ∀ {ds : List D}, (∀ d ∈ ds, ∃ i, d = .int i ∧ P i) → ∃ is : List Int, ds = is.map D.int ∧ ∀ i ∈ is, P i
  | [], _ => ⟨[], rfl, fun _ h => nomatch h⟩
  | d :: r, h => by
    obtain ⟨i, e, p⟩ := h d (List.mem_cons_self ..)
    obtain ⟨is, e2, p2⟩ := ints_of (ds := r) (fun x hx => h x (List.mem_cons_of_mem _ hx))
    refine ⟨i :: is, by rw [e, e2]; rfl, fun x hx => ?_⟩
    rcases List.mem_cons.mp hx with rfl | hx
    · exact p
    · exact p2 x hx
theorem TdL.ints {K : PySem.W.Frag} {H : Hp} : ∀ {is : List Int}, TdL K H (is.map V.int) (is.map D.int)
  | [] => .nil
  | i :: r => .cons (.int i) TdL.ints
theorem TdL.ints_inv {K : PySem.W.Frag} {H : Hp} : ∀ {is : List Int} {vs : List V}, TdL K H vs (is.map D.int) → vs = is.map V.int
  | [], _, h => by cases h; rfl
  | i :: r, _, h => by
    cases h with
    | cons h1 h2 => cases h1; rw [TdL.ints_inv h2]; rfl
theorem inV_int {z : Int} : ∀ {ss : List Int}, inV (.int z) (ss.map V.int) = decide (z ∈ ss)
  | [] => rfl
  | s :: ss => by
    have ih := inV_int (z := z) (ss := ss)
    unfold inV at ih ⊢
    rw [List.map_cons, List.any_cons, ih]
    show ((s == z) || decide (z ∈ ss)) = _
    by_cases e : z = s
    · subst e
      rw [decide_eq_true (List.mem_cons_self ..)]
      rw [show (z == z) = true from beq_self_eq_true z]
      rfl
    · rw [show (s == z) = false from beq_eq_false_iff_ne.mpr (fun c => e c.symm), Bool.false_or]
      exact decide_eq_decide.mpr ⟨fun h => List.mem_cons_of_mem _ h, fun h => (List.mem_cons.mp h).resolve_left e⟩
theorem flat_ints {ss : List Int} : (ss.map V.int).all flatV = true := by
  induction ss with
  | nil => rfl
  | cons s r ih => rw [List.map_cons, List.all_cons, ih]; rfl
theorem r_inI {K : PySem.W.Frag} {H : Hp} {Q : VK} {p : Addr} {z : Int} {ss : List Int} (hp : SqL K H p (ss.map V.int)) (q : Q (.bl (decide (z ∈ ss))) H) : uIn K id (.int z) (.ref p) H Q := ⟨_, .inl hp, rfl, flat_ints, by rw [inV_int]; exact q⟩
theorem r_niI {K : PySem.W.Frag} {H : Hp} {Q : VK} {p : Addr} {z : Int} {ss : List Int} (hp : SqL K H p (ss.map V.int)) (q : Q (.bl (!decide (z ∈ ss))) H) : uIn K not (.int z) (.ref p) H Q := ⟨_, .inl hp, rfl, flat_ints, by rw [inV_int]; exact q⟩
/-- two rising lists with the same members -/
theorem rise_eq : ∀ {xs ys : List Int}, xs.Pairwise (· < ·) → ys.Pairwise (· < ·) → (∀ x, x ∈ xs ↔ x ∈ ys) → xs = ys
  | [], [], _, _, _ => rfl
  | [], y :: ys, _, _, h => by have := (h y).mpr (List.mem_cons_self ..); cases this
  | x :: xs, [], _, _, h => by have := (h x).mp (List.mem_cons_self ..); cases this
  | x :: xs, y :: ys, h1, h2, h => by
    obtain ⟨a1, a2⟩ := List.pairwise_cons.mp h1
    obtain ⟨b1, b2⟩ := List.pairwise_cons.mp h2
    have e : x = y := by
      rcases List.mem_cons.mp ((h x).mp (List.mem_cons_self ..)) with e | e
      · exact e
      rcases List.mem_cons.mp ((h y).mpr (List.mem_cons_self ..)) with e2 | e2
      · exact e2.symm
      have := b1 x e
      have := a1 y e2
      omega
    subst e
    rw [rise_eq (xs := xs) (ys := ys) a2 b2 fun z => ⟨fun hz => ?_, fun hz => ?_⟩]
    · rcases List.mem_cons.mp ((h z).mp (List.mem_cons_of_mem _ hz)) with e | e
      · have := a1 z hz; omega
      · exact e
    · rcases List.mem_cons.mp ((h z).mpr (List.mem_cons_of_mem _ hz)) with e | e
      · have := b1 z hz; omega
      · exact e
theorem rise_of {xs : List Int} (h1 : xs.Pairwise (· ≤ ·)) (h2 : xs.Nodup) : xs.Pairwise (· < ·) := by
  refine List.Pairwise.imp₂ (R := (· ≤ ·)) (S := (· ≠ ·)) (T := (· < ·)) (fun a b h h' => ?_) h1 h2
  omega
/-- all but two cells stays -/
def Fr2 (u b : Addr) (H H' : Hp) : Prop := ∀ c x, c ≠ u → c ≠ b → H c = some x → H' c = some x
/-- no tuple -/
def Nt (H : Hp) (u : Addr) : Prop := (∀ xs, H u ≠ some (.tup xs)) ∧ ∀ ob xs, H u ≠ some (.frz ob (.tup xs))
section
variable {K : PySem.W.Frag} {H H' H2 : Hp} {u b x : Addr} {o : HO}
theorem Fr2.refl : Fr2 u b H H := fun _ _ _ _ h => h
theorem Fr2.trans (f : Fr2 u b H H') (g : Fr2 u b H' H2) : Fr2 u b H H2 := fun c x h1 h2 e => g c x h1 h2 (f c x h1 h2 e)
theorem Fr2.same (s : Same H H') : Fr2 u b H H' := fun c x _ _ e => s c x e
theorem Fr2.mu (f : Fr2 u b H H') : Fr2 u b H (upd H' u o) := fun c x h1 h2 e => by rw [upd_ne h1]; exact f c x h1 h2 e
theorem Fr2.mb (f : Fr2 u b H H') : Fr2 u b H (upd H' b o) := fun c x h1 h2 e => by rw [upd_ne h2]; exact f c x h1 h2 e
theorem Nt.lst {xs : List V} (h : H u = some (.lst xs)) : Nt H u := ⟨fun xs e => by rw [h] at e; (cases e), fun ob xs e => by rw [h] at e; (cases e)⟩
theorem Nt.dK {xs : List (Key × V)} (h : H u = some (.dK xs)) : Nt H u := ⟨fun xs e => by rw [h] at e; (cases e), fun ob xs e => by rw [h] at e; (cases e)⟩
theorem Fr2.tk (f : Fr2 u b H H') (h1 : Nt H u) (h2 : Nt H b) : Tk K H H' := fun a ys h => by
  rcases h with (h | ⟨ob, h⟩) | h
  · exact .inl (.inl (f _ _ (fun e => h1.1 _ (e ▸ h)) (fun e => h2.1 _ (e ▸ h)) h))
  · exact .inl (.inr ⟨ob, f _ _ (fun e => h1.2 _ _ (e ▸ h)) (fun e => h2.2 _ _ (e ▸ h)) h⟩)
  · exact .inr h
end
abbrev spDraws (K : PySem.W.Frag) : Sp := fun vs H Q _ => ∃ (a : Addr) (ns : List Int), vs = [.ref a] ∧ SqL K H a (ns.map V.int) ∧ ns.length ≤ 63 ∧ ∀ l (xs : List Int) H', Same H H' → H l = none → H' l = some (.lst (xs.map V.int)) → Q (.ref l) H'
abbrev spTakeM (K : PySem.W.Frag) : Sp := fun vs H Q _ => ∃ (m l : Addr) (k : Int), vs = [.ref m, .int k] ∧ 0 < k ∧ Dm H m l ∧ ∀ (n : Int) H', 0 ≤ n → n < k → Dm H' m l → (∀ b, b ≠ m → H' b = H b) → Q (.int n) H'
end U
/-! U6: more of texts, bits, sorted(dict), is of bools. -/
namespace U
open PySem PySem.Spec L2
def uSplit : RM := fun x xs H Q => match x, xs with
  | .str a, [.str b] => (b.length == 0) = false ∧ a.length + 2 ≤ sizeLine ∧ rNewStrs (Txt.split a b) H Q
  | _, _ => False
theorem m_split {X : Cx} : MtR X "str.split" uSplit := by
  intro pins s σ H x xs v us Q I rx rs h
  unfold uSplit at h
  split at h
  · exact mt_split pins s σ H _ _ v us Q I rx rs ⟨_, _, rfl, rfl, h⟩
  · exact h.elim
def uUpper : RM := fun x xs H Q => match x, xs with
  | .str a, [] => a.length ≤ 5592405 ∧ Q (.str (Txt.upper a)) H
  | _, _ => False
theorem m_upper {X : Cx} : MtR X "str.upper" uUpper := by
  intro pins s σ H x xs v us Q I rx rs h
  unfold uUpper at h
  split at h
  · exact mt_upper pins s σ H _ _ v us Q I rx rs ⟨_, rfl, rfl, h⟩
  · exact h.elim
def uLower : RM := fun x xs H Q => match x, xs with
  | .str a, [] => a.length ≤ 5592405 ∧ Q (.str (Txt.lower a)) H
  | _, _ => False
theorem m_lower {X : Cx} : MtR X "str.lower" uLower := by
  intro pins s σ H x xs v us Q I rx rs h
  unfold uLower at h
  split at h
  · exact mt_lower pins s σ H _ _ v us Q I rx rs ⟨_, rfl, rfl, h⟩
  · exact h.elim
def uXor : R2 := fun x y H Q => match x, y with
  | .int i, .int j => Q (.int (Builtin.bitXor i j)) H
  | _, _ => False
theorem o_xor {X : Cx} : OpR X (binaryOp .BitXor) uXor := by
  intro pins s σ H x y v u Q I rx ry h
  cases x <;> cases y <;> first | exact (show False from h).elim | skip
  exact op_xor pins s σ H _ _ v u Q I rx ry ⟨_, _, rfl, rfl, h⟩
abbrev uIsB : R2 := rIsB
abbrev uNotB : R2 := rNotB
def uSortD (K : PySem.W.Frag) : RC := fun xs H Q => ∃ (a : Addr) (kvs : List (Key × V)) (ks : List Str), xs = [.ref a] ∧ Rd H a (.dK kvs) ∧ kvs.map (·.1) = ks.map Sum.inr ∧ ks.length < 64 ∧
    ∀ ys p, ys.Perm ks → PyProof.Rows.sortedS ys = true → H p = none → Q (.ref p) (upd H p (.lst (ys.map V.str)))
theorem c_sortD {X : Cx} (hc : X.calm = true) : CallR X (.builtin "sorted") (uSortD X.K) := call_sortedD hc
section
variable {K : PySem.W.Frag} {H : Hp} {Q : VK} {a b : Bool} {x y : Str} {i j : Int}
theorem r_isB (h : Q (.bl (decide (a = b))) H) : uIsB (.bl a) (.bl b) H Q := ⟨a, b, rfl, rfl, h⟩
theorem r_notB (h : Q (.bl (!decide (a = b))) H) : uNotB (.bl a) (.bl b) H Q := ⟨a, b, rfl, rfl, h⟩
theorem r_xor (h : Q (.int (Builtin.bitXor i j)) H) : uXor (.int i) (.int j) H Q := h
theorem r_upper (hl : x.length ≤ 5592405) (h : Q (.str (Txt.upper x)) H) : uUpper (.str x) [] H Q := ⟨hl, h⟩
theorem r_split (h1 : (y.length == 0) = false) (h2 : x.length + 2 ≤ sizeLine) (h : ∀ p, H p = none → Q (.ref p) (upd H p (.lst ((Txt.split x y).map V.str)))) : uSplit (.str x) [.str y] H Q := ⟨h1, h2, h⟩
/-- a text in a list of texts -/
theorem r_inSL {p : Addr} {z : Str} {ss : List Str} (hp : SqL K H p (ss.map V.str)) (q : Q (.bl (decide (z ∈ ss))) H) : uIn K id (.str z) (.ref p) H Q := ⟨_, .inl hp, rfl, flat_strs, by rw [inV_str]; exact q⟩
theorem r_niSL {p : Addr} {z : Str} {ss : List Str} (hp : SqL K H p (ss.map V.str)) (q : Q (.bl (!decide (z ∈ ss))) H) : uIn K not (.str z) (.ref p) H Q := ⟨_, .inl hp, rfl, flat_strs, by rw [inV_str]; exact q⟩
end
end U
/-! U7: a dict display of more than 16 pairs of constants. -/
namespace U
open PySem PySem.Spec L2
open Sem (wp)
section
variable {prog : Program} {w : World} {K : Type} [DecidableEq K] {knd : KeyKind prog w K} {A : Around} {E : Value → Shared → Prop} {s : Shared}
theorem wp_dictPut {d : Addr} {kvs : List (K × Value)} {k : K} {key v : Value} {Q : Unit → Shared → Prop} (hkey : knd.is k key = true) (hm : s.heap.DictOf knd d kvs)
    (hQ : ∀ h', h'.DictOf knd d (stored kvs k v) → Heap.SameBut d s.heap h' → Q () { s with heap := h' })
    (hsz : kvs.length ≤ sizeLine) :
    wpAny (model prog w) A (dictPut d (knd.hash k) key v) Q E s := by
  obtain ⟨o, es, ep, ho, hc, hd, hk, hp, hn⟩ := hm
  have hes : es.size ≤ sizeLine := by
    have e1 := hp.length
    have e2 : es.toList.length = es.size := by simp
    omega
  unfold dictPut
  refine wpAny_bind (wpAny_dictFind_of hkey ho hd hk ?_)
  have hidx : (es.findIdx? fun e => knd.is k e.key) = kvs.findIdx? fun kv => decide (kv.1 = k) := by
    rw [← hp.findIdx k]; obtain ⟨l⟩ := es; simp
  cases hi : es.findIdx? fun e => knd.is k e.key with
  | some i =>
    refine wpAny_updateDict ho hd (hQ _ ⟨_, _, ep, Heap.get?_update_self _ ho (Obj.isFreed_of_dict (Obj.data_mapDict hd _)),
      hc.mapDict _, Obj.data_mapDict hd _, hk.modify _ _, ?_, ?_⟩ (Heap.SameBut.update ..))
    · rw [stored, if_pos (any_of_findIdx_some (hidx ▸ hi))]
      have hl : (es.toList.findIdx? fun e => knd.is k e.key) = some i := by rw [← hi]; obtain ⟨l⟩ := es; simp
      have := hp.modify hn hl v
      obtain ⟨l⟩ := es
      simpa using this
    · rw [stored, if_pos (any_of_findIdx_some (hidx ▸ hi)), keys_map_store]; exact hn
  | none =>
    have hnot : k ∉ kvs.map (·.1) := not_mem_of_findIdx_none (hidx ▸ hi)
    have hany : ¬ (kvs.any fun kv => decide (kv.1 = k)) = true := by
      rw [List.any_eq_true]; rintro ⟨kv, hkv, he⟩
      exact hnot (List.mem_map.mpr ⟨kv, hkv, of_decide_eq_true he⟩)
    refine wpAny_updateDictKeys (hz := hes) ho hd (hQ _ ⟨_, _, ep + 1, Heap.get?_update_self _ ho (Obj.isFreed_of_dict (Obj.data_mapDictKeys hd _)),
      hc.mapDictKeys _, Obj.data_mapDictKeys hd _, hk.push hkey _, ?_, ?_⟩ (Heap.SameBut.update ..))
    · rw [stored, if_neg hany]
      have := hp.append hkey (knd.hash k) v
      obtain ⟨l⟩ := es
      simpa using this
    · rw [stored, if_neg hany, List.map_append, List.nodup_append]
      refine ⟨hn, by simp, ?_⟩
      intro a ha b hb
      simp only [List.map_cons, List.map_nil, List.mem_singleton] at hb
      subst hb
      exact fun e => hnot (e ▸ ha)
theorem wp_merge {d o : Addr} {kvs more : List (K × Value)} {Q : Unit → Shared → Prop} (hdo : d ≠ o) (hoS : (o == sysModules) = false)
    (hd : s.heap.DictOf knd d kvs) (ho : s.heap.DictOf knd o more) (h0 : kvs ≠ [])
    (hQ : ∀ h', h'.DictOf knd d (merged kvs more) → h'.DictOf knd o more → Heap.SameBut d s.heap h' → Q () { s with heap := h' })
    (hsz : kvs.length + more.length ≤ sizeLine) :
    wpAny (model prog w) A (mergeMapping d (.ref o) false) Q E s := by
  have hty := ho.typeIs
  obtain ⟨od, esd, epd, hod, hcd, hdd, hkd, hpd, hnd⟩ := id hd
  obtain ⟨oo, eso, epo, hoo, hco, hdo', hko, hpo, hno⟩ := id ho
  have hlen : more.length = eso.size := by rw [← hpo.length]; simp
  have hne : esd.isEmpty = false := by
    cases he : esd.isEmpty with
    | false => rfl
    | true =>
      have h1 : esd = #[] := Array.isEmpty_iff.mp he
      have := hpd.length
      rw [h1] at this
      exact absurd (List.length_eq_zero_iff.mp (by simpa using this.symm)) h0
  unfold mergeMapping
  refine wpAny_bind (wpAny_isInstance hty isSubtype_dict_dict ?_)
  dsimp only
  rw [if_pos rfl]
  refine wpAny_bind (wpAny_specialOf hty F.slot_dict_iter.lookup ?_)
  refine wpAny_bind (wpAny_pure ?_)
  have e1 : ((some (Value.builtin "dict.__iter__")) == some (Value.builtin "dict.__iter__")) = true := by rfl
  rw [e1]
  dsimp only
  rw [if_neg (by rw [hoS]; exact Bool.false_ne_true)]
  refine wpAny_bind (wpAny_dictEntries hod hdd ?_)
  rw [if_neg (by rw [hne]; exact Bool.false_ne_true)]
  refine wpAny_bind (wpAny_dictEntries hoo hdo' ?_)
  refine wpAny_bind (wpAny_dictEpoch hoo hdo' ?_)
  refine wpAny_bind ?_
  refine wpAny_forIn_list _
      (fun rest _ s' => ∃ h' i, s' = { s with heap := h' } ∧ rest = List.range' i (eso.size - i) ∧ i ≤ eso.size ∧ h'.DictOf knd d (merged kvs (more.take i)) ∧ h'.get? o = some oo ∧ Heap.SameBut d s.heap h')
      _ ?_ ?_ _ _ ⟨s.heap, 0, rfl, by simp [List.range_eq_range'], Nat.zero_le _, by simpa [merged] using hd, hoo, Heap.SameBut.refl _ _⟩
  · rintro x rest b s' ⟨h', i, rfl, hr, hi, hd', hoo', hs'⟩
    have hlt : i < eso.size := by
      rcases Nat.lt_or_ge i eso.size with h | h
      · exact h
      · rw [Nat.sub_eq_zero_of_le h] at hr; simp at hr
    obtain ⟨rfl, hrest⟩ : x = i ∧ rest = List.range' (i + 1) (eso.size - (i + 1)) := by
      have e : eso.size - i = (eso.size - (i + 1)) + 1 := by omega
      rw [e, List.range'_succ] at hr
      injection hr with h1 h2
      exact ⟨h1, h2⟩
    refine wpAny_bind (wpAny_dictEntries hoo' hdo' ?_)
    rw [Array.getElem?_eq_getElem hlt]
    obtain ⟨kv, hkv⟩ : ∃ kv, more[x]? = some kv := ⟨more[x]'(by rw [hlen]; exact hlt), List.getElem?_eq_getElem _⟩
    obtain ⟨k, v⟩ := kv
    obtain ⟨hkey, hval⟩ := hpo.get? (e := eso[x]) (by simp [hlt]) hkv
    obtain ⟨k', hkey', hhash⟩ := hko eso[x] (Array.getElem_mem hlt)
    obtain rfl : k' = k := knd.inj _ _ _ hkey' hkey
    have hmx : (merged kvs (more.take x)).length ≤ sizeLine := by
      have e1 := merged_length_le kvs (more.take x)
      have e2 : (more.take x).length ≤ more.length := by rw [List.length_take]; omega
      omega
    dsimp only
    rw [if_neg Bool.false_ne_true, hhash, hval]
    refine wpAny_bind (wpAny_holding (wp_dictPut (hsz := hmx) hkey hd' fun h'' hd'' hs'' => ?_))
    have hoo'' : h''.get? o = some oo := (hs''.2 o (Ne.symm hdo)).trans hoo'
    refine wpAny_bind (wpAny_dictEpoch hoo'' hdo' ?_)
    rw [if_neg (by simp)]
    exact wpAny_pure ⟨h'', x + 1, rfl, hrest, hlt, by rw [merged_take_succ kvs more x (k', v) hkv]; exact hd'', hoo'', hs'.trans hs''⟩
  · rintro b s' ⟨h', i, rfl, hr, hi, hd', hoo', hs'⟩
    have hin : i = eso.size := by
      rcases Nat.lt_or_ge i eso.size with h | h
      · have e : eso.size - i = (eso.size - (i + 1)) + 1 := by omega
        rw [e, List.range'_succ] at hr; exact nomatch hr
      · exact Nat.le_antisymm hi h
    refine wpAny_pure (hQ h' ?_ ⟨oo, eso, epo, hoo', hco, hdo', hko, hpo, hno⟩ hs')
    rw [hin, ← hlen, List.take_length] at hd'; exact hd'
end
/-- one pair of a display: two constants -/
structure CE where
  k : Expr
  v : Expr
  key : Key
  val : V
def CE.pair (env : Env) (pos : Pos) (e : CE) : Sem Value × Sem Value := (eval e.k env, do let x ← eval e.v env; standAt pos; pure x)
def CE.kv (e : CE) : Key × V := (e.key, e.val)
structure CeOk (X : Cx) (e : CE) : Prop where
  k : PE X e.k (tC (kV e.key))
  v : PE X e.v (tC e.val)
theorem upd_id {H : Hp} {p : Addr} {o : HO} (h : H p = some o) : upd H p o = H := by
  funext b
  by_cases e : b = p
  · subst e; rw [upd_same, h]
  · rw [upd_ne e]
theorem upd_upd {H : Hp} {p : Addr} {o o' : HO} : upd (upd H p o) p o' = upd H p o' := by
  funext b
  by_cases e : b = p
  · subst e; rw [upd_same, upd_same]
  · rw [upd_ne e, upd_ne e, upd_ne e]
section
variable {X : Cx} {pins : List (Addr × Obj)} {σ : St} {H : Hp} {s : Shared} {p : Addr} {pos : Pos}
theorem ce_vals {e : CE} {s : Shared} {Q : Value → Shared → Prop} (ok : CeOk X e) (I : Inv X pins σ H s) (q : ∀ v s', Inv X pins σ H s' → RelV e.val v → Q v s') : wpAny (model X.prog X.w) X.A (CE.pair X.env pos e).2 Q X.xe s :=
  wpAny_bind (thn (ok.v.run pins s σ H (fun x H' => x = e.val ∧ H' = H) I ⟨rfl, rfl⟩) fun v s1 ⟨x, H1, I1, r, ex, eH⟩ => wpAny_bind (wpAny_standAt (wpAny_pure (by
    subst ex eH
    exact q v s1 I1 r))))
theorem ce_keys {e : CE} {s : Shared} {Q : Value → Shared → Prop} (ok : CeOk X e) (I : Inv X pins σ H s) (q : ∀ v s', Inv X pins σ H s' → RelV (kV e.key) v → Q v s') : wpAny (model X.prog X.w) X.A (CE.pair X.env pos e).1 Q X.xe s :=
  thn (ok.k.run pins s σ H (fun x H' => x = kV e.key ∧ H' = H) I ⟨rfl, rfl⟩) fun v s1 ⟨x, H1, I1, r, ex, eH⟩ => by
    subst ex eH
    exact q v s1 I1 r
theorem dk_set {acc : List (Key × V)} {k : Key} {v : V} {kv vv : Value} {Q : Unit → Shared → Prop} (I : Inv X pins σ H s) (e : H p = some (.dK acc)) (hl : acc.length < sizeLine) (rk : RelV (kV k) kv) (rv : RelV v vv) (q : ∀ s', Inv X pins σ (upd H p (.dK (putK acc k v))) s' → Q () s') :
    wpAny (model X.prog X.w) X.A (dictSet p kv vv) Q X.xe s := by
  obtain ⟨z, hd, vs0, r0, dd⟩ := dk_of I.hok e
  have hv : vs0.length ≤ sizeLine := by
    have : acc.length = vs0.length := Paired.length r0
    omega
  refine wpAny_dictSet_pairs (knd := mixKind X.prog X.w) (kV_is rk) dd (fun h' dd' hs => q _ ?_) hv
  have he : ∃ o, h'.get? p = some o := let ⟨o, _, _, hq, _⟩ := dd'; ⟨o, hq⟩
  have hz := length_putK acc k v
  exact d_write I (by rw [e]; exact True.intro) hs he (dk_new (by omega) hd (r0.put k rv) dd')
theorem loop_set : ∀ (es : List CE) (acc : List (Key × V)) (s : Shared) (H : Hp) (Q : PUnit → Shared → Prop), (∀ e ∈ es, CeOk X e) → Inv X pins σ H s → H p = some (.dK acc) → acc.length + es.length ≤ 1000 → (∀ s', Inv X pins σ (upd H p (.dK (mergeK acc (es.map CE.kv)))) s' → Q PUnit.unit s') →
    wpAny (model X.prog X.w) X.A (forIn (es.map (CE.pair X.env pos)) PUnit.unit fun (x : Sem Value × Sem Value) (_ : PUnit) => (do
      let kv ← x.1
      let vv ← holding [kv] x.2
      holding [kv, vv] (dictSet p kv vv)
      pure (ForInStep.yield PUnit.unit) : Sem (ForInStep PUnit))) Q X.xe s
  | [], acc, s, H, Q, _, I, e, _, q => by
    rw [List.map_nil, List.forIn_nil]
    refine wpAny_pure (q s ?_)
    show Inv X pins σ (upd H p (.dK acc)) s
    rw [upd_id e]
    exact I
  | c :: es, acc, s, H, Q, ok, I, e, hl, q => by
    rw [List.map_cons, List.forIn_cons]
    rw [List.length_cons] at hl
    have z : (1000 : Nat) < sizeLine := by rw [sizeLine_eq]; decide
    have hp := length_putK acc c.key c.val
    refine wpAny_bind (wpAny_bind (ce_keys (ok c (List.mem_cons_self ..)) I fun kv s1 I1 rk => wpAny_bind (wpAny_holding (ce_vals (ok c (List.mem_cons_self ..)) I1 fun vv s2 I2 rv => wpAny_bind (wpAny_holding (dk_set I2 e (by omega) rk rv fun s3 I3 => wpAny_pure ?_))))))
    refine loop_set es (putK acc c.key c.val) s3 _ Q (fun x hx => ok x (List.mem_cons_of_mem _ hx)) I3 upd_same (by omega) fun s4 I4 => q s4 ?_
    rw [upd_upd] at I4
    exact I4
theorem sub_long {es : List CE} {Q : Addr → Shared → Prop} (ok : ∀ e ∈ es, CeOk X e) (I : Inv X pins σ H s) (h1 : 15 < es.length) (h2 : es.length ≤ 1000) (q : ∀ d s', H d = none → Inv X pins σ (upd H d (.dK (mergeK [] (es.map CE.kv)))) s' → Q d s') :
    wpAny (model X.prog X.w) X.A (subDict (es.map (CE.pair X.env pos))) Q X.xe s := by
  have hn := I.hok.fresh (Nat.le_refl s.heap.objs.size)
  have I1 := I.laid (a := s.heap.objs.size) (o := .dK []) (h' := s.heap.push { cls := .type "dict", data := .dict #[] }) (t' := s.toks) (fun _ _ q => Heap.get?_push_of_some _ q) (Nat.le_refl _) (dk_empty s.heap I.big)
  unfold subDict
  refine wpAny_bind (wpAny_alloc ?_)
  refine wpAny_bind (wpAny_holding ?_)
  rw [if_neg (by rw [List.length_map]; omega)]
  refine wpAny_bind (wpAny_rule ?_)
  refine wpAny_bind (loop_set es [] _ _ _ ok I1 upd_same (by simpa using h2) fun s' I' => wpAny_pure (wpAny_pure (q _ _ hn ?_)))
  rw [upd_upd] at I'
  exact I'
theorem pairs_run : ∀ (es : List CE) (s : Shared) (Q : List (Value × Value) → Shared → Prop), (∀ e ∈ es, CeOk X e) → Inv X pins σ H s → (∀ vs s', Inv X pins σ H s' → VV (es.map fun e => (kV e.key, e.val)) vs → Q vs s') →
    wpAny (model X.prog X.w) X.A (evalPairs (es.map (CE.pair X.env pos))) Q X.xe s
  | [], s, Q, _, I, q => evalPairs_nil (q [] s I .nil)
  | c :: es, s, Q, ok, I, q => evalPairs_cons (ce_keys (pos := pos) (ok c (List.mem_cons_self ..)) I fun kv s1 I1 rk => ce_vals (ok c (List.mem_cons_self ..)) I1 fun vv s2 I2 rv =>
      pairs_run es s2 _ (fun x hx => ok x (List.mem_cons_of_mem _ hx)) I2 fun vs s3 I3 r => q _ s3 I3 (.cons ⟨rk, rv⟩ r))
theorem sub_short {es : List CE} {Q : Addr → Shared → Prop} (ok : ∀ e ∈ es, CeOk X e) (I : Inv X pins σ H s) (h1 : es.length ≤ 15) (q : ∀ d s', H d = none → Inv X pins σ (upd H d (.dK (mergeK [] (es.map CE.kv)))) s' → Q d s') :
    wpAny (model X.prog X.w) X.A (subDict (es.map (CE.pair X.env pos))) Q X.xe s := by
  have hn := I.hok.fresh (Nat.le_refl s.heap.objs.size)
  have I1 := I.laid (a := s.heap.objs.size) (o := .dK []) (h' := s.heap.push { cls := .type "dict", data := .dict #[] }) (t' := s.toks) (fun _ _ q => Heap.get?_push_of_some _ q) (Nat.le_refl _) (dk_empty s.heap I.big)
  refine wpAny_subDict (knd := mixKind X.prog X.w) (by rw [List.length_map]; exact h1) (pairs_run es _ _ ok I1 fun vs s2 I2 r => ?_)
  have r' : VV ((es.map CE.kv).map fun kv => (kV kv.1, kv.2)) vs := by
    rw [List.map_map]
    exact r
  obtain ⟨rs, c, rk⟩ := carries_of (P := X.prog) (w := X.w) r'
  obtain ⟨z, hd, vs0, r0, dd⟩ := dk_of I2.hok upd_same
  cases r0
  refine ⟨rs, c, dd, fun h' dd' hs => q _ _ hn ?_⟩
  have hz : (mergeK [] (es.map CE.kv)).length ≤ sizeLine := by
    have h1 := length_mergeK (es.map CE.kv) []
    rw [List.length_nil, List.length_map] at h1
    rw [sizeLine_eq]; omega
  have he : ∃ q, h'.get? s.heap.objs.size = some q := let ⟨q, _, _, hq, _⟩ := dd'; ⟨q, hq⟩
  have I3 := d_write (t' := s2.toks + vs.length) I2 (ob := .dK (mergeK [] (es.map CE.kv))) (by rw [upd_same]; exact True.intro) hs he (dk_new hz hd (rk.merge .nil) dd')
  rw [upd_upd] at I3
  exact I3
theorem dk_merge {d o : Addr} {m1 m2 : List (Key × V)} {Q : Unit → Shared → Prop} {E : Value → Shared → Prop} (I : Inv X pins σ H s) (hne : d ≠ o) (e1 : H d = some (.dK m1)) (e2 : H o = some (.dK m2)) (h0 : m1 ≠ []) (hl : m1.length + m2.length ≤ 1000) (q : ∀ s', Inv X pins σ (upd H d (.dK (mergeK m1 m2))) s' → Q () s') :
    wpAny (model X.prog X.w) X.A (mergeMapping d (.ref o) false) Q E s := by
  obtain ⟨z1, hd1, vs1, r1, dd1⟩ := dk_of I.hok e1
  obtain ⟨z2, hd2, vs2, r2, dd2⟩ := dk_of I.hok e2
  have l1 : m1.length = vs1.length := Paired.length r1
  have l2 : m2.length = vs2.length := Paired.length r2
  have z : (1000 : Nat) < sizeLine := by rw [sizeLine_eq]; decide
  refine wp_merge (knd := mixKind X.prog X.w) hne hd2 dd1 dd2 (fun c => h0 (List.eq_nil_of_length_eq_zero (by rw [l1, c]; rfl))) (fun h' dd' _ hs => q _ ?_) (by omega)
  have he : ∃ o, h'.get? d = some o := let ⟨o, _, _, hq, _⟩ := dd'; ⟨o, hq⟩
  have hz := length_mergeK m2 m1
  exact d_write I (by rw [e1]; exact True.intro) hs he (dk_new (by omega) hd1 (r2.merge r1) dd')
theorem display_long {es1 es2 : List CE} {Q : Value → Shared → Prop} (ok1 : ∀ e ∈ es1, CeOk X e) (ok2 : ∀ e ∈ es2, CeOk X e) (I : Inv X pins σ H s) (h1 : es1.length = 17) (h2 : es2.length ≤ 15) (h0 : es2 ≠ [])
    (q : ∀ d s' H', H d = none → Same H H' → H' d = some (.dK (mergeK (mergeK [] (es1.map CE.kv)) (mergeK [] (es2.map CE.kv)))) → Inv X pins σ H' s' → Q (.ref d) s') :
    wpAny (model X.prog X.w) X.A (dictDisplay ((es1 ++ es2).map fun e => (some (CE.pair X.env pos e).1, (CE.pair X.env pos e).2))) Q X.xe s := by
  unfold dictDisplay
  dsimp only
  refine wpAny_bind (wpAny_forIn_list _
    (fun rest st s' => ∃ done left : List CE, es1 ++ es2 = done ++ left ∧ rest = left.map (fun e => (some (CE.pair X.env pos e).1, (CE.pair X.env pos e).2)) ∧
      ((done.length < 17 ∧ st = (none, done.map (CE.pair X.env pos)) ∧ s' = s) ∨ (17 ≤ done.length ∧ ∃ d, st = (some d, (done.drop 17).map (CE.pair X.env pos)) ∧ H d = none ∧ Inv X pins σ (upd H d (.dK (mergeK [] (es1.map CE.kv)))) s')))
    _ ?_ ?_ _ _ ⟨[], es1 ++ es2, rfl, rfl, .inl ⟨by simp, rfl, rfl⟩⟩)
  · rintro x rest st s' ⟨done, left, e, er, h⟩
    cases left with
    | nil => cases er
    | cons c left =>
      rw [List.map_cons] at er
      cases er
      have e' : es1 ++ es2 = (done ++ [c]) ++ left := by rw [e]; simp
      have lall := congrArg List.length e
      rw [List.length_append, List.length_append, List.length_cons, h1] at lall
      rcases h with ⟨hd, rfl, rfl⟩ | ⟨hd, d, rfl, hn, I'⟩
      · dsimp only
        have el : (done.map (CE.pair X.env pos) ++ [((CE.pair X.env pos c).1, (CE.pair X.env pos c).2)]) = (done ++ [c]).map (CE.pair X.env pos) := by rw [List.map_append]; rfl
        rw [el]
        by_cases h17 : done.length + 1 = 17
        · have hb : (((done ++ [c]).map (CE.pair X.env pos)).length == 17) = true := by simp [h17]
          rw [if_pos hb]
          have e1 : done ++ [c] = es1 := by
            have := congrArg (List.take 17) e'
            rw [List.take_append_of_le_length (by omega), List.take_append_of_le_length (by simp; omega), List.take_of_length_le (by omega), List.take_of_length_le (by simp; omega)] at this
            exact this.symm
          have hemp : ((done ++ [c]).map (CE.pair X.env pos)).isEmpty = false := by simp
          rw [if_neg (by rw [hemp]; exact Bool.false_ne_true), e1]
          refine wpAny_bind (wpAny_bind (sub_long ok1 I (by omega) (by omega) fun d s2 hn I2 => wpAny_pure (wpAny_pure ?_)))
          refine ⟨done ++ [c], left, e', rfl, .inr ⟨by simp; omega, d, ?_, hn, I2⟩⟩
          rw [List.drop_of_length_le (by simp; omega)]
          rfl
        · have hb : (((done ++ [c]).map (CE.pair X.env pos)).length == 17) = false := by simp; omega
          rw [if_neg (by rw [hb]; exact Bool.false_ne_true)]
          exact wpAny_pure ⟨done ++ [c], left, e', rfl, .inl ⟨by simp; omega, rfl, rfl⟩⟩
      · dsimp only
        have el : ((done.drop 17).map (CE.pair X.env pos) ++ [((CE.pair X.env pos c).1, (CE.pair X.env pos c).2)]) = ((done ++ [c]).drop 17).map (CE.pair X.env pos) := by
          rw [List.drop_append_of_le_length hd, List.map_append]; rfl
        rw [el]
        have hb : ((((done ++ [c]).drop 17).map (CE.pair X.env pos)).length == 17) = false := by simp; omega
        rw [if_neg (by rw [hb]; exact Bool.false_ne_true)]
        exact wpAny_pure ⟨done ++ [c], left, e', rfl, .inr ⟨by simp; omega, d, rfl, hn, I'⟩⟩
  · rintro st s' ⟨done, left, e, er, h⟩
    have el : left = [] := by
      cases left with
      | nil => rfl
      | cons c l => cases er
    subst el
    rw [List.append_nil] at e
    have ld := congrArg List.length e
    rw [List.length_append, h1] at ld
    rcases h with ⟨hd, _⟩ | ⟨hd, d, rfl, hn, I'⟩
    · omega
    · have e2 : done.drop 17 = es2 := by
        rw [← e, List.drop_append_of_le_length (by omega), List.drop_of_length_le (by omega), List.nil_append]
      rw [e2]
      dsimp only
      have hemp : (es2.map (CE.pair X.env pos)).isEmpty = false := by
        cases es2 with
        | nil => exact absurd rfl h0
        | cons c r => rfl
      rw [if_neg (by rw [hemp]; exact Bool.false_ne_true)]
      have m10 : mergeK [] (es1.map CE.kv) ≠ [] := by
        cases es1 with
        | nil => simp at h1
        | cons c r =>
          intro z
          have : ∀ (more kvs : List (Key × V)), kvs ≠ [] → mergeK kvs more ≠ [] := by
            intro more
            induction more with
            | nil => intro kvs h; exact h
            | cons x xs ih =>
              intro kvs h
              refine ih (putK kvs x.1 x.2) ?_
              unfold putK
              split
              · intro c2; exact h (List.map_eq_nil_iff.mp c2)
              · simp
          refine this (r.map CE.kv) (putK [] c.key c.val) ?_ z
          show (if _ then _ else _) ≠ _
          simp
      refine wpAny_bind (wpAny_bind (wpAny_holding (sub_short ok2 I' h2 fun d2 s2 hn2 I2 => ?_)))
      have ned : d ≠ d2 := fun c => by rw [← c, upd_same] at hn2; cases hn2
      have ed : upd (upd H d (.dK (mergeK [] (es1.map CE.kv)))) d2 (.dK (mergeK [] (es2.map CE.kv))) d = some (.dK (mergeK [] (es1.map CE.kv))) := by rw [upd_ne ned, upd_same]
      have l1 := length_mergeK (es1.map CE.kv) []
      have l2 := length_mergeK (es2.map CE.kv) []
      rw [List.length_map, List.length_nil] at l1 l2
      refine wpAny_bind (wpAny_onRaise (wpAny_holding (dk_merge I2 ned ed upd_same m10 (by omega) fun s3 I3 => wpAny_pure (wpAny_pure (q d s3 _ hn ?_ upd_same I3)))))
      have hn2' : H d2 = none := by rw [upd_ne ned.symm] at hn2; exact hn2
      exact same_mut (same_mut (same_new hn) hn2') hn
/-- a display of more than 16 pairs of constants: what it makes is told, the rest stays -/
def tDispL (kvs : List (Key × V)) : TE := fun _ H Q => ∀ p H', H p = none → Same H H' → H' p = some (.dK (mergeK (mergeK [] (kvs.take 17)) (mergeK [] (kvs.drop 17)))) → Q (.ref p) H'
inductive CPs (X : Cx) : List (Option Expr) → List Expr → List (Key × V) → Prop
  | nil : CPs X [] [] []
  | cons {k v : Expr} {key : Key} {val : V} {ks : List (Option Expr)} {vs : List Expr} {kvs : List (Key × V)} : PE X k (tC (kV key)) → PE X v (tC val) → CPs X ks vs kvs → CPs X (some k :: ks) (v :: vs) ((key, val) :: kvs)
theorem CPs.es {ks : List (Option Expr)} {vs : List Expr} {kvs : List (Key × V)} (c : CPs X ks vs kvs) : ∃ es : List CE, (∀ e ∈ es, CeOk X e) ∧ ks = es.map (fun e => some e.k) ∧ vs = es.map (·.v) ∧ kvs = es.map CE.kv := by
  induction c with
  | nil => exact ⟨[], (fun _ h => nomatch h), rfl, rfl, rfl⟩
  | @cons k v key val ks vs kvs hk hv _ ih =>
    obtain ⟨es, ok, e1, e2, e3⟩ := ih
    refine ⟨⟨k, v, key, val⟩ :: es, fun e he => ?_, by rw [e1]; rfl, by rw [e2]; rfl, by rw [e3]; rfl⟩
    rcases List.mem_cons.mp he with rfl | he
    · exact ⟨hk, hv⟩
    · exact ok e he
theorem zip_es {env : Env} : ∀ es : List CE, (evalEachOpt (es.map fun e => some e.k) env).zip ((evalEach (es.map (·.v)) env).map fun v => do let x ← v; standAt pos; pure x) = es.map fun e => (some (CE.pair env pos e).1, (CE.pair env pos e).2)
  | [] => rfl
  | e :: es => by
    have := zip_es (env := env) es
    show (some (eval e.k env), (do let x ← eval e.v env; standAt pos; pure x)) :: _ = _
    rw [List.map_cons]
    exact congrArg _ this
theorem pe_dispL {keys : List (Option Expr)} {values : List Expr} {kvs : List (Key × V)} (c : CPs X keys values kvs) (hl : 18 ≤ kvs.length ∧ kvs.length ≤ 32) : PE X (.Dict keys values pos) (tDispL kvs) := by
  obtain ⟨es, ok, rfl, rfl, rfl⟩ := c.es
  rw [List.length_map] at hl
  refine ⟨fun pins s σ H Q I h => ?_⟩
  rw [arm_eval_Dict, zip_es]
  refine wpAny_bind (wpAny_standAt ?_)
  rw [← List.take_append_drop 17 es]
  refine display_long (fun e he => ok e (List.mem_of_mem_take he)) (fun e he => ok e (List.mem_of_mem_drop he)) I (by rw [List.length_take]; omega) (by rw [List.length_drop]; omega) (fun c => by have := congrArg List.length c; rw [List.length_drop] at this; simp at this; omega) fun d s' H' hn hs hd I' => ⟨.ref d, H', I', rfl, h d H' hn hs ?_⟩
  rw [← List.map_take, ← List.map_drop]
  exact hd
end
end U
/-! U8: instances of the program's classes: attributes, methods, making; the class is told by the text, its facts are the derivation's. -/
namespace U
open PySem PySem.Spec L2
/-- e.f, e an instance of C -/
def tFldC (C : Addr) (ta : TE) (f : Str) : TE := fun σ H Q => ta σ H fun x H1 => ∃ a dx fs v, x = .ref a ∧ H1 a = some (.ins C dx fs) ∧ fs.lookup f = some v ∧ Q v H1
def sFldC (C : Addr) (ta tv : TE) (f : Str) : TS := fun D σ H => tv σ H fun y H1 => ta σ H1 fun x H2 => ∃ a dx fs, x = .ref a ∧ H2 a = some (.ins C dx fs) ∧ fs.length < 1000 ∧ D.nx σ (upd H2 a (.ins C dx (putF f y fs)))
def sFldAugC (C : Addr) (ta tv : TE) (rd : V → V → Hp → VK → Prop) (f : Str) : TS := fun D σ H => ta σ H fun x H1 => ∃ a dx fs v, x = .ref a ∧ H1 a = some (.ins C dx fs) ∧ fs.lookup f = some v ∧
  tv σ H1 fun y H2 => rd v y H2 fun z H3 => ∃ dx' fs', H3 a = some (.ins C dx' fs') ∧ fs'.length < 1000 ∧ D.nx σ (upd H3 a (.ins C dx' (putF f z fs')))
section
variable {X : Cx} {o e value : Expr} {f : Str} {pos pos' tpos : Pos} {ta tv : TE} {C : Addr}
theorem pe_fldC (c : Cls X.K C) (n : NoAttr X.K C f) (he : PE X e ta) (hb : attributeBase e f X.env (eval e X.env) = eval e X.env) : PE X (.Attribute e f pos) (tFldC C ta f) := by
  refine ⟨fun pins s σ H Q I h => ?_⟩
  refine attr_of hb (thn (he.run pins s σ H _ I h) fun u s1 ⟨x, H1, I1, rx, a, dx, fs, v, ex, ea, l, q⟩ => ?_)
  subst ex
  obtain rfl : u = Value.ref a := rx
  exact getattr_ok I1 ea c n l fun u' s2 I2 ru => ⟨v, H1, I2, ru, q⟩
theorem ps_fldC (c : Cls X.K C) (n : NoAttr X.K C f) (ha : PE X o ta) (hv : PE X value tv) (hs : swapsWith value (some (.Attribute o f pos')) pos.line X.env = pure false) : PS X (.Assign [.Attribute o f pos'] value pos) (sFldC C ta tv f) := by
  refine ⟨fun pins s σ H D I h => ?_⟩
  refine plainObj_wpAny_Assign_Attribute (thn (hv.run pins s σ H _ I h) fun u s1 ⟨y, H1, I1, ry, q⟩ => thn (ha.run pins s1 σ H1 _ I1 q) fun ov s2 ⟨x, H2, I2, rx, a, dx, fs, ex, ea, l, q2⟩ => ?_) hs
  subst ex
  obtain rfl : ov = Value.ref a := rx
  exact setattr_ok I2 ea c n l ry fun s3 I3 => ⟨σ, _, I3, q2⟩
theorem ps_fldaugC {op : Operator} {rd : V → V → Hp → VK → Prop} (c : Cls X.K C) (n : NoAttr X.K C f) (ha : PE X o ta) (hv : PE X value tv) (hop : PIp X op rd) : PS X (.AugAssign (.Attribute o f tpos) op value pos) (sFldAugC C ta tv rd f) := by
  refine ⟨fun pins s σ H D I h => ?_⟩
  refine wpAny_AugAssign_AttributeAny (thn (ha.run pins s σ H _ I h) fun ov s1 ⟨x, H1, I1, rx, a, dx, fs, v, ex, ea, l, q⟩ => ?_)
  subst ex
  obtain rfl : ov = Value.ref a := rx
  refine getattr_ok I1 ea c n l fun u s2 I2 ru => thn (hv.run pins s2 σ H1 _ I2 q) fun w3 s3 ⟨y, H2, I3, ry, q3⟩ => thn (hop pins s3 σ H2 v y u w3 _ I3 ru ry q3) fun w4 s4 ⟨z, H3, I4, rz, dx', fs', ea', l', q4⟩ => ?_
  exact setattr_ok I4 ea' c n l' rz fun s5 I5 => ⟨σ, _, I5, q4⟩
end
/-- a method of a class of the program, by its name: that it keeps its promise -/
structure OkM (P : Program) (w : World) (K : PySem.W.Frag) (mg : Str → Option Value) (base : Heap) (k : Nat) (C : Addr) (m : Str) (ps : List Str) (sp : Sp) : Prop where
  ex : ∃ (f : Addr) (fd : FuncData), Cls K C ∧ Meth K C m f ∧ FnOk P w K mg base CX0 k f fd ps sp ∧ Binds K fd ps []
/-- a class of the program, by its name: it is made by __init__, which keeps its promise -/
structure OkC (P : Program) (w : World) (K : PySem.W.Frag) (mg : Str → Option Value) (base : Heap) (k : Nat) (x : Str) (C : Addr) (ps : List Str) (sp : Sp) : Prop where
  ex : ∃ (f : Addr) (fd : FuncData), mg x = some (.ref C) ∧ Mk K C f ∧ FnOk P w K mg base CX0 k f fd ps sp ∧ Binds K fd ps []
section
variable {X : Cx} {k : Nat} {C : Addr} {x m : Str} {ps : List Str} {sp : Sp} {p pos apos : Pos} {e o : Expr} {es : List Expr} {ta : TE} {t : TA}
theorem pe_mth {pl : Sem Bool} (O : OkM X.prog X.w X.K X.mg X.base k C m ps sp) (he : PE X o ta) (hr : Room k X.A) (ha : PA X (e :: es) t)
    (hst : starEach (e :: es) X.env = (false, eval e X.env) :: starEach es X.env := by rfl) (hpl : (backTo pos (starEach es X.env)).any (·.1) = false := by rfl)
    (ht : eval (.Call (.Attribute o m apos) (e :: es) [] pos) X.env = (do
      let ov ← eval o X.env
      standAt apos.atName
      let (f, first) ← holding [ov] (getMethod ov m pl)
      callWith pos f first (backTo pos (starEach (e :: es) X.env)) (backToKw pos (keywordEach [] X.env))) := by rfl) :
    PE X (.Call (.Attribute o m apos) (e :: es) [] pos) (tMeth C m sp [] E0 ta t) := by
  obtain ⟨f, fd, c, hm, F, hb⟩ := O.ex
  exact pe_meth he c hm F hr hb .nil pass0 ha hst hpl ht
theorem pe_mth0 {pl : Sem Bool} (O : OkM X.prog X.w X.K X.mg X.base k C m ps sp) (he : PE X o ta) (hr : Room k X.A)
    (ht : eval (.Call (.Attribute o m apos) [] [] pos) X.env = (do
      let ov ← eval o X.env
      standAt apos.atName
      let (f, first) ← holding [ov] (getMethod ov m pl)
      callWith pos f first (backTo pos (starEach [] X.env)) (backToKw pos (keywordEach [] X.env))) := by rfl) :
    PE X (.Call (.Attribute o m apos) [] [] pos) (tMeth C m sp [] E0 ta tNil) := by
  obtain ⟨f, fd, c, hm, F, hb⟩ := O.ex
  exact pe_meth0 he c hm F hr hb .nil pass0 ht
theorem pe_mk (O : OkC X.prog X.w X.K X.mg X.base k x C ps sp) (hr : Room (k + 1) X.A) (hg : Gl X x) (ha : PA X (e :: es) t) (hdb : (x == ("__debug__" : Str)) = false := by decide)
    (he : starEach (e :: es) X.env = (false, eval e X.env) :: starEach es X.env := by rfl) (hpl : (backTo pos (starEach es X.env)).any (·.1) = false := by rfl) : PE X (.Call (.Name x p) (e :: es) [] pos) (tMake C sp [] E0 t) := by
  obtain ⟨f, fd, hm, M, F, hb⟩ := O.ex
  exact pe_make M F hr hg hm hb .nil pass0 ha hdb he hpl
theorem pe_mk0 (O : OkC X.prog X.w X.K X.mg X.base k x C ps sp) (hr : Room (k + 1) X.A) (hg : Gl X x) (hdb : (x == ("__debug__" : Str)) = false := by decide) : PE X (.Call (.Name x p) [] [] pos) (tMake C sp [] E0 tNil) := by
  obtain ⟨f, fd, hm, M, F, hb⟩ := O.ex
  exact pe_make0 M F hr hg hm hb .nil pass0 hdb
end
/-! steps -/
section
variable {σ : St} {H : Hp} {Q : VK} {D : Ends} {ta tv : TE} {t : TA} {C : Addr} {f m : Str} {sp : Sp} {rd : V → V → Hp → VK → Prop} {u : TS}
theorem r_fldC (h : ta σ H fun x H1 => ∃ a dx fs v, x = .ref a ∧ H1 a = some (.ins C dx fs) ∧ fs.lookup f = some v ∧ Q v H1) : tFldC C ta f σ H Q := h
theorem r_sfldC (h : tv σ H fun y H1 => ta σ H1 fun x H2 => ∃ a dx fs, x = .ref a ∧ H2 a = some (.ins C dx fs) ∧ fs.length < 1000 ∧ D.nx σ (upd H2 a (.ins C dx (putF f y fs)))) : sFldC C ta tv f D σ H := h
theorem r_sqF (h : tv σ H fun y H1 => ta σ H1 fun x H2 => ∃ a dx fs, x = .ref a ∧ H2 a = some (.ins C dx fs) ∧ fs.length < 1000 ∧ u D σ (upd H2 a (.ins C dx (putF f y fs)))) : tSq (sFldC C ta tv f) u D σ H := r_sq h
theorem r_meth (h : ta σ H fun x H1 => ∃ a dx fs, x = .ref a ∧ H1 a = some (.ins C dx fs) ∧ fs.lookup m = none ∧ t σ H1 fun vs H2 => sp (x :: vs) H2 Q E0) : tMeth C m sp [] E0 ta t σ H Q := by
  have e : (fun (x : V) (H1 : Hp) => ∃ a dx fs, x = .ref a ∧ H1 a = some (.ins C dx fs) ∧ fs.lookup m = none ∧ t σ H1 fun vs H2 => sp (x :: (vs ++ [])) H2 Q E0) = fun x H1 => ∃ a dx fs, x = .ref a ∧ H1 a = some (.ins C dx fs) ∧ fs.lookup m = none ∧ t σ H1 fun vs H2 => sp (x :: vs) H2 Q E0 := by
    funext x H1
    simp only [List.append_nil]
  show ta σ H _
  rw [e]
  exact h
theorem r_make (h : t σ H fun vs H1 => ∀ x dx, H1 x = none → H1 dx = none → dx ≠ x → sp (.ref x :: vs) (upd (upd H1 dx (.own x)) x (.ins C dx [])) (fun v H2 => v = .non ∧ Q (.ref x) H2) E0) : tMake C sp [] E0 t σ H Q := by
  have e : (fun (vs : List V) (H1 : Hp) => ∀ x dx, H1 x = none → H1 dx = none → dx ≠ x → sp (.ref x :: (vs ++ [])) (upd (upd H1 dx (.own x)) x (.ins C dx [])) (fun v H2 => v = .non ∧ Q (.ref x) H2) E0) = fun vs H1 => ∀ x dx, H1 x = none → H1 dx = none → dx ≠ x → sp (.ref x :: vs) (upd (upd H1 dx (.own x)) x (.ins C dx [])) (fun v H2 => v = .non ∧ Q (.ref x) H2) E0 := by
    funext vs H1
    simp only [List.append_nil]
  show t σ H _
  rw [e]
  exact h
end
end U
/-! U9: exceptions of the program's own whose __init__ calls super().__init__ first; defs that raise; the head's Hook with such __init__s and further tests. -/
namespace U
open PySem PySem.Spec PyProof.Rows L2
open NdefX (NF ncx envF NScope CellsAt startF inv_startN)
/-! ### __init__ of such a class -/
/-- what the written part says of it: D the class that the cell names -/
structure SupF (P : Program) (K : PySem.W.Frag) (D : Addr) (F : NF) (f cc : Addr) (fd : FuncData) : Prop where
  ex : ∃ (oc : Value) (od : Option Addr) (kV doc pm : Value) (an : Option Addr) (ct : Value) (osl : Array (Option Value)),
    fd = PySem.W.ksFn F.name F.qual F.params F.body F.scope .none kV doc pm an (.ref F.c) ct cc ∧ K.lookup f = some ⟨oc, od, .func fd, osl⟩ ∧ PySem.W.codeIn K (.ref F.c) F.qual = true
  cl : F.cl = [(("__class__" : Str), cc)]
  code : ∃ (ccl : Value) (cdd : Option Addr) (vs : Array Value) (ccs : Array (Option Value)) (file : Str) (tf : Tok), K.lookup F.c = some ⟨ccl, cdd, .fields vs, ccs⟩ ∧ vs[2]? = some (.str file tf) ∧ ((P.main.file : Str) == file) = true
  cell : ∃ (cl : Value) (cld : Option Addr) (csl : Array (Option Value)), K.lookup cc = some ⟨cl, cld, .cell (some (.ref D)), csl⟩
  cls : ∃ cdD, PySem.W.clsIn K D = some cdD
  top : (P.main.scope.names.lookup ("super" : Str)).isSome = false
/-- the class C: its super() within D gives ValueError's __init__ -/
structure SupC (K : PySem.W.Frag) (C D : Addr) : Prop where
  oex : OexC K C
  sub : PySem.W.mroIn K C (.ref D) = some true
  nx : PySem.W.ks_superIn K C D "__init__" = some (some (.builtin "ValueError.__init__"))
  ve : PySem.W.subIn K (.ref C) (.type "ValueError") = some true
  op : PySem.W.nsIn K PySem.cStatics "thirdparty.any" = some none
theorem call_bwV {prog : Program} {w : World} {A : Around} {E : Value → Shared → Prop} {h : Heap} {g : Array GenState} {d : Drawn} {t : Nat} {os : OsState} {nm q : Str} {C N : Addr} {bs bm : List Value} {hdct : Bool} {sn : List Str} {sub : List Value} {ab : Bool} {col : Option Bool} {dd : Option Addr} {k0 k1 k2 k3 k5 : Option Value}
    {u e t0 : Addr} {rest : List Value} {Q : Value → Shared → Prop}
    (hC : h.get? C = some (excClassObj nm q C N bs bm hdct sn sub ab col dd k0 k1 k2 k3 k5 "ValueError.__new__")) (he : h.get? e = some (HandSPX.excO C t0)) (hu : h.get? u = some (PySem.W.kxs_mw "ValueError.__init__" e)) (hrest : rest.length ≤ sizeLine)
    (hq : ∀ h' t1, (∀ b o, b ≠ e → h.get? b = some o → h'.get? b = some o) → h'.get? e = some (HandSPX.excO C t1) → Q .none ⟨h', g, d, t, os⟩) :
    wpAny (model prog w) A (call (.ref u) rest) Q E ⟨h, g, d, t, os⟩ := by
  refine wpAny_call (codeAny_of_tree ?_)
  show wpAny _ A.in1 (callAny (.ref u) ⟨rest, []⟩) _ _ _
  simp only [callAny]
  refine wpAny_bind (wpAny_load hu ?_)
  simp only [PySem.W.kxs_mw, show (Value.type "method-wrapper" == Value.type "method" || Value.type "method-wrapper" == Value.type "builtin_function_or_method" || Value.type "method-wrapper" == Value.type "method-wrapper") = true by decide, if_true]
  refine W.KFB.if_so (by decide) ?_
  refine wpAny_bind (ESX.check_bound F.excBase_ValueError hC he rfl ?_)
  refine wpAny_bind (wpAny_pure (wpAny_pure ?_))
  refine ⟨Code.quiet_builtin _ (by decide +kernel), codeAny_builtin F.excBase_ValueError.initEntry ?_⟩
  rw [Around.under_plainId F.excBase_ValueError.init.plain _]
  wp_walk
  refine hq _ h.objs.size (fun b o hb ho => ?_) ?_
  · rw [Heap.get?_update_other _ _ (Ne.symm hb)]
    exact Heap.get?_push_of_some _ ho
  · rw [Heap.get?_update_self _ (Heap.get?_push_of_some _ he) rfl]
    rfl
section
variable {P : Program} {w : World} {K : PySem.W.Frag} {mg : Str → Option Value} {base : Heap} {N ps : List Str} {F : NF} {f cc D : Addr} {fd : FuncData} {A : Around} {outer : List Env} {s0 : Shared} {H0 : Hp} {E : XK}
/-- super().__init__('..'): nothing of it is told -/
theorem sup_run (SF : SupF P K D F f cc fd) (S : NScope N ps ["__class__"] F.scope) {ar : Arg} (hp : (F.params.posonlyargs ++ F.params.args).head? = some ar) (hn0 : N[0]? = some ar.arg) (ha0 : F.scope.names.lookup ar.arg = some .local)
    (hks : F.scope.names.lookup ("super" : Str) = some .globalImplicit) (hms : mg "super" = none) {s : Shared} {σ : L2.St} {H : Hp} {a C : Addr} {p0 p1 p2 p3 p4 p5 : Pos} {z : Str} {j : Nat} {pl : Sem Bool} (he : ∀ env : Env, eval (.Call (.Attribute (.Call (.Name "super" p0) [] [] p1) "__init__" p2) [.Constant (.str z) j p3] [] p4) env = (do
      let ov ← attributeBase (.Call (.Name "super" p0) [] [] p1) "__init__" env (eval (.Call (.Name "super" p0) [] [] p1) env)
      standAt p2.atName
      let (f, first) ← holding [ov] (getMethod ov "__init__" pl)
      callWith p4 f first (backTo p4 (starEach [.Constant (.str z) j p3] env)) []))
    {body : List Stmt} {Q : Flow → Shared → Prop} {E' : Value → Shared → Prop}
    (I : Inv (ncx CX0 P w K mg base N F f A outer s0 H0 E) [] σ H s) (h0 : σ[0]? = some (some (.ref a))) (e : H a = some (exo a C none)) (T : SupC K C D) (h : ∀ s', Inv (ncx CX0 P w K mg base N F f A outer s0 H0 E) [] σ H s' → Q .next s') :
    PySem.wpAt (model P w) (A.deeper (envF F f s0.heap.objs.size)) (.func body (envF F f s0.heap.objs.size)) (exec (.Expr (.Call (.Attribute (.Call (.Name "super" p0) [] [] p1) "__init__" p2) [.Constant (.str z) j p3] [] p4) p5) (envF F f s0.heap.objs.size)) Q E' s := by
  obtain ⟨oc, od, kV, doc, pm, an, ct, osl, rfl, lk, hcd⟩ := SF.ex
  obtain ⟨ccl, cdd, vs, ccs, file, tf, lkc, hvs, hfile⟩ := SF.code
  obtain ⟨clv, cld, csl, lkx⟩ := SF.cell
  obtain ⟨cdD, hD⟩ := SF.cls
  have X : K.In s.heap := I.kIn
  obtain ⟨oD, hD1, hD2⟩ : ∃ oD, s.heap.get? D = some oD ∧ oD.data = .cls cdD := by
    unfold PySem.W.clsIn at hD
    split at hD
    · rename_i c d cd' sl ho
      cases hD
      exact ⟨_, X _ _ ho, rfl⟩
    · cases hD
  obtain ⟨t1, hx⟩ := exo_at I.hok e
  obtain ⟨m, hns, hloc⟩ := id I.loc
  have hself : m ar.arg = some (.ref a) := by
    obtain ⟨u, ru, lu⟩ := hloc 0 ar.arg (.ref a) hn0 h0 (.inl ha0)
    cases (show u = Value.ref a from ru)
    rcases lu with ⟨_, q⟩ | ⟨q, _⟩
    · exact q
    · have q : F.scope.names.lookup ar.arg = some .cell ∨ F.scope.names.lookup ar.arg = some .free := q
      rw [ha0] at q
      rcases q with q | q <;> cases q
  have hkc : F.scope.names.lookup ("__class__" : Str) = some .free := S.frk _ (by simp)
  obtain ⟨mb, hb1, hb2⟩ := I.mod.blt
  refine ks_wpAt_Expr_any (hi := by show (F.scope.kind == ScopeKind.module && _) = false; rw [S.kind]; rfl) (ks_wpAt_MethodCall ?_ (he _))
  refine ks_wpAt_super_base (attr := "__init__") (f := f) (env := envF F f s0.heap.objs.size) hks hkc (by decide) rfl (X _ _ lk) rfl hp rfl (X _ _ lkc) rfl hvs hfile SF.top ?_
  refine PySem.W.ks_loadName_global S.kind hks (Calls.loadGlobal_builtin (env := envF F f s0.heap.objs.size) (I.mod.glob.keeps I.bk) hms (hb1.keeps I.bk) (v := .type "super") ((hb2 _ (by decide)).trans (by decide +kernel)) ⟨rfl, ?_⟩)
  refine wpAny_loadName_free (c := cc) S.kind hkc (by show F.cl.lookup _ = _; rw [SF.cl]; rfl) ⟨_, X _ _ lkx, rfl⟩ ?_
  refine wpAny_loadName_local S.kind ha0 hns hself ?_
  obtain ⟨hp0, g, d, t, os⟩ := s
  refine ks_wpAny_isType_cls hD1 hD2 ⟨rfl, ?_⟩
  refine ks_wpAny_call_super hD1 hD2 hx rfl (fun c z => by cases z) (PySem.W.looks_mroIn X T.sub) (fun h' e' k => ?_)
  -- the super object stands
  have I1 : Inv (ncx CX0 P w K mg base N F f A outer s0 H0 E) [] σ H ⟨h', g, d, t, os⟩ := I.kept (t' := t) k
  have X1 : K.In h' := X.keeps k
  obtain ⟨nm, q, NC, bs, bm, sn, sub, ab, col, dd, k0, k1, k2, k3, k5, hC, hbm⟩ := T.oex.cls
  have hcl : PySem.W.clsIn K C = some { name := nm, bases := bs, mro := .ref C :: bm, ns := NC, qualname := q, hasDict := true, slotNames := sn, subclasses := sub, abstract := ab, collection := col, hasDel := false } := by unfold PySem.W.clsIn; rw [hC] <;> rfl
  have hxC : a ≠ C := fun z => by
    have e1 := X _ _ hC
    rw [← z, hx] at e1
    cases e1
  have hal : PySem.W.alongIn K "__init__" (((Value.ref C :: bm).dropWhile (· != .ref D)).drop 1) = some (some (.builtin "ValueError.__init__")) := by
    have n := T.nx
    unfold PySem.W.ks_superIn at n
    rw [hcl] at n
    exact n
  have hI : PySem.W.Looks (model P w) h' (isInstance (.ref a) (.type "ValueError")) true := (PySem.W.InstAt.type (ox := ({ cls := .ref C, dict := none, data := .fields #[.ref t1, .none, .none, .none, .bool false, .none] } : Obj)) (od := none) ⟨k _ _ hx, rfl, rfl, trivial⟩).andThen (PySem.W.looks_subIn X1 T.ve)
  refine PySem.W.kxs_getMethod PySem.W.kxs_ValueError e' (PySem.W.looks_opaque X1 T.op) (l₀ := .ref C :: bm) (fun A Q E s k q => wpAny_bind ((PySem.W.looks_clsIn X1 hcl) A _ E s k (wpAny_pure q))) rfl X1 hal hI hxC (by decide) ?_
  -- the method-wrapper stands
  have k2 : ∀ b o, h'.get? b = some o → (h'.push (PySem.W.kxs_mw "ValueError.__init__" a)).get? b = some o := fun b o z => Heap.get?_push_of_some _ z
  have hu : (h'.push (PySem.W.kxs_mw "ValueError.__init__" a)).get? h'.objs.size = some (PySem.W.kxs_mw "ValueError.__init__" a) := Heap.get?_push_at rfl rfl
  have I2 : Inv (ncx CX0 P w K mg base N F f A outer s0 H0 E) [] σ H ⟨h'.push (PySem.W.kxs_mw "ValueError.__init__" a), g, d, t + 1, os⟩ := I1.kept (t' := t + 1) k2
  have hun : H h'.objs.size = none := I1.hok.fresh (Nat.le_refl _)
  have hfr : h'.objs.size ∉ (ncx CX0 P w K mg base N F f A outer s0 H0 E).fs := I1.nofs (Nat.le_refl _)
  have hlo : h'.objs.size ≠ s0.heap.objs.size := fun z => by
    have q := I1.lt
    have q : s0.heap.objs.size < h'.objs.size := q
    omega
  have I3 : Inv (ncx CX0 P w K mg base N F f A outer s0 H0 E) [(h'.objs.size, PySem.W.kxs_mw "ValueError.__init__" a)] σ H ⟨h'.push (PySem.W.kxs_mw "ValueError.__init__" a), g, d, t + 1, os⟩ :=
    ⟨I2.ok, I2.os, I2.bare, I2.base, I2.loc, I2.cell, I2.free, I2.freeC, fun p hp => by
      have hp : p ∈ ([] : List (Addr × Obj)) ++ [(h'.objs.size, PySem.W.kxs_mw "ValueError.__init__" a)] := hp
      rw [List.nil_append, List.mem_singleton] at hp
      subst hp
      exact ⟨hu, hun, hlo, hfr, fun v z => by cases z⟩, I2.hok, I2.len⟩
  have ha : PA (ncx CX0 P w K mg base N F f A outer s0 H0 E) [.Constant (.str z) j p3] (tCons (tC (.str z)) tNil) := pa_cons pe_str pa_nil
  refine PySem.W.kxs_callWith (i := "ValueError.__init__") (u := h'.objs.size) (x := a) (by rfl) ?_
  refine Calls.evalArgs_plain (thn (ha.run p4 _ _ σ H (fun vs H1 => vs = [V.str z] ∧ H1 = H) I3 ⟨rfl, rfl⟩) fun us s3 ⟨vs1, H1, I4, r1, ev, eH⟩ => ?_)
  subst ev
  rw [eH] at I4
  have u3 := (I4.pin (h'.objs.size, PySem.W.kxs_mw "ValueError.__init__" a) (List.mem_append_right _ (List.mem_singleton_self _))).1
  refine ⟨u3, ?_⟩
  obtain ⟨t3, hx3⟩ := exo_at I4.hok e
  have X3 := I4.kIn
  obtain ⟨h3, g3, d3, tk3, os3⟩ := s3
  have hl : us.length ≤ sizeLine := by
    rw [← Paired.length r1, sizeLine_eq]
    show 1 ≤ 16777216
    omega
  refine call_bwV (X3 _ _ hC) hx3 u3 hl fun h4 t4 k4 hx4 => ?_
  have J := I4.write (t' := tk3) (x := a) (e := a) (o := exo a C none) (by rw [e]; exact True.intro) (.inl rfl) k4 ⟨_, hx4⟩ (exo_ok hx4)
  have eu : upd H a (exo a C none) = H := by
    funext b
    by_cases hb : b = a
    · rw [hb, upd_same, e]
    · rw [upd_ne hb]
  rw [eu] at J
  exact h _ ⟨J.ok, J.os, J.bare, J.base, J.loc, J.cell, J.free, J.freeC, fun p hp => absurd (show p ∈ ([] : List (Addr × Obj)) from hp) (by simp), J.hok, J.len⟩
/-- THE RULE for such an __init__: its first statement, then the rest by its reading -/
theorem fn_ofS {k : Nat} {sp : Sp} {rest : List Stmt} (SF : SupF P K D F f cc fd) (S : NScope N ps ["__class__"] F.scope) {ar : Arg} (hp : (F.params.posonlyargs ++ F.params.args).head? = some ar) (hn0 : N[0]? = some ar.arg) (ha0 : F.scope.names.lookup ar.arg = some .local)
    (hks : F.scope.names.lookup ("super" : Str) = some .globalImplicit) (hms : mg "super" = none) {p0 p1 p2 p3 p4 p5 : Pos} {z : Str} {j : Nat} {pl : Sem Bool} (he : ∀ env : Env, eval (.Call (.Attribute (.Call (.Name "super" p0) [] [] p1) "__init__" p2) [.Constant (.str z) j p3] [] p4) env = (do
      let ov ← attributeBase (.Call (.Name "super" p0) [] [] p1) "__init__" env (eval (.Call (.Name "super" p0) [] [] p1) env)
      standAt p2.atName
      let (f, first) ← holding [ov] (getMethod ov "__init__" pl)
      callWith p4 f first (backTo p4 (starEach [.Constant (.str z) j p3] env)) []))
    (hb : F.body = .Expr (.Call (.Attribute (.Call (.Name "super" p0) [] [] p1) "__init__" p2) [.Constant (.str z) j p3] [] p4) p5 :: rest)
    (len : ∀ vs H Q E, sp vs H Q E → vs.length = ps.length)
    (hbody : ∀ (A : Around) (outer : List Env) (s : Shared) (H : Hp) (vs : List V) (Q : VK) (E : XK), Room k (A.deeper (envF F f s.heap.objs.size)) → sp vs H Q E → (∃ a C, vs[0]? = some (.ref a) ∧ H a = some (exo a C none) ∧ SupC K C D) ∧
      ∃ t, PSs (ncx CX0 P w K mg base N F f A outer s H E) rest t ∧ t { nx := fun _ H' => Q .non H', rt := Q } (startF N vs [none]) H) : FnOk P w K mg base CX0 (k + 1) f fd ps sp := by
  refine ⟨len, fun A outer s H args us vs Q E hr e0 hbi r hsp => ?_⟩
  have hl := len _ _ _ _ hsp
  have KX : K.In s.heap := e0.mod.kin.keeps fun b o e => (e0.bs b o e).1
  have lim : s.heap.NoLimit := e0.mod.nolimit.keeps fun b o e => (e0.bs b o e).1
  obtain ⟨oc, od, kV, doc, pm, an, ct, osl, hfd, lk, hcd⟩ := id SF.ex
  obtain ⟨clv, cld, csl, lkx⟩ := id SF.cell
  obtain ⟨nm, qn, par, bod, sc, cl, c⟩ := F
  have hcl : cl = [(("__class__" : Str), cc)] := SF.cl
  subst hcl
  have hb : bod = _ := hb
  subst hb
  subst hfd
  refine ks_codeAny_call_defAt (o := ⟨oc, od, .func (PySem.W.ksFn nm qn par _ sc .none kV doc pm an (.ref c) ct cc), osl⟩) (fd := PySem.W.ksFn nm qn par _ sc .none kV doc pm an (.ref c) ct cc) (binds := ps.zip us) hr.depth (KX _ _ lk) rfl lim (PySem.W.codeRec_of KX hcd) rfl hbi S.nocell (fun ⟨n, _⟩ hy => S.par n (List.of_mem_zip hy).1) (fun h₁ hns kp => ?_) S.co S.gen S.kind
  have CA : CellsAt [(("__class__" : Str), cc)] ["__class__"] [none] s.heap H := by
    have one : ∀ {y : Str} {c2 : Addr}, List.lookup y [(("__class__" : Str), cc)] = some c2 → y = "__class__" ∧ c2 = cc := fun {y c2} q => by
      have hm := PySem.mem_of_lookup q
      rw [List.mem_singleton] at hm
      injection hm with h1 h2
      exact ⟨h1, h2⟩
    refine ⟨rfl, fun y c2 q => ?_, fun x y c2 q1 q2 => (one q1).1.trans (one q2).1.symm, fun i y hi => ?_⟩
    · obtain ⟨_, rfl⟩ := one q
      have z := e0.bs _ _ (e0.mod.kin _ _ lkx)
      exact ⟨z.2, _, _, z.1, rfl⟩
    · cases i with
      | zero =>
        have e : "__class__" = y := by simpa using hi
        subst e
        exact ⟨cc, rfl, fun v hv => by simp at hv⟩
      | succ i => simp at hi
  obtain ⟨⟨a, C0, hv0, ha, T⟩, t, ht, hq⟩ := hbody A outer s H vs Q E (hr.deeper _) hsp
  have I := inv_startN (CX := CX0) (mg := mg) (f := f) (E := E) (tk := s.toks + (ps.zip us).length) S hr.hd e0 hl r CA hns kp
  have h0 : (startF N vs [none])[0]? = some (some (.ref a)) := by
    unfold startF
    cases vs with
    | nil => simp at hv0
    | cons v vs =>
      have e : v = .ref a := by simpa using hv0
      subst e
      rfl
  refine ks_wpAt_execs_cons (sup_run (E := E) SF S hp hn0 ha0 hks hms he I h0 ha T fun s' J => ?_)
  refine wpAt_of_wpAny (wpAny_mono (ht.run [] s' _ H _ J hq) (fun fl s2 hs => ?_) fun e s2 hs => hs)
  cases fl with
  | ret u =>
    obtain ⟨v, σ', H', J, rv, q⟩ := hs
    exact ⟨v, H', J.os, J.bare, J.base, J.hok, rv, q⟩
  | next =>
    obtain ⟨σ', H', J, q⟩ := hs
    exact ⟨V.non, H', J.os, J.bare, J.base, J.hok, rfl, q⟩
  | brk =>
    obtain ⟨_, _, _, q⟩ := hs
    exact False.elim q
  | cont =>
    obtain ⟨_, _, _, q⟩ := hs
    exact False.elim q
end
end U
/-! U10: the head's Hook with own error classes and further tests. -/
namespace U
open PySem PySem.Spec PyProof.Rows L2
open He (AlD FnW DefD Fa obsD valD SaysD fnW ga ma fAd eqO frG frG_in asD ba)
/-! ### an own error class: __init__ of its own, which calls super().__init__ first -/
abbrev FnS : Type := Option (Str × Str × Arguments × FuncBody × Scope × Addr × List Str × Addr)
def fnS (K : PySem.W.Frag) (p : Str × Option Str) : FnS := match K.lookup (fAd K p) with
  | some ⟨_, _, .func fd, _⟩ => some (fd.name, fd.qualname, fd.params, fd.body, fd.scope, fd.globals, fd.closure.map (·.1), fd.builtins)
  | _ => none
/-- one such class: its name, __init__'s words, its fields -/
structure ErrD where
  x : Str
  params : Arguments
  body : List Stmt
  scope : Scope
  fs : List Str
def ErrD.qual (d : ErrD) : Str := d.x ++ ".__init__"
def ErrD.val (d : ErrD) : FnS := some ("__init__", d.qual, d.params, .stmts d.body, d.scope, mainGlobals, ["__class__"], builtinsNs)
/-- the class' object has the form of an own exception's over ValueError -/
def excObjB (K : PySem.W.Frag) (C : Addr) : Bool := match K.lookup C with
  | some ⟨.type "type", _, .cls cd, sl⟩ => (match cd.mro, sl.toList with
    | .ref C' :: bm, [_, _, _, _, some (.builtin n), _] => C' == C && n == "ValueError.__new__" && !cd.hasDel && HandSPX.refsVE bm && cd.hasDict
    | _, _ => false)
  | _ => false
def supB (file : Str) (K : PySem.W.Frag) (D : Addr) (f : Addr) (q : Str) : Bool := (match K.lookup f with
  | some ⟨_, _, .func fd, _⟩ => (PySem.W.codeIn K fd.code q && (match fd.defaults with
    | .none => true
    | _ => false)) && ((match fd.code with
    | .ref c => (match K.lookup c with
      | some ⟨_, _, .fields vs, _⟩ => (match (vs[2]? : Option Value) with
        | some (.str fi _) => file == fi
        | _ => false)
      | _ => false)
    | _ => false) && (match fd.closure with
    | [(_, cc)] => (match K.lookup cc with
      | some ⟨_, _, .cell (some (.ref D')), _⟩ => D' == D
      | _ => false)
    | _ => false))
  | _ => false) && (PySem.W.clsIn K D).isSome
def errB (file : Str) (K : PySem.W.Frag) (d : ErrD) : Bool :=
  let C := ga K d.x
  let f := ma K C "__init__"
  (eqO (PySem.W.nsIn K mainGlobals d.x) (some (some (.ref C))) && (excObjB K C && (supB file K C f d.qual && eqO (PySem.W.findIn K (.ref C) "__init__") (some (some (.ref f)))))) &&
  ((eqO (PySem.W.findIn K (.ref C) "__setattr__") (some (some (.builtin "object.__setattr__"))) && (decide (PySem.W.subIn K (.ref C) (.type "BaseException") = some true) && (decide (PySem.W.typeIn K (.ref C) = some (.type "type")) && PySem.W.keepIn K (.ref C)))) &&
  ((decide (PySem.W.mroIn K C (.ref C) = some true) && (eqO (PySem.W.ks_superIn K C C "__init__") (some (some (.builtin "ValueError.__init__"))) && (decide (PySem.W.subIn K (.ref C) (.type "ValueError") = some true) && eqO (PySem.W.nsIn K PySem.cStatics "thirdparty.any") (some none)))) &&
  ((xfB K C && (decide (PySem.W.typeIn K (.ref f) = some (.type "function")) && d.fs.all fun x => eqO (PySem.W.findIn K (.ref C) x) (some none))) &&
  (eqO (PySem.W.findIn K (.ref C) "__class__") (some (some (.builtin "object.__class__"))) && (eqO (PySem.W.specialIn K (.builtin "object.__class__") "__get__") (some (some (.builtin "getset_descriptor.__get__"))) && (decide (PySem.W.takesIn K (.builtin "object.__class__") = some true) && decide (PySem.W.mroIn K C (.type "object") = some true)))))))
structure ErrF (P : Program) (K : PySem.W.Frag) (mg : Str → Option Value) (d : ErrD) (C f : Addr) (fd : FuncData) : Prop where
  g : mg d.x = some (.ref C)
  sc : SupC K C C
  sf : ∃ (c cc : Addr), SupF P K C ⟨"__init__", d.qual, d.params, d.body, d.scope, [(("__class__" : Str), cc)], c⟩ f cc fd
  ini : PySem.W.findIn K (.ref C) "__init__" = some (some (.ref f))
  fty : PySem.W.typeIn K (.ref f) = some (.type "function")
  xf : XfC K C
  no : ∀ x ∈ d.fs, PySem.W.findIn K (.ref C) x = some none
  ec : ExcC K C
theorem excObjB_ok {K : PySem.W.Frag} {C : Addr} (q : excObjB K C = true) : ∃ nm q N bs bm sn sub ab col dd k0 k1 k2 k3 k5, K.lookup C = some (excClassObj nm q C N bs bm true sn sub ab col dd k0 k1 k2 k3 k5 "ValueError.__new__") ∧ HandSPX.refsVE bm = true := by
  unfold excObjB at q
  split at q
  · rename_i dd cd sl ho
    split at q
    · rename_i C' bm k0 k1 k2 k3 n k5 hm hs
      simp only [Bool.and_eq_true, beq_iff_eq, Bool.not_eq_true'] at q
      obtain ⟨⟨⟨⟨rfl, rfl⟩, hdel⟩, ht⟩, hd⟩ := q
      obtain ⟨nm, bs, mro, ns, qn, hdd, sn, sub, ab, col, del⟩ := cd
      dsimp only at hm hdel hd
      subst hm hdel hd
      have hsl : sl = #[k0, k1, k2, k3, some (.builtin "ValueError.__new__"), k5] := by
        obtain ⟨l⟩ := sl
        simp only at hs
        rw [hs]
      subst hsl
      exact ⟨nm, qn, ns, bs, bm, sn, sub, ab, col, dd, k0, k1, k2, k3, k5, ho, ht⟩
    · cases q
  · cases q
theorem errB_ok {P : Program} {K : PySem.W.Frag} {h : Heap} {mg : Str → Option Value} (X : K.In h) (G : h.Ns mainGlobals mg) {d : ErrD} (ht : (P.main.scope.names.lookup ("super" : Str)).isSome = false) (q : errB P.main.file K d = true) (e : fnS K (d.x, some "__init__") = d.val) :
    ∃ fd, ErrF P K mg d (ga K d.x) (ma K (ga K d.x) "__init__") fd := by
  unfold errB at q
  simp only [Bool.and_eq_true] at q
  obtain ⟨⟨a1, a2, a3, a4⟩, ⟨b1, b2, b3, b4⟩, ⟨c1, c2, c3, c4⟩, ⟨d1, d2, d3⟩, ⟨e1, e2, e3, e4⟩⟩ := q
  have ox : OexC K (ga K d.x) := ⟨excObjB_ok a2, He.eqO_ok b1, of_decide_eq_true b2, of_decide_eq_true b3, b4⟩
  have hxf := xfB_ok d1
  unfold supB at a3
  obtain ⟨a3, a5⟩ := ba a3
  unfold fnS at e
  have e : (match K.lookup (ma K (ga K d.x) "__init__") with
    | some ⟨_, _, .func fd, _⟩ => some (fd.name, fd.qualname, fd.params, fd.body, fd.scope, fd.globals, fd.closure.map (·.1), fd.builtins)
    | _ => none) = d.val := e
  cases lk : K.lookup (ma K (ga K d.x) "__init__") with
  | none => rw [lk] at a3; cases a3
  | some o =>
    obtain ⟨oc, od, dt, osl⟩ := o
    rw [lk] at a3 e
    cases dt with
    | func fd =>
      obtain ⟨n1, n2, n3, n4, n5, n6, n7, n8, n9, n10, n11, n12, n13, n14, n15⟩ := fd
      have e : (some (n1, n2, n3, n4, n5, n6, n7.map (·.1), n15) : FnS) = (some (("__init__" : Str), d.qual, d.params, FuncBody.stmts d.body, d.scope, mainGlobals, [("__class__" : Str)], builtinsNs) : FnS) := e
      simp only [Option.some.injEq, Prod.mk.injEq] at e
      obtain ⟨h1, h2, h3, h4, h5, h6, h7, h8⟩ := e
      subst h1 h2 h3 h4 h5 h6 h8
      dsimp only at a3
      obtain ⟨rr, r2⟩ := ba a3
      obtain ⟨r1, r0⟩ := ba rr
      clear rr
      have hdv : n8 = .none := by
        cases n8 <;> first | rfl | cases r0
      subst hdv
      obtain ⟨r2, r3⟩ := ba r2
      have key : ∃ (fd : FuncData) (c cc : Addr), SupF P K (ga K d.x) ⟨"__init__", d.qual, d.params, d.body, d.scope, [(("__class__" : Str), cc)], c⟩ (ma K (ga K d.x) "__init__") cc fd := by
        split at r2
        · rename_i c0 c
          split at r2
          · rename_i u1 u2 vs u3 hc
            split at r2
            · rename_i fi tf hv
              split at r3
              · rename_i nm cc
                split at r3
                · rename_i v1 v2 D' v3 hcc
                  have hD : D' = ga K d.x := beq_iff_eq.mp r3
                  subst hD
                  have hn : nm = "__class__" := by simpa using h7
                  subst hn
                  exact ⟨_, _, cc, ⟨⟨oc, od, n9, n10, n11, n12, n14, osl, rfl, lk, r1⟩, rfl, ⟨u1, u2, vs, u3, fi, tf, hc, hv, r2⟩, ⟨v1, v2, v3, hcc⟩, Option.isSome_iff_exists.mp a5, ht⟩⟩
                · cases r3
              · cases r3
            · cases r2
          · cases r2
        · cases r2
      obtain ⟨fd, c, cc, sf⟩ := key
      exact ⟨fd, ⟨PySem.W.mg_of X G (He.eqO_ok a1), ⟨ox, of_decide_eq_true c1, He.eqO_ok c2, of_decide_eq_true c3, He.eqO_ok c4⟩, ⟨c, cc, sf⟩, He.eqO_ok a4, of_decide_eq_true d2, hxf, fun x hx => He.eqO_ok (List.all_eq_true.mp d3 x hx), ⟨hxf.ga, hxf.gg, hxf.exC, hxf.hdC, He.eqO_ok e1, He.eqO_ok e2, of_decide_eq_true e3, of_decide_eq_true e4⟩⟩⟩
    | _ => cases a3
/-! ### the Hook -/
abbrev AlU : Type := AlD × (Bool × List FnS)
def obsU (file : Str) (fa : List Fa) (fn : List DefD) (en : List ErrD) (t : PySem.W.Frag → Bool) (K : PySem.W.Frag) : AlU := (obsD fa fn K, (en.all (fun d => errB file K d) && t K, en.map fun d => fnS K (d.x, some "__init__")))
def valU (fn : List DefD) (en : List ErrD) : AlU := (valD fn, (true, en.map ErrD.val))
def SaysU (file : Str) (fa : List Fa) (fn : List DefD) (en : List ErrD) (t : PySem.W.Frag → Bool) (K : PySem.W.Frag) : Prop := obsU file fa fn en t K = valU fn en
def asU (g : Addr → Option Obj) (n : Nat) : List Addr := PySem.cStatics :: asD g n
def obsUG (file : Str) (n : Nat) (fa : List Fa) (fn : List DefD) (en : List ErrD) (t : PySem.W.Frag → Bool) (g : Addr → Option Obj) : AlU := obsU file fa fn en t (frG g (asU g n))
def hookU (file : Str) (n : Nat) (fa : List Fa) (fn : List DefD) (en : List ErrD) (t : PySem.W.Frag → Bool) : PySem.W.Hook where
  α := AlU
  obs := fun s => obsUG file n fa fn en t s.heap.get?
  val := fun _ => valU fn en
  says := fun _ h => ∃ K : PySem.W.Frag, K.In h ∧ SaysU file fa fn en t K
  of := fun _ _ e => ⟨_, frG_in, e⟩
  keeps := fun _ _ _ ⟨K, hK, c⟩ k => ⟨K, PySem.W.Frag.In.keeps hK k, c⟩
theorem obsUG_eq {file : Str} {n : Nat} {fa : List Fa} {fn : List DefD} {en : List ErrD} {t : PySem.W.Frag → Bool} {g : Addr → Option Obj} {s : Shared} (h : ∀ a, g a = s.heap.get? a) : obsUG file n fa fn en t g = (hookU file n fa fn en t).obs s := by
  have e : g = s.heap.get? := funext h
  rw [e] <;> rfl
section
variable {file : Str} {fa : List Fa} {fn : List DefD} {en : List ErrD} {t : PySem.W.Frag → Bool} {K : PySem.W.Frag}
theorem SaysU.d (c : SaysU file fa fn en t K) : SaysD fa fn K := congrArg (fun z : AlU => z.1) c
theorem SaysU.tst (c : SaysU file fa fn en t K) : t K = true := (ba (show (en.all (fun d => errB file K d) && t K) = true from congrArg (fun z : AlU => z.2.1) c)).2
theorem SaysU.err {P : Program} {h : Heap} {mg : Str → Option Value} (c : SaysU P.main.file fa fn en t K) (X : K.In h) (G : h.Ns mainGlobals mg) (ht : (P.main.scope.names.lookup ("super" : Str)).isSome = false) (i : Nat) {d : ErrD} (hd : en[i]? = some d := by rfl) :
    ∃ fd, ErrF P K mg d (ga K d.x) (ma K (ga K d.x) "__init__") fd := by
  have c1 := (ba (show (en.all (fun d => errB P.main.file K d) && t K) = true from congrArg (fun z : AlU => z.2.1) c)).1
  have e : en.map (fun d => fnS K (d.x, some "__init__")) = en.map ErrD.val := congrArg (fun z : AlU => z.2.2) c
  have e2 : (en.map fun d => fnS K (d.x, some "__init__"))[i]? = (en.map ErrD.val)[i]? := by rw [e]
  rw [List.getElem?_map, List.getElem?_map, hd] at e2
  exact errB_ok X G ht (List.all_eq_true.mp c1 d (List.mem_of_getElem? hd)) (Option.some.inj e2)
end
end U
/-! U11: own errors made, raised, caught, asked; defs that raise; defs called where an error is handled. -/
namespace U
open PySem PySem.Spec PyProof.Rows L2
open NdefX (NF ncx envF NScope CellsAt startF inv_startN)
/-! ### making -/
/-- __init__'s promise: the fields' own dict -/
def spErr (C : Addr) (fs : List Str) : Sp := fun vs H Q _ => ∃ (a : Addr) (us : List V), vs = .ref a :: us ∧ us.length = fs.length ∧ H a = some (exo a C none) ∧ ∀ d, H d = none → d ≠ a → ∀ H', H' = upd (upd H d (exd d (fs.zip us).reverse)) a (exo a C (some d)) → Q .non H'
structure ErrOk (P : Program) (w : World) (K : PySem.W.Frag) (mg : Str → Option Value) (base : Heap) (x : Str) (C : Addr) (fs : List Str) : Prop where
  ex : ∃ (fI : Addr) (fd : FuncData), mg x = some (.ref C) ∧ OexC K C ∧ PySem.W.findIn K (.ref C) "__init__" = some (some (.ref fI)) ∧ PySem.W.typeIn K (.ref fI) = some (.type "function") ∧ FnOk P w K mg base CX0 2 fI fd ("self" :: fs) (spErr C fs) ∧ Binds K fd ("self" :: fs) []
  xf : XfC K C
  no : ∀ f ∈ fs, PySem.W.findIn K (.ref C) f = some none
  ec : ExcC K C
section
variable {P : Program} {w : World} {K : PySem.W.Frag} {mg : Str → Option Value} {base : Heap} {d : ErrD} {C fI : Addr} {fd : FuncData}
/-- one field -/
theorem err1 (T : ErrF P K mg d C fI fd) {f : Str} (hfs : d.fs = [f]) (S : NScope ["self", f, "__class__"] ["self", f] ["__class__"] d.scope) {ar : Arg} (hp : (d.params.posonlyargs ++ d.params.args).head? = some ar) (har : ar.arg = "self")
    (hks : d.scope.names.lookup ("super" : Str) = some .globalImplicit) (hms : mg "super" = none) {p0 p1 p2 p3 p4 p5 : Pos} {z : Str} {j : Nat} {rest : List Stmt}
    (hb : d.body = .Expr (.Call (.Attribute (.Call (.Name "super" p0) [] [] p1) "__init__" p2) [.Constant (.str z) j p3] [] p4) p5 :: rest)
    {pl : Sem Bool} (he : ∀ env : Env, eval (.Call (.Attribute (.Call (.Name "super" p0) [] [] p1) "__init__" p2) [.Constant (.str z) j p3] [] p4) env = (do
      let ov ← attributeBase (.Call (.Name "super" p0) [] [] p1) "__init__" env (eval (.Call (.Name "super" p0) [] [] p1) env)
      standAt p2.atName
      let (f, first) ← holding [ov] (getMethod ov "__init__" pl)
      callWith p4 f first (backTo p4 (starEach [.Constant (.str z) j p3] env)) []))
    (hbn : ∀ (kV doc pm : Value) (an : Option Addr) (c ct : Value) (cc : Addr) (u v : Value), bindArgs { name := "__init__", qualname := d.qual, params := d.params, body := .stmts d.body, scope := d.scope, globals := mainGlobals, closure := [(("__class__" : Str), cc)], defaults := .none, kwdefaults := kV, doc := doc, pyModule := pm, annotations := an, code := c, closureTuple := ct, builtins := builtinsNs } ⟨[u, v], []⟩ = pure [(("self" : Str), u), (f, v)])
    (hps : ∀ {A outer s H E cc c}, PSs (ncx CX0 P w K mg base ["self", f, "__class__"] ⟨"__init__", d.qual, d.params, d.body, d.scope, [(("__class__" : Str), cc)], c⟩ fI A outer s H E) rest (tOst K f (tVar 0) (tVar 1))) :
    ErrOk P w K mg base d.x C [f] := by
  obtain ⟨c, cc, sf⟩ := T.sf
  refine ⟨⟨fI, fd, T.g, T.sc.oex, T.ini, T.fty, ?_, ?_⟩, T.xf, fun g hg => T.no g (by rw [hfs]; exact hg), T.ec⟩
  · refine fn_ofS (k := 1) (rest := rest) sf S hp (by rw [har]; rfl) (by rw [har]; exact S.par _ (by simp)) hks hms he hb (fun vs H Q E h => ?_) (fun A outer s H vs Q E hr h => ?_)
    · obtain ⟨a, us, rfl, hl, _⟩ := h
      rw [List.length_cons, hl]; rfl
    · obtain ⟨a, us, rfl, hl, ha, q⟩ := h
      refine ⟨⟨a, C, rfl, ha, T.sc⟩, _, hps, ?_⟩
      match us, hl with
      | [u], _ =>
        refine ⟨u, rfl, .ref a, rfl, a, C, rfl, T.sc.oex, T.no f (by rw [hfs]; exact List.mem_singleton_self _), .inl ⟨ha, fun dx hd hn => ?_⟩⟩
        exact q dx hd hn _ rfl
  · obtain ⟨oc, od, kV, doc, pm, an, ct, osl, rfl, _, _⟩ := sf.ex
    exact .all fun us hl => match us, hl with
      | [u, v], _ => hbn kV doc pm an _ ct cc u v
/-- two fields -/
theorem err2 (T : ErrF P K mg d C fI fd) {f g : Str} (hfs : d.fs = [f, g]) (S : NScope ["self", f, g, "__class__"] ["self", f, g] ["__class__"] d.scope) {ar : Arg} (hp : (d.params.posonlyargs ++ d.params.args).head? = some ar) (har : ar.arg = "self")
    (hks : d.scope.names.lookup ("super" : Str) = some .globalImplicit) (hms : mg "super" = none) {p0 p1 p2 p3 p4 p5 : Pos} {z : Str} {j : Nat} {rest : List Stmt}
    (hb : d.body = .Expr (.Call (.Attribute (.Call (.Name "super" p0) [] [] p1) "__init__" p2) [.Constant (.str z) j p3] [] p4) p5 :: rest)
    {pl : Sem Bool} (he : ∀ env : Env, eval (.Call (.Attribute (.Call (.Name "super" p0) [] [] p1) "__init__" p2) [.Constant (.str z) j p3] [] p4) env = (do
      let ov ← attributeBase (.Call (.Name "super" p0) [] [] p1) "__init__" env (eval (.Call (.Name "super" p0) [] [] p1) env)
      standAt p2.atName
      let (f, first) ← holding [ov] (getMethod ov "__init__" pl)
      callWith p4 f first (backTo p4 (starEach [.Constant (.str z) j p3] env)) []))
    (hbn : ∀ (kV doc pm : Value) (an : Option Addr) (c ct : Value) (cc : Addr) (u v w : Value), bindArgs { name := "__init__", qualname := d.qual, params := d.params, body := .stmts d.body, scope := d.scope, globals := mainGlobals, closure := [(("__class__" : Str), cc)], defaults := .none, kwdefaults := kV, doc := doc, pyModule := pm, annotations := an, code := c, closureTuple := ct, builtins := builtinsNs } ⟨[u, v, w], []⟩ = pure [(("self" : Str), u), (f, v), (g, w)])
    (hps : ∀ {A outer s H E cc c}, PSs (ncx CX0 P w K mg base ["self", f, g, "__class__"] ⟨"__init__", d.qual, d.params, d.body, d.scope, [(("__class__" : Str), cc)], c⟩ fI A outer s H E) rest (tSeq (tOst K f (tVar 0) (tVar 1)) (tOst K g (tVar 0) (tVar 2)))) :
    ErrOk P w K mg base d.x C [f, g] := by
  obtain ⟨c, cc, sf⟩ := T.sf
  refine ⟨⟨fI, fd, T.g, T.sc.oex, T.ini, T.fty, ?_, ?_⟩, T.xf, fun g hg => T.no g (by rw [hfs]; exact hg), T.ec⟩
  · refine fn_ofS (k := 1) (rest := rest) sf S hp (by rw [har]; rfl) (by rw [har]; exact S.par _ (by simp)) hks hms he hb (fun vs H Q E h => ?_) (fun A outer s H vs Q E hr h => ?_)
    · obtain ⟨a, us, rfl, hl, _⟩ := h
      rw [List.length_cons, hl]; rfl
    · obtain ⟨a, us, rfl, hl, ha, q⟩ := h
      refine ⟨⟨a, C, rfl, ha, T.sc⟩, _, hps, ?_⟩
      match us, hl with
      | [u, v], _ =>
        refine ⟨u, rfl, .ref a, rfl, a, C, rfl, T.sc.oex, T.no f (by rw [hfs]; simp), .inl ⟨ha, fun dx hd hn => ?_⟩⟩
        refine ⟨v, rfl, .ref a, rfl, a, C, rfl, T.sc.oex, T.no g (by rw [hfs]; simp), .inr ⟨dx, [(f, u)], upd_same, by rw [upd_ne hn, upd_same], by show 1 ≤ 900; omega, ?_⟩⟩
        refine q dx hd hn _ ?_
        funext b
        by_cases h1 : b = dx
        · subst h1; rw [upd_same, upd_ne hn, upd_same]; rfl
        · rw [upd_ne h1]
          by_cases h2 : b = a
          · subst h2; rw [upd_same, upd_same]
          · rw [upd_ne h2, upd_ne h2, upd_ne h1, upd_ne h1]
  · obtain ⟨oc, od, kV, doc, pm, an, ct, osl, rfl, _, _⟩ := sf.ex
    exact .all fun us hl => match us, hl with
      | [u, v, w], _ => hbn kV doc pm an _ ct cc u v w
end
/-- C(e, ..) -/
abbrev tMkE (C : Addr) (fs : List Str) (ta : TA) : L2.St → Hp → XK → Prop := tMkO C (spErr C fs) [] ta
section
variable {X : Cx} {x : Str} {C : Addr} {fs : List Str} {p pos : Pos} {e : Expr} {es : List Expr} {ta : TA}
theorem pmk_err (O : ErrOk X.prog X.w X.K X.mg X.base x C fs) (hr : Room 3 X.A) (hg : Gl X x) (ha : PA X (e :: es) ta)
    (hdb : (x == ("__debug__" : Str)) = false := by decide) (he : starEach (e :: es) X.env = (false, eval e X.env) :: starEach es X.env := by rfl) (hpl : (backTo pos (starEach es X.env)).any (·.1) = false := by rfl) : PMk X (.Call (.Name x p) (e :: es) [] pos) (tMkE C fs ta) := by
  obtain ⟨fI, fd, hm, T, ini, fty, F, hb⟩ := O.ex
  exact pmk_oex T ini fty F hr hb .nil (fun _ _ _ _ _ _ _ h => h.elim) hg hm ha hdb he hpl
/-- raise C(e, ..) -/
def tRaise (W : WX) (t : L2.St → Hp → XK → Prop) : TS := fun _ σ H => t σ H fun cls d H' => W cls d σ H'
theorem ps_raiseT {W : WX} {e : Expr} {t : L2.St → Hp → XK → Prop} {pos : Pos} (hc : X.calm = true) (tk : Takes X W) (he : PMk X e t) : PS X (.Raise (some e) none pos) (tRaise W t) := ps_raise hc tk he
end
section
variable {σ : L2.St} {H : Hp} {D : Ends} {ta : TA} {C : Addr} {fs : List Str} {Q : XK} {W : WX}
/-- what is asked behind the arguments of a raised error -/
def RaiseE (C : Addr) (fs : List Str) (W : WX) (σ : L2.St) (vs : List V) (H1 : Hp) : Prop := vs.length ≤ 1000 ∧ ∀ a, H1 a = none → spErr C fs (.ref a :: (vs ++ [])) (upd H1 a (exo a C none))
  (fun v H2 => v = .non ∧ ∃ (d : Addr) (fs : List (Str × V)), H2 a = some (exo a C (some d)) ∧ H2 d = some (exd d fs) ∧ H1 d = none ∧ W (.ref C) (some d) σ (upd (del H2 a) d (.xd fs))) (fun _ _ _ => False)
theorem r_raise (h : ta σ H fun vs H1 => RaiseE C fs W σ vs H1) : tRaise W (tMkE C fs ta) D σ H := h
theorem r_mkE {vs : List V} (hl : vs.length = fs.length) (hn : fs.length ≤ 1000) (h : ∀ d, H d = none → W (.ref C) (some d) σ (upd H d (.xd (fs.zip vs).reverse))) : RaiseE C fs W σ vs H := by
  refine ⟨by omega, fun a ha => ⟨a, vs, by rw [List.append_nil], hl, upd_same, fun d hd hn H' e => ⟨rfl, d, (fs.zip vs).reverse, by rw [e, upd_same], by rw [e, upd_ne hn, upd_same], by rw [← hd, upd_ne hn], ?_⟩⟩⟩
  have hd' : H d = none := by rw [← hd, upd_ne hn]
  have e2 : upd (del H' a) d (.xd (fs.zip vs).reverse) = upd H d (.xd (fs.zip vs).reverse) := by
    funext b
    by_cases h1 : b = d
    · subst h1; rw [upd_same, upd_same]
    · rw [upd_ne h1, upd_ne h1]
      by_cases h2 : b = a
      · subst h2; rw [del_same, ha]
      · rw [del_ne h2, e, upd_ne h2, upd_ne h1, upd_ne h2]
  rw [e2]
  exact h d hd'
end
/-! ### defs that raise -/
structure OkX (P : Program) (w : World) (K : PySem.W.Frag) (mg : Str → Option Value) (base : Heap) (k : Nat) (x : Str) (ps : List Str) (sp : Sp) : Prop where
  ex : ∃ (f : Addr) (fd : FuncData), mg x = some (.ref f) ∧ FnOk P w K mg base (L2.CX P w) k f fd ps sp ∧ Binds K fd ps [] ∧ PySem.W.keepIn K (.ref f) = true
structure OkMX (P : Program) (w : World) (K : PySem.W.Frag) (mg : Str → Option Value) (base : Heap) (k : Nat) (C : Addr) (m : Str) (ps : List Str) (sp : Sp) : Prop where
  ex : ∃ (f : Addr) (fd : FuncData), Cls K C ∧ Meth K C m f ∧ FnOk P w K mg base (L2.CX P w) k f fd ps sp ∧ Binds K fd ps []
def tMethS (C : Addr) (m : Str) (sp : Sp) (E : L2.St → XK) (ta : TE) (t : TA) : TE := fun σ H Q => ta σ H fun x H1 => ∃ a dx fs, x = .ref a ∧ H1 a = some (.ins C dx fs) ∧ fs.lookup m = none ∧ t σ H1 fun vs H2 => sp (x :: vs) H2 Q (E σ)
section
variable {X : Cx} {W : WX} {k : Nat} {C : Addr} {x m : Str} {ps : List Str} {sp : Sp} {p pos apos : Pos} {e o : Expr} {es : List Expr} {ta : TE} {t : TA}
theorem pe_fnX (O : OkX X.prog X.w X.K X.mg X.base k x ps sp) (tk : Takes X W) (hr : Room k X.A) (hg : Gl X x) (ha : PA X (e :: es) t) (hdb : (x == ("__debug__" : Str)) = false := by decide)
    (he : starEach (e :: es) X.env = (false, eval e X.env) :: starEach es X.env := by rfl) (hpl : (backTo pos (starEach es X.env)).any (·.1) = false := by rfl) : PE X (.Call (.Name x p) (e :: es) [] pos) (tCallS sp (WE W) t) := by
  obtain ⟨f, fd, hm, F, hb, hk⟩ := O.ex
  exact pe_callS F hr hg hm hk hb (fun σ => passAt tk σ) ha hdb he hpl
theorem pe_mthX {pl : Sem Bool} (O : OkMX X.prog X.w X.K X.mg X.base k C m ps sp) (tk : Takes X W) (he : PE X o ta) (hr : Room k X.A) (ha : PA X (e :: es) t)
    (hst : starEach (e :: es) X.env = (false, eval e X.env) :: starEach es X.env := by rfl) (hpl : (backTo pos (starEach es X.env)).any (·.1) = false := by rfl)
    (ht : eval (.Call (.Attribute o m apos) (e :: es) [] pos) X.env = (do
      let ov ← eval o X.env
      standAt apos.atName
      let (f, first) ← holding [ov] (getMethod ov m pl)
      callWith pos f first (backTo pos (starEach (e :: es) X.env)) (backToKw pos (keywordEach [] X.env))) := by rfl) :
    PE X (.Call (.Attribute o m apos) (e :: es) [] pos) (tMethS C m sp (WE W) ta t) := by
  obtain ⟨f, fd, c, hm, F, hb⟩ := O.ex
  refine ⟨fun pins s σ H Q I h => ?_⟩
  refine PySem.W.methodCall_KW (pl := pl) (thn (he.run pins s σ H _ I h) fun u s1 ⟨x, H1, I1, rx, a, dx, fs, ex, ea, l, q⟩ => ?_) ht
  subst ex
  obtain rfl : u = Value.ref a := rx
  refine getmeth_ok I1 ea c hm l ?_
  refine PySem.W.callWith_K (first := [.ref a]) (h₀ := X.base) I.ok.mod.kin hm.kp (thn (ha.run pos pins s1 σ H1 _ I1 q) fun us s2 ⟨vs, H2, I2, r, q2⟩ => ⟨I2.kIn, ?_⟩) hst hpl
  exact run_fnS (us := .ref a :: us) (vs := .ref a :: vs) F hr hb (passAt tk σ) I2 (.cons rfl r) q2
end
section
variable {σ : L2.St} {H : Hp} {Q : VK} {ta : TE} {t : TA} {sp : Sp} {W : WX} {C : Addr} {m : Str}
theorem r_callS (h : t σ H fun vs H1 => sp vs H1 Q (fun cls d H' => W cls d σ H')) : tCallS sp (WE W) t σ H Q := h
theorem r_methS (h : ta σ H fun x H1 => ∃ a dx fs, x = .ref a ∧ H1 a = some (.ins C dx fs) ∧ fs.lookup m = none ∧ t σ H1 fun vs H2 => sp (x :: vs) H2 Q (fun cls d H' => W cls d σ H')) : tMethS C m sp (WE W) ta t σ H Q := h
end
/-! ### isinstance of the caught error, which has an own dict -/
def rIsX (K : PySem.W.Frag) (C a : Addr) (cls : Value) (d : Option Addr) : List V → Hp → VK → Prop := fun xs H Q => ∃ (c : V) (cv : Value) (b : Bool) (dd : Addr) (fs : List (Str × V)), xs = [.ref a, c] ∧ cls = .ref C ∧ d = some dd ∧ H dd = some (.xd fs) ∧ (∀ u, RelV c u → u = cv) ∧ PySem.W.kitOne K (.ref C) cv = some b ∧ Q (.bl b) H
end U
namespace PySem.W
open PySem PySem.Spec PySem.Calls PyProof.Rows
section
variable {prog : Program} {w : World} {A : Around} {E : Value → Shared → Prop} {s : Shared} {K : Frag} {x D : Addr} {ox od : Obj}
theorem kin_classD {Q : Option Value → Shared → Prop} (C : L2.ExcC K D) (ic : isClsIn K D = true)
    (X : K.In s.heap) (I : InstAt s.heap x ox D (some od)) (h : Q (some (.ref D)) { s with toks := s.toks + 1 }) : wpAny (model prog w) A (getAttr? (.ref x) "__class__") Q E s := by
  have hf : findObj K D (some od) "__class__" = some (.bind (.builtin "getset_descriptor.__get__") (.builtin "object.__class__")) := findObj_data ic C.ha C.hn C.ht
  obtain ⟨hp, g, d, t, os⟩ := s
  have L0 := I.type (M := model prog w)
  have L1 := looks_findIn (M := model prog w) X C.hg
  have L2 := looks_findIn (M := model prog w) X C.hk
  have L3 := looks_find (M := model prog w) X I hf
  have sub : Looks (model prog w) hp (isInstance (.ref x) (.type "BaseException")) true := L0.andThen (looks_subIn X C.hs)
  have hx0 : (false && onTheHeap (Value.builtin "BaseException.__getattribute__")) = false := rfl
  have hx2 : (Value.builtin "BaseException.__getattribute__" == Value.builtin "object.__getattribute__") = false := by decide +kernel
  have hx1 : (onTheHeap (Value.ref D) && Value.builtin "BaseException.__getattribute__" == Value.builtin "object.__getattribute__") = false := by rw [hx2]; rfl
  unfold getAttr? getAttrBy? getAttrBy
  refine wpAny_bind (wpAny_mkText (wpAny_bind (wpAny_attempt (wpAny_holding (wpAny_bind (L0.at (wpAny_bind (L1.at ?_))))))))
  show wpAny _ _ (if (onTheHeap (Value.ref D) && Value.builtin "BaseException.__getattribute__" == Value.builtin "object.__getattribute__") = true then _ else _) _ _ _
  rw [hx1, if_neg Bool.false_ne_true]
  unfold getAttrByItsOwn hookBefore
  refine wpAny_bind ?_
  rw [if_pos (show onTheHeap (Value.ref D) = true from rfl)]
  refine L2.at ?_
  refine wpAny_bind (wpAny_attempt (wpAny_holding ?_))
  unfold callGetattribute
  rw [hx0, if_neg Bool.false_ne_true]
  unfold boundAndCalled
  rw [PySem.F.excAttr_ValueError.ga.bind (.ref x)]
  refine wpAny_bind (wpAny_pure ?_)
  show wpAny _ _ (call (.builtin "BaseException.__getattribute__") [.ref x, .str "__class__" t]) _ _ _
  refine wpAny_call (codeAny_call_builtin PySem.F.excAttr_ValueError.ga.plain PySem.F.entry_bexc_ga ?_)
  refine @check_slot (model prog w) _ _ ⟨hp, g, d, t + 1, os⟩ "BaseException.__getattribute__" "BaseException" "__getattribute__" (.ref x) [.str "__class__" t] [] _ (by decide +kernel) (by decide +kernel) sub (PySem.F.args_bexc_ga (.ref x) (.str "__class__" t)) ?_
  unfold Builtin.«object.__getattribute__»
  refine wpAny_bind (wpAny_of_eq (a := ((Value.ref x : Value), [Value.str "__class__" t])) (by first | rfl | (simp only [slotArgs]; rfl)) ?_)
  refine wpAny_bind (wpAny_pure (wpAny_bind (L0.at (wpAny_bind (L3.at ?_)))))
  show wpAny _ _ (holding [Value.builtin "object.__class__"] (call (.builtin "getset_descriptor.__get__") [.builtin "object.__class__", .ref x, .ref D]) >>= ret) _ _ _
  refine wpAny_bind (wpAny_holding (wpAny_call (class_get (s := ⟨hp, g, d, t + 1, os⟩) (ox := ox) (od := some od) X I C.hm ?_)))
  refine wpAny_pure ?_
  show wpAny _ _ (handedOut (.ref D)) _ _ _
  rw [handedOut_of (v := .ref D) rfl]
  first
    | exact wpAny_pure (wpAny_pure h)
    | exact wpAny_pure h
    | exact wpAny_pure (wpAny_bind (wpAny_pure (wpAny_pure h)))
theorem kitx_excD (C : L2.ExcC K D) : KitX K (.ref x) (.ref D) (fun h => ∃ od, InstAt h x ox D (some od)) where
  ty := fun _ _ _ ⟨_, I⟩ => I.type
  it := fun _ _ X _ => by
    obtain ⟨cdD, hcD, _⟩ := any_some C.hd
    unfold clsIn at hcD
    split at hcD
    · rename_i c' d' cd' sl' ho
      intro A' Q' E' s' k q
      unfold isType loadHead
      exact wpAny_bind (wpAny_loadPart (k _ _ (X _ _ ho)) (wpAny_pure q))
    · cases hcD
  ne := fun h tp dd its n sl X htp => by
    obtain ⟨cdD, hcD, _⟩ := any_some C.hd
    refine Bool.eq_false_iff.mpr fun q => ?_
    have e : D = tp := Value.ref.inj (beq_iff_eq.mp q)
    subst e
    unfold clsIn at hcD
    split at hcD
    · rename_i c' d' cd' sl' ho
      have z := (X _ _ ho).symm.trans htp
      cases z
    · cases hcD
  ca := fun X ⟨_, I⟩ k => kin_classD C (by unfold isClsIn; obtain ⟨cd, hc, _⟩ := any_some C.hd; rw [hc]; rfl) X I k
end
end PySem.W
namespace U
open PySem PySem.Spec PyProof.Rows L2
theorem call_isX {X : Cx} {a C : Addr} {cls : Value} {d : Option Addr} {oe : Obj} {pn : List (Addr × Obj)} (T : ExcC X.K C) (hz : Zc cls d oe) (hf : ∃ vs, oe.data = .fields vs) : CallR (X.suite a ((a, oe) :: pn)) (.builtin "isinstance") (rIsX X.K C a cls d) := by
  intro pins s σ H xs us Q I r h
  obtain ⟨c, cv, b, dd, fs, rfl, rfl, rfl, ea, hcv, e, q⟩ := h
  cases r with
  | cons rx rr =>
    cases rr with
    | cons rt rr =>
      cases rr
      cases rx
      have ec := hcv _ rt
      subst ec
      obtain ⟨hget, _⟩ := I.pin (a, oe) (List.mem_append.mpr (.inl List.mem_cons_self))
      obtain ⟨vs, hv⟩ := hf
      have hx : ObjOk X.prog X.w H s.heap dd (.xd fs) := I.hok dd _ ea
      obtain ⟨mA, hns, hr⟩ := hx
      obtain ⟨od, ho, hl⟩ := lookIn_ns hns
      have J : PySem.W.InstAt s.heap a oe C (some od) := ⟨hget, hz.1, by unfold PySem.W.notCls; rw [hv] <;> rfl, by rw [hz.2]; exact ho⟩
      exact PySem.W.kia_one (PySem.W.kitx_excD (ox := oe) T) I.kIn ⟨od, J⟩ e (fun z => nomatch z) fun tk => ⟨.bl b, H, I.kept (t' := tk) fun _ _ z => z, rfl, q⟩
/-! ### defs called where an error is handled: no loops in them, nothing raised -/
def cxQ (P : Program) (w : World) (K : PySem.W.Frag) (mg : Str → Option Value) (base : Heap) (N : List Str) (qual : Str) (scope : Scope) (f : Addr) (cd : Value) (A : Around) (outer : List Env) (s : Shared) (H : Hp) (E : XK) : Cx :=
  { cxOf CX0 P w K mg base N qual scope f cd A outer s H E with calm := false }
structure FnQ (P : Program) (w : World) (K : PySem.W.Frag) (mg : Str → Option Value) (base : Heap) (k : Nat) (f : Addr) (fd : FuncData) (ps : List Str) (sp : Sp) : Prop where
  len : ∀ vs H Q E, sp vs H Q E → vs.length = ps.length
  run : ∀ (A : Around) (outer : List Env) (s : Shared) (H : Hp) (args : Args) (us : List Value) (vs : List V) (Q : VK) (E : XK), L2H.RoomH k A → Env0 P w K mg base A outer s H → BindsTo s fd args (ps.zip us) → Vals vs us → sp vs H Q E →
    codeAny (model P w) A (.call (.ref f) args) (CR CX0 outer P w H s Q E) s
theorem inv_startQ {P : Program} {w : World} {K : PySem.W.Frag} {mg : Str → Option Value} {base : Heap} {N ps : List Str} {qual : Str} {scope : Scope} {f : Addr} {cd : Value} {A : Around} {outer : List Env} {s s1 : Shared} {H : Hp} {E : XK} {us : List Value} {vs : List V}
    (S : FnScope N ps scope) (e0 : Env0 P w K mg base A outer s H) (hl : vs.length = ps.length) (r : Vals vs us)
    (x : InCallC s s.heap.objs.size (bindL (envOfC qual scope s.heap.objs.size f cd).kindOf (ps.zip us) fun _ => none) (cellsFrom (s.heap.objs.size + 1) scope.names []) (bindC (envOfC qual scope s.heap.objs.size f cd).kindOf (ps.zip us) fun _ => none) s1) :
    Inv (cxQ P w K mg base N qual scope f cd A outer s H E) [] (L2.start N vs) H s1 := by
  have hpl : ps.length ≤ N.length := by have := congrArg List.length S.pre; rw [List.length_take] at this; omega
  obtain ⟨h1, tk, rfl, hk⟩ := x.done
  have noA : ∀ b : Addr, b ∉ (cxQ P w K mg base N qual scope f cd A outer s H E).ex := fun b z => absurd (show b ∈ ([] : List Addr) from z) (by simp)
  refine ⟨⟨e0.mod, S.kind, rfl, rfl, Nat.le_refl _, fun y z c h1 h2 => ?_, fun y hy => ?_, fun y c _ h => ?_, (fun z => Bool.noConfusion (show false = true from z)), Around.frames_deeper e0.frames, .inr ⟨rfl, rfl⟩, fun b z => absurd z (noA b), e0.bs, e0.bsz, fun b _ _ => noA b, fun b z => absurd z (noA b), e0.funs, e0.frf⟩,
    rfl, e0.bare, Un.kept hk, ⟨_, x.toInCall.ns, fun i y v h1 h2 h3 => ?_⟩, fun y c h => ⟨_, x.cell y c h⟩, e0.hok.fresh (Nat.le_refl _), fun y c h => ?_, fun p hp => absurd (show p ∈ ([] : List (Addr × Obj)) from hp) (by simp), e0.hok.kept hk, ?_⟩
  · exact name_of_addr x.apart (PySem.mem_of_lookup h1) (PySem.mem_of_lookup h2)
  · have hy : scope.names.lookup y = some .cell ∨ scope.names.lookup y = some .free := hy
    rcases hy with hy | hy
    · exact cell_has hy
    · exact absurd rfl (S.nofree _ (PySem.mem_of_lookup hy))
  · exact Nat.le_of_lt (x.above y c (PySem.mem_of_lookup h))
  · have hi : i < vs.length := by
      unfold L2.start at h2
      by_cases hi : i < vs.length
      · exact hi
      · rw [List.getElem?_append_right (by simpa using hi)] at h2
        rw [List.getElem?_replicate] at h2
        split at h2 <;> cases h2
    have ha : vs[i]? = some v := by
      unfold L2.start at h2
      rw [List.getElem?_append_left (by simpa using hi), List.getElem?_map] at h2
      cases e : vs[i]? with
      | none => rw [e] at h2; cases h2
      | some a => rw [e] at h2; cases h2; rfl
    obtain ⟨u, hu, rv⟩ := r.get ha
    have hp : ps[i]? = some y := by
      rw [← S.pre, List.getElem?_take_of_lt (by omega)]; exact h1
    have ndP : ps.Nodup := by rw [← S.pre]; exact S.nd.sublist (List.take_sublist _ _)
    refine ⟨u, rv, ?_⟩
    rcases S.par y (List.mem_of_getElem? hp) with k | k
    · exact .inl ⟨k, bindL_get ndP hp hu k⟩
    · obtain ⟨c, e⟩ := cell_has (n := s.heap.objs.size + 1) k
      refine .inr ⟨.inl k, c, e, ?_⟩
      have q := x.cell y c e
      rw [bindC_get ndP hp hu (by show scope.names.lookup y ≠ _; rw [k]; decide)] at q
      exact q
  · exact e0.hok.fresh (Nat.le_of_lt (x.above y c (PySem.mem_of_lookup h)))
  · unfold L2.start
    show _ = N.length
    rw [List.length_append, List.length_map, List.length_replicate]
    omega
theorem fn_ofQ {P : Program} {w : World} {K : PySem.W.Frag} {mg : Str → Option Value} {base : Heap} {k : Nat} {f : Addr} {name qual : Str} {params : Arguments} {body : List Stmt} {scope : Scope} {dvs : List V} {kws : List (Str × V)} {fd : FuncData}
    {N ps : List Str} {sp : Sp} (F : FunD K name qual params body scope dvs kws f fd) (S : FnScope N ps scope)
    (len : ∀ vs H Q E, sp vs H Q E → vs.length = ps.length)
    (hbody : ∀ (cdv : Value) (A : Around) (outer : List Env) (s : Shared) (H : Hp) (vs : List V) (Q : VK) (E : XK), L2H.RoomH k (A.deeper (envOfC qual scope s.heap.objs.size f cdv)) → sp vs H Q E →
      ∃ t, PSs (cxQ P w K mg base N qual scope f cdv A outer s H E) body t ∧ t { nx := fun _ H' => Q .non H', rt := Q } (L2.start N vs) H) :
    FnQ P w K mg base (k + 1) f fd ps sp := by
  obtain ⟨oc, od, dV, kV, doc, pm, an, cdv, ct, osl, rfl, lk, hcd, _, _⟩ := F.ex
  refine ⟨len, fun A outer s H args us vs Q E hr e0 hb r hsp => ?_⟩
  have hl := len _ _ _ _ hsp
  have KX : K.In s.heap := e0.mod.kin.keeps fun b o e => (e0.bs b o e).1
  have lim : s.heap.NoLimit := e0.mod.nolimit.keeps fun b o e => (e0.bs b o e).1
  have hkind : ∀ y ∈ ps.zip us, scope.names.lookup y.1 = some .local ∨ (scope.names.lookup y.1 = some .cell ∧ ((cellsFrom (s.heap.objs.size + 1) scope.names []).lookup y.1).isSome = true) := fun ⟨n, v⟩ hy => by
    rcases S.par n (List.of_mem_zip hy).1 with q | q
    · exact .inl q
    · exact .inr ⟨q, PySem.W.cellsFrom_some _ _ _ (.inl q)⟩
  refine codeAny_call_function hr.depth (KX _ _ lk) rfl S.co S.gen rfl (PySem.W.codeRec_of KX hcd) (hb _ _ _ _ ?_)
  refine wpAny_newFunctionEnv_cells S.kind hkind fun env he s1 x => ?_
  subst he
  refine ⟨lim.keeps x.toInCall.keep, codeAny_func ?_⟩
  obtain ⟨t, ht, hq⟩ := hbody cdv A outer s H vs Q E (hr.deeper _) hsp
  have I : Inv (cxQ P w K mg base N qual scope f cdv A outer s H E) [] (L2.start N vs) H s1 := inv_startQ S e0 hl r x
  refine wpAny_mono (ht.run [] s1 (L2.start N vs) H _ I hq) (fun fl s' hs => ?_) fun e s' hs => hs
  cases fl with
  | ret u =>
    obtain ⟨v, σ', H', J, rv, q⟩ := hs
    exact ⟨v, H', J.os, J.bare, J.base, J.hok, rv, q⟩
  | next =>
    obtain ⟨σ', H', J, q⟩ := hs
    exact ⟨V.non, H', J.os, J.bare, J.base, J.hok, rfl, q⟩
  | brk =>
    obtain ⟨_, _, _, q⟩ := hs
    exact False.elim q
  | cont =>
    obtain ⟨_, _, _, q⟩ := hs
    exact False.elim q
structure OkQ (P : Program) (w : World) (K : PySem.W.Frag) (mg : Str → Option Value) (base : Heap) (k : Nat) (x : Str) (ps : List Str) (sp : Sp) : Prop where
  ex : ∃ (f : Addr) (fd : FuncData), mg x = some (.ref f) ∧ FnQ P w K mg base k f fd ps sp ∧ Binds K fd ps [] ∧ PySem.W.keepIn K (.ref f) = true
theorem pe_fnQ {X : Cx} {k : Nat} {x : Str} {ps : List Str} {sp : Sp} {p pos : Pos} {e : Expr} {es : List Expr} {t : TA} (O : OkQ X.prog X.w X.K X.mg X.base k x ps sp) (hr : L2H.RoomH k X.A) (hg : Gl X x) (ha : PA X (e :: es) t) (hdb : (x == ("__debug__" : Str)) = false := by decide)
    (he : starEach (e :: es) X.env = (false, eval e X.env) :: starEach es X.env := by rfl) (hpl : (backTo pos (starEach es X.env)).any (·.1) = false := by rfl) : PE X (.Call (.Name x p) (e :: es) [] pos) (tCall sp [] E0 t) := by
  obtain ⟨f, fd, hm, F, hb, hk⟩ := O.ex
  refine ⟨fun pins s σ H Q I h => ?_⟩
  refine wpAny_Call_Name_kw (ld_glob I hg hm ?_ hdb)
  refine PySem.W.callWith_K (h₀ := X.base) I.ok.mod.kin hk (thn (ha.run pos pins s σ H _ I h) fun us s1 ⟨vs, H1, I1, r, q⟩ => ⟨I1.kIn, ?_⟩) he hpl
  have q : sp vs H1 Q E0 := by
    have q : sp (vs ++ []) H1 Q E0 := q
    rw [List.append_nil] at q
    exact q
  have hl : us.length = ps.length := by rw [← r.length]; exact F.len _ _ _ _ q
  have b := hb s1 us I1.kIn (by rw [List.append_nil]; exact hl)
  rw [List.append_nil] at b
  refine wpAny_call (codeAny_mono (F.run X.A X.stack s1 H1 ⟨us, []⟩ us vs Q E0 hr I1.env0 b r q) fun r s' hq => ?_)
  cases r with
  | error e => exact False.elim hq
  | ok fl =>
    cases fl with
    | ret u => exact I1.after hq
    | next => exact False.elim hq
    | brk => exact False.elim hq
    | cont => exact False.elim hq
/-- try: .. except x as n: .. -/
def tTryAs (K : PySem.W.Frag) (c : Value) (i : Nat) (tb : WX → TS) (ts : Addr → Value → Option Addr → TS) (Wout : WX) : TS := fun D σ H => tb (wAs K c i ts Wout D) D σ H
def tTryOnly (K : PySem.W.Frag) (c : Value) (tb : WX → TS) (ts : Addr → Value → Option Addr → TS) (Wout : WX) : TS := fun D σ H => tb (wOnly K c ts Wout D) D σ H
theorem _root_.L2H.RoomH.units {k : Nat} {A : Around} (r : L2H.RoomH k A) : A.units + 64 < cLine := by have := r.un; omega
theorem roomQ {k j : Nat} {A : Around} {e : Option Value} (r : Room k A) (h : j ≤ k) : L2H.RoomH j (A.mark e) := ⟨by have := r.dp; show A.depth + 3 * j + 5 < _; omega, by have := r.un; show A.units + 16 * j + 200 < _; omega⟩
theorem SaysU.tfact {file : Str} {fa : List He.Fa} {fn : List He.DefD} {en : List ErrD} {ts : List (PySem.W.Frag → Bool)} {K : PySem.W.Frag} (c : SaysU file fa fn en (fun K => ts.all fun f => f K) K) (i : Nat) {f : PySem.W.Frag → Bool} (h : ts[i]? = some f := by rfl) : f K = true :=
  List.all_eq_true.mp c.tst f (List.mem_of_getElem? h)
section
variable {X : Cx} {x n : Str} {c : Value} {i : Nat} {body suite : List Stmt} {b₀ : Stmt} {np pos pos' : Pos} {tb : WX → TS} {ts : Addr → Value → Option Addr → TS} {Wout : WX}
theorem ps_tryAs (hs : X.stack = X.env :: X.outer) (hf : X.env.frame = some X.env.locals) (hN : X.N.Nodup) (hi : X.N[i]? = some n) (hln : X.env.kindOf n = some .local) (hc : Names X x c) (tk : Takes X Wout)
    (hb : ∀ (W : WX) (pn : List (Addr × Obj)) (xe : Value → Shared → Prop), Takes (X.tr pn xe) W → PassesOwn (model X.prog X.w) X.A X.env xe → PSs (X.tr pn xe) body (tb W))
    (hsu : ∀ (a : Addr) (oe : Obj) (cls : Value) (d : Option Addr) (pn : List (Addr × Obj)), Zc cls d oe → (∃ vs, oe.data = .fields vs) → PSs (X.suite a ((a, oe) :: pn)) (b₀ :: suite) (ts a cls d)) :
    PS X (.Try body [.ExceptHandler (some (.Name x np)) (some n) (b₀ :: suite) pos'] [] [] pos) (tTryAs X.K c i tb ts Wout) := ps_try_as hs hf hN hi hln hc tk hb hsu
theorem ps_tryOnly (hs : X.stack = X.env :: X.outer) (hf : X.env.frame = some X.env.locals) (hc : Names X x c) (tk : Takes X Wout)
    (hb : ∀ (W : WX) (pn : List (Addr × Obj)) (xe : Value → Shared → Prop), Takes (X.tr pn xe) W → PassesOwn (model X.prog X.w) X.A X.env xe → PSs (X.tr pn xe) body (tb W))
    (hsu : ∀ (a : Addr) (oe : Obj) (cls : Value) (d : Option Addr) (pn : List (Addr × Obj)), Zc cls d oe → (∃ vs, oe.data = .fields vs) → PSs (X.suite a ((a, oe) :: pn)) (b₀ :: suite) (ts a cls d)) :
    PS X (.Try body [.ExceptHandler (some (.Name x np)) none (b₀ :: suite) pos'] [] [] pos) (tTryOnly X.K c tb ts Wout) := ps_try_only hs hf hc tk hb hsu
end
end U
/-! U12: ord; more methods of lists; own operators. -/
namespace U
open PySem PySem.Spec PyProof.Rows L2
def uOrd : RC := fun xs H Q => match xs with
  | [.str x] => x.length = 1 ∧ Q (.int (x.cps.getD 0 0 : Nat)) H
  | _ => False
theorem c_ord {X : Cx} : CallR X (.builtin "ord") uOrd := by
  intro pins s σ H xs us Q I r h
  unfold uOrd at h
  split at h
  · exact call_ord pins s σ H _ us Q I r ⟨_, rfl, h⟩
  · exact h.elim
theorem r_ord {H : Hp} {Q : VK} {c : Nat} (h : Q (.int c) H) : uOrd [.str ⟨#[c]⟩] H Q := ⟨rfl, h⟩
def uPop0 : RM := fun x vs H Q => match x, vs with
  | .ref l, [] => ∃ xs y, H l = some (.lst xs) ∧ xs[xs.length - 1]? = some y ∧ Q y (upd H l (.lst xs.dropLast))
  | _, _ => False
theorem m_pop0 {X : Cx} : MtM X "list.pop" uPop0 := by
  intro pins s σ H x xs v us Q I rx rs h
  unfold uPop0 at h
  split at h
  · obtain ⟨xs, y, h1, h2, q⟩ := h
    exact mt_pop pins s σ H _ _ v us Q I rx rs ⟨_, xs, y, rfl, rfl, h1, h2, q⟩
  · exact h.elim
def uPopAt : RM := fun x vs H Q => match x, vs with
  | .ref l, [.int i] => ∃ xs k y, H l = some (.lst xs) ∧ -(2 ^ 63) ≤ i ∧ i < 2 ^ 63 ∧ seqIndex? i xs.length = some k ∧ xs[k]? = some y ∧ Q y (upd H l (.lst (xs.eraseIdx k)))
  | _, _ => False
theorem m_popAt {X : Cx} : MtM X "list.pop" uPopAt := by
  intro pins s σ H x xs v us Q I rx rs h
  unfold uPopAt at h
  split at h
  · obtain ⟨xs, k, y, h1, h2, h3, h4, h5, q⟩ := h
    exact mt_popAt pins s σ H _ _ v us Q I rx rs ⟨_, xs, _, k, y, rfl, rfl, h1, h2, h3, h4, h5, q⟩
  · exact h.elim
def uExtend : RM := fun x vs H Q => match x, vs with
  | .ref l, [.ref b] => ∃ xs zs, H l = some (.lst xs) ∧ H b = some (.lst zs) ∧ xs.length + zs.length ≤ sizeLine ∧ Q .non (upd H l (.lst (xs ++ zs)))
  | _, _ => False
theorem m_extend {X : Cx} : MtM X "list.extend" uExtend := by
  intro pins s σ H x xs v us Q I rx rs h
  unfold uExtend at h
  split at h
  · obtain ⟨xs, zs, h1, h2, h3, q⟩ := h
    exact mt_extend pins s σ H _ _ v us Q I rx rs ⟨_, _, xs, zs, rfl, rfl, h1, h2, h3, q⟩
  · exact h.elim
def uInsert : RM := fun x vs H Q => match x, vs with
  | .ref l, [.int i, y] => ∃ xs, H l = some (.lst xs) ∧ xs.length < sizeLine ∧ 0 ≤ i ∧ i < 2 ^ 63 ∧ Q .non (upd H l (.lst (xs.take i.toNat ++ [y] ++ xs.drop i.toNat)))
  | _, _ => False
theorem m_insert {X : Cx} : MtR X "list.insert" uInsert := by
  intro pins s σ H x xs v us Q I rx rs h
  unfold uInsert at h
  split at h
  · obtain ⟨xs, h1, h2, h3, h4, q⟩ := h
    exact mt_insert pins s σ H _ _ v us Q I rx rs ⟨_, xs, _, _, rfl, rfl, h1, h2, h3, h4, q⟩
  · exact h.elim
/-! ### x + y by the class' own __add__ -/
/-- a class of the program with an own method for an operator -/
structure OkOp (P : Program) (w : World) (K : PySem.W.Frag) (mg : Str → Option Value) (base : Heap) (k : Nat) (C : Addr) (m : Str) (ps : List Str) (sp : Sp) : Prop where
  ex : ∃ (f : Addr) (fd : FuncData), PySem.W.findIn K (.ref C) m = some (some (.ref f)) ∧ PySem.W.isFn K (.ref f) = true ∧ FnOk P w K mg base CX0 k f fd ps sp ∧ Binds K fd ps []
theorem OkM.op {P : Program} {w : World} {K : PySem.W.Frag} {mg : Str → Option Value} {base : Heap} {k : Nat} {C : Addr} {m : Str} {ps : List Str} {sp : Sp} (O : OkM P w K mg base k C m ps sp) : OkOp P w K mg base k C m ps sp := by
  obtain ⟨f, fd, c, hm, F, hb⟩ := O.ex
  exact ⟨f, fd, hm.at_, hm.fn, F, hb⟩
def rOwn2 (C : Addr) (sp : Sp) : R2 := fun x y H Q => ∃ a dx fs b dy gs, x = .ref a ∧ y = .ref b ∧ H a = some (.ins C dx fs) ∧ H b = some (.ins C dy gs) ∧ sp [x, y] H Q E0
theorem op_own2 {X : Cx} {op : Operator} {k : Nat} {C : Addr} {ps : List Str} {sp : Sp} (O : OkOp X.prog X.w X.K X.mg X.base k C (PySem.dunder op.info.2) ps sp) (hc : PySem.W.selfFirst X.K C = true) (hr : Room k X.A) : OpR X (binaryOp op) (rOwn2 C sp) := by
  obtain ⟨f, fd, hs, hf, F, hb⟩ := O.ex
  intro pins s σ H x y v u Q I rx ry h
  obtain ⟨a, dx, fs, b, dy, gs, rfl, rfl, ha, hbb, q⟩ := h
  cases (show v = Value.ref a from rx)
  cases (show u = Value.ref b from ry)
  obtain ⟨mA, J, _⟩ := ins_get I.hok ha
  obtain ⟨mB, J', _⟩ := ins_get I.hok hbb
  obtain ⟨od, J, _⟩ := J.look
  obtain ⟨od', J', _⟩ := J'.look
  obtain ⟨m, hF⟩ := I.fr
  refine PySem.W.binop_K (op := op) hF I.ok.mod.kin J J'.type hc hs hf ?_
  refine wpAny_mono (run_fnS (CX := CX0) (E := fun _ => E0) (us := [.ref a, .ref b]) (vs := [.ref a, .ref b]) F hr hb (fun _ _ _ _ _ _ h => h.elim) I (.cons rfl (.cons rfl .nil)) q) (fun w s' z => ?_) fun _ _ x => x
  obtain ⟨z', H', I', rz, qz⟩ := z
  exact SlX.cmpback rz ⟨z', H', I', rz, qz⟩
end U
/-! U13: enumerate(text). -/
namespace U
open PySem PySem.Spec L2
/-- the signs of a text with their places, in new pairs -/
def Ites (x : Str) : It := ⟨fun i _ => i < x.cps.size, fun i H v H' => ∃ T c, v = .ref T ∧ H T = none ∧ H' = upd H T (.tup [.int (i : Nat), .str ⟨#[c]⟩]) ∧ x.cps[i]? = some c, fun i _ => x.cps.size ≤ i⟩
theorem turn_enumS {P : Program} {w : World} {K : PySem.W.Frag} {elts : List Expr} {kk : Nat} {tpos : Pos} (x : Str) (t : Tok) (e it : Addr) :
    Turn P w K (.Tuple elts kk tpos) (Ites x) [e, it] e (fun i h => (∃ old, IsEnum h e it ((i : Nat) : Int) old) ∧ h.IsStrIter it (strIterType x) x t i ∧ e ≠ it) where
  mem := by simp
  obj := fun i h st b hb => by
    obtain ⟨⟨old, he⟩, ⟨o, ho, hc, hd⟩, _⟩ := st
    have e' : b = e ∨ b = it := by simpa using hb
    rcases e' with z | z
    · rw [z]; exact ⟨_, he, fun v q => nomatch q⟩
    · rw [z]; exact ⟨o, ho, fun v q => by rw [hd] at q; cases q⟩
  keep := fun i h h' st k => let ⟨⟨old, he⟩, ⟨o, ho, r⟩, hne⟩ := st; ⟨⟨old, k e (by simp) _ he⟩, ⟨o, k it (by simp) o ho, r⟩, hne⟩
  item := by
    intro X hP hw hK hc i pins s σ H E I hf st hg
    subst hP hw hK
    obtain ⟨⟨old, he⟩, hit, hne⟩ := st
    have hlt : i < x.cps.size := hg
    have hel : e < s.heap.objs.size := Heap.lt_size he
    have hil : it < s.heap.objs.size := by obtain ⟨_, q, _⟩ := hit; exact Heap.lt_size q
    refine wpAny_pyNext_enum_itemC (Draws.text (A := X.A.in1) (I.ok.hd hc) it x t) he hit hlt hne (by simpa using hne) fun y h' tk hP ho hit' hT hsz hk => ?_
    obtain ⟨c, u, hcx, rfl⟩ := hP
    refine ⟨_, rfl, wpAny_letOwnedTupleGo_enum (s := { s with heap := h', toks := tk + 1 }) ho fun h'' he' sb => ?_⟩
    have hT2 : h''.get? s.heap.objs.size = some { cls := .type "tuple", data := .seq #[.int i tk, .str ⟨#[c]⟩ u] } := (sb.2 _ (Nat.ne_of_gt hel)).trans hT
    have new : ObjOk X.prog X.w (upd H s.heap.objs.size (.tup [.int (i : Nat), .str ⟨#[c]⟩])) h'' s.heap.objs.size (.tup [.int (i : Nat), .str ⟨#[c]⟩]) :=
      ⟨by show 2 ≤ sizeLine; decide, [.int i tk, .str ⟨#[c]⟩ u], .cons ⟨_, rfl⟩ (.cons ⟨_, rfl⟩ .nil), ⟨_, hT2, rfl, _, rfl⟩⟩
    have I1 : Inv X pins σ (upd H s.heap.objs.size (.tup [.int (i : Nat), .str ⟨#[c]⟩])) { s with heap := h'', toks := tk + 1 } :=
      I.turnedNew (ch := [e, it]) (fun b ob hb q => (sb.2 b (fun z => hb (by simp [z]))).trans (hk b ob (fun z => hb (by simp [z])) (fun z => hb (by simp [z])) q)) hf (Nat.le_refl _) new
    refine ⟨.ref s.heap.objs.size, _, I1, rfl, ⟨_, c, rfl, I.hok.fresh (Nat.le_refl _), rfl, hcx⟩, ⟨⟨.str ⟨#[c]⟩ u, ?_⟩, ?_, hne⟩, fun b hb => ?_⟩
    · have e1 : ((i + 1 : Nat) : Int) = (i : Int) + 1 := by omega
      rw [e1]; exact he'
    · obtain ⟨o, q, r⟩ := hit'
      exact ⟨o, (sb.2 it (Ne.symm hne)).trans q, r⟩
    · have hb' : b < s.heap.objs.size := by
        have e' : b = e ∨ b = it := by simpa using hb
        rcases e' with z | z
        · rw [z]; exact hel
        · rw [z]; exact hil
      rw [upd_ne (Nat.ne_of_lt hb')]
      exact (hf b hb).1
  done := by
    intro X hP hw hK hc i pins s σ H E I hf st hg
    subst hP hw hK
    obtain ⟨⟨old, he⟩, hit, hne⟩ := st
    obtain ⟨f0, f1, f2, f3, f4, f5⟩ := hf it (by simp)
    have hle : x.cps.size ≤ i := hg
    by_cases hi : i = x.cps.size
    · subst hi
      exact wpAny_pyNext_enum_endD (Draws.text (A := X.A.in1) (I.ok.hd hc) it x t) he hit fun h' eb => ⟨rfl, I.turned (t' := s.toks) (fun b o hb q => eb b o hb q) f0 f1 f3 f4 f5⟩
    · have D : Draws X.prog X.w X.A.in1 it [it] i (fun _ _ => False) (fun j h => j = i ∧ h.IsStrIter it (strIterType x) x t i) := by
        refine ⟨fun j h st => let ⟨_, o, ho, _⟩ := st; ⟨o, ho⟩, fun j h h' st hk => let ⟨e, o, ho, r⟩ := st; ⟨e, o, hk it (by simp) o ho, r⟩, fun j s Q E hj st _ => absurd st.1 (by omega), fun s Q E st hE => ?_⟩
        obtain ⟨_, st⟩ := st
        have hx : x.cps[i]? = none := Array.getElem?_eq_none hle
        cases ha : x.cps.all (· < 128)
        · have e : strIterType x = "str_iterator" := by simp [strIterType, ha]
          rw [e] at st
          exact wpAny_nextOf_wide_end (I.ok.hd hc) st hx hE
        · have e : strIterType x = "str_ascii_iterator" := by simp [strIterType, ha]
          rw [e] at st
          exact wpAny_nextOf_ascii_end (I.ok.hd hc) st hx hE
      exact wpAny_pyNext_enum_endD D he ⟨rfl, hit⟩ fun h' eb => ⟨rfl, I.turned (t' := s.toks) (fun b o hb q => eb b o hb q) f0 f1 f3 f4 f5⟩
  self := fun A i s Q E st h => let ⟨⟨_, he⟩, _⟩ := st; wpAny_pyIter_enum he h
def iEnumS (ta : TA) : TI := fun σ H R => ta σ H fun vs H1 => ∃ x, vs = [.str x] ∧ R (Ites x) H1
theorem pi_enumS {X : Cx} {e : Expr} {ta : TA} {p pos tpos : Pos} {elts : List Expr} {kk : Nat} (hg : Gl X "enumerate") (hm : X.mg "enumerate" = none) (ha : PA X [e] ta) (hs : starEach [e] X.env = [(false, eval e X.env)] := by rfl) :
    PI X (.Tuple elts kk tpos) (.Call (.Name "enumerate" p) [e] [] pos) (iEnumS ta) := by
  refine ⟨fun pins s σ H R I h => ?_⟩
  refine PyProof.Rows.Call_ (ld_blt I hg hm PyProof.Rows.boot_enumerate (PyProof.Rows.callWith_type1 (thn (ha.run pos pins s σ H _ I h) fun us s1 ⟨vs, H1, I1, r1, q1⟩ => ?_) hs rfl))
  obtain ⟨x, ex, q⟩ := q1
  subst ex
  cases r1 with
  | cons r rr =>
    cases rr
    obtain ⟨t, rfl⟩ := r
    refine call_enumerate_str fun h' he hit hsz hk => wpAny_pyIter_enum he ?_
    have I2 : Inv X pins σ H1 { s1 with heap := h' } := I1.kept (t' := s1.toks) hk
    refine ⟨s1.heap.objs.size + 1, [s1.heap.objs.size + 1, s1.heap.objs.size], _, _, H1, rfl, I2, turn_enumS x t (s1.heap.objs.size + 1) s1.heap.objs.size, ⟨⟨.none, he⟩, hit, Nat.succ_ne_self _⟩, fun b hb => ?_, q⟩
    have e' : b = s1.heap.objs.size + 1 ∨ b = s1.heap.objs.size := by simpa using hb
    have hle : s1.heap.objs.size ≤ b := by
      rcases e' with z | z
      · rw [z]; exact Nat.le_add_right _ _
      · rw [z]; exact Nat.le_refl _
    exact I1.fpOk hle (I1.hok.fresh hle)
section
variable {σ : L2.St} {H : Hp} {D : Ends} {ta : TA} {R : It → Hp → Prop}
theorem r_enumS (h : ta σ H fun vs H1 => ∃ x, vs = [.str x] ∧ R (Ites x) H1) : iEnumS ta σ H R := h
theorem r_enumSv {z : Str} {P : Str → Prop} (h : P z) : ∃ x, [V.str z] = [V.str x] ∧ P x := ⟨z, rfl, h⟩
/-- over enumerate(text) -/
theorem f_enumS {z : Str} {g : TG} {tb : TS} (P : Nat → L2.St → Hp → Prop) (h0 : P 0 σ H)
    (step : ∀ i (c : Nat) σ H T H', z.cps.toList[i]? = some c → P i σ H → H T = none → H' = upd H T (.tup [.int (i : Nat), .str ⟨#[c]⟩]) → g (.ref T) σ H' fun σ2 H2 => tb { D with nx := P (i + 1), ct := P (i + 1), bk := D.nx } σ2 H2) (done : ∀ σ H, P z.cps.toList.length σ H → D.nx σ H) :
    ∃ W : Nat → Nat → L2.St → Hp → Prop, (∃ m, W 0 m σ H) ∧ ∀ i m σ H, W i m σ H →
      ((Ites z).stop i H ∧ D.nx σ H) ∨ ((Ites z).go i H ∧ ∃ N : L2.St → Hp → Prop, (∀ σ' H', N σ' H' → ∃ m', m' < m ∧ W (i + 1) m' σ' H') ∧ ∀ x H', (Ites z).yld i H x H' → g x σ H' fun σ2 H2 => tb { D with nx := N, ct := N, bk := D.nx } σ2 H2) :=
  l_for P h0 (fun i σ H h p => by show i < z.cps.size; simpa using h) (fun _ _ _ => by show z.cps.size ≤ _; simp) (fun i σ H h p x H' y => by
    obtain ⟨T, c, rfl, hT, e, hc⟩ := y
    exact step i c σ H T H' (by simpa using hc) p hT e) done
end
section
variable {K : PySem.W.Frag} {σ : L2.St} {H : Hp} {Q : VK} {D : Ends} {c : Value} {i : Nat} {tb : WX → TS} {ts : Addr → Value → Option Addr → TS} {Wout : WX} {cls : Value} {d : Option Addr} {a C : Addr} {te : TE} {f : Str}
theorem r_tryAs (h : tb (wAs K c i ts Wout D) D σ H) : tTryAs K c i tb ts Wout D σ H := h
theorem r_tryOnly (h : tb (wOnly K c ts Wout D) D σ H) : tTryOnly K c tb ts Wout D σ H := h
theorem r_wAs (hx : PySem.W.exmOne K cls c = some true) (h : ∀ a, H a = none → ts a cls d { nx := fun σ' H' => D.nx (σ'.set i none) H', rt := D.rt, bk := fun σ' H' => D.bk (σ'.set i none) H', ct := fun σ' H' => D.ct (σ'.set i none) H' } (σ.set i (some (.ref a))) H) : wAs K c i ts Wout D cls d σ H :=
  ⟨true, hx, fun _ => h, fun z => by cases z⟩
theorem r_wAsN (hx : PySem.W.exmOne K cls c = some false) (h : Wout cls d σ H) : wAs K c i ts Wout D cls d σ H := ⟨false, hx, (fun z => by cases z), fun _ => h⟩
theorem r_wOnly (hx : PySem.W.exmOne K cls c = some true) (h : ∀ a, H a = none → ts a cls d D σ H) : wOnly K c ts Wout D cls d σ H := ⟨true, hx, fun _ => h, fun z => by cases z⟩
/-- the field of the caught error: its class, its dict are known -/
theorem r_xf {dd : Addr} {fs : List (Str × V)} {v : V} (h : te σ H fun x H1 => x = .ref a ∧ cls = .ref C ∧ ∃ (dd : Addr) (fs : List (Str × V)) (v : V), d = some dd ∧ H1 dd = some (.xd fs) ∧ fs.lookup f = some v ∧ Q v H1) : tXf a cls d C f te σ H Q := h
theorem r_isX {b : Bool} {cv : Value} {x : V} {dd : Addr} {fs : List (Str × V)} (hd : H dd = some (.xd fs)) (hr : ∀ u, RelV x u → u = cv) (hk : PySem.W.kitOne K (.ref C) cv = some b) (h : Q (.bl b) H) : rIsX K C a (.ref C) (some dd) [.ref a, x] H Q :=
  ⟨x, cv, b, dd, fs, rfl, rfl, rfl, hd, hr, hk, h⟩
theorem relRef {p : Addr} : ∀ u, RelV (.ref p) u → u = .ref p := fun u h => h
theorem relTy {n : String} : ∀ u, RelV (.ty n) u → u = .type n := fun u h => h
end
theorem r_gT2v {K : PySem.W.Frag} {H : Hp} {σ : L2.St} {p : Addr} {x y : V} {i j : Nat} {R : L2.St → Hp → Prop} (h : SqT K H p [x, y]) (q : R ((σ.set i (some x)).set j (some y)) H) :
    gTup K 2 (gCons (gName i) (gCons (gName j) gNil)) (.ref p) σ H R := ⟨p, _, rfl, h, rfl, _, _, rfl, _, _, rfl, rfl, q⟩
theorem r_gT3v {K : PySem.W.Frag} {H : Hp} {σ : L2.St} {p : Addr} {x y z : V} {i j k : Nat} {R : L2.St → Hp → Prop} (h : SqT K H p [x, y, z]) (q : R (((σ.set i (some x)).set j (some y)).set k (some z)) H) :
    gTup K 3 (gCons (gName i) (gCons (gName j) (gCons (gName k) gNil))) (.ref p) σ H R := ⟨p, _, rfl, h, rfl, _, _, rfl, _, _, rfl, _, _, rfl, rfl, q⟩
/-! lists of data compared -/
mutual
theorem D.eqb_refl : ∀ d : D, D.eqb d d = true
  | .non => by rw [D.eqb]
  | .bl b => by rw [D.eqb]; simp
  | .int i => by rw [D.eqb]; simp
  | .str x => by rw [D.eqb]; exact beq_self_eq_true x
  | .tup ds => by rw [D.eqb]; exact D.eqL_refl ds
theorem D.eqL_refl : ∀ ds : List D, D.eqL ds ds = true
  | [] => by rw [D.eqL]
  | d :: ds => by rw [D.eqL, D.eqb_refl d, D.eqL_refl ds]; rfl
end
theorem dp_lst {K : PySem.W.Frag} {H : Hp} {p : Addr} {vs : List V} {ds : List D} (hp : SqL K H p vs) (t : TdL K H vs ds) : Dp K H (.ref p) (.list (D.pyL ds)) := .lst hp (TdL.dp ds vs t)
theorem shaped_lst {ds : List D} {n : Nat} (h : ∀ d ∈ ds, D.fit n d = true) (hn : n ≤ 62) : SeqAt.shaped (.list (D.pyL ds)) = true := by
  obtain ⟨a, b⟩ := D.fitL_lay ds n (D.fitL_iff.mpr h)
  refine Bool.and_eq_true_iff.mpr ⟨?_, decide_eq_true ?_⟩
  · simp only [PyData.canLay0]
    exact a
  · simp only [PyData.depth]
    omega
theorem r_eqLD {K : PySem.W.Frag} {H : Hp} {Q : VK} {p q : Addr} {vs ws : List V} {ds es : List D} {n : Nat} (hp : SqL K H p vs) (hq : SqL K H q ws) (t1 : TdL K H vs ds) (t2 : TdL K H ws es) (f1 : ∀ d ∈ ds, D.fit n d = true) (f2 : ∀ d ∈ es, D.fit n d = true) (hn : n ≤ 62) (h : Q (.bl (D.eqL ds es)) H) : uEq K (.ref p) (.ref q) H Q :=
  .inr ⟨_, _, dp_lst hp t1, dp_lst hq t2, shaped_lst f1 hn, shaped_lst f2 hn, by rw [PyData.eqv, D.eqL_py]; exact h⟩
theorem r_neLD {K : PySem.W.Frag} {H : Hp} {Q : VK} {p q : Addr} {vs ws : List V} {ds es : List D} {n : Nat} (hp : SqL K H p vs) (hq : SqL K H q ws) (t1 : TdL K H vs ds) (t2 : TdL K H ws es) (f1 : ∀ d ∈ ds, D.fit n d = true) (f2 : ∀ d ∈ es, D.fit n d = true) (hn : n ≤ 62) (h : Q (.bl (!D.eqL ds es)) H) : uNe K (.ref p) (.ref q) H Q :=
  .inr ⟨_, _, dp_lst hp t1, dp_lst hq t2, shaped_lst f1 hn, shaped_lst f2 hn, by rw [PyData.eqv, D.eqL_py]; exact h⟩
end U
/-! U14: a def whose arguments never arrive: nothing behind it is reached. -/
namespace U
open PySem PySem.Spec PyProof.Rows L2
def tNevE (ta : TA) : TE := fun σ H _ => ta σ H fun _ _ => False
def tOnly (t : TS) : TS := fun D σ H => t { D with nx := fun _ _ => False } σ H
section
variable {X : Cx} {x : Str} {f : Addr} {e : Expr} {es : List Expr} {t : TA} {p pos : Pos}
theorem pe_nev (hm : X.mg x = some (.ref f)) (hk : PySem.W.keepIn X.K (.ref f) = true) (hg : Gl X x) (ha : PA X (e :: es) t) (hdb : (x == ("__debug__" : Str)) = false := by decide)
    (he : starEach (e :: es) X.env = (false, eval e X.env) :: starEach es X.env := by rfl) (hpl : (backTo pos (starEach es X.env)).any (·.1) = false := by rfl) : PE X (.Call (.Name x p) (e :: es) [] pos) (tNevE t) := by
  refine ⟨fun pins s σ H Q I h => ?_⟩
  refine wpAny_Call_Name_kw (ld_glob I hg hm ?_ hdb)
  exact PySem.W.callWith_K (h₀ := X.base) I.ok.mod.kin hk (thn (ha.run pos pins s σ H _ I h) fun us s1 ⟨vs, H1, I1, r, q⟩ => q.elim) he hpl
theorem pss_only {st : Stmt} {rest : List Stmt} {t : TS} (h1 : PS X st t) : PSs X (st :: rest) (tOnly t) := by
  refine ⟨fun pins s σ H D I h => ?_⟩
  refine wpAny_execs_cons (thn (h1.run pins s σ H _ I h) fun f s1 q => ?_)
  cases f with
  | next =>
    obtain ⟨σ', H', I', q⟩ := q
    exact q.elim
  | ret v => exact q
  | brk => exact q
  | cont => exact q
end
section
variable {σ : L2.St} {H : Hp} {Q : VK} {D : Ends} {ta : TA} {t : TS}
theorem r_nevE (h : ta σ H fun _ _ => False) : tNevE ta σ H Q := h
theorem r_only (h : t { D with nx := fun _ _ => False } σ H) : tOnly t D σ H := h
end
end U
/-! U15: list(zip(x, y)) of two tuples. -/
namespace U
open PySem PySem.Spec PyProof.Rows L2
theorem zip_nolen : typeLookup (.type "zip") "__len__" = pure none := by rw [typeLookup_type, builtinLookup_eq_fast]; kernel_rfl
theorem zip_nohint : typeLookup (.type "zip") "__length_hint__" = pure none := by rw [typeLookup_type, builtinLookup_eq_fast]; kernel_rfl
section
variable {prog : Program} {w : World} {A : Around} {E : Value → Shared → Prop} {s : Shared}
/-- the next pair while the last one given is still there -/
theorem zt_item {z TI TO T i1 i2 l1 l2 : Addr} {f : Bool} {oT : Obj} {k1 k2 : Nat} {xs ys : Array Value} {x y : Value} {Q : Option Value → Shared → Prop} (D : ZipApart z TI TO i1 i2 l1 l2)
    (hz : IsZipHeld s.heap z TI TO T f) (hT : s.heap.get? T = some oT) (hTI : IsPair s.heap TI (.ref i1) (.ref i2))
    (g1 : s.heap.IsTupleIter i1 l1 k1) (g2 : s.heap.IsTupleIter i2 l2 k2) (p1 : s.heap.IsTuple l1 xs) (p2 : s.heap.IsTuple l2 ys) (ex : xs[k1]? = some x) (ey : ys[k2]? = some y)
    (hQ : ∀ h', IsZipHeld h' z TI TO T true → h'.IsTupleIter i1 l1 (k1 + 1) → h'.IsTupleIter i2 l2 (k2 + 1) → IsPair h' s.heap.objs.size x y → h'.objs.size = s.heap.objs.size + 1 →
      (∀ c o, c ∉ [z, TI, TO, i1, i2] → s.heap.get? c = some o → h'.get? c = some o) → (h'.get? TI = s.heap.get? TI) → Q (some (.ref s.heap.objs.size)) { s with heap := h' }) :
    wpAny (model prog w) A (pyNext (.ref z)) Q E s := by
  have ty : s.TypeIs (.ref z) "zip" := ⟨_, hz, rfl⟩
  unfold pyNext
  refine wpAny_bind (wpAny_attempt (wpAny_callSpecial?_slot (name := Str.ofString "__next__") ty F.slot_zip_next (wpAny_call_entry F.slot_zip_next ty F.entry_zip_next ?_ (F.args_zip_next_1 _))))
  show wpAny _ _ (field (.ref z) 2 >>= _) _ _ _
  refine wpAny_bind (wpAny_field hz rfl (x := .bool false) rfl ?_)
  show wpAny _ _ (field (.ref z) 3 >>= _) _ _ _
  refine wpAny_bind (wpAny_field hz rfl (x := .ref TI) rfl ?_)
  refine wpAny_bind (wpAny_seqItems hTI rfl ?_)
  show wpAny _ _ (Builtin.SmallTypes.ownedTupleIsFree (.ref z) >>= _) _ _ _
  refine wpAny_bind (wpAny_tupleHeld_zip hz hT fun m1 z1 b1 => ?_)
  simp only [Bool.false_eq_true, if_false]
  refine wpAny_bind ?_
  rw [← Array.forIn_toList]
  simp only [List.forIn_cons, List.forIn_nil]
  refine wpAny_bind (wpAny_bind (wpAny_holding ?_))
  show wpAny _ _ (Builtin.SmallTypes.nextOf (.ref i1) >>= _) _ _ _
  refine wpAny_bind (RZ.nextOf_tuple_item (s := { s with heap := m1 }) (g1.extBut b1.extBut D.i1z) (p1.extBut b1.extBut D.l1z) ex fun m2 q2 b2 => wpAny_pure ?_)
  refine wpAny_pure ?_
  refine wpAny_bind (wpAny_bind (wpAny_holding ?_))
  show wpAny _ _ (Builtin.SmallTypes.nextOf (.ref i2) >>= _) _ _ _
  refine wpAny_bind (RZ.nextOf_tuple_item (s := { s with heap := m2 }) ((g2.extBut b1.extBut D.i2z).extBut b2.extBut D.i12.symm) ((p2.extBut b1.extBut D.l2z).extBut b2.extBut D.l2i1) ey fun m3 q3 b3 => wpAny_pure ?_)
  refine wpAny_pure (wpAny_pure ?_)
  show wpAny _ _ (newTuple [x, y] >>= _) _ _ _
  refine wpAny_bind (wpAny_newTuple ?_)
  have es : m3.objs.size = s.heap.objs.size := by rw [b3.1, b2.1, b1.1]
  have z3 : IsZipHeld m3 z TI TO T true := b3.extBut _ _ D.i2z.symm (b2.extBut _ _ D.i1z.symm z1)
  have kp : ∀ c o, c ≠ z → c ≠ i1 → c ≠ i2 → s.heap.get? c = some o → m3.get? c = some o := fun c o c1 c2 c3 e => b3.extBut _ _ c3 (b2.extBut _ _ c2 (b1.extBut _ _ c1 e))
  have r1 : m3.IsTupleIter i1 l1 (k1 + 1) := q2.extBut b3.extBut D.i12
  refine wpAny_pure ⟨_, rfl, ?_⟩
  refine wpAny_pure ?_
  show Q (some (.ref m3.objs.size)) _
  have pr : IsPair (m3.push { cls := .type "tuple", data := .seq #[x, y] }) m3.objs.size x y := Heap.get?_push_size _ rfl
  have sz : (m3.push { cls := .type "tuple", data := .seq #[x, y] }).objs.size = m3.objs.size + 1 := Heap.size_push ..
  rw [es] at pr sz ⊢
  refine hQ _ (Heap.get?_push_of_some _ z3) (r1.at fun o e => Heap.get?_push_of_some _ e) (q3.at fun o e => Heap.get?_push_of_some _ e) pr sz (fun c o hc e => ?_) ?_
  · simp only [List.mem_cons, List.not_mem_nil, or_false, not_or] at hc
    exact Heap.get?_push_of_some _ (kp c o hc.1 hc.2.2.2.1 hc.2.2.2.2 e)
  · rw [hTI]
    exact Heap.get?_push_of_some _ (kp TI _ D.TIz D.TIi1 D.TIi2 hTI)
/-- no more pairs -/
theorem zt_end {z TI TO T i1 i2 l1 l2 : Addr} {f : Bool} {oT : Obj} {k1 k2 : Nat} {xs ys : Array Value} {Q : Option Value → Shared → Prop} (hh : A.handled = none) (D : ZipApart z TI TO i1 i2 l1 l2)
    (hz : IsZipHeld s.heap z TI TO T f) (hT : s.heap.get? T = some oT) (hTI : IsPair s.heap TI (.ref i1) (.ref i2))
    (g1 : s.heap.IsTupleIter i1 l1 k1) (g2 : s.heap.IsTupleIter i2 l2 k2) (p1 : s.heap.IsTuple l1 xs) (p2 : s.heap.IsTuple l2 ys) (ex : xs[k1]? = none)
    (hQ : ∀ h', (∀ c o, c ∉ [z, TI, TO, i1, i2] → s.heap.get? c = some o → h'.get? c = some o) → Q none { s with heap := h' }) :
    wpAny (model prog w) A (pyNext (.ref z)) Q E s := by
  have ty : s.TypeIs (.ref z) "zip" := ⟨_, hz, rfl⟩
  unfold pyNext
  refine wpAny_bind (wpAny_attempt (wpAny_callSpecial?_slot (name := Str.ofString "__next__") ty F.slot_zip_next (wpAny_call_entry F.slot_zip_next ty F.entry_zip_next ?_ (F.args_zip_next_1 _))))
  show wpAny _ _ (field (.ref z) 2 >>= _) _ _ _
  refine wpAny_bind (wpAny_field hz rfl (x := .bool false) rfl ?_)
  show wpAny _ _ (field (.ref z) 3 >>= _) _ _ _
  refine wpAny_bind (wpAny_field hz rfl (x := .ref TI) rfl ?_)
  refine wpAny_bind (wpAny_seqItems hTI rfl ?_)
  show wpAny _ _ (Builtin.SmallTypes.ownedTupleIsFree (.ref z) >>= _) _ _ _
  refine wpAny_bind (wpAny_tupleHeld_zip hz hT fun m1 z1 b1 => ?_)
  simp only [Bool.false_eq_true, if_false]
  refine wpAny_bind ?_
  rw [← Array.forIn_toList]
  simp only [List.forIn_cons, List.forIn_nil]
  refine wpAny_bind (wpAny_bind (wpAny_holding ?_))
  show wpAny _ _ (Builtin.SmallTypes.nextOf (.ref i1) >>= _) _ _ _
  refine wpAny_bind (RZ.nextOf_tuple_end (s := { s with heap := m1 }) hh (g1.extBut b1.extBut D.i1z) (p1.extBut b1.extBut D.l1z) ex fun m2 e b2 he => ?_)
  obtain ⟨o, ho, hc⟩ := he
  refine wpAny_bind (wpAny_isInstance (T := "StopIteration") (b := true) ⟨o, ho, hc⟩ isSubtype_stop ?_)
  refine wpAny_pure (hQ _ fun c o hc e => ?_)
  simp only [List.mem_cons, List.not_mem_nil, or_false, not_or] at hc
  exact b2 _ _ hc.2.2.2.1 (b1.extBut _ _ hc.1 e)
end
/-- the zip ahead of its i-th pair -/
def ZSt (h : Heap) (z TI TO i1 i2 a b : Addr) (i : Nat) : Prop := IsPair h TI (.ref i1) (.ref i2) ∧ h.IsTupleIter i1 a i ∧ h.IsTupleIter i2 b i ∧
  ((IsZip h z TI TO .none ∧ ∃ x y, IsPair h TO x y) ∨ ∃ (T : Addr) (f : Bool) (oT : Obj), IsZipHeld h z TI TO T f ∧ h.get? T = some oT ∧ T ∉ [z, TI, TO, i1, i2])
theorem ZSt.keep {h h' : Heap} {z TI TO i1 i2 a b S : Addr} {i : Nat} (st : ZSt h z TI TO i1 i2 a b i) (k : ∀ c o, c ≠ S → h.get? c = some o → h'.get? c = some o) (hS : S ∉ [z, TI, TO, i1, i2]) (hS2 : ∃ o, h'.get? S = some o) : ZSt h' z TI TO i1 i2 a b i := by
  simp only [List.mem_cons, List.not_mem_nil, or_false, not_or] at hS
  obtain ⟨h1, h2, h3, h4⟩ := st
  refine ⟨k _ _ (Ne.symm hS.2.1) h1, h2.at fun o e => k _ _ (Ne.symm hS.2.2.2.1) e, h3.at fun o e => k _ _ (Ne.symm hS.2.2.2.2) e, ?_⟩
  rcases h4 with ⟨z1, x, y, t1⟩ | ⟨T, f, oT, z1, t1, n⟩
  · exact .inl ⟨k _ _ (Ne.symm hS.1) z1, x, y, k _ _ (Ne.symm hS.2.2.1) t1⟩
  · by_cases e : T = S
    · obtain ⟨o, ho⟩ := hS2
      exact .inr ⟨T, f, o, k _ _ (Ne.symm hS.1) z1, by rw [e]; exact ho, n⟩
    · exact .inr ⟨T, f, oT, k _ _ (Ne.symm hS.1) z1, k _ _ e t1, n⟩
/-- the pairs made so far -/
def ZPairs (H : Hp) (ts : List Addr) (xs ys : List V) : Prop := ∀ (j : Nat) (t : Addr) (x y : V), ts[j]? = some t → xs[j]? = some x → ys[j]? = some y → H t = some (.tup [x, y])
section
variable {X : Cx} {pins : List (Addr × Obj)} {σ : L2.St} {z TI TO i1 i2 a b S : Addr} {xs ys : List V} {A : Around} {H0 : Hp} {R : Result → Shared → Prop}
theorem zl_loop (hc : A.handled = none) (D : ZipApart z TI TO i1 i2 a b) (hl : xs.length = ys.length) (hn : xs.length ≤ 1000) (hS : S ∉ [z, TI, TO, i1, i2]) (h0S : H0 S = none) (hqx : SqT X.K H0 a xs) (hqy : SqT X.K H0 b ys) (res : Value)
    (hR : ∀ H s ts, Inv X pins σ H s → Same H0 H → H S = some (.lst (ts.map V.ref)) → ts.length = xs.length → ZPairs H ts xs ys → R (.ok (.ret res)) s) :
    ∀ (k i : Nat) (H : Hp) (s : Shared) (ts : List Addr), xs.length - i = k → i ≤ xs.length → Inv X pins σ H s → ZSt s.heap z TI TO i1 i2 a b i → (∀ c ∈ [z, TI, TO, i1, i2], FpOk X pins H c ∧ c < s.heap.objs.size) → Same H0 H → H S = some (.lst (ts.map V.ref)) → ts.length = i → ZPairs H ts xs ys →
      codeAny (model X.prog X.w) A (.builtin "list.extend.loop" ⟨[.ref S, .ref z, res], []⟩) R s := by
  intro k
  induction k with
  | zero =>
    intro i H s ts hk hi I st hf sm hSl hts hp
    have ei : i = xs.length := by omega
    refine codeAny_builtin PySem.F.entry_extend_loop ?_
    rw [Around.under_plainId PySem.F.plain_extend_loop _]
    show wpAny _ A.in1 (pyNext (.ref z) >>= _) _ _ _
    obtain ⟨its, rv, p1, _⟩ := I.tuple (Same.tk sm a xs hqx)
    obtain ⟨its2, rv2, p2, _⟩ := I.tuple (Same.tk sm b ys hqy)
    have l1 := rv.length
    have ex : its.toArray[i]? = none := by simp; omega
    obtain ⟨t1, t2, t3, t4⟩ := st
    have fin : ∀ h', (∀ c o, c ∉ [z, TI, TO, i1, i2] → s.heap.get? c = some o → h'.get? c = some o) → R (.ok (.ret res)) { s with heap := h' } := fun h' hk =>
      hR H _ ts (I.turnedL (t' := s.toks) (ch := [z, TI, TO, i1, i2]) hk fun c hc => (hf c hc).1) sm hSl (by omega) hp
    rcases t4 with ⟨z1, u, v, to⟩ | ⟨T, f, oT, z1, to, nT⟩
    · refine wpAny_bind (RZ.pyNext_zipT_end (A := A.in1) hc D z1 t1 to t2 t3 p1 p2 (.inl ex) fun h' hk => wpAny_pure (fin h' fun c o hcm => ?_))
      simp only [List.mem_cons, List.not_mem_nil, or_false, not_or] at hcm
      exact hk c o hcm.1 hcm.2.2.1 hcm.2.2.2.1 hcm.2.2.2.2
    · exact wpAny_bind (zt_end (A := A.in1) hc D z1 to t1 t2 t3 p1 p2 ex fun h' hk => wpAny_pure (fin h' hk))
  | succ k ih =>
    intro i H s ts hk hi I st hf sm hSl hts hp
    have hlt : i < xs.length := by omega
    refine codeAny_builtin PySem.F.entry_extend_loop ?_
    rw [Around.under_plainId PySem.F.plain_extend_loop _]
    show wpAny _ A.in1 (pyNext (.ref z) >>= _) _ _ _
    obtain ⟨its, rv, p1, _⟩ := I.tuple (Same.tk sm a xs hqx)
    obtain ⟨its2, rv2, p2, _⟩ := I.tuple (Same.tk sm b ys hqy)
    have hx : xs[i]? = some xs[i] := List.getElem?_eq_getElem hlt
    have hy : ys[i]? = some ys[i] := List.getElem?_eq_getElem (by omega)
    obtain ⟨u, hu, ru⟩ := rv.get hx
    obtain ⟨u2, hu2, ru2⟩ := rv2.get hy
    have hu : its.toArray[i]? = some u := by simpa using hu
    have hu2 : its2.toArray[i]? = some u2 := by simpa using hu2
    generalize xs[i] = x at hx ru
    generalize ys[i] = y at hy ru2
    obtain ⟨t1, t2, t3, t4⟩ := st
    have hTn : H s.heap.objs.size = none := I.hok.fresh (Nat.le_refl _)
    have hST : S ≠ s.heap.objs.size := fun e => by rw [e, hTn] at hSl; cases hSl
    have step : ∀ h' : Heap, ZSt h' z TI TO i1 i2 a b (i + 1) → IsPair h' s.heap.objs.size u u2 → h'.objs.size = s.heap.objs.size + 1 → (∀ c o, c ∉ [z, TI, TO, i1, i2] → s.heap.get? c = some o → h'.get? c = some o) →
        wpAny (model X.prog X.w) A.in1 (updateSeq S (·.push (Value.ref s.heap.objs.size)) >>= fun _ => again (.builtin "list.extend.loop" ⟨[.ref S, .ref z, res], []⟩))
          (fun fin s' => match fin with | .done f => R (.ok f) s' | .again c' => c'.quiet = true ∧ codeAny (model X.prog X.w) A c' R s') (fun e s' => R (.error e) s') { s with heap := h' } := by
      intro h' st' hT sz kp
      have new : ObjOk X.prog X.w (upd H s.heap.objs.size (.tup [x, y])) h' s.heap.objs.size (.tup [x, y]) :=
        ⟨by show 2 ≤ sizeLine; decide, [u, u2], .cons ru (.cons ru2 .nil), ⟨_, hT, rfl, _, rfl⟩⟩
      have I1 : Inv X pins σ (upd H s.heap.objs.size (.tup [x, y])) { s with heap := h' } := I.turnedNew (t' := s.toks) (ch := [z, TI, TO, i1, i2]) kp (fun c hc => (hf c hc).1) (Nat.le_refl _) new
      have eS : upd H s.heap.objs.size (.tup [x, y]) S = some (.lst (ts.map V.ref)) := by rw [upd_ne hST]; exact hSl
      obtain ⟨zz, lst, n, r, ll, e⟩ := I1.lstM eS
      have hle : lst.length = i := by rw [← ll, List.length_map, hts]
      refine wpAny_bind ?_
      refine wpAny_updateSeq e rfl (wpAny_pure ⟨plainId_quiet PySem.F.plain_extend_loop _, ?_⟩) (by rw [List.size_toArray, hle, sizeLine_eq]; omega) (by rw [Array.size_push, List.size_toArray, hle, sizeLine_eq]; omega)
      have I2 := I1.lset (t' := s.toks) (f := (·.push (Value.ref s.heap.objs.size))) (its' := lst ++ [Value.ref s.heap.objs.size]) (ys := ts.map V.ref ++ [V.ref s.heap.objs.size]) eS e (by simp) (r.append (.cons rfl .nil)) (by rw [List.length_append, List.length_map, hts, sizeLine_eq]; show i + 1 ≤ _; omega)
      have up : ∀ c o, c ≠ S → h'.get? c = some o → (h'.update S (Obj.mapSeq (·.push (Value.ref s.heap.objs.size)))).get? c = some o := fun c o hc e => (Heap.get?_update_other _ _ (Ne.symm hc)).trans e
      have sm2 : Same H0 (upd (upd H s.heap.objs.size (.tup [x, y])) S (.lst (ts.map V.ref ++ [V.ref s.heap.objs.size]))) := fun c o e => by
        have c1 : c ≠ S := fun q => by rw [q, h0S] at e; cases e
        have c2 : c ≠ s.heap.objs.size := fun q => by
          have := sm c o e
          rw [q, hTn] at this
          cases this
        rw [upd_ne c1, upd_ne c2]
        exact sm c o e
      refine ih (i + 1) _ _ (ts ++ [s.heap.objs.size]) (by omega) hlt I2 (st'.keep up hS ⟨_, Heap.get?_update_self _ e rfl⟩) (fun c hcm => ?_) sm2 (by rw [List.map_append]; exact upd_same) (by rw [List.length_append, hts]; rfl) (fun j t x' y' e1 e2 e3 => ?_)
      · obtain ⟨⟨f1, f2⟩, f3⟩ := hf c hcm
        have c1 : c ≠ S := fun q => hS (q ▸ hcm)
        refine ⟨⟨by rw [upd_ne c1, upd_ne (Nat.ne_of_lt f3)]; exact f1, f2⟩, ?_⟩
        show c < (h'.update S _).objs.size
        rw [Heap.size_update, sz]
        exact Nat.lt_succ_of_lt f3
      · by_cases hj : j < ts.length
        · rw [List.getElem?_append_left hj] at e1
          have q := hp j t x' y' e1 e2 e3
          have c1 : t ≠ S := fun z => by rw [z, hSl] at q; cases q
          have c2 : t ≠ s.heap.objs.size := fun z => by rw [z, hTn] at q; cases q
          rw [upd_ne c1, upd_ne c2]
          exact q
        · have hj2 : j = ts.length := by
            have := (List.getElem?_eq_some_iff.mp e1).1
            rw [List.length_append] at this
            have : j < ts.length + 1 := this
            omega
          subst hj2
          have e4 : t = s.heap.objs.size := by simpa using e1.symm
          rw [hts] at e2 e3
          rw [hx] at e2
          rw [hy] at e3
          cases e2
          cases e3
          rw [e4, upd_ne (Ne.symm hST)]
          exact upd_same
    rcases t4 with ⟨z1, v1, v2, to⟩ | ⟨T, f, oT, z1, to, nT⟩
    · refine wpAny_bind (RZ.pyNext_zipT_item D z1 t1 to t2 t3 p1 p2 hu hu2 fun h' z' TO' g1 g2 hT sz kp => step h' ⟨kp _ _ D.TIz D.TITO D.TIi1 D.TIi2 t1, g1, g2, .inr ⟨_, false, _, z', hT, fun hm => ?_⟩⟩ hT sz fun c o hcm => ?_)
      · exact Nat.lt_irrefl _ (hf _ hm).2
      · simp only [List.mem_cons, List.not_mem_nil, or_false, not_or] at hcm
        exact kp c o hcm.1 hcm.2.2.1 hcm.2.2.2.1 hcm.2.2.2.2
    · refine wpAny_bind (zt_item D z1 to t1 t2 t3 p1 p2 hu hu2 fun h' z' g1 g2 hT sz kp kTI => step h' ⟨kTI.trans t1, g1, g2, .inr ⟨T, true, oT, z', kp T oT nT to, nT⟩⟩ hT sz kp)
/-- list(zip(x, y)), two tuples of one length -/
def tLZip (K : PySem.W.Frag) (ta : TA) : TE := fun σ H Q => ta σ H fun vs H1 => ∃ a b xs ys, vs = [.ref a, .ref b] ∧ SqT K H1 a xs ∧ SqT K H1 b ys ∧ xs.length = ys.length ∧ xs.length ≤ 1000 ∧
  ∀ S H2 ts, Same H1 H2 → H1 S = none → H2 S = some (.lst (ts.map V.ref)) → ts.length = xs.length → ZPairs H2 ts xs ys → Q (.ref S) H2
theorem pe_lzip {e e2 : Expr} {ta : TA} {p p2 q pos : Pos} (hgl : Gl X "list") (hml : X.mg "list" = none) (hg : Gl X "zip") (hm : X.mg "zip" = none) (ha : PA X [e, e2] ta) (hcalm : X.calm = true)
    (hs : starEach [e, e2] X.env = (false, eval e X.env) :: starEach [e2] X.env := by rfl) (hpl : (backTo q (starEach [e2] X.env)).any (·.1) = false := by rfl)
    (na : starEach [Expr.Call (.Name "zip" p2) [e, e2] [] q] X.env = (false, eval (.Call (.Name "zip" p2) [e, e2] [] q) X.env) :: starEach [] X.env := by rfl) :
    PE X (.Call (.Name "list" p) [.Call (.Name "zip" p2) [e, e2] [] q] [] pos) (tLZip X.K ta) := by
  refine ⟨fun pins s σ H Q I h => ?_⟩
  have hc : X.A.handled = none := I.ok.hd hcalm
  refine Call_ (ld_blt I hgl hml boot_list ?_)
  refine PyProof.Rows.callWith_type1 (PyProof.Rows.args_cons ?_ na) na rfl
  refine Call_ (ld_blt I hg hm PyProof.Rows.boot_zip (PyProof.Rows.callWith_type1 (thn (ha.run q pins s σ H _ I h) fun us s1 ⟨vs, H1, I1, r1, q1⟩ => ?_) hs hpl))
  obtain ⟨a, b, xs, ys, ex, hqx, hqy, hl, hn, q1⟩ := q1
  subst ex
  cases r1 with
  | cons r rr =>
    cases rr with
    | cons r' rr =>
      cases rr
      cases r
      cases r'
      obtain ⟨its, rv, p1, _⟩ := I1.tuple hqx
      obtain ⟨its2, rv2, p2, _⟩ := I1.tuple hqy
      obtain ⟨o1, ho1, _⟩ := id p1
      obtain ⟨o2, ho2, _⟩ := id p2
      refine RZ.call_zipT (show s1.heap.IsTuple a its.toArray from p1) (show s1.heap.IsTuple b its2.toArray from p2) fun h' hz hTI hTO g1 g2 hsz hk => ?_
      have I2 : Inv X pins σ H1 { s1 with heap := h' } := I1.kept (t' := s1.toks) hk
      have D := PySem.W.ktu_apart s1.heap.objs.size a b (Heap.lt_size ho1) (Heap.lt_size ho2)
      have hf5 : ∀ c ∈ [s1.heap.objs.size + 4, s1.heap.objs.size + 2, s1.heap.objs.size + 3, s1.heap.objs.size, s1.heap.objs.size + 1], FpOk X pins H1 c ∧ s1.heap.objs.size ≤ c ∧ c < s1.heap.objs.size + 5 := fun c hcm => by
        have e' : c = s1.heap.objs.size + 4 ∨ c = s1.heap.objs.size + 2 ∨ c = s1.heap.objs.size + 3 ∨ c = s1.heap.objs.size ∨ c = s1.heap.objs.size + 1 := by simpa using hcm
        have hle : s1.heap.objs.size ≤ c := by
          rcases e' with z | z | z | z | z
          · rw [z]; exact Nat.le_add_right _ _
          · rw [z]; exact Nat.le_add_right _ _
          · rw [z]; exact Nat.le_add_right _ _
          · rw [z]; exact Nat.le_refl _
          · rw [z]; exact Nat.le_add_right _ _
        have hgt : c < s1.heap.objs.size + 5 := by
          rcases e' with z | z | z | z | z
          · rw [z]; exact Nat.add_lt_add_left (by decide) _
          · rw [z]; exact Nat.add_lt_add_left (by decide) _
          · rw [z]; exact Nat.add_lt_add_left (by decide) _
          · rw [z]; exact Nat.lt_add_of_pos_right (by decide)
          · rw [z]; exact Nat.add_lt_add_left (by decide) _
        exact ⟨I1.fpOk hle (I1.hok.fresh hle), hle, hgt⟩
      generalize s1.heap.objs.size + 4 = z at *
      generalize s1.heap.objs.size + 2 = TI at *
      generalize s1.heap.objs.size + 3 = TO at *
      generalize s1.heap.objs.size + 1 = i2 at *
      refine PyProof.Rows.args_nil ?_
      have hSn : H1 h'.objs.size = none := I2.hok.fresh (Nat.le_refl _)
      have hsS : ∀ c ∈ [z, TI, TO, s1.heap.objs.size, i2], c ≠ h'.objs.size := fun c hcm => Nat.ne_of_lt (by rw [hsz]; exact (hf5 c hcm).2.2)
      have hS : (h'.push { cls := .type "list", data := .seq #[] }).get? h'.objs.size = some { cls := .type "list", data := .seq #[] } := Heap.get?_push_size _ rfl
      refine callType_codes (Q₁ := fun obj s₁ => obj = .ref h'.objs.size ∧ s₁ = { s1 with heap := h'.push { cls := .type "list", data := .seq #[] } }) PySem.F.called_list (PySem.F.typeCall_list_1 _) PySem.F.entry_list_init
        (code_list_new _ ⟨rfl, rfl⟩) fun obj s₁ h₁ => ?_
      obtain ⟨rfl, rfl⟩ := h₁
      refine ⟨⟨_, hS, rfl⟩, PySem.F.args_list_init_2 _ _, ?_⟩
      have I3 : Inv X pins σ (upd H1 h'.objs.size (.lst [])) { s1 with heap := h'.push { cls := .type "list", data := .seq #[] } } := I2.lnew (its := []) (ys := []) (t' := s1.toks) .nil (Nat.zero_le _)
      have st0 : ZSt h' z TI TO s1.heap.objs.size i2 a b 0 := ⟨hTI, g1, g2, .inl ⟨hz, _, _, hTO⟩⟩
      have nS : h'.objs.size ∉ [z, TI, TO, s1.heap.objs.size, i2] := fun hm => hsS _ hm rfl
      have st1 := st0.keep (h' := h'.push { cls := .type "list", data := .seq #[] }) (fun c o _ e => Heap.get?_push_of_some _ e) nS ⟨_, hS⟩
      have hzp : (h'.push { cls := .type "list", data := .seq #[] }).objs.size = h'.objs.size + 1 := Heap.size_push ..
      have zz1 : IsZip (h'.push { cls := .type "list", data := .seq #[] }) z TI TO .none := Heap.get?_push_of_some _ hz
      generalize hS0 : h'.objs.size = S at *
      generalize h'.push { cls := .type "list", data := .seq #[] } = h2 at *
      show wpAny _ _ (do let old ← Builtin.List.listItems (.ref S); Builtin.List.listUpdate (.ref S) (fun _ => #[]); letGo old.toList.reverse; Builtin.List.listExtendWith (.ref S) (.ref z) .none) _ _ _
      refine wpAny_bind ?_
      unfold Builtin.List.listItems
      refine wpAny_bind (wpAny_seqItems hS rfl (wpAny_pure ?_))
      show wpAny _ _ (updateSeq S (fun _ => #[]) >>= fun _ => letGo (#[] : Array Value).toList.reverse >>= fun _ => Builtin.List.listExtendWith (.ref S) (.ref z) .none) _ _ _
      refine wpAny_bind (wpAny_updateSeq hS rfl ?_)
      refine wpAny_bind (wpAny_letGo ?_)
      have oth : ∀ (h : Heap) (f : Array Value → Array Value) c o, c ≠ S → h.get? c = some o → (h.update S (Obj.mapSeq f)).get? c = some o := fun h f c o hc e => (Heap.get?_update_other _ _ (Ne.symm hc)).trans e
      have I4 := I3.lset (t' := s1.toks) (f := fun _ => (#[] : Array Value)) (its := []) (its' := []) (ys := []) upd_same hS rfl .nil (Nat.zero_le _)
      have hS4 := Heap.get?_update_self (Obj.mapSeq (fun _ => (#[] : Array Value))) hS rfl
      have st4 := st1.keep (oth h2 _) nS ⟨_, hS4⟩
      have hz4 : (h2.update S (Obj.mapSeq (fun _ => (#[] : Array Value)))).objs.size = S + 1 := by rw [Heap.size_update]; exact hzp
      have zz : IsZip (h2.update S (Obj.mapSeq (fun _ => (#[] : Array Value)))) z TI TO .none := oth h2 _ _ _ (hsS z (by simp)) zz1
      generalize h2.update S (Obj.mapSeq (fun _ => (#[] : Array Value))) = h4 at *
      have hS4 : h4.get? S = some { cls := .type "list", data := .seq #[] 0 } ∨ True := .inr trivial
      have eS4 : upd (upd H1 S (.lst [])) S (.lst []) S = some (.lst []) := upd_same
      obtain ⟨_, l4, n4, r4, _, e4⟩ := I4.lstM eS4
      cases r4
      unfold Builtin.List.listExtendWith
      refine wpAny_bind (wpAny_typeOf (T := "zip") ⟨_, zz, rfl⟩ ?_)
      have hSz : S ≠ z := (hsS z (by simp)).symm
      have d1 : Builtin.List.listSameRef (.ref S) (.ref z) = false := by simp [Builtin.List.listSameRef, hSz]
      have d2 : (Value.type "zip" == Value.type "list") = false := by decide
      have d3 : (Value.type "zip" == Value.type "tuple") = false := by decide
      simp only [d1, d2, d3, Bool.or_false, Bool.false_eq_true, if_false]
      refine wpAny_bind (wpAny_pyIter_zip zz ?_)
      refine wpAny_bind (wpAny_holding ?_)
      unfold Builtin.List.listLengthHint
      refine wpAny_bind (wpAny_specialOf (T := "zip") ⟨_, zz, rfl⟩ zip_nolen ?_)
      show wpAny _ _ (specialOf (Value.ref z) (Str.ofString "__length_hint__") >>= _) _ _ _
      refine wpAny_bind (wpAny_specialOf (T := "zip") ⟨_, zz, rfl⟩ zip_nohint ?_)
      refine wpAny_pure ?_
      show wpAny _ _ (rule "list.extend.makes-room" >>= fun _ => Builtin.List.listTouch (.ref S) >>= fun _ => again (.builtin "list.extend.loop" ⟨[.ref S, .ref z, .none], []⟩)) _ _ _
      refine wpAny_bind (wpAny_rule ?_)
      refine wpAny_bind ?_
      show wpAny _ _ (updateSeq S (·.push .none) >>= fun _ => updateSeq S (·.pop)) _ _ _
      refine wpAny_bind (wpAny_updateSeq e4 rfl ?_)
      have I5 := I4.lset (t' := s1.toks) (f := (·.push Value.none)) (its := []) (its' := [Value.none]) (ys := [V.non]) eS4 e4 rfl (.cons rfl .nil) (by rw [sizeLine_eq]; decide)
      have e5 := Heap.get?_update_self (Obj.mapSeq (·.push Value.none)) e4 rfl
      have st5 := st4.keep (oth h4 (·.push Value.none)) nS ⟨_, e5⟩
      have hz5 : (h4.update S (Obj.mapSeq (·.push Value.none))).objs.size = S + 1 := by rw [Heap.size_update]; exact hz4
      generalize h4.update S (Obj.mapSeq (·.push Value.none)) = h5 at *
      have eS5 : upd (upd (upd H1 S (.lst [])) S (.lst [])) S (.lst [V.non]) S = some (.lst [V.non]) := upd_same
      obtain ⟨_, l5, n5, r5, _, e5'⟩ := I5.lstM eS5
      obtain ⟨v5, rfl, rv5⟩ := r5.one
      refine wpAny_updateSeq (hz := by seq_fits) e5' rfl ?_
      have I6 := I5.lset (t' := s1.toks) (f := (·.pop)) (its := [v5]) (its' := []) (ys := []) eS5 e5' rfl .nil (Nat.zero_le _)
      have e6 := Heap.get?_update_self (Obj.mapSeq (·.pop)) e5' rfl
      have st6 := st5.keep (oth h5 (·.pop)) nS ⟨_, e6⟩
      have hz6 : (h5.update S (Obj.mapSeq (·.pop))).objs.size = S + 1 := by rw [Heap.size_update]; exact hz5
      have ne6 : ∀ c, c ≠ S → upd (upd (upd (upd H1 S (.lst [])) S (.lst [])) S (.lst [V.non])) S (.lst []) c = H1 c := fun c hc => by rw [upd_ne hc, upd_ne hc, upd_ne hc, upd_ne hc]
      refine wpAny_pure ⟨plainId_quiet PySem.F.plain_extend_loop _, zl_loop (A := X.A.in1) (H0 := H1) hc D hl hn nS hSn hqx hqy .none (fun H' s' ts I' sm' hl' hts' hp' => ⟨rfl, .ref S, H', I', rfl, q1 S H' ts sm' hSn hl' hts' hp'⟩) xs.length 0 _ _ [] (Nat.sub_zero _) (Nat.zero_le _) I6 st6 (fun c hcm => ?_) (fun c o e => ?_) upd_same rfl (fun j t x y e => by simp at e)⟩
      · obtain ⟨⟨f1, f2⟩, f3, f4⟩ := hf5 c hcm
        refine ⟨⟨by rw [ne6 c (hsS c hcm)]; exact f1, f2⟩, ?_⟩
        show c < (h5.update S (Obj.mapSeq (·.pop))).objs.size
        rw [hz6]
        exact Nat.lt_succ_of_lt (by rw [← hsz] at f4; exact f4)
      · have hcS : c ≠ S := fun q => by rw [q, hSn] at e; cases e
        rw [ne6 c hcS]
        exact e
end
section
variable {K : PySem.W.Frag} {σ : L2.St} {H : Hp} {Q : VK} {ta : TA} {R : It → Hp → Prop}
theorem r_lzip (h : ta σ H fun vs H1 => ∃ a b xs ys, vs = [.ref a, .ref b] ∧ SqT K H1 a xs ∧ SqT K H1 b ys ∧ xs.length = ys.length ∧ xs.length ≤ 1000 ∧
  ∀ S H2 ts, Same H1 H2 → H1 S = none → H2 S = some (.lst (ts.map V.ref)) → ts.length = xs.length → ZPairs H2 ts xs ys → Q (.ref S) H2) : tLZip K ta σ H Q := h
theorem r_zip (h : ta σ H fun vs H1 => ∃ a b xs ys, vs = [.ref a, .ref b] ∧ ((SqL K H1 a xs ∧ SqL K H1 b ys ∧ R (Itz K a b) H1) ∨ (SqT K H1 a xs ∧ SqT K H1 b ys ∧ R (RZ.ItzT K a b) H1))) : RZ.iZipA K ta σ H R := h
end
end U
/-! U16: a dict of the module's top with constant keys, read by its keys; a local name that holds one of several defs. -/
namespace U
open PySem PySem.Spec PyProof.Rows L2 He
/-- a value of such a dict: an int, a text, a def -/
inductive DVal where
  | int (i : Int) | str (z : Str) | fn (f : Str)
structure DicD where
  x : Str
  kvs : List (Key × DVal)
def DVal.v (K : PySem.W.Frag) : DVal → V
  | .int i => .int i
  | .str z => .str z
  | .fn f => .ref (ga K f)
def DicD.kv (K : PySem.W.Frag) (d : DicD) : List (Key × V) := d.kvs.map fun p => (p.1, p.2.v K)
def DVal.is (K : PySem.W.Frag) (d : DVal) (v : Value) : Bool := match d, v with
  | .int i, .int j _ => decide (j = i)
  | .str z, .str y _ => decide (y = z)
  | .fn f, .ref a => a == ga K f
  | _, _ => false
theorem DVal.is_ok {K : PySem.W.Frag} {d : DVal} {v : Value} (h : d.is K v = true) : RelV (d.v K) v := by
  cases d <;> cases v <;> first
    | (cases h; done)
    | (exact ⟨_, by rw [of_decide_eq_true h]⟩)
    | (have e := beq_iff_eq.mp (show (_ == _) = true from h); subst e; rfl)
def entB (K : PySem.W.Frag) : List (Key × DVal) → List DictEntry → List (Int × Bool)
  | p :: ps, e :: es => (e.hash, keyIs p.1 e.key && p.2.is K e.val) :: entB K ps es
  | _, _ => []
/-- the entries, as far as the names go; both as long -/
def dicS (K : PySem.W.Frag) (d : DicD) : Bool × List (Int × Bool) := match K.lookup (ga K d.x) with
  | some o => (match o.data with
    | .dict es _ => (decide (es.toList.length = d.kvs.length) && (!(ga K d.x == sysModules) && (decide (o.cls = .type "dict") && (o.dict.isNone && o.slots.isEmpty))), entB K d.kvs es.toList)
    | _ => (false, []))
  | none => (false, [])
def DicD.val (w : World) (d : DicD) : Bool × List (Int × Bool) := (true, d.kvs.map fun p => (keyH w p.1, true))
/-- what is known of such a dict -/
def DicF (w : World) (K : PySem.W.Frag) (d : DicD) : Prop :=
  ∃ o es ep, K.lookup (ga K d.x) = some o ∧ o.ExactDict ∧ o.data = .dict es ep ∧ (ga K d.x == sysModules) = false ∧
    ∃ vs, KV (d.kv K) vs ∧ (∀ (P : Program), KeysOf (mixKind P w) es ∧ Pairs (mixKind P w) es.toList vs) ∧ (vs.map (·.1)).Nodup
theorem entB_ok {w : World} {K : PySem.W.Frag} : ∀ (ps : List (Key × DVal)) (es : List DictEntry), es.length = ps.length → entB K ps es = ps.map (fun p => (keyH w p.1, true)) →
    ∃ vs : List (Key × Value), KV (ps.map fun p => (p.1, p.2.v K)) vs ∧ vs.map (·.1) = ps.map (·.1) ∧ ∀ P : Program, (∀ e ∈ es, ∃ k, (mixKind P w).is k e.key = true ∧ e.hash = (mixKind P w).hash k) ∧ Pairs (mixKind P w) es vs
  | [], [], _, _ => ⟨[], .nil, rfl, fun P => ⟨(fun _ h => nomatch h), .nil⟩⟩
  | [], _ :: _, h, _ => by simp at h
  | _ :: _, [], h, _ => by simp at h
  | p :: ps, e :: es, hl, h => by
    have h : (e.hash, keyIs p.1 e.key && p.2.is K e.val) :: entB K ps es = (keyH w p.1, true) :: ps.map (fun p => (keyH w p.1, true)) := h
    injection h with h1 h2
    injection h1 with h3 h4
    obtain ⟨h5, h6⟩ := Bool.and_eq_true_iff.mp h4
    obtain ⟨vs, k, n, q⟩ := entB_ok ps es (by simpa using hl) h2
    refine ⟨(p.1, e.val) :: vs, .cons ⟨rfl, DVal.is_ok h6⟩ k, by simp [n], fun P => ⟨?_, .cons h5 rfl (q P).2⟩⟩
    intro x hx
    rcases List.mem_cons.mp hx with rfl | hx
    · exact ⟨p.1, h5, h3⟩
    · exact (q P).1 x hx
theorem dicS_ok {w : World} {K : PySem.W.Frag} {d : DicD} (h : dicS K d = d.val w) (nd : (d.kvs.map (·.1)).Nodup) : DicF w K d := by
  unfold dicS DicD.val at h
  cases hk : K.lookup (ga K d.x) with
  | none =>
    rw [hk] at h
    injection h with h1 h2
    cases h1
  | some o =>
    rw [hk] at h
    obtain ⟨oc, od, dt, os⟩ := o
    cases dt with
    | dict es ep =>
      injection h with h1 h2
      obtain ⟨h3, h4⟩ := Bool.and_eq_true_iff.mp h1
      obtain ⟨h4, h45⟩ := Bool.and_eq_true_iff.mp h4
      obtain ⟨h5, h56⟩ := Bool.and_eq_true_iff.mp h45
      obtain ⟨h6, h7⟩ := Bool.and_eq_true_iff.mp h56
      have g5 : oc = .type "dict" := of_decide_eq_true h5
      have g6 : od = none := Option.isNone_iff_eq_none.mp h6
      have g7 : os = #[] := Array.isEmpty_iff.mp h7
      clear h5 h6 h7 h45 h56
      subst g5 g6 g7
      obtain ⟨vs, k, n, q⟩ := entB_ok d.kvs es.toList (of_decide_eq_true h3) h2
      exact ⟨_, es, ep, hk, ⟨rfl, rfl, rfl⟩, rfl, by simpa using h4, vs, k, fun P => ⟨fun e he => (q P).1 e (Array.mem_toList_iff.mpr he), (q P).2⟩, by rw [n]; exact nd⟩
    | _ =>
      injection h with h1 h2
      cases h1
section
variable {X : Cx} {pins : List (Addr × Obj)} {σ : L2.St} {H : Hp} {s : Shared} {d : DicD} {y v : V} {u : Value} {A : Around} {E : Value → Shared → Prop}
theorem DicF.of (F : DicF X.w X.K d) (I : Inv X pins σ H s) : ∃ vs, KV (d.kv X.K) vs ∧ s.heap.DictOf (mixKind X.prog X.w) (ga X.K d.x) vs := by
  obtain ⟨o, es, ep, hk, hx, hd, _, vs, k, q, n⟩ := F
  exact ⟨vs, k, o, es, ep, I.kIn _ _ hk, hx, hd, (q X.prog).1, (q X.prog).2, n⟩
theorem DicF.nm (F : DicF X.w X.K d) : (ga X.K d.x == sysModules) = false := by
  obtain ⟨o, es, ep, hk, hx, hd, h, _⟩ := F
  exact h
/-- d[y] -/
def tKGet (D : List (Key × V)) (ti : TE) : TE := fun σ H Q => ti σ H fun y H1 => ∃ k v, y = kV k ∧ valV D k = some v ∧ Q v H1
/-- y in d -/
def tKIn (D : List (Key × V)) (ti : TE) : TE := fun σ H Q => ti σ H fun y H1 => ∃ k, y = kV k ∧ Q (.bl (valV D k).isSome) H1
variable {o i : Expr} {pos : Pos} {ty : TE}
theorem pe_kget (F : DicF X.w X.K d) (ho : PE X o (tC (.ref (ga X.K d.x)))) (hi : PE X i ty) (hs : NoSl i) : PE X (.Subscript o i pos) (tKGet (d.kv X.K) ty) := by
  refine ⟨fun pins s σ H Q I h => ?_⟩
  refine subD_of PySem.F.slot_dict_getitem.lookup hs (thn (ho.run pins s σ H (fun x H1 => x = .ref (ga X.K d.x) ∧ H1 = H) I ⟨rfl, rfl⟩) fun u s1 ⟨x, H1, I1, rx, q1⟩ => ?_)
  obtain ⟨rfl, rfl⟩ := q1
  obtain rfl : u = Value.ref (ga X.K d.x) := rx
  refine thn (hi.run pins s1 σ _ _ I1 h) fun iv s2 ⟨y, H2, I2, ry, k, v, ey, l, q2⟩ => ?_
  subst ey
  obtain ⟨vs, rel, dd⟩ := F.of I2
  obtain ⟨w', hw, rw'⟩ := RelO.some_of (v := v) (o := valueAt vs k) (by rw [← l]; exact rel.val k)
  exact ⟨dd.typeIs, wpAny_getItem_of (kV_is ry) dd.mapOf hw ⟨v, H2, I2.tok _, rw', q2⟩⟩
theorem pc_kin (F : DicF X.w X.K d) (hi : PE X i ty) (ho : PE X o (tC (.ref (ga X.K d.x)))) : PC X .In i o (tKIn (d.kv X.K) ty) := by
  refine ⟨fun pins s σ H Q I h => ?_⟩
  refine thn (hi.run pins s σ H _ I h) fun iv s1 ⟨y, H1, I1, ry, k, ey, q1⟩ => thn (ho.run pins s1 σ H1 (fun x H2 => x = .ref (ga X.K d.x) ∧ H2 = H1) I1 ⟨rfl, rfl⟩) fun u s2 ⟨x, H2, I2, rx, q2⟩ => ?_
  obtain ⟨rfl, rfl⟩ := q2
  obtain rfl : u = Value.ref (ga X.K d.x) := rx
  subst ey
  obtain ⟨vs, rel, dd⟩ := F.of I2
  refine wpAny_in_of (kV_is ry) F.nm dd.mapOf ?_
  rw [← (rel.val k).isSome_eq]
  exact ⟨.bl (valV (d.kv X.K) k).isSome, _, I2.tok _, rfl, q1⟩
end
/-! the readings' steps -/
section
variable {σ : L2.St} {H : Hp} {Q : VK} {D : List (Key × V)} {ti : TE}
theorem r_kget (h : ti σ H fun y H1 => ∃ k v, y = kV k ∧ valV D k = some v ∧ Q v H1) : tKGet D ti σ H Q := h
theorem r_kin (h : ti σ H fun y H1 => ∃ k, y = kV k ∧ Q (.bl (valV D k).isSome) H1) : tKIn D ti σ H Q := h
end
/-! a call of one of several defs -/
/-- a def that may be held -/
def HeldU (P : Program) (w : World) (K : PySem.W.Frag) (mg : Str → Option Value) (base : Heap) (A : Around) (f : Addr) (sp : Sp) : Prop :=
  ∃ k' fd ps, Room k' A ∧ FnOk P w K mg base CX0 k' f fd ps sp ∧ PySem.W.keepIn K (.ref f) = true ∧ Binds K fd ps []
theorem heldU {P : Program} {w : World} {K : PySem.W.Frag} {mg : Str → Option Value} {base : Heap} {A : Around} {k' : Nat} {x : Str} {f : Addr} {ps : List Str} {sp : Sp} (O : OkF P w K mg base k' x ps sp) (g : mg x = some (.ref f)) (hk : Room k' A) : HeldU P w K mg base A f sp := by
  obtain ⟨f', fd, hm, F, hb, kp⟩ := O.ex
  have e : f' = f := by
    rw [g] at hm
    injection hm with hm
    injection hm with hm
    exact hm.symm
  subst e
  exact ⟨k', fd, ps, hk, F, kp, hb⟩
def tCallM (i : Nat) (L : List (Addr × Sp)) (t : TA) : TE := fun σ H Q => ∃ f sp, σ[i]? = some (some (.ref f)) ∧ (f, sp) ∈ L ∧ t σ H fun vs H1 => sp vs H1 Q E0
inductive Helds (P : Program) (w : World) (K : PySem.W.Frag) (mg : Str → Option Value) (base : Heap) (A : Around) : List (Addr × Sp) → Prop
  | nil : Helds P w K mg base A []
  | cons {f : Addr} {sp : Sp} {L : List (Addr × Sp)} : HeldU P w K mg base A f sp → Helds P w K mg base A L → Helds P w K mg base A ((f, sp) :: L)
theorem Helds.at_ {P : Program} {w : World} {K : PySem.W.Frag} {mg : Str → Option Value} {base : Heap} {A : Around} {L : List (Addr × Sp)} (h : Helds P w K mg base A L) : ∀ {f : Addr} {sp : Sp}, (f, sp) ∈ L → HeldU P w K mg base A f sp := by
  induction h with
  | nil => intro f sp hm; cases hm
  | cons a _ ih =>
    intro f sp hm
    rcases List.mem_cons.mp hm with e | hm
    · injection e with e1 e2
      subst e1 e2
      exact a
    · exact ih hm
section
variable {X : Cx} {i : Nat} {L : List (Addr × Sp)} {x : Str} {p pos : Pos} {e : Expr} {es : List Expr} {t : TA}
theorem pe_callM (A : Helds X.prog X.w X.K X.mg X.base X.A L) (ha : PA X (e :: es) t) (hN : X.N[i]? = some x := by rfl) (hv : Vis X.env.scope x := by first | exact Or.inl rfl | exact Or.inr (Or.inl rfl) | exact Or.inr (Or.inr rfl))
    (hdb : (x == ("__debug__" : Str)) = false := by decide) (hcd : (x == ("__classdict__" : Str)) = false := by decide)
    (he : starEach (e :: es) X.env = (false, eval e X.env) :: starEach es X.env := by rfl) (hpl : (backTo pos (starEach es X.env)).any (·.1) = false := by rfl) : PE X (.Call (.Name x p) (e :: es) [] pos) (tCallM i L t) := by
  refine ⟨fun pins s σ H Q I h => ?_⟩
  obtain ⟨f, sp, hs, hm, ht⟩ := h
  obtain ⟨k', fd, ps, hk, F, kp, hb⟩ := A.at_ hm
  refine (pe_callL (i := i) (f := f) (sp := sp) (dvs := []) (E := E0) F hk hN hv kp hb .nil pass0 ha hdb hcd he hpl).run pins s σ H Q I ⟨hs, ?_⟩
  simpa using ht
end
section
variable {σ : L2.St} {H : Hp} {Q : VK} {L : List (Addr × Sp)} {t : TA} {i : Nat} {f : Addr} {sp : Sp}
theorem r_callM (h0 : σ[i]? = some (some (.ref f))) (hm : (f, sp) ∈ L) (h : t σ H fun vs H1 => sp vs H1 Q E0) : tCallM i L t σ H Q := ⟨f, sp, h0, hm, h⟩
end
end U
/-! U17: the Hook with the dicts of the module's top. -/
namespace U
open PySem PySem.Spec PyProof.Rows L2
open He (AlD FnW DefD Fa obsD valD SaysD fnW ga ma fAd eqO frG frG_in asD ba)
abbrev AlV : Type := AlU × List (Bool × List (Int × Bool))
def obsV (file : Str) (fa : List Fa) (fn : List DefD) (en : List ErrD) (ds : List DicD) (t : PySem.W.Frag → Bool) (K : PySem.W.Frag) : AlV := (obsU file fa fn en t K, ds.map (dicS K))
def valW (fn : List DefD) (en : List ErrD) (ds : List DicD) (w : World) : AlV := (valU fn en, ds.map (DicD.val w))
def SaysV (file : Str) (fa : List Fa) (fn : List DefD) (en : List ErrD) (ds : List DicD) (t : PySem.W.Frag → Bool) (w : World) (K : PySem.W.Frag) : Prop := obsV file fa fn en ds t K = valW fn en ds w
def obsVG (file : Str) (n : Nat) (fa : List Fa) (fn : List DefD) (en : List ErrD) (ds : List DicD) (t : PySem.W.Frag → Bool) (g : Addr → Option Obj) : AlV := obsV file fa fn en ds t (frG g (asU g n))
def hookV (file : Str) (n : Nat) (fa : List Fa) (fn : List DefD) (en : List ErrD) (ds : List DicD) (t : PySem.W.Frag → Bool) : PySem.W.Hook where
  α := AlV
  obs := fun s => obsVG file n fa fn en ds t s.heap.get?
  val := fun w => valW fn en ds w
  says := fun w h => ∃ K : PySem.W.Frag, K.In h ∧ SaysV file fa fn en ds t w K
  of := fun _ _ e => ⟨_, frG_in, e⟩
  keeps := fun _ _ _ ⟨K, hK, c⟩ k => ⟨K, PySem.W.Frag.In.keeps hK k, c⟩
theorem obsVG_eq {file : Str} {n : Nat} {fa : List Fa} {fn : List DefD} {en : List ErrD} {ds : List DicD} {t : PySem.W.Frag → Bool} {g : Addr → Option Obj} {s : Shared} (h : ∀ a, g a = s.heap.get? a) : obsVG file n fa fn en ds t g = (hookV file n fa fn en ds t).obs s := by
  have e : g = s.heap.get? := funext h
  rw [e] <;> rfl
section
variable {file : Str} {fa : List Fa} {fn : List DefD} {en : List ErrD} {ds : List DicD} {t : PySem.W.Frag → Bool} {w : World} {K : PySem.W.Frag}
theorem SaysV.u (c : SaysV file fa fn en ds t w K) : SaysU file fa fn en t K := congrArg (fun z : AlV => z.1) c
theorem SaysV.dic (c : SaysV file fa fn en ds t w K) (i : Nat) {d : DicD} (hd : ds[i]? = some d) (nd : (d.kvs.map (·.1)).Nodup) : DicF w K d := by
  have e : ds.map (dicS K) = ds.map (DicD.val w) := congrArg (fun z : AlV => z.2) c
  have e2 : (ds.map (dicS K))[i]? = (ds.map (DicD.val w))[i]? := by rw [e]
  rw [List.getElem?_map, List.getElem?_map, hd] at e2
  exact dicS_ok (Option.some.inj e2) nd
end
end U
/-! ### what the tree's generators promise -/
namespace U
open PySem PySem.Spec L2
/-- a sign of a name -/
def isNm (c : Nat) : Bool := decide (48 ≤ c ∧ c ≤ 57) || decide (65 ≤ c ∧ c ≤ 90) || decide (97 ≤ c ∧ c ≤ 122) || decide (c = 95)
theorem isNm_lt {c : Nat} (h : isNm c = true) : c < 128 := by
  unfold isNm at h
  simp only [Bool.or_eq_true, decide_eq_true_eq] at h
  omega
def NameOk (z : Str) : Prop := (∀ c ∈ z.cps.toList, isNm c = true) ∧ 0 < z.length ∧ z.length ≤ 14
theorem NameOk.ok {z : Str} (h : NameOk z) : PyData.strOk z = true ∧ z.length ≤ 60000 := by
  refine ⟨?_, by have := h.2.2; omega⟩
  unfold PyData.strOk
  rw [← Array.all_toList, List.all_eq_true]
  intro c hc
  have := isNm_lt (h.1 c hc)
  exact decide_eq_true (by omega)
theorem NameOk.fit {z : Str} {n : Nat} (h : NameOk z) : D.fit n (.str z) = true := D.fit_str.mpr h.ok
abbrev leafK : List Str := ["int", "bool", "unit"]
abbrev nodeK : List Str := ["tuple", "fn", "ref", "array"]
/-- a kind, n deep -/
def KiD : Nat → D → Prop
  | 0, _ => False
  | n + 1, d => ∃ h w, d = .tup [.str h, w, .int 0] ∧ ((h ∈ leafK ∧ w = .tup []) ∨ (h = "data" ∧ ∃ z, w = .str z ∧ NameOk z) ∨ ∃ ds, w = .tup ds ∧ h ∈ nodeK ∧ 0 < ds.length ∧ ds.length ≤ 6 ∧ ∀ e ∈ ds, KiD n e)
theorem leafK_ok {h : Str} (e : h ∈ leafK) : PyData.strOk h = true ∧ h.length ≤ 60000 := by
  simp only [leafK, List.mem_cons, List.not_mem_nil, or_false] at e
  rcases e with e | e | e <;> subst e <;> exact ⟨by decide +kernel, by decide +kernel⟩
theorem nodeK_ok {h : Str} (e : h ∈ nodeK) : PyData.strOk h = true ∧ h.length ≤ 60000 := by
  simp only [nodeK, List.mem_cons, List.not_mem_nil, or_false] at e
  rcases e with e | e | e | e <;> subst e <;> exact ⟨by decide +kernel, by decide +kernel⟩
theorem fit_cons3 {n : Nat} {a b c : D} (h1 : D.fit n a = true) (h2 : D.fit n b = true) (h3 : D.fit n c = true) : D.fit (n + 1) (.tup [a, b, c]) = true :=
  D.fit_tup.mpr ⟨by simp, fun e he => by
    simp only [List.mem_cons, List.not_mem_nil, or_false] at he
    rcases he with rfl | rfl | rfl <;> assumption⟩
theorem fit_cons5 {n : Nat} {a b c d f : D} (h1 : D.fit n a = true) (h2 : D.fit n b = true) (h3 : D.fit n c = true) (h4 : D.fit n d = true) (h5 : D.fit n f = true) : D.fit (n + 1) (.tup [a, b, c, d, f]) = true :=
  D.fit_tup.mpr ⟨by simp, fun e he => by
    simp only [List.mem_cons, List.not_mem_nil, or_false] at he
    rcases he with rfl | rfl | rfl | rfl | rfl <;> assumption⟩
theorem fit_nil {n : Nat} : D.fit (n + 1) (.tup []) = true := D.fit_tup.mpr ⟨by simp, fun _ h => nomatch h⟩
theorem KiD.fit : ∀ {n : Nat} {d : D}, KiD n d → D.fit (2 * n) d = true
  | 0, _, h => h.elim
  | n + 1, d, h => by
    obtain ⟨x, w, rfl, h⟩ := h
    rcases h with ⟨hx, rfl⟩ | ⟨rfl, z, rfl, hz⟩ | ⟨ds, rfl, hx, h0, h6, hs⟩
    · exact fit_cons3 (n := 2 * n + 1) (D.fit_str.mpr (leafK_ok hx)) fit_nil D.fit_int
    · exact fit_cons3 (n := 2 * n + 1) (D.fit_str.mpr ⟨by decide +kernel, by decide +kernel⟩) hz.fit D.fit_int
    · exact fit_cons3 (n := 2 * n + 1) (D.fit_str.mpr (nodeK_ok hx)) (D.fit_tup.mpr ⟨by omega, fun e he => KiD.fit (hs e he)⟩) D.fit_int
abbrev strOps : List Str := ["call", "let", "make"]
abbrev pairOps : List Str := ["fn", "raise"]
abbrev leafOps : List Str := ["int", "bool", "unit", "name"]
/-- what stands beside an op -/
def InfoOk (op : Str) (info : D) : Prop :=
  (op = "int" ∧ ∃ i : Int, info = .int i ∧ -2147483648 ≤ i ∧ i ≤ 2147483647) ∨ (op = "bool" ∧ ∃ b, info = .bl b) ∨ (op = "unit" ∧ info = .non) ∨ (op = "name" ∧ ∃ z, info = .str z ∧ NameOk z) ∨
  (op ∈ strOps ∧ ∃ z, info = .str z ∧ NameOk z) ∨ (op = "get" ∧ ∃ i : Nat, info = .int i ∧ i < 6) ∨ (op ∈ pairOps ∧ ∃ z k, info = .tup [.str z, k] ∧ NameOk z ∧ KiD 3 k) ∨
  (op ∉ leafOps ∧ op ∉ strOps ∧ op ≠ "get" ∧ op ∉ pairOps ∧ info = .non)
theorem InfoOk.fit {op : Str} {info : D} (h : InfoOk op info) : D.fit 12 info = true := by
  rcases h with ⟨_, i, rfl, _⟩ | ⟨_, b, rfl⟩ | ⟨_, rfl⟩ | ⟨_, z, rfl, nz⟩ | ⟨_, z, rfl, nz⟩ | ⟨_, i, rfl, _⟩ | ⟨_, z, k, rfl, nz, kf⟩ | ⟨_, _, _, _, rfl⟩
  · exact D.fit_int
  · exact D.fit_bl
  · exact D.fit_non
  · exact nz.fit
  · exact nz.fit
  · exact D.fit_int
  · refine D.fit_mono (n := 7) _ (by decide) (D.fit_tup.mpr ⟨by simp, fun e he => ?_⟩)
    simp only [List.mem_cons, List.not_mem_nil, or_false] at he
    rcases he with rfl | rfl
    · exact nz.fit
    · exact kf.fit
  · exact D.fit_non
theorem KiD.mono : ∀ {n m : Nat} {d : D}, n ≤ m → KiD n d → KiD m d
  | 0, _, _, _, h => h.elim
  | n + 1, 0, _, l, _ => by omega
  | n + 1, m + 1, d, l, h => by
    obtain ⟨x, w, e, h⟩ := h
    refine ⟨x, w, e, ?_⟩
    rcases h with h | h | ⟨ds, e2, hx, h0, h6, hs⟩
    · exact .inl h
    · exact .inr (.inl h)
    · exact .inr (.inr ⟨ds, e2, hx, h0, h6, fun y hy => KiD.mono (by omega) (hs y hy)⟩)
def ArmD (op : Str) (G : D → Prop) (a : D) : Prop := ∃ nm vars body, a = .tup [.str nm, .tup vars, body] ∧ NameOk nm ∧ vars.length ≤ 10 ∧ (op = "handle" → vars.length = 1) ∧ (∀ x ∈ vars, ∃ z, x = .str z ∧ NameOk z) ∧ G body
/-- an expression, n deep -/
def ED : Nat → D → Prop
  | 0, _ => False
  | n + 1, d => ∃ op at_ info kids arms, d = .tup [.str op, .int at_, info, .tup kids, .tup arms] ∧ NameOk op ∧ InfoOk op info ∧ (op ∈ leafOps → kids = [] ∧ arms = []) ∧ (arms ≠ [] → op = "case" ∨ op = "handle") ∧ kids.length ≤ 9 ∧ arms.length ≤ 8 ∧ ((n = 0 → op ∈ leafOps) ∧ (op = "case" ∨ op = "handle" → kids.length ≤ 1)) ∧ (∀ k ∈ kids, ED n k) ∧ ∀ a ∈ arms, ArmD op (ED n) a
theorem ED.mono : ∀ {n m : Nat} {d : D}, n ≤ m → ED n d → ED m d
  | 0, _, _, _, h => h.elim
  | n + 1, 0, _, l, _ => by omega
  | n + 1, m + 1, d, l, h => by
    obtain ⟨op, at_, info, kids, arms, rfl, h1, h2, h3, h3', h4, h5, h0, h6, h7⟩ := h
    refine ⟨op, at_, info, kids, arms, rfl, h1, h2, h3, h3', h4, h5, ⟨(fun e => h0.1 (by omega)), h0.2⟩, fun k hk => ED.mono (by omega) (h6 k hk), fun a ha => ?_⟩
    obtain ⟨nm, vars, body, rfl, a1, a2, a3, a3', a4⟩ := h7 a ha
    exact ⟨nm, vars, body, rfl, a1, a2, a3, a3', ED.mono (by omega) a4⟩
theorem ED.fit : ∀ {n : Nat} {d : D}, ED n d → D.fit (3 * n + 12) d = true
  | 0, _, h => h.elim
  | n + 1, d, h => by
    obtain ⟨op, at_, info, kids, arms, rfl, h1, h2, h3, h3', h4, h5, h0, h6, h7⟩ := h
    refine fit_cons5 (n := 3 * n + 14) h1.fit D.fit_int (D.fit_mono _ (by omega) h2.fit) (D.fit_tup.mpr ⟨by omega, fun k hk => D.fit_mono _ (by omega) (ED.fit (h6 k hk))⟩) (D.fit_tup.mpr ⟨by omega, fun a ha => ?_⟩)
    obtain ⟨nm, vars, body, rfl, a1, a2, _, a3, a4⟩ := h7 a ha
    refine fit_cons3 (n := 3 * n + 12) a1.fit (D.fit_mono (n := 1) _ (by omega) (D.fit_tup.mpr ⟨by omega, fun x hx => ?_⟩)) (ED.fit a4)
    obtain ⟨z, rfl, hz⟩ := a3 x hx
    exact hz.fit
/-- the rows of a data declaration, parameters -/
def RowD (d : D) : Prop := ∃ z ks, d = .tup [.str z, .tup ks] ∧ NameOk z ∧ ks.length ≤ 10 ∧ ∀ k ∈ ks, KiD 3 k
def DataD (d : D) : Prop := ∃ z rs, d = .tup [.str z, .tup rs] ∧ NameOk z ∧ 0 < rs.length ∧ rs.length ≤ 10 ∧ ∀ r ∈ rs, RowD r
def ParD (d : D) : Prop := ∃ z k, d = .tup [.str z, k] ∧ NameOk z ∧ KiD 3 k
def FuD (G : D → Prop) (d : D) : Prop := ∃ nm at_ pars res body, d = .tup [.str nm, .int at_, .tup pars, res, body] ∧ NameOk nm ∧ pars.length ≤ 10 ∧ (∀ x ∈ pars, ParD x) ∧ KiD 3 res ∧ G body
def TreeD (G : D → Prop) (d : D) : Prop := ∃ datas excs funs, d = .tup [.tup datas, .tup ([.str "Div", .str "Index", .str "Size"] ++ excs), .tup funs] ∧ datas.length ≤ 10 ∧ (∀ x ∈ datas, DataD x) ∧ excs.length ≤ 10 ∧ (∀ x ∈ excs, ∃ z, x = .str z ∧ NameOk z) ∧ funs.length ≤ 3 ∧ ∀ f ∈ funs, FuD G f
def countsK : List (Key × V) := [(.inr "tuple", .int 2), (.inr "get", .int 1), (.inr "let", .int 2), (.inr "if", .int 3), (.inr "fn", .int 1), (.inr "apply", .int 2), (.inr "raise", .int 1), (.inr "ref", .int 1), (.inr "deref", .int 1), (.inr "len", .int 1), (.inr "print", .int 1), (.inr "set", .int 2), (.inr "array", .int 2), (.inr "at", .int 2), (.inr "seq", .int 2), (.inr "put", .int 3), (.inr "add", .int 2), (.inr "sub", .int 2), (.inr "mul", .int 2), (.inr "div", .int 2), (.inr "rem", .int 2), (.inr "equal", .int 2), (.inr "less", .int 2), (.inr "call", .int 0), (.inr "make", .int 0), (.inr "case", .int 1), (.inr "handle", .int 1)]
def sp_l_start (K : PySem.W.Frag) : Sp := spStartL K
def sp_l_draw (K : PySem.W.Frag) : Sp := spDrawL K
def sp_l_reserved (K : PySem.W.Frag) : Sp := fun vs H Q _ => vs = [] ∧ ∀ p (zs : List Str) H', Same H H' → H' p = some (.lst (zs.map V.str)) → Q (.ref p) H'
def sp_l_name (K : PySem.W.Frag) : Sp := fun vs H Q _ => ∃ (p l : Addr) (g : Bool), vs = [.ref p, .bl g] ∧ Dr H p l ∧ ∀ z H', NameOk z → Dr H' p l → Fr p H H' → Q (.str z) H'
def sp_l_fresh (K : PySem.W.Frag) : Sp := fun vs H Q _ => ∃ (p l t : Addr) (g : Bool) (zs : List Str), vs = [.ref p, .bl g, .ref t] ∧ Dr H p l ∧ t ≠ p ∧ t ≠ l ∧ H t = some (.lst (zs.map V.str)) ∧ zs.length ≤ 1000 ∧ ∀ z H', NameOk z → Dr H' p l → Fr2 p t H H' → H' t = some (.lst ((zs ++ [z]).map V.str)) → Q (.str z) H'
def spr_l_kind (n : Nat) (K : PySem.W.Frag) : Sp := fun vs H Q _ => ∃ (p l : Addr) (m : Nat), vs = [.ref p, .int m] ∧ m < n ∧ Dr H p l ∧ ∀ v d H', KiD (m + 1) d → Td K H' v d → Dr H' p l → Fr p H H' → Q v H'
def sp_l_kind (K : PySem.W.Frag) : Sp := spr_l_kind 3 K
theorem no_l_kind {K : PySem.W.Frag} {vs : List V} {H : Hp} {Q : VK} {E : XK} (h : spr_l_kind 0 K vs H Q E) : False := by
  obtain ⟨_, _, m, _, h, _⟩ := h
  omega
def sp_l_exception (K : PySem.W.Frag) : Sp := fun vs H Q _ => ∃ (p l : Addr), vs = [.ref p] ∧ Dr H p l ∧ ∀ z H', NameOk z → Dr H' p l → Fr p H H' → Q (.str z) H'
def sp_l_leaf (K : PySem.W.Frag) : Sp := fun vs H Q _ => ∃ (p l : Addr), vs = [.ref p] ∧ Dr H p l ∧ ∀ v d H', ED 1 d → Td K H' v d → Dr H' p l → Fr p H H' → Q v H'
def sp_l_counts (K : PySem.W.Frag) : Sp := fun vs H Q _ => vs = [] ∧ ∀ p H', Same H H' → H' p = some (.dK countsK) → Q (.ref p) H'
def spr_l_arms (n : Nat) (K : PySem.W.Frag) : Sp := fun vs H Q _ => ∃ (p l r : Addr) (op : Str) (m : Nat) (k : Int), vs = [.ref p, .str op, .int m, .ref r] ∧ 2 * m + 1 ≤ n ∧ 1 ≤ m ∧ Dr H p l ∧ r ≠ p ∧ r ≠ l ∧ H r = some (.lst [.int k]) ∧
  ∀ v ds (k' : Int) H', (∀ a ∈ ds, ArmD op (ED m) a) ∧ (ds ≠ [] → op = "case" ∨ op = "handle") → ds.length ≤ 8 → Td K H' v (.tup ds) → Dr H' p l → Fr2 p r H H' → H' r = some (.lst [.int k']) → Q v H'
def sp_l_arms (K : PySem.W.Frag) : Sp := spr_l_arms 10 K
theorem no_l_arms {K : PySem.W.Frag} {vs : List V} {H : Hp} {Q : VK} {E : XK} (h : spr_l_arms 0 K vs H Q E) : False := by
  obtain ⟨_, _, _, _, m, _, _, h, _⟩ := h
  omega
def spr_l_expr (n : Nat) (K : PySem.W.Frag) : Sp := fun vs H Q _ => ∃ (p l r : Addr) (m : Nat) (k : Int), vs = [.ref p, .int m, .ref r] ∧ 2 * m + 2 ≤ n ∧ Dr H p l ∧ r ≠ p ∧ r ≠ l ∧ H r = some (.lst [.int k]) ∧
  ∀ v d (k' : Int) H', ED (m + 1) d → Td K H' v d → Dr H' p l → Fr2 p r H H' → H' r = some (.lst [.int k']) → Q v H'
def sp_l_expr (K : PySem.W.Frag) : Sp := spr_l_expr 10 K
theorem no_l_expr {K : PySem.W.Frag} {vs : List V} {H : Hp} {Q : VK} {E : XK} (h : spr_l_expr 0 K vs H Q E) : False := by
  obtain ⟨_, _, _, m, _, _, h, _⟩ := h
  omega
def sp_l_tree (K : PySem.W.Frag) : Sp := fun vs H Q _ => ∃ (p l : Addr), vs = [.ref p] ∧ Dr H p l ∧ ∀ v d H', TreeD (ED 5) d → Td K H' v d → Dr H' p l → Fr p H H' → Q v H'
inductive Sx where
  | atom (w : Str) | node (cs : List Sx)
abbrev lp : Str := "("
abbrev rp : Str := ")"
mutual
def Sx.txt : Sx → List Nat
  | .atom w => w.cps.toList
  | .node cs => 40 :: (Sx.txtL cs ++ [41])
/-- the texts of some forms, one blank between -/
def Sx.txtL : List Sx → List Nat
  | [] => []
  | c :: cs => Sx.txt c ++ Sx.txtR cs
/-- .. each behind a blank -/
def Sx.txtR : List Sx → List Nat
  | [] => []
  | c :: cs => 32 :: (Sx.txt c ++ Sx.txtR cs)
end
mutual
def Sx.tk : Sx → List Str
  | .atom w => [w]
  | .node cs => lp :: (Sx.tkL cs ++ [rp])
def Sx.tkL : List Sx → List Str
  | [] => []
  | c :: cs => Sx.tk c ++ Sx.tkL cs
end
mutual
/-- no atom is a parenthesis -/
def Sx.ok : Sx → Prop
  | .atom w => w ≠ lp ∧ w ≠ rp ∧ 0 < w.length
  | .node cs => Sx.okL cs
def Sx.okL : List Sx → Prop
  | [] => True
  | c :: cs => Sx.ok c ∧ Sx.okL cs
end
/-- one word of the canonical text: text, depth, the word before -/
def cStep (s : List Nat × Int × Str) (w : Str) : List Nat × Int × Str :=
  let t1 := if 0 < s.2.1 ∧ s.2.2 ≠ lp ∧ w ≠ rp then s.1 ++ [32] else s.1
  let t2 := t1 ++ w.cps.toList
  let d1 := if w = lp then s.2.1 + 1 else s.2.1
  let d2 := if w = rp then d1 - 1 else d1
  (if w = rp ∧ d2 = 0 then t2 ++ [10] else t2, d2, w)
theorem lp_rp : lp ≠ rp := by decide +kernel
theorem lp_txt : lp.cps.toList = [40] := by decide +kernel
theorem rp_txt : rp.cps.toList = [41] := by decide +kernel
theorem cStep_lp {t : List Nat} {d : Int} {b : Str} : cStep (t, d, b) lp = ((if 0 < d ∧ b ≠ lp then t ++ [32] else t) ++ [40], d + 1, lp) := by
  unfold cStep
  simp only [lp_txt, lp_rp, ne_eq, not_false_eq_true, and_true, if_false, false_and, if_true]
theorem cStep_rp {t : List Nat} {d : Int} {b : Str} : cStep (t, d, b) rp = ((if d - 1 = 0 then t ++ [41] ++ [10] else t ++ [41]), d - 1, rp) := by
  unfold cStep
  simp only [rp_txt, lp_rp.symm, ne_eq, not_true_eq_false, and_false, if_false, true_and, if_true]
theorem cStep_at {t : List Nat} {d : Int} {b w : Str} (h1 : w ≠ lp) (h2 : w ≠ rp) : cStep (t, d, b) w = ((if 0 < d ∧ b ≠ lp then t ++ [32] else t) ++ w.cps.toList, d, w) := by
  unfold cStep
  simp only [h1, h2, if_false, ne_eq, not_false_eq_true, and_true, false_and]
mutual
/-- within a form -/
theorem Sx.fold_in : ∀ (x : Sx) (t : List Nat) (d : Int) (b : Str), x.ok → 0 < d → ∃ e, e ≠ lp ∧ x.tk.foldl cStep (t, d, b) = ((if b ≠ lp then t ++ [32] else t) ++ x.txt, d, e)
  | .atom w, t, d, b, h, hd => by
    rw [Sx.ok] at h
    refine ⟨w, h.1, ?_⟩
    rw [Sx.tk, List.foldl_cons, List.foldl_nil, cStep_at h.1 h.2.1, Sx.txt]
    by_cases hb : b = lp
    · simp [hb]
    · simp [hb, hd]
  | .node cs, t, d, b, h, hd => by
    rw [Sx.ok] at h
    obtain ⟨e, he⟩ := Sx.fold_L cs ((if 0 < d ∧ b ≠ lp then t ++ [32] else t) ++ [40]) (d + 1) h (by omega)
    refine ⟨rp, lp_rp.symm, ?_⟩
    rw [Sx.tk, List.foldl_cons, cStep_lp, List.foldl_append, he, List.foldl_cons, List.foldl_nil, cStep_rp, if_neg (by omega), Sx.txt]
    have e1 : d + 1 - 1 = d := by omega
    rw [e1]
    by_cases hb : b = lp
    · simp [hb]
    · simp [hb, hd]
theorem Sx.fold_L : ∀ (cs : List Sx) (t : List Nat) (d : Int), Sx.okL cs → 0 < d → ∃ e, (Sx.tkL cs).foldl cStep (t, d, lp) = (t ++ Sx.txtL cs, d, e)
  | [], t, d, _, _ => ⟨lp, by rw [Sx.tkL, Sx.txtL, List.foldl_nil, List.append_nil]⟩
  | c :: cs, t, d, h, hd => by
    rw [Sx.okL] at h
    obtain ⟨e, ne, h1⟩ := Sx.fold_in c t d lp h.1 hd
    obtain ⟨e2, h2⟩ := Sx.fold_R cs (t ++ c.txt) d e h.2 hd ne
    refine ⟨e2, ?_⟩
    rw [Sx.tkL, Sx.txtL, List.foldl_append, h1]
    simp only [ne_eq, not_true_eq_false, if_false]
    rw [h2, List.append_assoc]
theorem Sx.fold_R : ∀ (cs : List Sx) (t : List Nat) (d : Int) (b : Str), Sx.okL cs → 0 < d → b ≠ lp → ∃ e, (Sx.tkL cs).foldl cStep (t, d, b) = (t ++ Sx.txtR cs, d, e)
  | [], t, d, b, _, _, _ => ⟨b, by rw [Sx.tkL, Sx.txtR, List.foldl_nil, List.append_nil]⟩
  | c :: cs, t, d, b, h, hd, hb => by
    rw [Sx.okL] at h
    obtain ⟨e, ne, h1⟩ := Sx.fold_in c t d b h.1 hd
    obtain ⟨e2, h2⟩ := Sx.fold_R cs (t ++ [32] ++ c.txt) d e h.2 hd ne
    refine ⟨e2, ?_⟩
    rw [Sx.tkL, Sx.txtR, List.foldl_append, h1, if_pos hb, h2]
    simp
end
/-- a whole line -/
theorem Sx.fold_top (cs : List Sx) (t : List Nat) (b : Str) (h : Sx.okL cs) : (Sx.node cs).tk.foldl cStep (t, 0, b) = (t ++ (Sx.node cs).txt ++ [10], 0, rp) := by
  obtain ⟨e, he⟩ := Sx.fold_L cs (t ++ [40]) 1 h (by omega)
  rw [Sx.tk, List.foldl_cons, cStep_lp, List.foldl_append]
  simp only [Int.lt_irrefl, false_and, if_false]
  rw [show (0 : Int) + 1 = 1 from rfl, he, List.foldl_cons, List.foldl_nil, cStep_rp, if_pos (by rfl), Sx.txt]
  simp
/-! ### what the defs of k05 promise (under way) -/
def numS (i : Int) : Str := Str.ofString (toString i)
def sxK : Nat → D → Sx
  | 0, _ => .atom "unit"
  | n + 1, d => match d with
    | .tup [.str h, .tup ds, _] => if ds.isEmpty then .atom h else .node (.atom h :: ds.map (sxK n))
    | .tup [_, .str z, _] => .atom z
    | _ => .atom "unit"
def strD : D → Str
  | .str z => z
  | _ => "unit"
def sxPar (d : D) : Sx := match d with
  | .tup [.str z, k] => .node [.atom z, sxK 3 k]
  | _ => .atom "unit"
def sxHead (op : Str) (info : D) : List Sx := match info with
  | .str z => if op = "let" then [.atom op, .atom z] else [.atom z]
  | .int i => [.atom op, .atom (numS i)]
  | .tup [.str z, k] => if op = "fn" then [.atom op, sxPar info] else [.atom op, .atom z, sxK 3 k]
  | _ => [.atom op]
def sxLeaf (op : Str) (info : D) : Sx := match info with
  | .int i => .atom (numS i)
  | .bl b => .atom (if b then "true" else "false")
  | .str z => .atom z
  | _ => .atom op
def sxArm (op : Str) (g : D → Sx) (a : D) : Sx := match a with
  | .tup [.str nm, .tup vars, body] => if op = "case" then .node [.node (.atom nm :: vars.map fun v => .atom (strD v)), g body] else .node (.atom nm :: (vars.map fun v => .atom (strD v)) ++ [g body])
  | _ => .atom "unit"
def sxE : Nat → D → Sx
  | 0, _ => .atom "unit"
  | n + 1, d => match d with
    | .tup [.str op, _, info, .tup kids, .tup arms] => if op ∈ leafOps then sxLeaf op info else .node (sxHead op info ++ kids.map (sxE n) ++ arms.map (sxArm op (sxE n)))
    | _ => .atom "unit"
def sxRow (d : D) : Sx := match d with
  | .tup [.str z, .tup ks] => .node (.atom z :: ks.map (sxK 3))
  | _ => .atom "unit"
def sxData (d : D) : List Sx := match d with
  | .tup [.str z, .tup rs] => .atom "data" :: .atom z :: rs.map sxRow
  | _ => []
def sxFun (d : D) : List Sx := match d with
  | .tup [.str z, _, .tup ps, r, b] => [.atom "fun", .atom z, .node (ps.map sxPar), sxK 3 r, sxE 5 b]
  | _ => []
def sxExc (d : D) : List Sx := [.atom "exception", .atom (strD d)]
/-- the lines of a tree -/
def sxT (d : D) : List (List Sx) := match d with
  | .tup [.tup datas, .tup excs, .tup funs] => datas.map sxData ++ (excs.drop 3).map sxExc ++ funs.map sxFun
  | _ => []
theorem joinL_txtL : ∀ cs : List Sx, TL.joinL [32] (cs.map Sx.txt) = Sx.txtL cs
  | [] => by rw [Sx.txtL]; rfl
  | [c] => by simp [Sx.txtL, Sx.txtR, TL.joinL]
  | c :: d :: r => by
    show Sx.txt c ++ ([32] ++ TL.joinL [32] ((d :: r).map Sx.txt)) = _
    rw [joinL_txtL (d :: r)]
    simp [Sx.txtL, Sx.txtR]
theorem join_txt {ys : List Str} {cs : List Sx} (h : ys.map (fun y => y.cps.toList) = cs.map Sx.txt) : (Txt.join (Str.ofString " ") ys).cps.toList = Sx.txtL cs := by
  have e := TL.tl_join (Str.ofString " ") ys
  have e0 : TL.tl (Str.ofString " ") = [32] := by decide +kernel
  rw [TL.join_eq]
  show TL.tl _ = _
  rw [e, e0]
  have e1 : ys.map TL.tl = cs.map Sx.txt := h
  rw [e1, joinL_txtL]
/-- a text that is the form's -/
def TxtOf (z : Str) (x : Sx) : Prop := z.cps.toList = x.txt
def lenX (x : Sx) : Nat := x.txt.length
theorem TxtOf.len {z : Str} {x : Sx} (h : TxtOf z x) : z.length = lenX x := by
  rw [str_len, h]; rfl
def sp_form (K : PySem.W.Frag) : Sp := fun vs H Q _ => ∃ (a : Addr) (ys : List Str) (cs : List Sx), vs = [.ref a] ∧ SqL K H a (ys.map V.str) ∧ ys.map (fun y => y.cps.toList) = cs.map Sx.txt ∧ (Sx.node cs).txt.length ≤ 10000000 ∧ ∀ z, TxtOf z (.node cs) → Q (.str z) H
def spr_write_kind (n : Nat) (K : PySem.W.Frag) : Sp := fun vs H Q _ => ∃ v d, vs = [v] ∧ Td K H v d ∧ KiD n d ∧ (sxK n d).txt.length ≤ 9000000 ∧ ∀ z H', Same H H' → TxtOf z (sxK n d) → Q (.str z) H'
def sp_write_kind (K : PySem.W.Frag) : Sp := spr_write_kind 3 K
theorem no_write_kind {K : PySem.W.Frag} {vs : List V} {H : Hp} {Q : VK} {E : XK} (h : spr_write_kind 0 K vs H Q E) : False := by
  obtain ⟨_, _, _, _, h, _⟩ := h
  exact h
def sp_write_parameter (K : PySem.W.Frag) : Sp := fun vs H Q _ => ∃ v d, vs = [v] ∧ Td K H v d ∧ ParD d ∧ ∀ z H', Same H H' → TxtOf z (sxPar d) → Q (.str z) H'
/-! lengths -/
def sumL (cs : List Sx) : Nat := (cs.map fun c => c.txt.length + 1).sum
theorem txtR_sum : ∀ cs : List Sx, (Sx.txtR cs).length = sumL cs
  | [] => by rw [Sx.txtR]; rfl
  | c :: r => by
    have h := txtR_sum r
    rw [Sx.txtR, List.length_cons, List.length_append, h]
    show _ = (c.txt.length + 1) + sumL r
    omega
theorem txtL_sum (cs : List Sx) : (Sx.txtL cs).length ≤ sumL cs := by
  cases cs with
  | nil => rw [Sx.txtL]; exact Nat.zero_le _
  | cons c r =>
    rw [Sx.txtL, List.length_append, txtR_sum]
    show _ ≤ (c.txt.length + 1) + sumL r
    omega
theorem node_sum (cs : List Sx) : (Sx.node cs).txt.length ≤ sumL cs + 2 := by
  have := txtL_sum cs
  rw [Sx.txt, List.length_cons, List.length_append]
  simp only [List.length_cons, List.length_nil]
  omega
theorem sumL_cons {c : Sx} {cs : List Sx} : sumL (c :: cs) = c.txt.length + 1 + sumL cs := rfl
theorem sumL_app : ∀ (as bs : List Sx), sumL (as ++ bs) = sumL as + sumL bs
  | [], bs => by show sumL bs = 0 + sumL bs; omega
  | a :: as, bs => by
    show (a.txt.length + 1) + sumL (as ++ bs) = (a.txt.length + 1) + sumL as + sumL bs
    rw [sumL_app as bs]
    omega
theorem sumL_le {k : Nat} : ∀ {cs : List Sx}, (∀ c ∈ cs, c.txt.length ≤ k) → sumL cs ≤ cs.length * (k + 1)
  | [], _ => Nat.zero_le _
  | c :: r, h => by
    have h1 := h c (List.mem_cons_self ..)
    have h2 := sumL_le (cs := r) (fun x hx => h x (List.mem_cons_of_mem _ hx))
    rw [sumL_cons, List.length_cons, Nat.succ_mul]
    omega
theorem mul_le {a b c : Nat} (h : a ≤ b) : a * c ≤ b * c := Nat.mul_le_mul_right c h
theorem atom_len {z : Str} : (Sx.atom z).txt.length = z.length := by rw [Sx.txt, str_len]
def kB : Nat → Nat
  | 0 => 0
  | n + 1 => max 14 (6 * (kB n + 1) + 9)
theorem sxK_len : ∀ {n : Nat} {d : D}, KiD n d → (sxK n d).txt.length ≤ kB n
  | 0, _, h => h.elim
  | n + 1, d, h => by
    obtain ⟨x, w, rfl, h⟩ := h
    rcases h with ⟨hx, rfl⟩ | ⟨rfl, z, rfl, hz⟩ | ⟨ds, rfl, hx, h0, h6, hs⟩
    · have e : sxK (n + 1) (.tup [.str x, .tup [], .int 0]) = .atom x := rfl
      rw [e, atom_len]
      have : x.length ≤ 5 := by
        simp only [leafK, List.mem_cons, List.not_mem_nil, or_false] at hx
        rcases hx with rfl | rfl | rfl <;> decide +kernel
      show _ ≤ max 14 _
      omega
    · have e : sxK (n + 1) (.tup [.str "data", .str z, .int 0]) = .atom z := rfl
      rw [e, atom_len]
      have := hz.2.2
      show _ ≤ max 14 _
      omega
    · have e : sxK (n + 1) (.tup [.str x, .tup ds, .int 0]) = .node (.atom x :: ds.map (sxK n)) := by
        show (if ds.isEmpty then _ else _) = _
        cases ds with
        | nil => cases h0
        | cons a b => rfl
      rw [e]
      have hl : x.length ≤ 5 := by
        simp only [nodeK, List.mem_cons, List.not_mem_nil, or_false] at hx
        rcases hx with rfl | rfl | rfl | rfl <;> decide +kernel
      have h1 := node_sum (.atom x :: ds.map (sxK n))
      rw [sumL_cons, atom_len] at h1
      have h2 := sumL_le (k := kB n) (cs := ds.map (sxK n)) (fun c hc => by
        obtain ⟨y, hy, rfl⟩ := List.mem_map.mp hc
        exact sxK_len (hs y hy))
      rw [List.length_map] at h2
      have h3 := mul_le (c := kB n + 1) h6
      show _ ≤ max 14 _
      omega
theorem kB3 : kB 3 = 645 := by decide +kernel
theorem sxPar_len {d : D} (h : ParD d) : (sxPar d).txt.length ≤ 680 := by
  obtain ⟨z, k, rfl, hz, hk⟩ := h
  have h1 := node_sum [.atom z, sxK 3 k]
  rw [sumL_cons, sumL_cons, atom_len] at h1
  have h2 := sxK_len hk
  rw [kB3] at h2
  have h3 := hz.2.2
  have h4 : sumL [] = 0 := rfl
  show (Sx.node [.atom z, sxK 3 k]).txt.length ≤ _
  omega
def eB : Nat → Nat
  | 0 => 0
  | 1 => 14
  | n + 2 => 720 + 9 * (eB (n + 1) + 180)
theorem sumL_map_le {α : Type} {f : α → Sx} {k : Nat} {xs : List α} (h : ∀ x ∈ xs, (f x).txt.length ≤ k) : sumL (xs.map f) ≤ xs.length * (k + 1) := by
  have := sumL_le (k := k) (cs := xs.map f) (fun c hc => by
    obtain ⟨y, hy, rfl⟩ := List.mem_map.mp hc
    exact h y hy)
  rw [List.length_map] at this
  exact this
theorem numS_len {i : Int} (h1 : -2147483648 ≤ i) (h2 : i ≤ 2147483647) : (numS i).length ≤ 14 := by
  have := (str_num_len (i := i) (by have : (10 : Nat) ^ 11 = 100000000000 := by decide
                                    omega)).2
  unfold numS
  omega
theorem sxHead_len {op : Str} {info : D} (hop : NameOk op) (h : InfoOk op info) (hl : op ∉ leafOps) : sumL (sxHead op info) ≤ 715 := by
  have h0 : sumL [] = 0 := rfl
  have hl2 := hop.2.2
  rcases h with ⟨e, _⟩ | ⟨e, _⟩ | ⟨e, _⟩ | ⟨e, _⟩ | ⟨_, z, rfl, nz⟩ | ⟨_, i, rfl, hi⟩ | ⟨_, z, k, rfl, nz, kf⟩ | ⟨_, _, _, _, rfl⟩
  · exact absurd (by rw [e]; decide +kernel) hl
  · exact absurd (by rw [e]; decide +kernel) hl
  · exact absurd (by rw [e]; decide +kernel) hl
  · exact absurd (by rw [e]; decide +kernel) hl
  · have := nz.2.2
    unfold sxHead
    dsimp only
    split
    · rw [sumL_cons, sumL_cons, atom_len, atom_len]; omega
    · rw [sumL_cons, atom_len]; omega
  · have := numS_len (i := (i : Int)) (by omega) (by omega)
    unfold sxHead
    dsimp only
    rw [sumL_cons, sumL_cons, atom_len, atom_len]; omega
  · have := nz.2.2
    have hk := sxK_len kf
    rw [kB3] at hk
    have hp := sxPar_len ⟨z, k, rfl, nz, kf⟩
    unfold sxHead
    dsimp only
    split
    · rw [sumL_cons, sumL_cons, atom_len]; omega
    · rw [sumL_cons, sumL_cons, sumL_cons, atom_len, atom_len]; omega
  · unfold sxHead
    dsimp only
    rw [sumL_cons, atom_len]; omega
theorem sxArm_len {op : Str} {G : D → Prop} {g : D → Sx} {a : D} {k : Nat} (h : ArmD op G a) (hg : ∀ d, G d → (g d).txt.length ≤ k) : (sxArm op g a).txt.length ≤ k + 175 := by
  obtain ⟨nm, vars, body, rfl, h1, h2, _, h3, h4⟩ := h
  have hb := hg body h4
  have hn := h1.2.2
  have h0 : sumL [] = 0 := rfl
  have hv := sumL_map_le (f := fun v => Sx.atom (strD v)) (k := 14) (xs := vars) (fun x hx => by
    obtain ⟨z, rfl, hz⟩ := h3 x hx
    show (Sx.atom z).txt.length ≤ 14
    rw [atom_len]
    exact hz.2.2)
  have hm := mul_le (c := 14 + 1) h2
  unfold sxArm
  dsimp only
  split
  · have n1 := node_sum (.atom nm :: vars.map fun v => .atom (strD v))
    rw [sumL_cons, atom_len] at n1
    have n2 := node_sum [.node (.atom nm :: vars.map fun v => .atom (strD v)), g body]
    rw [sumL_cons, sumL_cons] at n2
    omega
  · have n2 := node_sum (.atom nm :: (vars.map fun v => .atom (strD v)) ++ [g body])
    rw [List.cons_append, sumL_cons, sumL_app, sumL_cons, atom_len] at n2
    rw [List.cons_append]
    omega
theorem sxE_len : ∀ {n : Nat} {d : D}, ED n d → (sxE n d).txt.length ≤ eB n
  | 0, _, h => h.elim
  | n + 1, d, h => by
    obtain ⟨op, at_, info, kids, arms, rfl, h1, h2, h3, h3', h4, h5, h0, h6, h7⟩ := h
    by_cases hl : op ∈ leafOps
    · have e : sxE (n + 1) (.tup [.str op, .int at_, info, .tup kids, .tup arms]) = sxLeaf op info := by
        show (if op ∈ leafOps then _ else _) = _
        rw [if_pos hl]
      have hb : 14 ≤ eB (n + 1) := by
        cases n with
        | zero => exact Nat.le_refl _
        | succ m => show 14 ≤ 720 + _; omega
      rw [e]
      refine Nat.le_trans ?_ hb
      have ho := h1.2.2
      unfold sxLeaf
      rcases h2 with ⟨_, i, rfl, i1, i2⟩ | ⟨_, b, rfl⟩ | ⟨_, rfl⟩ | ⟨_, z, rfl, nz⟩ | ⟨_, z, rfl, nz⟩ | ⟨_, i, rfl, hi⟩ | ⟨_, z, k, rfl, nz, kf⟩ | ⟨_, _, _, _, rfl⟩
      · dsimp only
        rw [atom_len]; exact numS_len i1 i2
      · dsimp only
        rw [atom_len]
        cases b <;> decide +kernel
      · dsimp only
        rw [atom_len]; exact ho
      · dsimp only
        rw [atom_len]; exact nz.2.2
      · dsimp only
        rw [atom_len]; exact nz.2.2
      · dsimp only
        rw [atom_len]; exact numS_len (by omega) (by omega)
      · dsimp only
        rw [atom_len]; exact ho
      · dsimp only
        rw [atom_len]; exact ho
    · cases n with
      | zero => exact absurd (h0.1 rfl) hl
      | succ m =>
        have e : sxE (m + 2) (.tup [.str op, .int at_, info, .tup kids, .tup arms]) = .node (sxHead op info ++ kids.map (sxE (m + 1)) ++ arms.map (sxArm op (sxE (m + 1)))) := by
          show (if op ∈ leafOps then _ else _) = _
          rw [if_neg hl]
        rw [e]
        have n1 := node_sum (sxHead op info ++ kids.map (sxE (m + 1)) ++ arms.map (sxArm op (sxE (m + 1))))
        rw [sumL_app, sumL_app] at n1
        have hh := sxHead_len h1 h2 hl
        have hk := sumL_map_le (f := sxE (m + 1)) (k := eB (m + 1)) (xs := kids) (fun x hx => sxE_len (h6 x hx))
        have ha := sumL_map_le (f := sxArm op (sxE (m + 1))) (k := eB (m + 1) + 175) (xs := arms) (fun x hx => sxArm_len (h7 x hx) fun d hd => sxE_len hd)
        have hk2 : kids.length * (eB (m + 1) + 1) ≤ kids.length * (eB (m + 1) + 180) := Nat.mul_le_mul_left _ (by omega)
        have ha2 : arms.length * (eB (m + 1) + 175 + 1) ≤ arms.length * (eB (m + 1) + 180) := Nat.mul_le_mul_left _ (by omega)
        have hc : kids.length + arms.length ≤ 9 := by
          by_cases ea : arms = []
          · rw [ea]; exact h4
          · have := h0.2 (h3' ea)
            omega
        have hs := mul_le (c := eB (m + 1) + 180) hc
        rw [Nat.add_mul] at hs
        show _ ≤ 720 + 9 * (eB (m + 1) + 180)
        omega
theorem eB5 : eB 5 ≤ 2200000 := by decide +kernel
/-! promises -/
def TxtIs (xs : List Str) (cs : List Sx) : Prop := xs.map (fun y => y.cps.toList) = cs.map Sx.txt
def sp_write_leaf (K : PySem.W.Frag) : Sp := fun vs H Q _ => ∃ op v info, vs = [.str op, v] ∧ Td K H v info ∧ op ∈ leafOps ∧ InfoOk op info ∧ ∀ z, TxtOf z (sxLeaf op info) → Q (.str z) H
def sp_write_head (K : PySem.W.Frag) : Sp := fun vs H Q _ => ∃ op v info, vs = [.str op, v] ∧ Td K H v info ∧ op ∉ leafOps ∧ NameOk op ∧ InfoOk op info ∧ ∀ p xs H', Same H H' → H p = none → H' p = some (.lst (xs.map V.str)) → TxtIs xs (sxHead op info) → Q (.ref p) H'
def spr_write_expression (N : Nat) (K : PySem.W.Frag) : Sp := fun vs H Q _ => ∃ v d m, vs = [v] ∧ Td K H v d ∧ 2 * m ≤ N ∧ ED m d ∧ (sxE m d).txt.length ≤ 9000000 ∧ ∀ z H', Same H H' → TxtOf z (sxE m d) → Q (.str z) H'
def sp_write_expression (K : PySem.W.Frag) : Sp := spr_write_expression 12 K
def spr_write_arm (N : Nat) (K : PySem.W.Frag) : Sp := fun vs H Q _ => ∃ op v a m, vs = [.str op, v] ∧ Td K H v a ∧ 2 * m + 1 ≤ N ∧ ArmD op (ED m) a ∧ (op = "case" ∨ op = "handle") ∧ (sxArm op (sxE m) a).txt.length ≤ 9000000 ∧ ∀ z H', Same H H' → TxtOf z (sxArm op (sxE m) a) → Q (.str z) H'
def sp_write_arm (K : PySem.W.Frag) : Sp := spr_write_arm 12 K
theorem no_write_expression {K : PySem.W.Frag} {vs : List V} {H : Hp} {Q : VK} {E : XK} (h : spr_write_expression 0 K vs H Q E) : False := by
  obtain ⟨_, _, m, _, _, hm, he, _⟩ := h
  have : m = 0 := by omega
  subst this
  exact he
theorem no_write_arm {K : PySem.W.Frag} {vs : List V} {H : Hp} {Q : VK} {E : XK} (h : spr_write_arm 0 K vs H Q E) : False := by
  obtain ⟨_, _, _, m, _, _, hm, _⟩ := h
  omega
theorem sxRow_sum {z : Str} {ks : List D} (hz : NameOk z) (hl : ks.length ≤ 10) (hk : ∀ k ∈ ks, KiD 3 k) : sumL (.atom z :: ks.map (sxK 3)) ≤ 6475 := by
  have h1 := hz.2.2
  have h2 := sumL_map_le (f := sxK 3) (k := 645) (xs := ks) (fun x hx => by have := sxK_len (hk x hx); rw [kB3] at this; exact this)
  have h3 := mul_le (c := 645 + 1) hl
  rw [sumL_cons, atom_len]
  omega
theorem sxData_sum {z : Str} {rs : List D} (hz : NameOk z) (hl : rs.length ≤ 10) (hr : ∀ r ∈ rs, RowD r) : sumL (.atom "data" :: .atom z :: rs.map sxRow) ≤ 70000 := by
  have h1 := hz.2.2
  have h2 := sumL_map_le (f := sxRow) (k := 6500) (xs := rs) (fun x hx => by
    obtain ⟨y, ks, rfl, hy, hkl, hk⟩ := hr x hx
    have a := sxRow_sum hy hkl hk
    have b := node_sum (.atom y :: ks.map (sxK 3))
    show (Sx.node (.atom y :: ks.map (sxK 3))).txt.length ≤ _
    omega)
  have h3 := mul_le (c := 6500 + 1) hl
  have h4 : ("data" : Str).length = 4 := by decide +kernel
  rw [sumL_cons, sumL_cons, atom_len, atom_len, h4]
  omega
def sp_write_data (K : PySem.W.Frag) : Sp := fun vs H Q _ => ∃ v d, vs = [v] ∧ Td K H v d ∧ DataD d ∧ ∀ z H', Same H H' → TxtOf z (.node (sxData d)) → Q (.str z) H'
def sp_write_function (K : PySem.W.Frag) : Sp := fun vs H Q _ => ∃ v d, vs = [v] ∧ Td K H v d ∧ FuD (ED 5) d ∧ ∀ z H', Same H H' → TxtOf z (.node (sxFun d)) → Q (.str z) H'
/-- the text of some lines -/
def linesT (ls : List (List Sx)) : List Nat := ls.flatMap fun cs => (Sx.node cs).txt ++ [10]
def sp_write_program (K : PySem.W.Frag) : Sp := fun vs H Q _ => ∃ v d, vs = [v] ∧ Td K H v d ∧ TreeD (ED 5) d ∧ ∀ z H', Same H H' → z.cps.toList = linesT (sxT d) → Q (.str z) H'
/-! the law's side: words appended to the list at r -/
/-- room for more words -/
def roomW (ws : List Str) (x : Nat) : Prop := ws.length + x ≤ 16000000
def spr_l_kind_words (n : Nat) (K : PySem.W.Frag) : Sp := fun vs H Q _ => ∃ v d r ws, vs = [v, .ref r] ∧ Td K H v d ∧ KiD n d ∧ H r = some (.lst (ws.map V.str)) ∧ roomW ws (sxK n d).tk.length ∧ ∀ H', Fr r H H' → H' r = some (.lst ((ws ++ (sxK n d).tk).map V.str)) → Q .non H'
def sp_l_kind_words (K : PySem.W.Frag) : Sp := spr_l_kind_words 3 K
theorem no_l_kind_words {K : PySem.W.Frag} {vs : List V} {H : Hp} {Q : VK} {E : XK} (h : spr_l_kind_words 0 K vs H Q E) : False := by
  obtain ⟨_, _, _, _, _, _, h, _⟩ := h
  exact h
def sp_l_head (K : PySem.W.Frag) : Sp := fun vs H Q _ => ∃ v op at_ info kids arms r ws, vs = [v, .ref r] ∧ Td K H v (.tup [.str op, .int at_, info, kids, arms]) ∧ op ∉ leafOps ∧ NameOk op ∧ InfoOk op info ∧ H r = some (.lst (ws.map V.str)) ∧ roomW ws (1 + (Sx.tkL (sxHead op info)).length) ∧
  ∀ H', Fr r H H' → H' r = some (.lst ((ws ++ lp :: Sx.tkL (sxHead op info)).map V.str)) → Q .non H'
def spr_l_expr_words (n : Nat) (K : PySem.W.Frag) : Sp := fun vs H Q _ => ∃ v d r ws, vs = [v, .ref r] ∧ Td K H v d ∧ ED n d ∧ H r = some (.lst (ws.map V.str)) ∧ roomW ws (sxE n d).tk.length ∧
  ∀ v' d' H', ED n d' → sxE n d' = sxE n d → Td K H' v' d' → Fr r H H' → H' r = some (.lst ((ws ++ (sxE n d).tk).map V.str)) → Q v' H'
def sp_l_expr_words (K : PySem.W.Frag) : Sp := spr_l_expr_words 5 K
theorem no_l_expr_words {K : PySem.W.Frag} {vs : List V} {H : Hp} {Q : VK} {E : XK} (h : spr_l_expr_words 0 K vs H Q E) : False := by
  obtain ⟨_, _, _, _, _, _, h, _⟩ := h
  exact h
def sp_l_data_words (K : PySem.W.Frag) : Sp := fun vs H Q _ => ∃ v d r ws, vs = [v, .ref r] ∧ Td K H v d ∧ DataD d ∧ H r = some (.lst (ws.map V.str)) ∧ roomW ws (Sx.node (sxData d)).tk.length ∧
  ∀ H', Fr r H H' → H' r = some (.lst ((ws ++ (Sx.node (sxData d)).tk).map V.str)) → Q .non H'
def sp_l_function_words (K : PySem.W.Frag) : Sp := fun vs H Q _ => ∃ v d r ws, vs = [v, .ref r] ∧ Td K H v d ∧ FuD (ED 5) d ∧ H r = some (.lst (ws.map V.str)) ∧ roomW ws (Sx.node (sxFun d)).tk.length ∧
  ∀ v' d' H', FuD (ED 5) d' → sxFun d' = sxFun d → Td K H' v' d' → Fr r H H' → H' r = some (.lst ((ws ++ (Sx.node (sxFun d)).tk).map V.str)) → Q v' H'
/-- the words of some lines -/
def linesW (ls : List (List Sx)) : List Str := ls.flatMap fun cs => (Sx.node cs).tk
def sp_l_words (K : PySem.W.Frag) : Sp := fun vs H Q _ => ∃ v d r, vs = [v, .ref r] ∧ Td K H v d ∧ TreeD (ED 5) d ∧ H r = some (.lst []) ∧ (linesW (sxT d)).length ≤ 16000000 ∧
  ∀ v' d' H', TreeD (ED 5) d' → sxT d' = sxT d → Td K H' v' d' → Fr r H H' → H' r = some (.lst ((linesW (sxT d)).map V.str)) → Q v' H'
def sp_l_canonical (K : PySem.W.Frag) : Sp := fun vs H Q _ => ∃ (r : Addr) (ws : List Str), vs = [.ref r] ∧ H r = some (.lst (ws.map V.str)) ∧ (ws.foldl cStep ([], 0, lp)).1.length ≤ 10000000 ∧ ∀ z, z.cps.toList = (ws.foldl cStep ([], 0, lp)).1 → Q (.str z) H
def sp_law (K : PySem.W.Frag) : Sp := spLaw K
/-! the forms' atoms are words -/
def wordOk (z : Str) : Prop := z ≠ lp ∧ z ≠ rp ∧ 0 < z.length
theorem NameOk.word {z : Str} (h : NameOk z) : wordOk z := by
  refine ⟨?_, ?_, h.2.1⟩
  · intro e
    have h1 := h.1
    rw [e, lp_txt] at h1
    have := h1 40 (by simp)
    exact absurd this (by decide)
  · intro e
    have h1 := h.1
    rw [e, rp_txt] at h1
    have := h1 41 (by simp)
    exact absurd this (by decide)
theorem ok_atom {z : Str} (h : wordOk z) : (Sx.atom z).ok := by rw [Sx.ok]; exact h
theorem okL_iff : ∀ {cs : List Sx}, (∀ c ∈ cs, c.ok) → Sx.okL cs
  | [], _ => by rw [Sx.okL]; trivial
  | c :: r, h => by
    rw [Sx.okL]
    exact ⟨h c (List.mem_cons_self ..), okL_iff (fun x hx => h x (List.mem_cons_of_mem _ hx))⟩
theorem ok_node {cs : List Sx} (h : ∀ c ∈ cs, c.ok) : (Sx.node cs).ok := by rw [Sx.ok]; exact okL_iff h
theorem numS_word (i : Int) : wordOk (numS i) := by
  have nat : ∀ n : Nat, (40 ∉ (numS (n : Int)).cps.toList ∧ 41 ∉ (numS (n : Int)).cps.toList) ∧ 0 < (numS (n : Int)).length := fun n => by
    have e : (numS (n : Int)).cps.toList = TL.numL n := TL.tl_num n
    refine ⟨⟨?_, ?_⟩, ?_⟩
    · rw [e]; exact TL.numL_free (by omega)
    · rw [e]; exact TL.numL_free (by omega)
    · rw [str_len, e]
      exact Nat.pos_of_ne_zero (fun e => TL.numL_ne n (List.eq_nil_of_length_eq_zero e))
  have all : (40 ∉ (numS i).cps.toList ∧ 41 ∉ (numS i).cps.toList) ∧ 0 < (numS i).length := by
    cases i with
    | ofNat n => exact nat n
    | negSucc n =>
      have e : numS (Int.negSucc n) = Str.ofString ("-" ++ toString ((n + 1 : Nat) : Int)) := rfl
      have e1 : (Str.ofString ("-" ++ toString ((n + 1 : Nat) : Int))).cps.toList = 45 :: (numS ((n + 1 : Nat) : Int)).cps.toList := by
        have e2 : Str.ofString ("-" ++ toString ((n + 1 : Nat) : Int)) = Str.ofString "-" ++ Str.ofString (toString ((n + 1 : Nat) : Int)) := by
          rw [str_eq, str_catL]
          rw [Str.ofString_eq_toList, Str.ofString_eq_toList, Str.ofString_eq_toList]
          simp
        rw [e2, str_catL]
        have e3 : (Str.ofString "-").cps.toList = [45] := by decide +kernel
        rw [e3]
        rfl
      obtain ⟨⟨h1, h2⟩, h3⟩ := nat (n + 1)
      rw [e, str_len, e1]
      refine ⟨⟨?_, ?_⟩, by simp⟩
      · intro hm; rcases List.mem_cons.mp hm with hm | hm
        · omega
        · exact h1 hm
      · intro hm; rcases List.mem_cons.mp hm with hm | hm
        · omega
        · exact h2 hm
  refine ⟨fun e => ?_, fun e => ?_, all.2⟩
  · have := all.1.1
    rw [e, lp_txt] at this
    simp at this
  · have := all.1.2
    rw [e, rp_txt] at this
    simp at this
theorem sxK_ok : ∀ {n : Nat} {d : D}, KiD n d → (sxK n d).ok
  | 0, _, h => h.elim
  | n + 1, d, h => by
    obtain ⟨x, w, rfl, h⟩ := h
    rcases h with ⟨hx, rfl⟩ | ⟨rfl, z, rfl, hz⟩ | ⟨ds, rfl, hx, h0, h6, hs⟩
    · have e : sxK (n + 1) (.tup [.str x, .tup [], .int 0]) = .atom x := rfl
      rw [e]
      refine ok_atom ?_
      simp only [leafK, List.mem_cons, List.not_mem_nil, or_false] at hx
      rcases hx with rfl | rfl | rfl <;> exact ⟨by decide +kernel, by decide +kernel, by decide +kernel⟩
    · exact ok_atom hz.word
    · have e : sxK (n + 1) (.tup [.str x, .tup ds, .int 0]) = .node (.atom x :: ds.map (sxK n)) := by
        show (if ds.isEmpty then _ else _) = _
        cases ds with
        | nil => cases h0
        | cons a b => rfl
      rw [e]
      refine ok_node fun c hc => ?_
      rcases List.mem_cons.mp hc with rfl | hc
      · refine ok_atom ?_
        simp only [nodeK, List.mem_cons, List.not_mem_nil, or_false] at hx
        rcases hx with rfl | rfl | rfl | rfl <;> exact ⟨by decide +kernel, by decide +kernel, by decide +kernel⟩
      · obtain ⟨y, hy, rfl⟩ := List.mem_map.mp hc
        exact sxK_ok (hs y hy)
theorem sxPar_ok {d : D} (h : ParD d) : (sxPar d).ok := by
  obtain ⟨z, k, rfl, hz, hk⟩ := h
  refine ok_node fun c hc => ?_
  simp only [List.mem_cons, List.not_mem_nil, or_false] at hc
  rcases hc with rfl | rfl
  · exact ok_atom hz.word
  · exact sxK_ok hk
theorem sxHead_ok {op : Str} {info : D} (hop : NameOk op) (h : InfoOk op info) : ∀ c ∈ sxHead op info, c.ok := by
  have ho := ok_atom hop.word
  rcases h with ⟨rfl, i, rfl, _⟩ | ⟨rfl, b, rfl⟩ | ⟨rfl, rfl⟩ | ⟨rfl, z, rfl, nz⟩ | ⟨_, z, rfl, nz⟩ | ⟨_, i, rfl, hi⟩ | ⟨_, z, k, rfl, nz, kf⟩ | ⟨_, _, _, _, rfl⟩ <;> intro c hc <;> unfold sxHead at hc <;> dsimp only at hc <;> (try split at hc) <;> simp only [List.mem_cons, List.not_mem_nil, or_false] at hc
  all_goals first
    | (rcases hc with rfl | rfl | rfl <;> first | exact ho | exact ok_atom (numS_word _) | exact ok_atom nz.word | exact sxK_ok kf | exact sxPar_ok ⟨_, _, rfl, nz, kf⟩)
    | (rcases hc with rfl | rfl <;> first | exact ho | exact ok_atom (numS_word _) | exact ok_atom nz.word | exact sxK_ok kf | exact sxPar_ok ⟨_, _, rfl, nz, kf⟩)
    | (subst hc; first | exact ho | exact ok_atom (numS_word _) | exact ok_atom nz.word)
theorem sxLeaf_ok {op : Str} {info : D} (hop : NameOk op) (h : InfoOk op info) : (sxLeaf op info).ok := by
  have ho := ok_atom hop.word
  unfold sxLeaf
  split
  · exact ok_atom (numS_word _)
  · rename_i b
    cases b <;> exact ok_atom ⟨by decide +kernel, by decide +kernel, by decide +kernel⟩
  · rename_i z
    rcases h with ⟨_, _, e, _⟩ | ⟨_, _, e⟩ | ⟨_, e⟩ | ⟨_, y, e, nz⟩ | ⟨_, y, e, nz⟩ | ⟨_, _, e, _⟩ | ⟨_, _, _, e, _, _⟩ | ⟨_, _, _, _, e⟩
    · cases e
    · cases e
    · cases e
    · cases e; exact ok_atom nz.word
    · cases e; exact ok_atom nz.word
    · cases e
    · cases e
    · cases e
  · exact ho
theorem vars_ok {vars : List D} (h : ∀ x ∈ vars, ∃ z, x = .str z ∧ NameOk z) : ∀ c ∈ vars.map (fun v => Sx.atom (strD v)), c.ok := fun c hc => by
  obtain ⟨y, hy, rfl⟩ := List.mem_map.mp hc
  obtain ⟨z, rfl, hz⟩ := h y hy
  exact ok_atom hz.word
theorem sxArm_ok {op : Str} {G : D → Prop} {g : D → Sx} {a : D} (h : ArmD op G a) (hg : ∀ d, G d → (g d).ok) : (sxArm op g a).ok := by
  obtain ⟨nm, vars, body, rfl, h1, h2, _, h3, h4⟩ := h
  have hb := hg body h4
  have hv := vars_ok h3
  have hn := ok_atom h1.word
  unfold sxArm
  dsimp only
  split
  · refine ok_node fun c hc => ?_
    simp only [List.mem_cons, List.not_mem_nil, or_false] at hc
    rcases hc with rfl | rfl
    · refine ok_node fun c hc => ?_
      rcases List.mem_cons.mp hc with rfl | hc
      · exact hn
      · exact hv c hc
    · exact hb
  · refine ok_node fun c hc => ?_
    rcases List.mem_append.mp hc with hc | hc
    · rcases List.mem_cons.mp hc with rfl | hc
      · exact hn
      · exact hv c hc
    · rw [List.mem_singleton.mp hc]
      exact hb
theorem sxE_ok : ∀ {n : Nat} {d : D}, ED n d → (sxE n d).ok
  | 0, _, h => h.elim
  | n + 1, d, h => by
    obtain ⟨op, at_, info, kids, arms, rfl, h1, h2, h3, h3', h4, h5, h0, h6, h7⟩ := h
    show (if op ∈ leafOps then sxLeaf op info else .node (sxHead op info ++ kids.map (sxE n) ++ arms.map (sxArm op (sxE n)))).ok
    split
    · exact sxLeaf_ok h1 h2
    · refine ok_node fun c hc => ?_
      rcases List.mem_append.mp hc with hc | hc
      · rcases List.mem_append.mp hc with hc | hc
        · exact sxHead_ok h1 h2 c hc
        · obtain ⟨y, hy, rfl⟩ := List.mem_map.mp hc
          exact sxE_ok (h6 y hy)
      · obtain ⟨y, hy, rfl⟩ := List.mem_map.mp hc
        exact sxArm_ok (h7 y hy) fun d hd => sxE_ok hd
theorem sxRow_ok {d : D} (h : RowD d) : (sxRow d).ok := by
  obtain ⟨z, ks, rfl, hz, _, hk⟩ := h
  refine ok_node fun c hc => ?_
  rcases List.mem_cons.mp hc with rfl | hc
  · exact ok_atom hz.word
  · obtain ⟨y, hy, rfl⟩ := List.mem_map.mp hc
    exact sxK_ok (hk y hy)
theorem sxData_ok {d : D} (h : DataD d) : ∀ c ∈ sxData d, c.ok := by
  obtain ⟨z, rs, rfl, hz, _, _, hr⟩ := h
  intro c hc
  rcases List.mem_cons.mp hc with rfl | hc
  · exact ok_atom ⟨by decide +kernel, by decide +kernel, by decide +kernel⟩
  rcases List.mem_cons.mp hc with rfl | hc
  · exact ok_atom hz.word
  · obtain ⟨y, hy, rfl⟩ := List.mem_map.mp hc
    exact sxRow_ok (hr y hy)
theorem sxFun_ok {d : D} (h : FuD (ED 5) d) : ∀ c ∈ sxFun d, c.ok := by
  obtain ⟨nm, at_, pars, res, body, rfl, hz, hl, hp, hr, hb⟩ := h
  intro c hc
  have hc : c ∈ [Sx.atom "fun", .atom nm, .node (pars.map sxPar), sxK 3 res, sxE 5 body] := hc
  simp only [List.mem_cons, List.not_mem_nil, or_false] at hc
  rcases hc with rfl | rfl | rfl | rfl | rfl
  · exact ok_atom ⟨by decide +kernel, by decide +kernel, by decide +kernel⟩
  · exact ok_atom hz.word
  · refine ok_node fun c hc => ?_
    obtain ⟨y, hy, rfl⟩ := List.mem_map.mp hc
    exact sxPar_ok (hp y hy)
  · exact sxK_ok hr
  · exact sxE_ok hb
theorem sxExc_ok {d : D} (h : ∃ z, d = .str z ∧ NameOk z) : ∀ c ∈ sxExc d, c.ok := by
  obtain ⟨z, rfl, hz⟩ := h
  intro c hc
  have hc : c ∈ [Sx.atom "exception", .atom z] := hc
  simp only [List.mem_cons, List.not_mem_nil, or_false] at hc
  rcases hc with rfl | rfl
  · exact ok_atom ⟨by decide +kernel, by decide +kernel, by decide +kernel⟩
  · exact ok_atom hz.word
theorem sxT_ok {d : D} (h : TreeD (ED 5) d) : ∀ cs ∈ sxT d, ∀ c ∈ cs, c.ok := by
  obtain ⟨datas, excs, funs, rfl, _, hd, _, he, _, hf⟩ := h
  intro cs hcs
  have hcs : cs ∈ datas.map sxData ++ excs.map sxExc ++ funs.map sxFun := hcs
  rcases List.mem_append.mp hcs with hcs | hcs
  · rcases List.mem_append.mp hcs with hcs | hcs
    · obtain ⟨y, hy, rfl⟩ := List.mem_map.mp hcs
      exact sxData_ok (hd y hy)
    · obtain ⟨y, hy, rfl⟩ := List.mem_map.mp hcs
      exact sxExc_ok (he y hy)
  · obtain ⟨y, hy, rfl⟩ := List.mem_map.mp hcs
    exact sxFun_ok (hf y hy)
mutual
theorem tk_le : ∀ x : Sx, x.ok → x.tk.length ≤ x.txt.length
  | .atom w, h => by
    rw [Sx.ok] at h
    rw [Sx.tk, atom_len]
    have := h.2.2
    simp only [List.length_cons, List.length_nil]
    omega
  | .node cs, h => by
    rw [Sx.ok] at h
    have := tkL_le cs h
    rw [Sx.tk, Sx.txt]
    simp only [List.length_cons, List.length_append, List.length_nil]
    omega
theorem tkL_le : ∀ cs : List Sx, Sx.okL cs → (Sx.tkL cs).length ≤ (Sx.txtL cs).length
  | [], _ => by rw [Sx.tkL]; exact Nat.zero_le _
  | c :: r, h => by
    rw [Sx.okL] at h
    have h1 := tk_le c h.1
    have h2 := tkR_le r h.2
    rw [Sx.tkL, Sx.txtL, List.length_append, List.length_append]
    omega
theorem tkR_le : ∀ cs : List Sx, Sx.okL cs → (Sx.tkL cs).length ≤ (Sx.txtR cs).length
  | [], _ => by rw [Sx.tkL]; exact Nat.zero_le _
  | c :: r, h => by
    rw [Sx.okL] at h
    have h1 := tk_le c h.1
    have h2 := tkR_le r h.2
    rw [Sx.tkL, Sx.txtR, List.length_append, List.length_cons, List.length_append]
    omega
end
theorem linesW_le : ∀ {ls : List (List Sx)}, (∀ cs ∈ ls, ∀ c ∈ cs, c.ok) → (linesW ls).length ≤ (linesT ls).length
  | [], _ => Nat.le_refl _
  | cs :: r, h => by
    have h1 := tk_le (.node cs) (ok_node (h cs (List.mem_cons_self ..)))
    have h2 := linesW_le (ls := r) (fun x hx => h x (List.mem_cons_of_mem _ hx))
    show ((Sx.node cs).tk ++ linesW r).length ≤ (((Sx.node cs).txt ++ [10]) ++ linesT r).length
    simp only [List.length_append, List.length_cons, List.length_nil]
    omega
/-- the canonical text of the words of some lines -/
theorem fold_lines : ∀ {ls : List (List Sx)} (t : List Nat) (b : Str), (∀ cs ∈ ls, ∀ c ∈ cs, c.ok) → ((linesW ls).foldl cStep (t, 0, b)).1 = t ++ linesT ls
  | [], t, b, _ => (List.append_nil t).symm
  | cs :: r, t, b, h => by
    show (((Sx.node cs).tk ++ linesW r).foldl cStep (t, 0, b)).1 = t ++ (((Sx.node cs).txt ++ [10]) ++ linesT r)
    rw [List.foldl_append, Sx.fold_top cs t b (okL_iff (h cs (List.mem_cons_self ..))), fold_lines _ _ (fun x hx => h x (List.mem_cons_of_mem _ hx))]
    simp
theorem ite_len {c : Prop} [Decidable c] {a b : List Nat} {n : Nat} (h1 : n ≤ a.length) (h2 : n ≤ b.length) : n ≤ (if c then a else b).length := by
  split <;> assumption
theorem cStep_mono {s : List Nat × Int × Str} {w : Str} : s.1.length ≤ (cStep s w).1.length := by
  have h1 : s.1.length ≤ (if 0 < s.2.1 ∧ s.2.2 ≠ lp ∧ w ≠ rp then s.1 ++ [32] else s.1).length := by
    split
    · rw [List.length_append]; omega
    · exact Nat.le_refl _
  refine ite_len ?_ ?_
  · rw [List.length_append, List.length_append]; omega
  · rw [List.length_append]; omega
theorem fold_mono : ∀ (ws : List Str) (s : List Nat × Int × Str), s.1.length ≤ (ws.foldl cStep s).1.length
  | [], s => Nat.le_refl _
  | w :: r, s => by
    rw [List.foldl_cons]
    exact Nat.le_trans cStep_mono (fold_mono r (cStep s w))
local macro_rules | `(tactic| walk_at "une") => `(tactic| first | assumption | (exact Ne.symm (by assumption)) | (exact ne_of_none (by assumption) (by assumption)) | (exact (ne_of_none (by assumption) (by assumption)).symm))
local macro_rules | `(tactic| walk_at "uh") => `(tactic| first | assumption | (exact upd_same) | (refine' (upd_ne ?n).trans ?h; (case n => walk_at "une"); (case h => walk_at "uh")))
local macro_rules | `(tactic| walk_at "usl") => `(tactic| first | assumption | (exact SqL.of (by walk_at "uh")))
local macro_rules | `(tactic| walk_at "ust") => `(tactic| first | assumption | (exact SqT.of (by walk_at "uh")))
local macro_rules | `(tactic| walk_at "us") => `(tactic| first | omega | decide | assumption | (exact szl (by omega)) | (exact szt (by omega)) | (exact wide_div (b := 64) (by omega) (by omega) (by decide) (by decide)) | (exact Or.inl (Or.inr (by decide))) | (exact Or.inl (Or.inl (by decide))))
local macro_rules | `(tactic| walk_at "u1") => `(tactic| first
  | (with_reducible refine r_sqA ?_) | (with_reducible refine r_sqP ?_) | (with_reducible refine r_dput ?_) | (with_reducible refine r_dget ?_) | (with_reducible refine r_din ?_) | (with_reducible refine r_dnotin ?_) | (with_reducible refine r_keys ?_) | (with_reducible refine r_dnew ?_) | (with_reducible refine r_isB ?_) | (with_reducible refine r_notB ?_) | (with_reducible refine r_xor ?_) | (with_reducible refine r_sqD ?_) | ((with_reducible refine' r_sqG ?hx ?_); (case hx => exact rfl)) | (with_reducible refine r_sqS ?_) | (with_reducible refine r_asg ?_) | ((with_reducible refine' r_var ?hx ?_); (case hx => exact rfl)) | (with_reducible refine r_c ?_) | (with_reducible refine r_op ?_)
  | (with_reducible refine r_gname ?_) | (with_reducible refine r_cons ?_) | (with_reducible refine r_nil ?_) | (with_reducible refine r_cb ?_) | (with_reducible refine r_call ?_)
  | (with_reducible refine r_ifS ?_) | (with_reducible refine r_test ?_) | (with_reducible refine r_bl ?_) | (with_reducible refine r_ret ?_) | (with_reducible refine r_next ?_) | (with_reducible refine r_drop ?_)
  | (with_reducible refine r_and ?_) | (with_reducible refine r_or ?_) | (with_reducible refine r_not ?_) | (with_reducible refine r_tru ?_) | (with_reducible refine r_truBl ?_) | (with_reducible refine r_truInt ?_) | (with_reducible refine r_truNon ?_) | (with_reducible refine r_tb ?_)
  | (with_reducible refine r_andV ?_) | (with_reducible refine r_orV ?_) | (with_reducible refine r_notV ?_) | (with_reducible refine r_chain ?_) | (with_reducible refine r_if ?_) | (with_reducible refine r_un ?_)
  | (with_reducible refine br_t ?_) | (with_reducible refine br_f ?_) | (with_reducible refine br_nt ?_) | (with_reducible refine br_nf ?_)
  | (with_reducible refine r_addI ?_) | (with_reducible refine r_sub ?_) | (with_reducible refine r_neg ?_) | (with_reducible refine r_cmpI ?_) | (with_reducible refine r_eqI ?_) | (with_reducible refine r_eqS ?_) | (with_reducible refine r_eqB ?_) | (with_reducible refine r_neI ?_) | (with_reducible refine r_neS ?_) | (with_reducible refine r_neB ?_)
  | ((with_reducible refine r_mod ?s ?_); (case s => walk_at "us")) | ((with_reducible refine r_mul ?s ?_); (case s => walk_at "us")) | ((with_reducible refine r_fdiv ?s ?_); (case s => walk_at "us"))
  | ((with_reducible refine r_addS ?s ?_); (case s => walk_at "us"))
  | (with_reducible refine r_isNN ?_) | (with_reducible refine r_isNI ?_) | (with_reducible refine r_isNB ?_) | (with_reducible refine r_isNS ?_) | (with_reducible refine r_isNR ?_) | (with_reducible refine r_notNN ?_) | (with_reducible refine r_notNI ?_) | (with_reducible refine r_notNB ?_) | (with_reducible refine r_notNS ?_) | (with_reducible refine r_notNR ?_)
  | (with_reducible refine r_abs ?_) | (with_reducible refine r_intI ?_) | (with_reducible refine r_intB ?_) | (with_reducible refine r_maxI ?_) | (with_reducible refine r_minI ?_) | (with_reducible refine r_starts ?_) | (with_reducible refine r_inC ?_) | (with_reducible refine r_notInC ?_)
  | (with_reducible refine r_iI_int ?_) | (with_reducible refine r_iI_bool ?_) | (with_reducible refine r_iI_str ?_) | (with_reducible refine r_iI_tuple ?_) | (with_reducible refine r_iI_list ?_) | (with_reducible refine r_iB_int ?_) | (with_reducible refine r_iB_bool ?_) | (with_reducible refine r_iB_str ?_) | (with_reducible refine r_iB_tuple ?_) | (with_reducible refine r_iB_list ?_) | (with_reducible refine r_iS_int ?_) | (with_reducible refine r_iS_bool ?_) | (with_reducible refine r_iS_str ?_) | (with_reducible refine r_iS_tuple ?_) | (with_reducible refine r_iS_list ?_) | (with_reducible refine r_iN_int ?_) | (with_reducible refine r_iN_bool ?_) | (with_reducible refine r_iN_str ?_) | (with_reducible refine r_iN_tuple ?_) | (with_reducible refine r_iN_list ?_)
  | ((with_reducible refine r_lenS ?s ?_); (case s => walk_at "us")) | ((with_reducible refine r_slS ?s ?_); (case s => walk_at "us"))
  | (with_reducible refine r_sl ?_) | (with_reducible refine r_nop ?_) | (with_reducible refine r_part ?_) | (with_reducible refine r_partI ?_) | (with_reducible refine r_tup ?_) | (with_reducible refine r_lst ?_)
  | (with_reducible refine r_bm ?_) | (with_reducible refine r_bm0 ?_) | (with_reducible refine r_tyStr ?_) | (with_reducible refine r_retN ?_) | (with_reducible refine r_brk ?_) | (with_reducible refine r_cont ?_) | (with_reducible refine r_nx ?_) | (with_reducible refine r_rt ?_)
  | (with_reducible refine r_callS ?_) | (with_reducible refine r_raise ?_) | (with_reducible refine r_tryAs ?_) | (with_reducible refine r_tryOnly ?_) | (with_reducible refine r_meth ?_) | (with_reducible refine r_methS ?_) | (with_reducible refine r_make ?_) | (with_reducible refine r_fldC ?_) | (with_reducible refine r_sqF ?_) | (with_reducible refine r_sfldC ?_) | (with_reducible refine r_enumS ?_) | (with_reducible refine r_enumSv ?_) | (with_reducible refine r_ord ?_) | (with_reducible refine r_lzip ?_) | (with_reducible refine r_zip ?_) | (with_reducible refine r_only ?_) | (with_reducible refine r_nevE ?_)
  | (with_reducible refine r_sub3 ?_) | (with_reducible refine r_augS ?_) | (with_reducible refine r_ipI ?_) | ((with_reducible refine' r_aug ?hx ?_); (case hx => exact rfl)) | (with_reducible refine r_for ?_) | (with_reducible refine r_lc ?_) | (with_reducible refine r_yes ?_) | (with_reducible refine r_rng1 ?_) | (with_reducible refine r_rng1v ?_) | (with_reducible refine r_rng2 ?_) | (with_reducible refine r_rng2v ?_)
  | ((with_reducible refine' r_ixL ?s1 ?s2 ?_); (case s1 => walk_at "usl"); (case s2 => exact rfl)) | ((with_reducible refine' r_ixT ?s1 ?s2 ?_); (case s1 => walk_at "ust"); (case s2 => exact rfl))
  | ((with_reducible refine' r_lenL ?s1 ?_); (case s1 => walk_at "usl")) | ((with_reducible refine' r_lenT ?s1 ?_); (case s1 => walk_at "ust"))
  | ((with_reducible refine' r_setL ?s1 ?s2 ?_); (case s1 => walk_at "uh"); (case s2 => exact rfl)) | ((with_reducible refine' r_getL ?s1 ?s2 ?s3 ?_); (case s1 => walk_at "usl"); (case s2 => walk_at "us"); (case s3 => exact rfl))
  | ((with_reducible refine' r_tyLst ?s ?_); (case s => walk_at "uh")) | ((with_reducible refine' r_append ?s1 ?s2 ?_); (case s1 => walk_at "uh"); (case s2 => walk_at "us")))
local macro_rules | `(tactic| walk_at "ub") => `(tactic| first
  | ((with_reducible refine br_y ?s ?_); (case s => (first | assumption | (with_reducible rfl) | omega | decide))) | ((with_reducible refine br_n ?s ?_); (case s => (first | assumption | (with_reducible rfl) | omega | decide))) | ((with_reducible refine br_ny ?s ?_); (case s => (first | assumption | (with_reducible rfl) | omega | decide))) | ((with_reducible refine br_nn ?s ?_); (case s => (first | assumption | (with_reducible rfl) | omega | decide))))
local macro_rules | `(tactic| walk_at "u") => `(tactic| repeat (first | walk_at "u1" | walk_at "ub"))
local macro_rules | `(tactic| walk_at "ui") => `(tactic| ((with_reducible refine r_sq ?_); walk_at "u"))
local macro_rules | `(tactic| walk_at "umk") => `(tactic| ((refine' r_mkE ?hl ?hn ?_); (case hl => exact rfl); (case hn => decide)))
/-- what the written part says, of K alone -/
structure KF (K : PySem.W.Frag) : Prop where
def t_write_kind (K : PySem.W.Frag) (sp_self : PySem.W.Frag → Sp) : TS :=
  (tSq (tAsg (tVar 0) (gTup K 3 (gCons (gName 1) (gCons (gName 2) (gCons (gName 3) gNil)))))
    (tSq (tIfS (tTest (tOp (uEq K) (tVar 1) (tC (.str "data")))) (tRet (tVar 2)) tNext)
    (tSq (tIfS (tNot (uTru K (tVar 2))) (tRet (tVar 1)) tNext)
    (tRet (tCall (sp_form K) [] E0 (tCons (tOp (uAdd K) (tLst (tCons (tVar 1) tNil)) (tLc (uIt K (tVar 2)) (gName 4) tYes (tCall (sp_self K) [] E0 (tCons (tVar 4) tNil)) [4])) tNil))))))
abbrev n_write_kind : List Str := ["kind", "head", "what", "region", "part"]
def t_form (K : PySem.W.Frag) : TS :=
  (tRet (tOp (uAdd K) (tOp (uAdd K) (tC (.str "(")) (tBM K "str" (uJoin K) (tC (.str " ")) (tCons (tVar 0) tNil))) (tC (.str ")"))))
abbrev n_form : List Str := ["words"]
def t_write_parameter (K : PySem.W.Frag) : TS :=
  (tRet (tCall (sp_form K) [] E0 (tCons (tLst (tCons (tOp (uIx K) (tVar 0) (tC (.int 0))) (tCons (tCall (sp_write_kind K) [] E0 (tCons (tOp (uIx K) (tVar 0) (tC (.int 1))) tNil)) tNil))) tNil)))
abbrev n_write_parameter : List Str := ["parameter"]
def t_write_leaf (K : PySem.W.Frag) : TS :=
  (tSq (tIfS (tTest (tOp (uEq K) (tVar 0) (tC (.str "int")))) (tRet (tCB (uStr) (tCons (tVar 1) tNil))) tNext)
    (tSq (tIfS (tTest (tOp (uEq K) (tVar 0) (tC (.str "bool")))) (tRet (tIf (uTru K (tVar 1)) (tC (.str "true")) (tC (.str "false")))) tNext)
    (tSq (tIfS (tTest (tOp (uEq K) (tVar 0) (tC (.str "unit")))) (tRet (tVar 0)) tNext)
    (tRet (tVar 1)))))
abbrev n_write_leaf : List Str := ["op", "info"]
def t_write_head (K : PySem.W.Frag) : TS :=
  (tSq (tIfS (tTest (tOp (uIn K id) (tVar 0) (tTup (tCons (tC (.str "call")) (tCons (tC (.str "make")) tNil))))) (tRet (tLst (tCons (tVar 1) tNil))) tNext)
    (tSq (tIfS (tTest (tOp (uEq K) (tVar 0) (tC (.str "get")))) (tRet (tLst (tCons (tVar 0) (tCons (tCB (uStr) (tCons (tVar 1) tNil)) tNil)))) tNext)
    (tSq (tIfS (tTest (tOp (uEq K) (tVar 0) (tC (.str "let")))) (tRet (tLst (tCons (tVar 0) (tCons (tVar 1) tNil)))) tNext)
    (tSq (tIfS (tTest (tOp (uEq K) (tVar 0) (tC (.str "fn")))) (tRet (tLst (tCons (tVar 0) (tCons (tCall (sp_write_parameter K) [] E0 (tCons (tVar 1) tNil)) tNil)))) tNext)
    (tSq (tIfS (tTest (tOp (uEq K) (tVar 0) (tC (.str "raise")))) (tRet (tLst (tCons (tVar 0) (tCons (tOp (uIx K) (tVar 1) (tC (.int 0))) (tCons (tCall (sp_write_kind K) [] E0 (tCons (tOp (uIx K) (tVar 1) (tC (.int 1))) tNil)) tNil))))) tNext)
    (tRet (tLst (tCons (tVar 0) tNil))))))))
abbrev n_write_head : List Str := ["op", "info"]
def t_write_arm (K : PySem.W.Frag) (sr_write_arm : PySem.W.Frag → Sp) (sr_write_expression : PySem.W.Frag → Sp) : TS :=
  (tSq (tAsg (tVar 1) (gTup K 3 (gCons (gName 2) (gCons (gName 3) (gCons (gName 4) gNil)))))
    (tSq (tIfS (tTest (tOp (uEq K) (tVar 0) (tC (.str "case")))) (tRet (tCall (sp_form K) [] E0 (tCons (tLst (tCons (tCall (sp_form K) [] E0 (tCons (tOp (uAdd K) (tLst (tCons (tVar 2) tNil)) (tCB (uList K) (tCons (tVar 3) tNil))) tNil)) (tCons (tCall (sr_write_expression K) [] E0 (tCons (tVar 4) tNil)) tNil))) tNil))) tNext)
    (tRet (tCall (sp_form K) [] E0 (tCons (tLst (tCons (tVar 2) (tCons (tOp (uIx K) (tVar 3) (tC (.int 0))) (tCons (tCall (sr_write_expression K) [] E0 (tCons (tVar 4) tNil)) tNil)))) tNil)))))
abbrev n_write_arm : List Str := ["op", "arm", "name", "variables", "body"]
def t_write_expression (K : PySem.W.Frag) (sr_write_arm : PySem.W.Frag → Sp) (sr_write_expression : PySem.W.Frag → Sp) : TS :=
  (tSq (tAsg (tVar 0) (gTup K 5 (gCons (gName 1) (gCons (gName 2) (gCons (gName 3) (gCons (gName 4) (gCons (gName 5) gNil)))))))
    (tSq (tIfS (tTest (tOp (uIn K id) (tVar 1) (tTup (tCons (tC (.str "int")) (tCons (tC (.str "bool")) (tCons (tC (.str "unit")) (tCons (tC (.str "name")) tNil))))))) (tRet (tCall (sp_write_leaf K) [] E0 (tCons (tVar 1) (tCons (tVar 3) tNil)))) tNext)
    (tSq (tAsg (tCall (sp_write_head K) [] E0 (tCons (tVar 1) (tCons (tVar 3) tNil))) (gName 6))
    (tSq (tFor (uIt K (tVar 4)) (gName 7) (tDrop (tBM K "list" (uAppend) (tVar 6) (tCons (tCall (sr_write_expression K) [] E0 (tCons (tVar 7) tNil)) tNil))))
    (tSq (tFor (uIt K (tVar 5)) (gName 8) (tDrop (tBM K "list" (uAppend) (tVar 6) (tCons (tCall (sr_write_arm K) [] E0 (tCons (tVar 1) (tCons (tVar 8) tNil))) tNil))))
    (tRet (tCall (sp_form K) [] E0 (tCons (tVar 6) tNil))))))))
abbrev n_write_expression : List Str := ["expression", "op", "at", "info", "kids", "arms", "words", "kid", "arm"]
def t_write_data (K : PySem.W.Frag) : TS :=
  (tSq (tAsg (tVar 0) (gTup K 2 (gCons (gName 1) (gCons (gName 2) gNil))))
    (tSq (tAsg (tLst (tCons (tC (.str "data")) (tCons (tVar 1) tNil))) (gName 3))
    (tSq (tFor (uIt K (tVar 2)) (gTup K 2 (gCons (gName 4) (gCons (gName 5) gNil))) (tDrop (tBM K "list" (uAppend) (tVar 3) (tCons (tCall (sp_form K) [] E0 (tCons (tOp (uAdd K) (tLst (tCons (tVar 4) tNil)) (tLc (uIt K (tVar 5)) (gName 6) tYes (tCall (sp_write_kind K) [] E0 (tCons (tVar 6) tNil)) [6])) tNil)) tNil))))
    (tRet (tCall (sp_form K) [] E0 (tCons (tVar 3) tNil))))))
abbrev n_write_data : List Str := ["data", "name", "constructors", "words", "constructor", "fields", "kind"]
def t_write_function (K : PySem.W.Frag) : TS :=
  (tSq (tAsg (tVar 0) (gTup K 5 (gCons (gName 1) (gCons (gName 2) (gCons (gName 3) (gCons (gName 4) (gCons (gName 5) gNil)))))))
    (tSq (tAsg (tOp (uAdd K) (tOp (uAdd K) (tC (.str "(")) (tBM K "str" (uJoin K) (tC (.str " ")) (tCons (tLc (uIt K (tVar 3)) (gName 7) tYes (tCall (sp_write_parameter K) [] E0 (tCons (tVar 7) tNil)) [7]) tNil))) (tC (.str ")"))) (gName 6))
    (tRet (tCall (sp_form K) [] E0 (tCons (tLst (tCons (tC (.str "fun")) (tCons (tVar 1) (tCons (tVar 6) (tCons (tCall (sp_write_kind K) [] E0 (tCons (tVar 4) tNil)) (tCons (tCall (sp_write_expression K) [] E0 (tCons (tVar 5) tNil)) tNil)))))) tNil)))))
abbrev n_write_function : List Str := ["function", "name", "at", "parameters", "result", "body", "written", "parameter"]
def t_write_program (K : PySem.W.Frag) : TS :=
  (tSq (tAsg (tVar 0) (gTup K 3 (gCons (gName 1) (gCons (gName 2) (gCons (gName 3) gNil)))))
    (tSq (tAsg (tLc (uIt K (tVar 1)) (gName 7) tYes (tCall (sp_write_data K) [] E0 (tCons (tVar 7) tNil)) [7]) (gName 4))
    (tSq (tFor (uIt K (tSl (uSl K) (tVar 2) (tPart (tC (.int 3))) tNoPart)) (gName 5) (tDrop (tBM K "list" (uAppend) (tVar 4) (tCons (tOp (uAdd K) (tOp (uAdd K) (tC (.str "(exception ")) (tVar 5)) (tC (.str ")"))) tNil))))
    (tSq (tFor (uIt K (tVar 3)) (gName 6) (tDrop (tBM K "list" (uAppend) (tVar 4) (tCons (tCall (sp_write_function K) [] E0 (tCons (tVar 6) tNil)) tNil))))
    (tRet (tBM K "str" (uJoin K) (tC (.str "")) (tCons (tLc (uIt K (tVar 4)) (gName 8) tYes (tOp (uAdd K) (tVar 8) (tC (.str "\n"))) [8]) tNil)))))))
abbrev n_write_program : List Str := ["tree", "datas", "exceptions", "functions", "lines", "name", "function", "data", "line"]
def t_l_start (K : PySem.W.Frag) : TS :=
  (tSq (tAsg (tC (.int 7)) (gName 1))
    (tSq (tFor (uIt K (tVar 0)) (gName 2) (tAsg (tOp (uAdd K) (tOp (uMod) (tCB (uInt) (tCons (tOp (uAdd K) (tOp (uMul) (tVar 1) (tC (.int 48271))) (tVar 2)) tNil)) (tC (.int 2147483629))) (tC (.int 1))) (gName 1)))
    (tRet (tLst (tCons (tCB (uList K) (tCons (tVar 0) tNil)) (tCons (tC (.int 0)) (tCons (tC (.int 0)) (tCons (tVar 1) tNil))))))))
abbrev n_l_start : List Str := ["_law_script", "_law_seed", "_law_cell"]
def t_l_draw (K : PySem.W.Frag) : TS :=
  (tSq (tIfS (tAnd (tTest (tOp (uEq K) (tOp (uIx K) (tVar 0) (tC (.int 1))) (tC (.int 0)))) (tTest (tOp (uGe) (tOp (uIx K) (tVar 0) (tC (.int 2))) (tCB (uLen K) (tCons (tOp (uIx K) (tVar 0) (tC (.int 0))) tNil))))) (tSq (tAsg (tOp (uMod) (tCB (uInt) (tCons (tOp (uAdd K) (tOp (uMul) (tOp (uIx K) (tVar 0) (tC (.int 3))) (tC (.int 48271))) (tC (.int 69621))) tNil)) (tC (.int 2147483629))) (gSub (tVar 0) (tC (.int 3)) uSetL))
    (tRet (tOp (uMod) (tCB (uInt) (tCons (tOp (uFdiv) (tOp (uIx K) (tVar 0) (tC (.int 3))) (tC (.int 13))) tNil)) (tVar 1)))) tNext)
    (tSq (tIfS (tTest (tOp (uEq K) (tOp (uIx K) (tVar 0) (tC (.int 1))) (tC (.int 0)))) (tSq (tAsg (tCB (uAbs) (tCons (tOp (uIx K) (tOp (uIx K) (tVar 0) (tC (.int 0))) (tOp (uIx K) (tVar 0) (tC (.int 2)))) tNil)) (gSub (tVar 0) (tC (.int 1)) uSetL))
    (tAugS (tVar 0) (tC (.int 2)) (tC (.int 1)) (uGetL K) (uIpI fun i j => i + j) uSetL)) tNext)
    (tSq (tAsg (tOp (uMod) (tCB (uInt) (tCons (tOp (uIx K) (tVar 0) (tC (.int 1))) tNil)) (tVar 1)) (gName 2))
    (tSq (tAsg (tOp (uFdiv) (tOp (uIx K) (tVar 0) (tC (.int 1))) (tVar 1)) (gSub (tVar 0) (tC (.int 1)) uSetL))
    (tRet (tVar 2))))))
abbrev n_l_draw : List Str := ["_law_state", "_law_many", "_law_value"]
def t_l_reserved (K : PySem.W.Frag) : TS :=
  (tSq (tAsg (tC (.str "data exception fun tuple get let if case fn apply ref deref set array at put len raise handle")) (gName 0))
    (tSq (tAsg (tOp (uAdd K) (tVar 0) (tC (.str " print seq add sub mul div rem equal less true false int bool unit"))) (gName 0))
    (tRet (tBM K "str" (uSplit) (tVar 0) (tCons (tC (.str " ")) tNil)))))
abbrev n_l_reserved : List Str := ["_law_words_here"]
def t_l_name (K : PySem.W.Frag) : TS :=
  (tSq (tAsg (tC (.str "abcdefghijklmnopqrstuvwxyz")) (gName 2))
    (tSq (tAsg (tOp (uAdd K) (tVar 2) (tC (.str "0123456789_"))) (gName 3))
    (tSq (tAsg (tOp (uIx K) (tVar 2) (tCall (sp_l_draw K) [] E0 (tCons (tVar 0) (tCons (tC (.int 26)) tNil)))) (gName 4))
    (tSq (tAsg (tCall (sp_l_draw K) [] E0 (tCons (tVar 0) (tCons (tC (.int 4)) tNil))) (gName 5))
    (tSq (tIfS (tTest (tOp (uEq K) (tCall (sp_l_draw K) [] E0 (tCons (tVar 0) (tCons (tC (.int 8)) tNil))) (tC (.int 7)))) (tAsg (tCall (sp_l_draw K) [] E0 (tCons (tVar 0) (tCons (tC (.int 12)) tNil))) (gName 5)) tNext)
    (tSq (tIfS (uTru K (tVar 1)) (tSq (tAsg (tOp (uAdd K) (tVar 3) (tBM0 K "str" (uUpper) (tVar 2))) (gName 3))
    (tAsg (tBM0 K "str" (uUpper) (tVar 4)) (gName 4))) tNext)
    (tSq (tAsg (tOp (uAdd K) (tVar 4) (tBM K "str" (uJoin K) (tC (.str "")) (tCons (tLc (iRng1 (tCons (tVar 5) tNil)) (gName 7) tYes (tOp (uIx K) (tVar 3) (tCall (sp_l_draw K) [] E0 (tCons (tVar 0) (tCons (tCB (uLen K) (tCons (tVar 3) tNil)) tNil)))) [7]) tNil))) (gName 6))
    (tSq (tIfS (tTest (tOp (uIn K id) (tVar 6) (tCall (sp_l_reserved K) [] E0 tNil))) (tRet (tOp (uAdd K) (tVar 6) (tC (.str "_")))) tNext)
    (tRet (tVar 6))))))))))
abbrev n_l_name : List Str := ["_law_state", "_law_great", "_law_letters", "_law_rest", "_law_first", "_law_size", "_law_name_here", "_law_k"]
def t_l_fresh (K : PySem.W.Frag) : TS :=
  (tSq (tAsg (tCall (sp_l_name K) [] E0 (tCons (tVar 0) (tCons (tVar 1) tNil))) (gName 3))
    (tSq (tFor (iRng1 (tCons (tC (.int 60)) tNil)) (gName 4) (tIfS (tTest (tOp (uIn K id) (tVar 3) (tVar 2))) (tAsg (tOp (uAdd K) (tSl (uSl K) (tVar 3) tNoPart (tPart (tC (.int 9)))) (tCB (uStr) (tCons (tVar 4) tNil))) (gName 3)) tNext))
    (tSq (tDrop (tBM K "list" (uAppend) (tVar 2) (tCons (tVar 3) tNil)))
    (tRet (tVar 3)))))
abbrev n_l_fresh : List Str := ["_law_state", "_law_great", "_law_taken", "_law_name_here", "_law_k"]
def t_l_kind (K : PySem.W.Frag) (sp_self : PySem.W.Frag → Sp) : TS :=
  (tSq (tAsg (tCall (sp_l_draw K) [] E0 (tCons (tVar 0) (tCons (tC (.int 8)) tNil))) (gName 2))
    (tSq (tIfS (tOr (tTest (tOp (uLt) (tVar 1) (tC (.int 1)))) (tTest (tOp (uLt) (tVar 2) (tC (.int 3))))) (tRet (tTup (tCons (tOp (uIx K) (tLst (tCons (tC (.str "int")) (tCons (tC (.str "bool")) (tCons (tC (.str "unit")) tNil)))) (tOp (uMod) (tVar 2) (tC (.int 3)))) (tCons (tTup tNil) (tCons (tC (.int 0)) tNil))))) tNext)
    (tSq (tIfS (tTest (tOp (uEq K) (tVar 2) (tC (.int 3)))) (tRet (tTup (tCons (tC (.str "data")) (tCons (tCall (sp_l_name K) [] E0 (tCons (tVar 0) (tCons (tC (.bl false)) tNil))) (tCons (tC (.int 0)) tNil))))) tNext)
    (tSq (tIfS (tTest (tOp (uEq K) (tVar 2) (tC (.int 4)))) (tRet (tTup (tCons (tC (.str "tuple")) (tCons (tCB (uTuple K) (tCons (tLc (iRng1 (tCons (tOp (uAdd K) (tC (.int 2)) (tCall (sp_l_draw K) [] E0 (tCons (tVar 0) (tCons (tC (.int 5)) tNil)))) tNil)) (gName 3) tYes (tCall (sp_self K) [] E0 (tCons (tVar 0) (tCons (tOp (uSub) (tVar 1) (tC (.int 1))) tNil))) [3]) tNil)) (tCons (tC (.int 0)) tNil))))) tNext)
    (tSq (tIfS (tTest (tOp (uEq K) (tVar 2) (tC (.int 5)))) (tRet (tTup (tCons (tC (.str "fn")) (tCons (tTup (tCons (tCall (sp_self K) [] E0 (tCons (tVar 0) (tCons (tOp (uSub) (tVar 1) (tC (.int 1))) tNil))) (tCons (tCall (sp_self K) [] E0 (tCons (tVar 0) (tCons (tOp (uSub) (tVar 1) (tC (.int 1))) tNil))) tNil))) (tCons (tC (.int 0)) tNil))))) tNext)
    (tRet (tTup (tCons (tOp (uIx K) (tLst (tCons (tC (.str "ref")) (tCons (tC (.str "array")) tNil))) (tOp (uMod) (tVar 2) (tC (.int 2)))) (tCons (tTup (tCons (tCall (sp_self K) [] E0 (tCons (tVar 0) (tCons (tOp (uSub) (tVar 1) (tC (.int 1))) tNil))) tNil)) (tCons (tC (.int 0)) tNil))))))))))
abbrev n_l_kind : List Str := ["_law_state", "_law_deep", "_law_pick", "_law_k"]
def t_l_exception (K : PySem.W.Frag) : TS :=
  (tSq (tAsg (tCall (sp_l_draw K) [] E0 (tCons (tVar 0) (tCons (tC (.int 6)) tNil))) (gName 1))
    (tSq (tIfS (tTest (tOp (uLt) (tVar 1) (tC (.int 3)))) (tRet (tOp (uIx K) (tLst (tCons (tC (.str "Div")) (tCons (tC (.str "Index")) (tCons (tC (.str "Size")) tNil)))) (tVar 1))) tNext)
    (tRet (tCall (sp_l_name K) [] E0 (tCons (tVar 0) (tCons (tC (.bl false)) tNil))))))
abbrev n_l_exception : List Str := ["_law_state", "_law_pick"]
def t_l_leaf (K : PySem.W.Frag) : TS :=
  (tSq (tAsg (tCall (sp_l_draw K) [] E0 (tCons (tVar 0) (tCons (tC (.int 8)) tNil))) (gName 1))
    (tSq (tIfS (tTest (tOp (uLt) (tVar 1) (tC (.int 3)))) (tRet (tTup (tCons (tC (.str "int")) (tCons (tC (.int 0)) (tCons (tOp (uIx K) (tLst (tCons (tC (.int 0)) (tCons (tC (.int 1)) (tCons (tUn uNeg (tC (.int 1))) (tCons (tC (.int 2147483647)) (tCons (tUn uNeg (tC (.int 2147483648))) (tCons (tC (.int 10)) (tCons (tC (.int 6)) tNil)))))))) (tCall (sp_l_draw K) [] E0 (tCons (tVar 0) (tCons (tC (.int 7)) tNil)))) (tCons (tTup tNil) (tCons (tTup tNil) tNil))))))) tNext)
    (tSq (tIfS (tTest (tOp (uEq K) (tVar 1) (tC (.int 3)))) (tRet (tTup (tCons (tC (.str "int")) (tCons (tC (.int 0)) (tCons (tOp (uSub) (tCall (sp_l_draw K) [] E0 (tCons (tVar 0) (tCons (tC (.int 4294967296)) tNil))) (tC (.int 2147483648))) (tCons (tTup tNil) (tCons (tTup tNil) tNil))))))) tNext)
    (tSq (tIfS (tTest (tOp (uEq K) (tVar 1) (tC (.int 4)))) (tRet (tTup (tCons (tC (.str "bool")) (tCons (tC (.int 0)) (tCons (tOp (uEq K) (tCall (sp_l_draw K) [] E0 (tCons (tVar 0) (tCons (tC (.int 2)) tNil))) (tC (.int 1))) (tCons (tTup tNil) (tCons (tTup tNil) tNil))))))) tNext)
    (tSq (tIfS (tTest (tOp (uEq K) (tVar 1) (tC (.int 5)))) (tRet (tTup (tCons (tC (.str "unit")) (tCons (tC (.int 0)) (tCons (tC .non) (tCons (tTup tNil) (tCons (tTup tNil) tNil))))))) tNext)
    (tRet (tTup (tCons (tC (.str "name")) (tCons (tC (.int 0)) (tCons (tCall (sp_l_name K) [] E0 (tCons (tVar 0) (tCons (tC (.bl false)) tNil))) (tCons (tTup tNil) (tCons (tTup tNil) tNil))))))))))))
abbrev n_l_leaf : List Str := ["_law_state", "_law_pick"]
def t_l_counts (K : PySem.W.Frag) : TS :=
  (tRet (tDispL [(.inr "tuple", .int 2), (.inr "get", .int 1), (.inr "let", .int 2), (.inr "if", .int 3), (.inr "fn", .int 1), (.inr "apply", .int 2), (.inr "raise", .int 1), (.inr "ref", .int 1), (.inr "deref", .int 1), (.inr "len", .int 1), (.inr "print", .int 1), (.inr "set", .int 2), (.inr "array", .int 2), (.inr "at", .int 2), (.inr "seq", .int 2), (.inr "put", .int 3), (.inr "add", .int 2), (.inr "sub", .int 2), (.inr "mul", .int 2), (.inr "div", .int 2), (.inr "rem", .int 2), (.inr "equal", .int 2), (.inr "less", .int 2), (.inr "call", .int 0), (.inr "make", .int 0), (.inr "case", .int 1), (.inr "handle", .int 1)]))
abbrev n_l_counts : List Str := []
def t_l_arms (K : PySem.W.Frag) (sr_l_arms : PySem.W.Frag → Sp) (sr_l_expr : PySem.W.Frag → Sp) : TS :=
  (tSq (tAsg (tLst tNil) (gName 4))
    (tSq (tIfS (tTest (tOp (uEq K) (tVar 1) (tC (.str "case")))) (tFor (iRng1 (tCons (tOp (uAdd K) (tC (.int 1)) (tCall (sp_l_draw K) [] E0 (tCons (tVar 0) (tCons (tIf (tTest (tOp (uEq K) (tCall (sp_l_draw K) [] E0 (tCons (tVar 0) (tCons (tC (.int 8)) tNil))) (tC (.int 7)))) (tC (.int 8)) (tC (.int 3))) tNil)))) tNil)) (gName 5) (tSq (tAsg (tLst tNil) (gName 6))
    (tSq (tAsg (tCB (uTuple K) (tCons (tLc (iRng1 (tCons (tCall (sp_l_draw K) [] E0 (tCons (tVar 0) (tCons (tC (.int 4)) tNil))) tNil)) (gName 8) tYes (tCall (sp_l_fresh K) [] E0 (tCons (tVar 0) (tCons (tC (.bl false)) (tCons (tVar 6) tNil)))) [8]) tNil)) (gName 7))
    (tDrop (tBM K "list" (uAppend) (tVar 4) (tCons (tTup (tCons (tCall (sp_l_name K) [] E0 (tCons (tVar 0) (tCons (tC (.bl true)) tNil))) (tCons (tVar 7) (tCons (tCall (sr_l_expr K) [] E0 (tCons (tVar 0) (tCons (tOp (uSub) (tVar 2) (tC (.int 1))) (tCons (tVar 3) tNil)))) tNil)))) tNil)))))) tNext)
    (tSq (tIfS (tTest (tOp (uEq K) (tVar 1) (tC (.str "handle")))) (tFor (iRng1 (tCons (tCall (sp_l_draw K) [] E0 (tCons (tVar 0) (tCons (tIf (tTest (tOp (uEq K) (tCall (sp_l_draw K) [] E0 (tCons (tVar 0) (tCons (tC (.int 8)) tNil))) (tC (.int 7)))) (tC (.int 7)) (tC (.int 3))) tNil))) tNil)) (gName 5) (tDrop (tBM K "list" (uAppend) (tVar 4) (tCons (tTup (tCons (tCall (sp_l_exception K) [] E0 (tCons (tVar 0) tNil)) (tCons (tTup (tCons (tCall (sp_l_name K) [] E0 (tCons (tVar 0) (tCons (tC (.bl false)) tNil))) tNil)) (tCons (tCall (sr_l_expr K) [] E0 (tCons (tVar 0) (tCons (tOp (uSub) (tVar 2) (tC (.int 1))) (tCons (tVar 3) tNil)))) tNil)))) tNil)))) tNext)
    (tRet (tCB (uTuple K) (tCons (tVar 4) tNil))))))
abbrev n_l_arms : List Str := ["_law_state", "_law_op", "_law_deep", "_law_room", "_law_arms_here", "_law_k", "_law_taken", "_law_names", "_law_j"]
def t_l_expr (K : PySem.W.Frag) (sr_l_arms : PySem.W.Frag → Sp) (sr_l_expr : PySem.W.Frag → Sp) : TS :=
  (tSq (tAugS (tVar 2) (tC (.int 0)) (tC (.int 1)) (uGetL K) (uIpI fun i j => i - j) uSetL)
    (tSq (tAsg (tCall (sp_l_counts K) [] E0 tNil) (gName 3))
    (tSq (tAsg (tCB (uSortD K) (tCons (tVar 3) tNil)) (gName 4))
    (tSq (tAsg (tCall (sp_l_draw K) [] E0 (tCons (tVar 0) (tCons (tC (.int 36)) tNil))) (gName 5))
    (tSq (tIfS (tOr (tTest (tOp (uLt) (tVar 1) (tC (.int 1)))) (tOr (tTest (tOp (uLt) (tOp (uIx K) (tVar 2) (tC (.int 0))) (tC (.int 1)))) (tTest (tOp (uGe) (tVar 5) (tCB (uLen K) (tCons (tVar 4) tNil)))))) (tRet (tCall (sp_l_leaf K) [] E0 (tCons (tVar 0) tNil))) tNext)
    (tSq (tAsg (tOp (uIx K) (tVar 4) (tVar 5)) (gName 6))
    (tSq (tAsg (tDGet (tVar 3) (tVar 6)) (gName 7))
    (tSq (tIfS (tTest (tOp (uIn K id) (tVar 6) (tTup (tCons (tC (.str "call")) (tCons (tC (.str "make")) (tCons (tC (.str "tuple")) tNil)))))) (tAug 7 (tCall (sp_l_draw K) [] E0 (tCons (tVar 0) (tCons (tIf (tTest (tOp (uEq K) (tCall (sp_l_draw K) [] E0 (tCons (tVar 0) (tCons (tC (.int 8)) tNil))) (tC (.int 7)))) (tOp (uSub) (tC (.int 7)) (tVar 7)) (tC (.int 3))) tNil))) (uIpI fun i j => i + j)) tNext)
    (tSq (tAsg (tC .non) (gName 8))
    (tSq (tIfS (tOr (tTest (tOp (uEq K) (tVar 6) (tC (.str "call")))) (tTest (tOp (uEq K) (tVar 6) (tC (.str "let"))))) (tAsg (tCall (sp_l_name K) [] E0 (tCons (tVar 0) (tCons (tC (.bl false)) tNil))) (gName 8)) tNext)
    (tSq (tIfS (tTest (tOp (uEq K) (tVar 6) (tC (.str "make")))) (tAsg (tCall (sp_l_name K) [] E0 (tCons (tVar 0) (tCons (tC (.bl true)) tNil))) (gName 8)) tNext)
    (tSq (tIfS (tTest (tOp (uEq K) (tVar 6) (tC (.str "get")))) (tAsg (tCall (sp_l_draw K) [] E0 (tCons (tVar 0) (tCons (tC (.int 6)) tNil))) (gName 8)) tNext)
    (tSq (tIfS (tTest (tOp (uEq K) (tVar 6) (tC (.str "fn")))) (tAsg (tTup (tCons (tCall (sp_l_name K) [] E0 (tCons (tVar 0) (tCons (tC (.bl false)) tNil))) (tCons (tCall (sp_l_kind K) [] E0 (tCons (tVar 0) (tCons (tC (.int 2)) tNil))) tNil))) (gName 8)) tNext)
    (tSq (tIfS (tTest (tOp (uEq K) (tVar 6) (tC (.str "raise")))) (tAsg (tTup (tCons (tCall (sp_l_exception K) [] E0 (tCons (tVar 0) tNil)) (tCons (tCall (sp_l_kind K) [] E0 (tCons (tVar 0) (tCons (tC (.int 2)) tNil))) tNil))) (gName 8)) tNext)
    (tSq (tAsg (tCB (uTuple K) (tCons (tLc (iRng1 (tCons (tVar 7) tNil)) (gName 10) tYes (tCall (sr_l_expr K) [] E0 (tCons (tVar 0) (tCons (tOp (uSub) (tVar 1) (tC (.int 1))) (tCons (tVar 2) tNil)))) [10]) tNil)) (gName 9))
    (tRet (tTup (tCons (tVar 6) (tCons (tC (.int 0)) (tCons (tVar 8) (tCons (tVar 9) (tCons (tCall (sr_l_arms K) [] E0 (tCons (tVar 0) (tCons (tVar 6) (tCons (tVar 1) (tCons (tVar 2) tNil))))) tNil))))))))))))))))))))))
abbrev n_l_expr : List Str := ["_law_state", "_law_deep", "_law_room", "_law_counts_here", "_law_ops", "_law_pick", "_law_op", "_law_many", "_law_info", "_law_kids", "_law_k"]
def t_l_tree (K : PySem.W.Frag) : TS :=
  (tSq (tAsg (tLst tNil) (gName 1))
    (tSq (tAsg (tLst tNil) (gName 2))
    (tSq (tAsg (tLst (tCons (tC (.str "main")) tNil)) (gName 3))
    (tSq (tAsg (tLst tNil) (gName 4))
    (tSq (tFor (iRng1 (tCons (tCall (sp_l_draw K) [] E0 (tCons (tVar 0) (tCons (tC (.int 3)) tNil))) tNil)) (gName 5) (tSq (tAsg (tCall (sp_l_fresh K) [] E0 (tCons (tVar 0) (tCons (tC (.bl false)) (tCons (tVar 1) tNil)))) (gName 6))
    (tSq (tAsg (tLst tNil) (gName 7))
    (tSq (tFor (iRng1 (tCons (tOp (uAdd K) (tC (.int 1)) (tCall (sp_l_draw K) [] E0 (tCons (tVar 0) (tCons (tIf (tTest (tOp (uEq K) (tCall (sp_l_draw K) [] E0 (tCons (tVar 0) (tCons (tC (.int 8)) tNil))) (tC (.int 7)))) (tC (.int 8)) (tC (.int 3))) tNil)))) tNil)) (gName 8) (tSq (tAsg (tCB (uTuple K) (tCons (tLc (iRng1 (tCons (tCall (sp_l_draw K) [] E0 (tCons (tVar 0) (tCons (tIf (tTest (tOp (uEq K) (tCall (sp_l_draw K) [] E0 (tCons (tVar 0) (tCons (tC (.int 8)) tNil))) (tC (.int 7)))) (tC (.int 7)) (tC (.int 3))) tNil))) tNil)) (gName 18) tYes (tCall (sp_l_kind K) [] E0 (tCons (tVar 0) (tCons (tC (.int 2)) tNil))) [18]) tNil)) (gName 9))
    (tDrop (tBM K "list" (uAppend) (tVar 7) (tCons (tTup (tCons (tCall (sp_l_fresh K) [] E0 (tCons (tVar 0) (tCons (tC (.bl true)) (tCons (tVar 2) tNil)))) (tCons (tVar 9) tNil))) tNil)))))
    (tDrop (tBM K "list" (uAppend) (tVar 4) (tCons (tTup (tCons (tVar 6) (tCons (tCB (uTuple K) (tCons (tVar 7) tNil)) tNil))) tNil)))))))
    (tSq (tAsg (tLst tNil) (gName 10))
    (tSq (tFor (iRng1 (tCons (tCall (sp_l_draw K) [] E0 (tCons (tVar 0) (tCons (tC (.int 3)) tNil))) tNil)) (gName 5) (tDrop (tCall (sp_l_fresh K) [] E0 (tCons (tVar 0) (tCons (tC (.bl false)) (tCons (tVar 10) tNil))))))
    (tSq (tAsg (tLst tNil) (gName 11))
    (tSq (tAsg (tCall (sp_l_draw K) [] E0 (tCons (tVar 0) (tCons (tC (.int 3)) tNil))) (gName 12))
    (tSq (tFor (iRng1 (tCons (tOp (uAdd K) (tVar 12) (tC (.int 1))) tNil)) (gName 5) (tSq (tAsg (tLst tNil) (gName 13))
    (tSq (tAsg (tC (.str "main")) (gName 6))
    (tSq (tIfS (tTest (tOp (uLt) (tVar 5) (tVar 12))) (tAsg (tCall (sp_l_fresh K) [] E0 (tCons (tVar 0) (tCons (tC (.bl false)) (tCons (tVar 3) tNil)))) (gName 6)) tNext)
    (tSq (tAsg (tLc (iRng1 (tCons (tCall (sp_l_draw K) [] E0 (tCons (tVar 0) (tCons (tC (.int 4)) tNil))) tNil)) (gName 8) tYes (tIf (tTest (tOp (uEq K) (tVar 5) (tVar 12))) (tTup (tCons (tC (.str "int")) (tCons (tTup tNil) (tCons (tC (.int 0)) tNil)))) (tCall (sp_l_kind K) [] E0 (tCons (tVar 0) (tCons (tC (.int 2)) tNil)))) [8]) (gName 14))
    (tSq (tAsg (tCB (uTuple K) (tCons (tLc (uIt K (tVar 14)) (gName 17) tYes (tTup (tCons (tCall (sp_l_fresh K) [] E0 (tCons (tVar 0) (tCons (tC (.bl false)) (tCons (tVar 13) tNil)))) (tCons (tVar 17) tNil))) [17]) tNil)) (gName 15))
    (tSq (tAsg (tIf (tTest (tOp (uEq K) (tVar 5) (tVar 12))) (tTup (tCons (tC (.str "int")) (tCons (tTup tNil) (tCons (tC (.int 0)) tNil)))) (tCall (sp_l_kind K) [] E0 (tCons (tVar 0) (tCons (tC (.int 2)) tNil)))) (gName 16))
    (tDrop (tBM K "list" (uAppend) (tVar 11) (tCons (tTup (tCons (tVar 6) (tCons (tC (.int 0)) (tCons (tVar 15) (tCons (tVar 16) (tCons (tCall (sp_l_expr K) [] E0 (tCons (tVar 0) (tCons (tOp (uAdd K) (tC (.int 1)) (tCall (sp_l_draw K) [] E0 (tCons (tVar 0) (tCons (tC (.int 4)) tNil)))) (tCons (tLst (tCons (tC (.int 40)) tNil)) tNil)))) tNil)))))) tNil))))))))))
    (tRet (tTup (tCons (tCB (uTuple K) (tCons (tVar 4) tNil)) (tCons (tOp (uAdd K) (tTup (tCons (tC (.str "Div")) (tCons (tC (.str "Index")) (tCons (tC (.str "Size")) tNil)))) (tCB (uTuple K) (tCons (tVar 10) tNil))) (tCons (tCB (uTuple K) (tCons (tVar 11) tNil)) tNil)))))))))))))))
abbrev n_l_tree : List Str := ["_law_state", "_law_sorts", "_law_cons", "_law_names", "_law_datas", "_law_k", "_law_name_here", "_law_rows", "_law_j", "_law_fields", "_law_exceptions", "_law_functions", "_law_many", "_law_taken", "_law_kinds", "_law_parameters", "_law_result", "_law_kind_here", "_law_m"]
def t_l_kind_words (K : PySem.W.Frag) (sp_self : PySem.W.Frag → Sp) : TS :=
  (tIfS (tTest (tOp (uIn K id) (tOp (uIx K) (tVar 0) (tC (.int 0))) (tTup (tCons (tC (.str "int")) (tCons (tC (.str "bool")) (tCons (tC (.str "unit")) tNil)))))) (tDrop (tBM K "list" (uAppend) (tVar 1) (tCons (tOp (uIx K) (tVar 0) (tC (.int 0))) tNil))) (tIfS (tTest (tOp (uEq K) (tOp (uIx K) (tVar 0) (tC (.int 0))) (tC (.str "data")))) (tDrop (tBM K "list" (uAppend) (tVar 1) (tCons (tOp (uIx K) (tVar 0) (tC (.int 1))) tNil))) (tSq (tDrop (tBM K "list" (uAppend) (tVar 1) (tCons (tC (.str "(")) tNil)))
    (tSq (tDrop (tBM K "list" (uAppend) (tVar 1) (tCons (tOp (uIx K) (tVar 0) (tC (.int 0))) tNil)))
    (tSq (tFor (uIt K (tOp (uIx K) (tVar 0) (tC (.int 1)))) (gName 2) (tDrop (tCall (sp_self K) [] E0 (tCons (tVar 2) (tCons (tVar 1) tNil)))))
    (tDrop (tBM K "list" (uAppend) (tVar 1) (tCons (tC (.str ")")) tNil))))))))
abbrev n_l_kind_words : List Str := ["_law_kind_here", "_law_words_here", "_law_part"]
def t_l_head (K : PySem.W.Frag) : TS :=
  (tSq (tAsg (tVar 0) (gTup K 5 (gCons (gName 2) (gCons (gName 3) (gCons (gName 4) (gCons (gName 5) (gCons (gName 6) gNil)))))))
    (tSq (tDrop (tBM K "list" (uAppend) (tVar 1) (tCons (tC (.str "(")) tNil)))
    (tSq (tDrop (tBM K "list" (uAppend) (tVar 1) (tCons (tIf (tTest (tOp (uIn K id) (tVar 2) (tTup (tCons (tC (.str "call")) (tCons (tC (.str "make")) tNil))))) (tVar 4) (tVar 2)) tNil)))
    (tSq (tIfS (tTest (tOp (uEq K) (tVar 2) (tC (.str "get")))) (tDrop (tBM K "list" (uAppend) (tVar 1) (tCons (tCB (uStr) (tCons (tVar 4) tNil)) tNil))) tNext)
    (tSq (tIfS (tTest (tOp (uEq K) (tVar 2) (tC (.str "let")))) (tDrop (tBM K "list" (uAppend) (tVar 1) (tCons (tVar 4) tNil))) tNext)
    (tSq (tIfS (tTest (tOp (uEq K) (tVar 2) (tC (.str "fn")))) (tSq (tDrop (tBM K "list" (uAppend) (tVar 1) (tCons (tC (.str "(")) tNil)))
    (tSq (tDrop (tBM K "list" (uAppend) (tVar 1) (tCons (tOp (uIx K) (tVar 4) (tC (.int 0))) tNil)))
    (tSq (tDrop (tCall (sp_l_kind_words K) [] E0 (tCons (tOp (uIx K) (tVar 4) (tC (.int 1))) (tCons (tVar 1) tNil))))
    (tDrop (tBM K "list" (uAppend) (tVar 1) (tCons (tC (.str ")")) tNil)))))) tNext)
    (tIfS (tTest (tOp (uEq K) (tVar 2) (tC (.str "raise")))) (tSq (tDrop (tBM K "list" (uAppend) (tVar 1) (tCons (tOp (uIx K) (tVar 4) (tC (.int 0))) tNil)))
    (tDrop (tCall (sp_l_kind_words K) [] E0 (tCons (tOp (uIx K) (tVar 4) (tC (.int 1))) (tCons (tVar 1) tNil))))) tNext)))))))
abbrev n_l_head : List Str := ["_law_expr_here", "_law_words_here", "_law_op", "_law_at", "_law_info", "_law_kids", "_law_arms_here"]
def t_l_expr_words (K : PySem.W.Frag) (sp_self : PySem.W.Frag → Sp) : TS :=
  (tSq (tAsg (tVar 0) (gTup K 5 (gCons (gName 2) (gCons (gName 3) (gCons (gName 4) (gCons (gName 5) (gCons (gName 6) gNil)))))))
    (tSq (tAsg (tCB (uLen K) (tCons (tVar 1) tNil)) (gName 3))
    (tSq (tIfS (tTest (tOp (uEq K) (tVar 2) (tC (.str "int")))) (tDrop (tBM K "list" (uAppend) (tVar 1) (tCons (tCB (uStr) (tCons (tVar 4) tNil)) tNil))) (tIfS (tTest (tOp (uEq K) (tVar 2) (tC (.str "bool")))) (tDrop (tBM K "list" (uAppend) (tVar 1) (tCons (tIf (uTru K (tVar 4)) (tC (.str "true")) (tC (.str "false"))) tNil))) (tIfS (tTest (tOp (uEq K) (tVar 2) (tC (.str "unit")))) (tDrop (tBM K "list" (uAppend) (tVar 1) (tCons (tC (.str "unit")) tNil))) (tIfS (tTest (tOp (uEq K) (tVar 2) (tC (.str "name")))) (tDrop (tBM K "list" (uAppend) (tVar 1) (tCons (tVar 4) tNil))) tNext))))
    (tSq (tIfS (tTest (tOp (uIn K id) (tVar 2) (tTup (tCons (tC (.str "int")) (tCons (tC (.str "bool")) (tCons (tC (.str "unit")) (tCons (tC (.str "name")) tNil))))))) (tRet (tTup (tCons (tVar 2) (tCons (tVar 3) (tCons (tVar 4) (tCons (tTup tNil) (tCons (tTup tNil) tNil))))))) tNext)
    (tSq (tDrop (tCall (sp_l_head K) [] E0 (tCons (tVar 0) (tCons (tVar 1) tNil))))
    (tSq (tAsg (tCB (uTuple K) (tCons (tLc (uIt K (tVar 5)) (gName 10) tYes (tCall (sp_self K) [] E0 (tCons (tVar 10) (tCons (tVar 1) tNil))) [10]) tNil)) (gName 5))
    (tSq (tAsg (tLst tNil) (gName 7))
    (tSq (tFor (uIt K (tVar 6)) (gName 8) (tSq (tDrop (tBM K "list" (uAppend) (tVar 1) (tCons (tC (.str "(")) tNil)))
    (tSq (tIfS (tTest (tOp (uEq K) (tVar 2) (tC (.str "case")))) (tDrop (tBM K "list" (uAppend) (tVar 1) (tCons (tC (.str "(")) tNil))) tNext)
    (tSq (tDrop (tBM K "list" (uAppend) (tVar 1) (tCons (tOp (uIx K) (tVar 8) (tC (.int 0))) tNil)))
    (tSq (tFor (uIt K (tOp (uIx K) (tVar 8) (tC (.int 1)))) (gName 9) (tDrop (tBM K "list" (uAppend) (tVar 1) (tCons (tVar 9) tNil))))
    (tSq (tIfS (tTest (tOp (uEq K) (tVar 2) (tC (.str "case")))) (tDrop (tBM K "list" (uAppend) (tVar 1) (tCons (tC (.str ")")) tNil))) tNext)
    (tSq (tDrop (tBM K "list" (uAppend) (tVar 7) (tCons (tTup (tCons (tOp (uIx K) (tVar 8) (tC (.int 0))) (tCons (tOp (uIx K) (tVar 8) (tC (.int 1))) (tCons (tCall (sp_self K) [] E0 (tCons (tOp (uIx K) (tVar 8) (tC (.int 2))) (tCons (tVar 1) tNil))) tNil)))) tNil)))
    (tDrop (tBM K "list" (uAppend) (tVar 1) (tCons (tC (.str ")")) tNil))))))))))
    (tSq (tDrop (tBM K "list" (uAppend) (tVar 1) (tCons (tC (.str ")")) tNil)))
    (tRet (tTup (tCons (tVar 2) (tCons (tVar 3) (tCons (tVar 4) (tCons (tVar 5) (tCons (tCB (uTuple K) (tCons (tVar 7) tNil)) tNil))))))))))))))))
abbrev n_l_expr_words : List Str := ["_law_expr_here", "_law_words_here", "_law_op", "_law_at", "_law_info", "_law_kids", "_law_arms_here", "_law_rows", "_law_arm", "_law_name_here", "_law_kid"]
def t_l_data_words (K : PySem.W.Frag) : TS :=
  (tSq (tDrop (tBM K "list" (uAppend) (tVar 1) (tCons (tC (.str "(")) tNil)))
    (tSq (tDrop (tBM K "list" (uAppend) (tVar 1) (tCons (tC (.str "data")) tNil)))
    (tSq (tDrop (tBM K "list" (uAppend) (tVar 1) (tCons (tOp (uIx K) (tVar 0) (tC (.int 0))) tNil)))
    (tSq (tFor (uIt K (tOp (uIx K) (tVar 0) (tC (.int 1)))) (gTup K 2 (gCons (gName 2) (gCons (gName 3) gNil))) (tSq (tDrop (tBM K "list" (uAppend) (tVar 1) (tCons (tC (.str "(")) tNil)))
    (tSq (tDrop (tBM K "list" (uAppend) (tVar 1) (tCons (tVar 2) tNil)))
    (tSq (tFor (uIt K (tVar 3)) (gName 4) (tDrop (tCall (sp_l_kind_words K) [] E0 (tCons (tVar 4) (tCons (tVar 1) tNil)))))
    (tDrop (tBM K "list" (uAppend) (tVar 1) (tCons (tC (.str ")")) tNil)))))))
    (tDrop (tBM K "list" (uAppend) (tVar 1) (tCons (tC (.str ")")) tNil)))))))
abbrev n_l_data_words : List Str := ["_law_data", "_law_words_here", "_law_name_here", "_law_fields", "_law_field"]
def t_l_function_words (K : PySem.W.Frag) : TS :=
  (tSq (tAsg (tVar 0) (gTup K 5 (gCons (gName 2) (gCons (gName 3) (gCons (gName 4) (gCons (gName 5) (gCons (gName 6) gNil)))))))
    (tSq (tDrop (tBM K "list" (uAppend) (tVar 1) (tCons (tC (.str "(")) tNil)))
    (tSq (tDrop (tBM K "list" (uAppend) (tVar 1) (tCons (tC (.str "fun")) tNil)))
    (tSq (tAsg (tCB (uLen K) (tCons (tVar 1) tNil)) (gName 3))
    (tSq (tDrop (tBM K "list" (uAppend) (tVar 1) (tCons (tVar 2) tNil)))
    (tSq (tDrop (tBM K "list" (uAppend) (tVar 1) (tCons (tC (.str "(")) tNil)))
    (tSq (tFor (uIt K (tVar 4)) (gName 7) (tSq (tDrop (tBM K "list" (uAppend) (tVar 1) (tCons (tC (.str "(")) tNil)))
    (tSq (tDrop (tBM K "list" (uAppend) (tVar 1) (tCons (tOp (uIx K) (tVar 7) (tC (.int 0))) tNil)))
    (tSq (tDrop (tCall (sp_l_kind_words K) [] E0 (tCons (tOp (uIx K) (tVar 7) (tC (.int 1))) (tCons (tVar 1) tNil))))
    (tDrop (tBM K "list" (uAppend) (tVar 1) (tCons (tC (.str ")")) tNil)))))))
    (tSq (tDrop (tBM K "list" (uAppend) (tVar 1) (tCons (tC (.str ")")) tNil)))
    (tSq (tDrop (tCall (sp_l_kind_words K) [] E0 (tCons (tVar 5) (tCons (tVar 1) tNil))))
    (tSq (tAsg (tCall (sp_l_expr_words K) [] E0 (tCons (tVar 6) (tCons (tVar 1) tNil))) (gName 6))
    (tSq (tDrop (tBM K "list" (uAppend) (tVar 1) (tCons (tC (.str ")")) tNil)))
    (tRet (tTup (tCons (tVar 2) (tCons (tVar 3) (tCons (tVar 4) (tCons (tVar 5) (tCons (tVar 6) tNil))))))))))))))))))
abbrev n_l_function_words : List Str := ["_law_function", "_law_words_here", "_law_name_here", "_law_at", "_law_parameters", "_law_result", "_law_body", "_law_parameter"]
def t_l_words (K : PySem.W.Frag) : TS :=
  (tSq (tFor (uIt K (tOp (uIx K) (tVar 0) (tC (.int 0)))) (gName 2) (tDrop (tCall (sp_l_data_words K) [] E0 (tCons (tVar 2) (tCons (tVar 1) tNil)))))
    (tSq (tFor (uIt K (tSl (uSl K) (tOp (uIx K) (tVar 0) (tC (.int 1))) (tPart (tC (.int 3))) tNoPart)) (gName 3) (tFor (uIt K (tTup (tCons (tC (.str "(")) (tCons (tC (.str "exception")) (tCons (tVar 3) (tCons (tC (.str ")")) tNil)))))) (gName 4) (tDrop (tBM K "list" (uAppend) (tVar 1) (tCons (tVar 4) tNil)))))
    (tRet (tTup (tCons (tOp (uIx K) (tVar 0) (tC (.int 0))) (tCons (tOp (uIx K) (tVar 0) (tC (.int 1))) (tCons (tCB (uTuple K) (tCons (tLc (uIt K (tOp (uIx K) (tVar 0) (tC (.int 2)))) (gName 5) tYes (tCall (sp_l_function_words K) [] E0 (tCons (tVar 5) (tCons (tVar 1) tNil))) [5]) tNil)) tNil)))))))
abbrev n_l_words : List Str := ["_law_tree_here", "_law_words_here", "_law_data", "_law_name_here", "_law_word", "_law_function"]
def t_l_canonical (K : PySem.W.Frag) : TS :=
  (tSq (tAsg (tC (.str "")) (gName 1))
    (tSq (tAsg (tC (.int 0)) (gName 2))
    (tSq (tAsg (tC (.str "(")) (gName 3))
    (tSq (tFor (uIt K (tVar 0)) (gName 4) (tSq (tIfS (tAnd (tTest (tOp (uGt) (tVar 2) (tC (.int 0)))) (tAnd (tTest (tOp (uNe K) (tVar 3) (tC (.str "(")))) (tTest (tOp (uNe K) (tVar 4) (tC (.str ")")))))) (tAsg (tOp (uAdd K) (tVar 1) (tC (.str " "))) (gName 1)) tNext)
    (tSq (tAsg (tOp (uAdd K) (tVar 1) (tVar 4)) (gName 1))
    (tSq (tIfS (tTest (tOp (uEq K) (tVar 4) (tC (.str "(")))) (tAug 2 (tC (.int 1)) (uIpI fun i j => i + j)) tNext)
    (tSq (tIfS (tTest (tOp (uEq K) (tVar 4) (tC (.str ")")))) (tSq (tAug 2 (tC (.int 1)) (uIpI fun i j => i - j))
    (tIfS (tTest (tOp (uEq K) (tVar 2) (tC (.int 0)))) (tAsg (tOp (uAdd K) (tVar 1) (tC (.str "\n"))) (gName 1)) tNext)) tNext)
    (tAsg (tVar 4) (gName 3)))))))
    (tRet (tVar 1))))))
abbrev n_l_canonical : List Str := ["_law_words_here", "_law_text", "_law_depth", "_law_before", "_law_word"]
def t_law (K : PySem.W.Frag) : TS :=
  (tSq (tAsg (tCall (sp_l_start K) [] E0 (tCons (tVar 0) tNil)) (gName 1))
    (tSq (tAsg (tCall (sp_l_tree K) [] E0 (tCons (tVar 1) tNil)) (gName 2))
    (tSq (tAsg (tLst tNil) (gName 3))
    (tSq (tAsg (tCall (sp_l_words K) [] E0 (tCons (tVar 2) (tCons (tVar 3) tNil))) (gName 4))
    (tSq (tIfS (tTest (tOp (uEq K) (tCall (sp_l_draw K) [] E0 (tCons (tVar 1) (tCons (tC (.int 2)) tNil))) (tC (.int 1)))) (tAsg (tVar 4) (gName 2)) tNext)
    (tSq (tAsg (tCall (sp_write_program K) [] E0 (tCons (tVar 2) tNil)) (gName 5))
    (tRet (tAndV (tCB (uIsi K) (tCons (tVar 5) (tCons (tC (.ty "str")) tNil))) (tOp (uEq K) (tVar 5) (tCall (sp_l_canonical K) [] E0 (tCons (tVar 3) tNil)))))))))))
abbrev n_law : List Str := ["_law_script", "_law_state", "_law_tree_here", "_law_words_here", "_law_numbered", "_law_actual"]
section
variable {K : PySem.W.Frag} {vs : List V} {H : Hp} {Q : VK} {E : XK}
theorem rd_l_draw (h : sp_l_draw K vs H Q E) : t_l_draw K { nx := fun _ H' => Q .non H', rt := Q } (start n_l_draw vs) H := by
  obtain ⟨p, l, m, rfl, hm, hm2, ⟨ns, cur, seed, at_, hp, hl, hne, h0⟩, q⟩ := h
  unfold t_l_draw
  refine r_cut (fun σ' H' => H' = H ∧ σ' = [some (.ref p), some (.int m), none] ∧ (cur = 0 → at_ < ns.length)) ?_ ?_
  · walk_at "u"
    refine br_d (fun h1 => ?_) (fun h1 => ?_)
    · walk_at "u"
      refine br_d (fun h2 => ?_) (fun h2 => ?_)
      · walk_at "u"
        refine q _ _ (Int.emod_nonneg _ (by omega)) (Int.emod_lt_of_pos _ hm) ⟨ns, cur, _, at_, upd_same, by rw [upd_ne hne]; exact hl, hne, h0⟩ (fun b hb => upd_ne hb)
      · walk_at "u"
        refine ⟨rfl, rfl, fun _ => by simpa using h2⟩
    · walk_at "u"
      exact ⟨rfl, rfl, fun h => absurd h h1⟩
  rintro σ H1 ⟨e, rfl, hin⟩
  subst e
  refine r_cut (fun σ' H' => σ' = [some (.ref p), some (.int m), none] ∧ (∃ (cur' : Int) (at' : Nat), H' p = some (.lst [.ref l, .int cur', .int at', .int seed]) ∧ 0 ≤ cur') ∧ ∀ b, b ≠ p → H' b = H1 b) ?_ ?_
  · walk_at "u"
    refine br_d (fun h1 => ?_) (fun h1 => ?_)
    · walk_at "u"
      have hi := hin h1
      refine r_ixL (SqL.of hl) (v := .int ns[at_]) (atI_nat (by simp [hi])) ?_
      walk_at "u"
      refine ⟨rfl, ⟨((ns[at_]).natAbs : Int), at_ + 1, ?_, Int.natCast_nonneg _⟩, fun b hb => ?_⟩
      · rw [upd_same]; rfl
      · rw [upd_ne hb, upd_ne hb]
    · walk_at "u"
      exact ⟨rfl, ⟨cur, at_, hp, h0⟩, fun b _ => rfl⟩
  rintro σ H2 ⟨rfl, ⟨cur', at', hp2, h2⟩, hk⟩
  walk_at "u"
  have hl2 : H2 l = some (.lst (ns.map V.int)) := by rw [hk l hne]; exact hl
  refine q _ _ (Int.emod_nonneg _ (by omega)) (Int.emod_lt_of_pos _ hm) ⟨ns, _, seed, at', upd_same, by rw [upd_ne hne]; exact hl2, hne, Int.ediv_nonneg h2 (by omega)⟩ (fun b hb => by rw [upd_ne hb, hk b hb])
theorem rd_l_start (h : sp_l_start K vs H Q E) : t_l_start K { nx := fun _ H' => Q .non H', rt := Q } (start n_l_start vs) H := by
  obtain ⟨a, ns, rfl, hs, hlen, q⟩ := h
  unfold t_l_start
  walk_at "u"
  refine r_cut (fun σ' H' => H' = H ∧ ∃ (seed : Int) (y : Option V), σ' = [some (.ref a), some (.int seed), y]) ?_ ?_
  · walk_at "u"
    refine it_list ?_
    walk_at "u"
    refine ⟨a, rfl, ⟨_, hs⟩, f_list (xs := ns.map V.int) (fun i σ' H' => H' = H ∧ ∃ (seed : Int) (y : Option V), σ' = [some (.ref a), some (.int seed), y]) ⟨rfl, 7, none, rfl⟩ (fun i σ H' h => h.1 ▸ hs) ?_ ?_⟩
    · rintro i x σ H' hx ⟨rfl, seed, y, rfl⟩
      rw [List.getElem?_map] at hx
      obtain ⟨n, hn, rfl⟩ := Option.map_eq_some_iff.mp hx
      walk_at "u"
      exact ⟨rfl, _, _, rfl⟩
    · rintro σ H' h
      walk_at "u"
      exact h
  rintro σ H1 ⟨rfl, seed, y, rfl⟩
  walk_at "u"
  refine r_listL hs fun l hl => ?_
  walk_at "u"
  refine ⟨szl (by simp), fun p hp => ?_⟩
  have hlp : l ≠ p := ne_of_none upd_same hp
  have hp1 : H1 p = none := by rw [upd_ne hlp.symm] at hp; exact hp
  refine q p l _ (same_mut (same_new hl) hp1) hp1 ⟨ns, 0, seed, 0, upd_same, by rw [upd_ne hlp, upd_same], hlp, Int.le_refl _⟩
end
def Asc (z : Str) : Prop := ∀ c ∈ z.cps.toList, isNm c = true
theorem Asc.cat {a b : Str} (ha : Asc a) (hb : Asc b) : Asc (a ++ b) := fun c hc => by
  rw [str_catL] at hc
  exact (List.mem_append.mp hc).elim (ha c) (hb c)
theorem Asc.lit {z : Str} (h : z.cps.toList.all (fun c => isNm c) = true) : Asc z := fun c hc => List.all_eq_true.mp h c hc
theorem Asc.cut {z : Str} {lo hi : Option Int} (h : Asc z) : Asc (cutS z lo hi) := fun c hc => by
  unfold cutS at hc
  refine h c ?_
  have hc : c ∈ ((((z.cps.toList.drop (HT.sIx z.length 0 lo)).take (HT.sIx z.length z.length hi - HT.sIx z.length 0 lo)).toArray).toList) := hc
  rw [List.toList_toArray] at hc
  exact List.mem_of_mem_drop (List.mem_of_mem_take hc)
theorem joinL_nil : ∀ ps : List (List Nat), TL.joinL [] ps = ps.flatten
  | [] => rfl
  | [p] => by simp [TL.joinL]
  | p :: q :: r => by
    show p ++ ([] ++ TL.joinL [] (q :: r)) = _
    rw [joinL_nil (q :: r)]; simp
theorem join_empty (ys : List Str) : (Txt.join (Str.ofString "") ys).cps.toList = (ys.map fun y => y.cps.toList).flatten := by
  have e := TL.tl_join (Str.ofString "") ys
  have e0 : TL.tl (Str.ofString "") = [] := by decide +kernel
  rw [TL.join_eq]
  show TL.tl _ = _
  rw [e, e0, joinL_nil]
theorem num_asc : ∀ k : Nat, k < 60 → (Str.ofString (toString (k : Int))).cps.toList.all (fun c => isNm c) = true ∧ (Str.ofString (toString (k : Int))).length ≤ 2 ∧ 0 < (Str.ofString (toString (k : Int))).length := by decide +kernel
theorem up_letters : ((Txt.upper (Str.ofString "abcdefghijklmnopqrstuvwxyz")).cps.toList.all (fun c => isNm c) = true) ∧ (Txt.upper (Str.ofString "abcdefghijklmnopqrstuvwxyz")).length = 26 := by decide +kernel
theorem up_one : ∀ c ∈ (Str.ofString "abcdefghijklmnopqrstuvwxyz").cps.toList, (Txt.upper ⟨#[c]⟩).cps.toList.all (fun c => isNm c) = true ∧ (Txt.upper ⟨#[c]⟩).length = 1 := by decide +kernel
theorem len_letters : (Str.ofString "abcdefghijklmnopqrstuvwxyz").length = 26 := by decide +kernel
theorem asc_letters : Asc (Str.ofString "abcdefghijklmnopqrstuvwxyz") := Asc.lit (by decide +kernel)
theorem len_rest : (Str.ofString "0123456789_").length = 11 := by decide +kernel
theorem asc_rest : Asc (Str.ofString "0123456789_") := Asc.lit (by decide +kernel)
theorem NameOk.lit {z : Str} (h : z.cps.toList.all (fun c => isNm c) = true ∧ 0 < z.length ∧ z.length ≤ 14) : NameOk z := ⟨Asc.lit h.1, h.2⟩
section
variable {K : PySem.W.Frag} {vs : List V} {H : Hp} {Q : VK} {E : XK} {n : Nat}
theorem rd_l_reserved (h : sp_l_reserved K vs H Q E) : t_l_reserved K { nx := fun _ H' => Q .non H', rt := Q } (start n_l_reserved vs) H := by
  obtain ⟨rfl, q⟩ := h
  unfold t_l_reserved
  have l1 : (Str.ofString "data exception fun tuple get let if case fn apply ref deref set array at put len raise handle").length ≤ 200 := by decide +kernel
  have l2 : (Str.ofString " print seq add sub mul div rem equal less true false int bool unit").length ≤ 200 := by decide +kernel
  have l3 : ((Str.ofString " ").length == 0) = false := by decide +kernel
  generalize Str.ofString "data exception fun tuple get let if case fn apply ref deref set array at put len raise handle" = A at l1 ⊢
  generalize Str.ofString " print seq add sub mul div rem equal less true false int bool unit" = B at l2 ⊢
  walk_at "u"
  refine r_split l3 (szl (by rw [str_cat]; omega)) fun p hp => ?_
  exact q p _ _ (same_new hp) upd_same
theorem rd_l_name (h : sp_l_name K vs H Q E) : t_l_name K { nx := fun _ H' => Q .non H', rt := Q } (start n_l_name vs) H := by
  obtain ⟨p, l, g, rfl, hD, q⟩ := h
  unfold t_l_name
  have e26 := len_letters
  have a26 := asc_letters
  have u26 := up_letters
  have o26 := up_one
  have e11 := len_rest
  have a11 := asc_rest
  generalize Str.ofString "abcdefghijklmnopqrstuvwxyz" = L at e26 a26 u26 o26 ⊢
  generalize Str.ofString "0123456789_" = R at e11 a11 ⊢
  walk_at "u"
  refine ⟨p, l, _, rfl, by decide, by decide, hD, fun i H1 i0 i1 hD1 k1 => ?_⟩
  obtain ⟨i, rfl⟩ : ∃ j : Nat, i = (j : Int) := ⟨i.toNat, by omega⟩
  have hi : i < L.cps.toList.length := by rw [← str_len]; omega
  refine r_ixS (szl (by omega)) (atI_nat (List.getElem?_eq_getElem hi)) ?_
  have hc : L.cps.toList[i] ∈ L.cps.toList := List.getElem_mem hi
  generalize L.cps.toList[i] = c at hc
  walk_at "u"
  refine ⟨p, l, _, rfl, by decide, by decide, hD1, fun s H2 s0 s1 hD2 k2 => ?_⟩
  walk_at "u"
  have f2 : Fr p H H2 := (Fr.of k1).trans (Fr.of k2)
  refine r_cut (fun σ' H' => Fr p H H' ∧ Dr H' p l ∧ ∃ z : Int, 0 ≤ z ∧ z < 12 ∧ σ' = [some (.ref p), some (.bl g), some (.str L), some (.str (L ++ R)), some (.str ⟨#[c]⟩), some (.int z), none, none]) ?_ ?_
  · walk_at "u"
    refine ⟨p, l, _, rfl, by decide, by decide, hD2, fun t H3 t0 t1 hD3 k3 => ?_⟩
    walk_at "u"
    refine br_d (fun h1 => ?_) (fun h1 => ?_)
    · walk_at "u"
      refine ⟨p, l, _, rfl, by decide, by decide, hD3, fun t H4 t0 t1 hD4 k4 => ?_⟩
      walk_at "u"
      exact ⟨f2.trans ((Fr.of k3).trans (Fr.of k4)), hD4, t, t0, t1, rfl⟩
    · walk_at "u"
      exact ⟨f2.trans (Fr.of k3), hD3, s, s0, by omega, rfl⟩
  rintro σ H3 ⟨f3, hD3, z, z0, z1, rfl⟩
  refine r_cut (fun σ' H' => H' = H3 ∧ ∃ (r f : Str), Asc r ∧ Asc f ∧ 0 < r.length ∧ r.length ≤ 100 ∧ f.length = 1 ∧ σ' = [some (.ref p), some (.bl g), some (.str L), some (.str r), some (.str f), some (.int z), none, none]) ?_ ?_
  · walk_at "u"
    have l1 : (L ++ R).length = 37 := by rw [str_cat]; omega
    cases g with
    | true =>
      walk_at "u"
      refine r_upper (by omega) ?_
      walk_at "u"
      refine r_upper (by show (#[c] : Array Nat).size ≤ _; simp) ?_
      walk_at "u"
      exact ⟨rfl, _, _, (a26.cat a11).cat (Asc.lit u26.1), Asc.lit (o26 c hc).1, by rw [str_cat]; omega, by rw [str_cat]; omega, (o26 c hc).2, rfl⟩
    | false =>
      walk_at "u"
      exact ⟨rfl, _, _, a26.cat a11, (fun x hx => by
        have : x = c := by simpa using hx
        rw [this]; exact a26 c hc), by omega, by omega, rfl, rfl⟩
  rintro σ H4 ⟨rfl, r, f, ar, af, r0, r1, lf, rfl⟩
  refine r_cut (fun σ' H' => Fr p H H' ∧ Dr H' p l ∧ ∃ m : Str, Asc m ∧ 0 < m.length ∧ m.length ≤ 12 ∧ σ' = [some (.ref p), some (.bl g), some (.str L), some (.str r), some (.str f), some (.int z), some (.str m), none]) ?_ ?_
  · walk_at "u"
    refine ⟨by omega, by omega, fun A hA => c_range (fun i H' => Fr p H4 H' ∧ Dr H' p l ∧ ∃ ys : List Str, H' A = some (.lst (ys.map V.str)) ∧ ys.length = i ∧ ∀ y ∈ ys, y.length = 1 ∧ Asc y) ⟨Fr.new hA, hD3.new hA, [], upd_same, rfl, (fun _ h => nomatch h)⟩ ?_ ?_⟩
    · rintro i H5 hi ⟨f5, hD5, ys, e5, l5, y5⟩
      walk_at "u"
      refine ⟨rfl, ?_⟩
      walk_at "u"
      refine ⟨p, l, _, rfl, by omega, by omega, hD5, fun j H6 j0 j1 hD6 k6 => ?_⟩
      obtain ⟨j, rfl⟩ : ∃ k : Nat, j = (k : Int) := ⟨j.toNat, by omega⟩
      have hj : j < r.cps.toList.length := by rw [← str_len]; omega
      refine r_ixS (szl (by omega)) (atI_nat (List.getElem?_eq_getElem hj)) ?_
      have hc2 : r.cps.toList[j] ∈ r.cps.toList := List.getElem_mem hj
      generalize r.cps.toList[j] = c2 at hc2
      have e6 : H6 A = some (.lst (ys.map V.str)) := by rw [k6 A (hD3.nep hA)]; exact e5
      refine ⟨_, e6, szt (by simp; omega), (f5.trans (Fr.of k6)).mut hA, hD6.upd (hD3.nep hA) (hD3.nel hA), ys ++ [⟨#[c2]⟩], by rw [upd_same]; simp, by simp [l5], ?_⟩
      intro y hy
      rcases List.mem_append.mp hy with h | h
      · exact y5 y h
      · rw [List.mem_singleton.mp h]
        exact ⟨rfl, fun x hx => by
          have : x = c2 := by simpa using hx
          rw [this]; exact ar c2 hc2⟩
    · rintro H5 ⟨f5, hD5, ys, e5, l5, y5⟩
      walk_at "u"
      have hsum : (ys.map (·.length)).sum = ys.length := by
        clear l5 e5
        induction ys with
        | nil => rfl
        | cons y r ih =>
          rw [List.map_cons, List.sum_cons, ih (fun z hz => y5 z (List.mem_cons_of_mem _ hz)), (y5 y (List.mem_cons_self ..)).1, List.length_cons]
          omega
      have hW : (Txt.join (Str.ofString "") ys).length = ys.length := by
        rw [str_len, join_empty, List.length_flatten, List.map_map]
        rw [← hsum]
        congr 1
      have aW : Asc (Txt.join (Str.ofString "") ys) := fun x hx => by
        rw [join_empty] at hx
        obtain ⟨w, hw, hx⟩ := List.mem_flatten.mp hx
        obtain ⟨y, hy, rfl⟩ := List.mem_map.mp hw
        exact (y5 y hy).2 x hx
      have he0 : (Str.ofString "").length = 0 := by decide +kernel
      refine ⟨ys, .inl (SqL.of e5), by rw [hsum, he0]; omega, ?_⟩
      generalize Txt.join (Str.ofString "") ys = W at hW aW ⊢
      walk_at "u"
      exact ⟨f3.trans f5, hD5, _, af.cat aW, by rw [str_cat]; omega, by rw [str_cat]; omega, rfl⟩
  rintro σ H5 ⟨f5, hD5, m, am, m0, m1, rfl⟩
  walk_at "u"
  walk_at "ui"
  refine ⟨rfl, fun b zs H6 s6 e6 => ?_⟩
  refine r_inSL (SqL.of e6) ?_
  walk_at "u"
  have l_ : (Str.ofString "_").length = 1 := by decide +kernel
  refine br_d (fun h1 => ?_) (fun h1 => ?_)
  · walk_at "u"
    exact q _ _ ⟨am.cat (Asc.lit (by decide +kernel)), by rw [str_cat]; omega, by rw [str_cat]; omega⟩ (hD5.same s6) (f5.trans (Fr.same s6))
  · walk_at "u"
    exact q _ _ ⟨am, m0, by omega⟩ (hD5.same s6) (f5.trans (Fr.same s6))
end
section
variable {K : PySem.W.Frag} {vs : List V} {H : Hp} {Q : VK} {E : XK} {n : Nat}
theorem cut9 {z : Str} : (cutS z none (some 9)).length ≤ 9 ∧ (0 < z.length → 0 < (cutS z none (some 9)).length) := by
  have e : (cutS z none (some 9)).length = min 9 z.length := by
    unfold cutS
    rw [str_len]
    show ((((z.cps.toList.drop (HT.sIx z.length 0 none)).take (HT.sIx z.length z.length (some 9) - HT.sIx z.length 0 none)).toArray).toList).length = _
    rw [List.toList_toArray, HT.sIx_none, show HT.sIx z.length z.length (some 9) = min 9 z.length from HT.sIx_nat z.length z.length 9, List.drop_zero, List.length_take, ← str_len]
    omega
  rw [e]
  omega
theorem rd_l_fresh (h : sp_l_fresh K vs H Q E) : t_l_fresh K { nx := fun _ H' => Q .non H', rt := Q } (start n_l_fresh vs) H := by
  obtain ⟨p, l, t, g, zs, rfl, hD, tp, tl, et, hz, q⟩ := h
  unfold t_l_fresh
  walk_at "u"
  refine ⟨p, l, g, rfl, hD, fun z H1 nz hD1 f1 => ?_⟩
  have et1 : H1 t = some (.lst (zs.map V.str)) := f1 _ _ tp et
  walk_at "u"
  refine r_cut (fun σ' H' => H' = H1 ∧ ∃ (m : Str) (y : Option V), NameOk m ∧ σ' = [some (.ref p), some (.bl g), some (.ref t), some (.str m), y]) ?_ ?_
  · walk_at "u"
    refine ⟨by decide, by decide, f_range (fun i σ' H' => H' = H1 ∧ ∃ (m : Str) (y : Option V), NameOk m ∧ σ' = [some (.ref p), some (.bl g), some (.ref t), some (.str m), y]) ⟨rfl, z, none, nz, rfl⟩ ?_ ?_⟩
    · rintro i σ H2 hi ⟨rfl, m, y, nm, rfl⟩
      have hi : i < 60 := hi
      rw [Int.zero_add]
      walk_at "u"
      refine r_inSL (SqL.of et1) ?_
      walk_at "u"
      refine br_d (fun h1 => ?_) (fun h1 => ?_)
      · have c9 := cut9 (z := m)
        have k60 := num_asc i hi
        have hm := nm.2
        walk_at "u"
        refine r_strI (log_ok (by omega)) ?_
        walk_at "u"
        exact ⟨rfl, _, _, ⟨(Asc.cut nm.1).cat (Asc.lit k60.1), by rw [str_cat]; omega, by rw [str_cat]; omega⟩, rfl⟩
      · walk_at "u"
        exact ⟨rfl, m, _, nm, rfl⟩
    · rintro σ H2 h
      walk_at "u"
      exact h
  rintro σ H2 ⟨rfl, m, y, nm, rfl⟩
  walk_at "u"
  refine r_append et1 (szt (by rw [List.length_map]; omega)) ?_
  walk_at "u"
  refine q m _ nm (hD1.upd tp tl) ?_ (by rw [upd_same, List.map_append]; rfl)
  intro c x h1 h2 e
  rw [upd_ne h2]
  exact f1 c x h1 e
theorem lit3 {k : Nat} (h : k < 3) : ∃ x : Str, [V.str "int", .str "bool", .str "unit"][k]? = some (.str x) ∧ x ∈ leafK := by
  match k, h with
  | 0, _ => exact ⟨_, rfl, by simp⟩
  | 1, _ => exact ⟨_, rfl, by simp⟩
  | 2, _ => exact ⟨_, rfl, by simp⟩
theorem lit2 {k : Nat} (h : k < 2) : ∃ x : Str, [V.str "ref", .str "array"][k]? = some (.str x) ∧ x ∈ nodeK := by
  match k, h with
  | 0, _ => exact ⟨_, rfl, by simp⟩
  | 1, _ => exact ⟨_, rfl, by simp⟩
theorem rd_l_kind (h : spr_l_kind (n + 1) K vs H Q E) : t_l_kind K (spr_l_kind n) { nx := fun _ H' => Q .non H', rt := Q } (start n_l_kind vs) H := by
  obtain ⟨p, l, m, rfl, hm, hD, q⟩ := h
  unfold t_l_kind
  walk_at "u"
  refine ⟨p, l, _, rfl, by decide, by decide, hD, fun pk H1 h0 h9 hD1 k1 => ?_⟩
  have f1 : Fr p H H1 := .of k1
  walk_at "u"
  refine r_cut (fun σ' H' => H' = H1 ∧ σ' = [some (.ref p), some (.int m), some (.int pk), none] ∧ 3 ≤ pk ∧ 1 ≤ m) ?_ ?_
  · have leaf : tRet (tTup (tCons (tOp (uIx K) (tLst (tCons (tC (.str "int")) (tCons (tC (.str "bool")) (tCons (tC (.str "unit")) tNil)))) (tOp (uMod) (tVar 2) (tC (.int 3)))) (tCons (tTup tNil) (tCons (tC (.int 0)) tNil)))) { nx := fun σ' H' => H' = H1 ∧ σ' = [some (.ref p), some (.int m), some (.int pk), none] ∧ 3 ≤ pk ∧ 1 ≤ m, rt := Q } [some (.ref p), some (.int m), some (.int pk), none] H1 := by
      walk_at "u"
      refine ⟨szl (by simp), fun a ha => ?_⟩
      walk_at "u"
      obtain ⟨x, hx, x1⟩ := lit3 (k := (pk % 3).toNat) (by omega)
      refine r_ixL (SqL.of upd_same) (v := .str x) (by rw [show pk % 3 = (((pk % 3).toNat : Nat) : Int) by omega]; exact atI_nat hx) ?_
      walk_at "u"
      refine ⟨szl (by simp), fun b hb => ?_⟩
      walk_at "u"
      refine ⟨szl (by simp), fun c hc => ?_⟩
      exact q _ (.tup [.str x, .tup [], .int 0]) _ ⟨x, _, rfl, .inl ⟨x1, rfl⟩⟩ (Td.newT (.cons (.str x) (.cons (Td.newT .nil hb) (.cons (.int 0) .nil))) hc) (((hD1.new ha).new hb).new hc) (f1.trans ((Fr.new ha).trans ((Fr.new hb).trans (Fr.new hc))))
    walk_at "u"
    refine br_d (fun h1 => ?_) (fun h1 => ?_)
    · walk_at "u"
      exact leaf
    · walk_at "u"
      refine br_d (fun h2 => ?_) (fun h2 => ?_)
      · exact leaf
      · walk_at "u"
        exact ⟨rfl, rfl, by omega, by omega⟩
  rintro σ H2 ⟨rfl, rfl, h3, hm1⟩
  have call : ∀ {H' : Hp} {Q' : VK}, Dr H' p l → (∀ v d H'', KiD m d → Td K H'' v d → Dr H'' p l → Fr p H' H'' → Q' v H'') → spr_l_kind n K [.ref p, .int ((m : Int) - 1)] H' Q' E0 := fun hD' q' =>
    ⟨p, l, m - 1, by rw [show ((m : Int) - 1) = ((m - 1 : Nat) : Int) by omega], by omega, hD', fun v d H'' kd => by rw [show m - 1 + 1 = m by omega] at kd; exact q' v d H'' kd⟩
  walk_at "u"
  walk_at "ui"
  refine br_d (fun h1 => ?_) (fun h1 => ?_)
  · walk_at "u"
    refine ⟨p, l, false, rfl, hD1, fun z H3 nz hD3 f3 => ?_⟩
    walk_at "u"
    refine ⟨szl (by simp), fun a ha => ?_⟩
    exact q _ (.tup [.str "data", .str z, .int 0]) _ ⟨_, _, rfl, .inr (.inl ⟨rfl, z, rfl, nz⟩)⟩ (Td.newT (.cons (.str _) (.cons (.str z) (.cons (.int 0) .nil))) ha) (hD3.new ha) (f1.trans (f3.trans (Fr.new ha)))
  walk_at "u"
  walk_at "ui"
  refine br_d (fun h2 => ?_) (fun h2 => ?_)
  · walk_at "u"
    refine ⟨p, l, _, rfl, by decide, by decide, hD1, fun i H3 i0 i5 hD3 k3 => ?_⟩
    walk_at "u"
    refine ⟨by omega, by omega, fun A hA => c_range (CD K (fun H => Dr H p l) p A H3 (KiD m)) (CD.start (hD3.new hA) hA) ?_ ?_⟩
    · intro j H4 hj c
      walk_at "u"
      refine ⟨rfl, ?_⟩
      walk_at "u"
      refine call c.1 fun v d H5 kd td hD5 f5 => ?_
      exact c.stepL hA (hD3.nep hA) (hD3.nel hA) (by omega) hD5 f5 td kd
    · rintro H4 ⟨hD4, f4, ws, ds, e4, t4, l4, g4⟩
      walk_at "u"
      refine r_tupleD (SqL.of e4) t4 fun u H5 s5 t5 => ?_
      walk_at "u"
      refine ⟨szl (by simp), fun b hb => ?_⟩
      exact q _ (.tup [.str "tuple", .tup ds, .int 0]) _ ⟨_, _, rfl, .inr (.inr ⟨ds, rfl, by simp, by omega, by omega, g4⟩)⟩ (Td.newT (.cons (.str _) (.cons t5 (.cons (.int 0) .nil))) hb) ((hD4.same s5).new hb) (f1.trans ((Fr.of k3).trans (f4.trans ((Fr.same s5).trans (Fr.new hb)))))
  walk_at "u"
  walk_at "ui"
  refine br_d (fun h3 => ?_) (fun h3 => ?_)
  · walk_at "u"
    refine call hD1 fun v d H3 kd td hD3 f3 => ?_
    walk_at "u"
    refine call hD3 fun v2 d2 H4 kd2 td2 hD4 f4 => ?_
    walk_at "u"
    refine ⟨szl (by simp), fun a ha => ?_⟩
    obtain ⟨H5, e5, s5, t5⟩ := Td.lay (K := K) ha (.cons (td.k (hD3.tk f4)) (.cons td2 .nil))
    rw [e5]
    walk_at "u"
    refine ⟨szl (by simp), fun b hb => ?_⟩
    refine q _ (.tup [.str "fn", .tup [d, d2], .int 0]) _ ⟨_, _, rfl, .inr (.inr ⟨[d, d2], rfl, by simp, by simp, by simp, fun e he => ?_⟩)⟩ (Td.newT (.cons (.str _) (.cons t5 (.cons (.int 0) .nil))) hb) ((hD4.same s5).new hb) (f1.trans (f3.trans (f4.trans ((Fr.same s5).trans (Fr.new hb)))))
    simp only [List.mem_cons, List.not_mem_nil, or_false] at he
    rcases he with rfl | rfl <;> assumption
  walk_at "u"
  refine ⟨szl (by simp), fun a ha => ?_⟩
  obtain ⟨H3, e3, s3, ea⟩ := lay_new (o := .lst [.str "ref", .str "array"]) ha
  rw [e3]
  walk_at "u"
  obtain ⟨x, hx, x1⟩ := lit2 (k := (pk % 2).toNat) (by omega)
  refine r_ixL (SqL.of ea) (v := .str x) (by rw [show pk % 2 = (((pk % 2).toNat : Nat) : Int) by omega]; exact atI_nat hx) ?_
  walk_at "u"
  refine call (hD1.same s3) fun v d H4 kd td hD4 f4 => ?_
  walk_at "u"
  refine ⟨szl (by simp), fun b hb => ?_⟩
  obtain ⟨H5, e5, s5, t5⟩ := Td.lay (K := K) hb (.cons td .nil)
  rw [e5]
  walk_at "u"
  refine ⟨szl (by simp), fun c hc => ?_⟩
  exact q _ (.tup [.str x, .tup [d], .int 0]) _ ⟨_, _, rfl, .inr (.inr ⟨[d], rfl, x1, by simp, by simp, fun e he => by rw [List.mem_singleton.mp he]; exact kd⟩)⟩ (Td.newT (.cons (.str _) (.cons t5 (.cons (.int 0) .nil))) hc) ((hD4.same s5).new hc) (f1.trans ((Fr.same s3).trans (f4.trans ((Fr.same s5).trans (Fr.new hc)))))
theorem rd_l_exception (h : sp_l_exception K vs H Q E) : t_l_exception K { nx := fun _ H' => Q .non H', rt := Q } (start n_l_exception vs) H := by
  obtain ⟨p, l, rfl, hD, q⟩ := h
  unfold t_l_exception
  walk_at "u"
  refine ⟨p, l, _, rfl, by decide, by decide, hD, fun i H1 i0 i1 hD1 k1 => ?_⟩
  walk_at "u"
  walk_at "ui"
  refine br_d (fun h1 => ?_) (fun h1 => ?_)
  · walk_at "u"
    refine ⟨szl (by simp), fun a ha => ?_⟩
    obtain ⟨H3, e3, s3, ea⟩ := lay_new (o := .lst [.str "Div", .str "Index", .str "Size"]) ha
    rw [e3]
    walk_at "u"
    obtain ⟨z, hz, nz⟩ : ∃ z : Str, atI [V.str "Div", .str "Index", .str "Size"] i = some (.str z) ∧ NameOk z := by
      rcases (show i = 0 ∨ i = 1 ∨ i = 2 by omega) with e | e | e <;> subst e <;> exact ⟨_, rfl, NameOk.lit (by decide +kernel)⟩
    refine r_ixL (SqL.of ea) hz ?_
    exact q z _ nz (hD1.same s3) ((Fr.of k1).trans (Fr.same s3))
  · walk_at "u"
    refine ⟨p, l, false, rfl, hD1, fun z H3 nz hD3 f3 => ?_⟩
    walk_at "u"
    exact q z _ nz hD3 ((Fr.of k1).trans f3)
theorem rd_l_counts (h : sp_l_counts K vs H Q E) : t_l_counts K { nx := fun _ H' => Q .non H', rt := Q } (start n_l_counts vs) H := by
  obtain ⟨rfl, q⟩ := h
  unfold t_l_counts
  refine r_ret ?_
  intro p H' hp hs e
  exact q p H' hs e
theorem LeafD.mk {op : Str} {info : D} (h1 : NameOk op) (h2 : InfoOk op info) (h3 : op ∈ leafOps) : ED 1 (.tup [.str op, .int 0, info, .tup [], .tup []]) :=
  ⟨op, 0, info, [], [], rfl, h1, h2, (fun _ => ⟨rfl, rfl⟩), (fun h => absurd rfl h), by simp, by simp, ⟨(fun _ => h3), (fun _ => by simp)⟩, (fun _ h => nomatch h), (fun _ h => nomatch h)⟩
theorem rd_l_leaf (h : sp_l_leaf K vs H Q E) : t_l_leaf K { nx := fun _ H' => Q .non H', rt := Q } (start n_l_leaf vs) H := by
  obtain ⟨p, l, rfl, hD, q⟩ := h
  unfold t_l_leaf
  have fin : ∀ {H1 : Hp} {op : Str} {v : V} {d : D}, Dr H1 p l → Fr p H H1 → Td K H1 v d → NameOk op → InfoOk op d → op ∈ leafOps → ∀ a, H1 a = none → ∀ b, upd H1 a (.tup []) b = none → ∀ c, upd (upd H1 a (.tup [])) b (.tup []) c = none →
      Q (.ref c) (upd (upd (upd H1 a (.tup [])) b (.tup [])) c (.tup [.str op, .int 0, v, .ref a, .ref b])) := fun {H1 op v d} hD1 f1 t1 h1 h2 h3 a ha b hb c hc => by
    obtain ⟨G1, g1, s1, t2⟩ := Td.lay (K := K) ha .nil
    rw [g1] at hb hc ⊢
    obtain ⟨G2, g2, s2, t3⟩ := Td.lay (K := K) hb .nil
    rw [g2] at hc ⊢
    exact q _ _ _ (LeafD.mk h1 h2 h3) (Td.newT (.cons (.str op) (.cons (.int 0) (.cons (t1.k (Same.tk (s1.trans s2))) (.cons (t2.k (Same.tk s2)) (.cons t3 .nil))))) hc) (((hD1.same s1).same s2).new hc) (f1.trans ((Fr.same s1).trans ((Fr.same s2).trans (Fr.new hc))))
  walk_at "u"
  refine ⟨p, l, _, rfl, by decide, by decide, hD, fun i H1 i0 i1 hD1 k1 => ?_⟩
  have f1 : Fr p H H1 := Fr.of k1
  have niI : NameOk "int" := NameOk.lit (by decide +kernel)
  walk_at "u"
  walk_at "ui"
  refine br_d (fun h1 => ?_) (fun h1 => ?_)
  · walk_at "u"
    refine ⟨szl (by simp), fun a ha => ?_⟩
    obtain ⟨H3, e3, s3, ea⟩ := lay_new (o := .lst [.int 0, .int 1, .int (-1), .int 2147483647, .int (-2147483648), .int 10, .int 6]) ha
    rw [e3]
    have hD3 := hD1.same s3
    walk_at "u"
    refine ⟨p, l, _, rfl, by decide, by decide, hD3, fun j H4 j0 j1 hD4 k4 => ?_⟩
    obtain ⟨z, hz, zr⟩ : ∃ z : Int, atI [V.int 0, .int 1, .int (-1), .int 2147483647, .int (-2147483648), .int 10, .int 6] j = some (.int z) ∧ -2147483648 ≤ z ∧ z ≤ 2147483647 := by
      rcases (show j = 0 ∨ j = 1 ∨ j = 2 ∨ j = 3 ∨ j = 4 ∨ j = 5 ∨ j = 6 by omega) with e | e | e | e | e | e | e <;> subst e <;> exact ⟨_, rfl, by decide, by decide⟩
    refine r_ixL (SqL.of (by rw [k4 a (hD1.nep ha)]; exact ea)) hz ?_
    walk_at "u"
    refine ⟨szl (by simp), fun b hb => ?_⟩
    walk_at "u"
    refine ⟨szl (by simp), fun c hc => ?_⟩
    walk_at "u"
    refine ⟨szl (by simp), fun d hd => ?_⟩
    exact fin hD4 (f1.trans ((Fr.same s3).trans (Fr.of k4))) (.int z) niI (.inl ⟨rfl, z, rfl, zr⟩) (by simp) b hb c hc d hd
  walk_at "u"
  walk_at "ui"
  refine br_d (fun h2 => ?_) (fun h2 => ?_)
  · walk_at "u"
    refine ⟨p, l, _, rfl, by decide, by decide, hD1, fun j H4 j0 j1 hD4 k4 => ?_⟩
    walk_at "u"
    refine ⟨szl (by simp), fun b hb => ?_⟩
    walk_at "u"
    refine ⟨szl (by simp), fun c hc => ?_⟩
    walk_at "u"
    refine ⟨szl (by simp), fun d hd => ?_⟩
    exact fin hD4 (f1.trans (Fr.of k4)) (.int _) niI (.inl ⟨rfl, _, rfl, by omega, by omega⟩) (by simp) b hb c hc d hd
  walk_at "u"
  walk_at "ui"
  refine br_d (fun h3 => ?_) (fun h3 => ?_)
  · walk_at "u"
    refine ⟨p, l, _, rfl, by decide, by decide, hD1, fun j H4 j0 j1 hD4 k4 => ?_⟩
    walk_at "u"
    refine ⟨szl (by simp), fun b hb => ?_⟩
    walk_at "u"
    refine ⟨szl (by simp), fun c hc => ?_⟩
    walk_at "u"
    refine ⟨szl (by simp), fun d hd => ?_⟩
    exact fin hD4 (f1.trans (Fr.of k4)) (.bl _) (NameOk.lit (by decide +kernel)) (.inr (.inl ⟨rfl, _, rfl⟩)) (by simp) b hb c hc d hd
  walk_at "u"
  walk_at "ui"
  refine br_d (fun h4 => ?_) (fun h4 => ?_)
  · walk_at "u"
    refine ⟨szl (by simp), fun b hb => ?_⟩
    walk_at "u"
    refine ⟨szl (by simp), fun c hc => ?_⟩
    walk_at "u"
    refine ⟨szl (by simp), fun d hd => ?_⟩
    exact fin hD1 f1 .non (NameOk.lit (by decide +kernel)) (.inr (.inr (.inl ⟨rfl, rfl⟩))) (by simp) b hb c hc d hd
  walk_at "u"
  refine ⟨p, l, false, rfl, hD1, fun z H4 nz hD4 f4 => ?_⟩
  walk_at "u"
  refine ⟨szl (by simp), fun b hb => ?_⟩
  walk_at "u"
  refine ⟨szl (by simp), fun c hc => ?_⟩
  walk_at "u"
  refine ⟨szl (by simp), fun d hd => ?_⟩
  exact fin hD4 (f1.trans f4) (.str z) (NameOk.lit (by decide +kernel)) (.inr (.inr (.inr (.inl ⟨rfl, z, rfl, nz⟩)))) (by simp) b hb c hc d hd
end
section
variable {K : PySem.W.Frag} {H H' H1 H2 H3 : Hp} {p l r x B A : Addr} {o : HO}
theorem Fr.two (f : Fr p H H') : Fr2 p r H H' := fun c x h1 _ e => f c x h1 e
theorem Fr2.mut (f : Fr2 p r H H') (h : H x = none) : Fr2 p r H (upd H' x o) := fun c y h1 h2 e => by
  rw [upd_ne (ne_of_none e h)]
  exact f c y h1 h2 e
theorem Fr2.drop (s : Same H1 H2) (hB : H1 B = none) (f : Fr2 p B H2 H3) : Fr p H1 H3 := fun c x h1 e => f c x h1 (ne_of_none e hB) (s c x e)
theorem Dr.nt (h : Dr H p l) : Nt H p := by
  obtain ⟨ns, cur, seed, at_, hp, hl, hne, h0⟩ := h
  exact Nt.lst hp
/-- data built up at A, beside the draws and the room at r -/
def AL (K : PySem.W.Frag) (p l r A : Addr) (H1 : Hp) (G : D → Prop) (i : Nat) (H' : Hp) : Prop :=
  Dr H' p l ∧ Fr2 p r H1 H' ∧ (∃ k : Int, H' r = some (.lst [.int k])) ∧ ∃ vs ds, H' A = some (.lst vs) ∧ TdL K H' vs ds ∧ ds.length = i ∧ ∀ d ∈ ds, G d
theorem AL.tk {G : D → Prop} {i : Nat} (a : AL K p l r A H1 G i H) (f : Fr2 p r H H') : Tk K H H' := by
  obtain ⟨hD, _, ⟨k, hr⟩, _⟩ := a
  exact f.tk hD.nt (Nt.lst hr)
theorem AL.start {G : D → Prop} {k : Int} (hD : Dr H1 p l) (hr : H1 r = some (.lst [.int k])) (hA : H1 A = none) : AL K p l r A H1 G 0 (upd H1 A (.lst [])) :=
  ⟨hD.new hA, Fr2.refl.mut hA, ⟨k, by rw [upd_ne (ne_of_none hr hA)]; exact hr⟩, [], [], upd_same, .nil, rfl, (fun _ h => nomatch h)⟩
theorem AL.step {G : D → Prop} {i : Nat} {y : V} {d : D} (a : AL K p l r A H1 G i H) (hA : H1 A = none) (h1 : A ≠ p) (h2 : A ≠ l) (h3 : A ≠ r) (hi : i < 60000) (hD : Dr H' p l) (f : Fr2 p r H H') (hr : ∃ k : Int, H' r = some (.lst [.int k])) (t : Td K H' y d) (g : G d) :
    LcEnd A (AL K p l r A H1 G (i + 1)) y H' := by
  have tk := a.tk f
  obtain ⟨_, f1, _, vs, ds, e, td, l1, gs⟩ := a
  have e' : H' A = some (.lst vs) := f _ _ h1 h3 e
  obtain ⟨k, hr⟩ := hr
  refine ⟨vs, e', szt (by rw [td.len]; omega), hD.upd h1 h2, (f1.trans f).mut hA, ⟨k, by rw [upd_ne h3.symm]; exact hr⟩, vs ++ [y], ds ++ [d], upd_same, ((td.k tk).append (.one t)).k (Tk.lst e'), by simp [l1], ?_⟩
  intro x hx
  rcases List.mem_append.mp hx with h | h
  · exact gs x h
  · rw [List.mem_singleton.mp h]; exact g
theorem AL.app {G : D → Prop} {i : Nat} {y : V} {d : D} {Q : VK} (a : AL K p l r A H1 G i H) (hA : H1 A = none) (h1 : A ≠ p) (h2 : A ≠ l) (h3 : A ≠ r) (hi : i < 60000) (hD : Dr H' p l) (f : Fr2 p r H H') (hr : ∃ k : Int, H' r = some (.lst [.int k])) (t : Td K H' y d) (g : G d)
    (q : ∀ H'', AL K p l r A H1 G (i + 1) H'' → Q .non H'') : uAppend (.ref A) [y] H' Q := by
  obtain ⟨acc, a1, a2, a3⟩ := a.step hA h1 h2 h3 hi hD f hr t g
  exact ⟨acc, a1, a2, q _ a3⟩
theorem AL.at_ {G : D → Prop} {i : Nat} (a : AL K p l r A H1 G i H) (h1 : A ≠ p) (h3 : A ≠ r) (f : Fr2 p r H H') : ∃ acc, H' A = some (.lst acc) := by
  obtain ⟨_, _, _, vs, _, e, _⟩ := a
  exact ⟨vs, f _ _ h1 h3 e⟩
end
section
variable {K : PySem.W.Frag} {vs : List V} {H : Hp} {Q : VK} {E : XK} {n : Nat}
theorem TdL.strs {K : PySem.W.Frag} {H : Hp} : ∀ {zs : List Str}, TdL K H (zs.map V.str) (zs.map D.str)
  | [] => .nil
  | z :: r => .cons (.str z) TdL.strs
theorem rd_l_arms (h : spr_l_arms (n + 1) K vs H Q E) : t_l_arms K (spr_l_arms n) (spr_l_expr n) { nx := fun _ H' => Q .non H', rt := Q } (start n_l_arms vs) H := by
  obtain ⟨p, l, r, op, m, k, rfl, hm, m1, hD, rp, rl, er, q⟩ := h
  unfold t_l_arms
  have call : ∀ {H' : Hp} {Q' : VK} {k : Int}, Dr H' p l → H' r = some (.lst [.int k]) → (∀ v d (k' : Int) H'', ED m d → Td K H'' v d → Dr H'' p l → Fr2 p r H' H'' → H'' r = some (.lst [.int k']) → Q' v H'') → spr_l_expr n K [.ref p, .int ((m : Int) - 1), .ref r] H' Q' E0 := fun {H' Q' k} hD' hr' q' =>
    ⟨p, l, r, m - 1, k, by rw [show ((m : Int) - 1) = ((m - 1 : Nat) : Int) by omega], by omega, hD', rp, rl, hr', fun v d k' H'' kd => by rw [show m - 1 + 1 = m by omega] at kd; exact q' v d k' H'' kd⟩
  walk_at "u"
  refine ⟨szl (by simp), fun A hA => ?_⟩
  have a0 : AL K p l r A H (ArmD op (ED m)) 0 (upd H A (.lst [])) := AL.start hD er hA
  have Ap := hD.nep hA
  have Al := hD.nel hA
  have Ar : A ≠ r := (ne_of_none er hA).symm
  generalize upd H A (.lst []) = H1 at a0
  walk_at "u"
  refine r_cut (fun σ' H' => ∃ i, i ≤ 8 ∧ (i = 0 ∨ op = "case") ∧ AL K p l r A H (ArmD op (ED m)) i H' ∧ ∃ y5 y6 y7 y8, σ' = [some (.ref p), some (.str op), some (.int m), some (.ref r), some (.ref A), y5, y6, y7, y8]) ?_ ?_
  · walk_at "u"
    refine br_d (fun h1 => ?_) (fun h1 => ?_)
    · walk_at "u"
      refine ⟨p, l, _, rfl, by decide, by decide, a0.1, fun i H2 i0 i1 hD2 k2 => ?_⟩
      walk_at "u"
      refine r_ifCI ?_
      walk_at "u"
      refine ⟨p, l, _, rfl, by split <;> decide, by split <;> decide, hD2, fun N H3 n0 n1 hD3 k3 => ?_⟩
      have N8 : N < 8 := by split at n1 <;> omega
      walk_at "u"
      obtain ⟨hD1, f1, ⟨kr, er1⟩, vs1, ds1, e1, td1, l1, g1⟩ := a0
      have f13 : Fr p H1 H3 := (Fr.of k2).trans (Fr.of k3)
      have a3 : AL K p l r A H (ArmD op (ED m)) 0 H3 := ⟨hD3, f1.trans f13.two, ⟨kr, f13 _ _ rp er1⟩, vs1, ds1, f13 _ _ Ap e1, td1.k (f13.two.tk hD1.nt (Nt.lst er1)), l1, g1⟩
      refine ⟨by omega, by omega, f_range (fun i σ' H' => i ≤ 8 ∧ AL K p l r A H (ArmD op (ED m)) i H' ∧ ∃ y5 y6 y7 y8, σ' = [some (.ref p), some (.str op), some (.int m), some (.ref r), some (.ref A), y5, y6, y7, y8]) ⟨by omega, a3, _, _, _, _, rfl⟩ ?_ ?_⟩
      · rintro i σ H4 hi ⟨hi8, a4, y5, y6, y7, y8, rfl⟩
        obtain ⟨hD4, _, ⟨kr, er4⟩, _⟩ := id a4
        walk_at "u"
        generalize some (V.int (0 + (i : Int))) = w5
        refine ⟨szl (by simp), fun B hB => ?_⟩
        obtain ⟨H5, e5, s5, eB⟩ := lay_new (o := .lst []) hB
        rw [e5]
        have hD5 := hD4.same s5
        have Bp := hD4.nep hB
        have Bl := hD4.nel hB
        walk_at "u"
        refine ⟨p, l, _, rfl, by decide, by decide, hD5, fun j H6 j0 j1 hD6 k6 => ?_⟩
        walk_at "u"
        have eB6 : H6 B = some (.lst []) := by rw [k6 B Bp]; exact eB
        refine ⟨by omega, by omega, fun C hC => c_range (fun i H' => Dr H' p l ∧ Fr2 p B H6 H' ∧ ∃ zs : List Str, H' B = some (.lst (zs.map V.str)) ∧ H' C = some (.lst (zs.map V.str)) ∧ zs.length = i ∧ ∀ z ∈ zs, NameOk z) ⟨hD6.new hC, Fr2.refl.mut hC, [], by rw [upd_ne (ne_of_none eB6 hC)]; exact eB6, upd_same, rfl, (fun _ h => nomatch h)⟩ ?_ ?_⟩
        · rintro t H7 ht ⟨hD7, f7, zs, eB7, eC7, l7, g7⟩
          walk_at "u"
          refine ⟨rfl, ?_⟩
          walk_at "u"
          have CB : C ≠ B := (ne_of_none eB6 hC).symm
          refine ⟨p, l, B, false, zs, rfl, hD7, Bp, Bl, eB7, by omega, fun z H8 nz hD8 f8 eB8 => ?_⟩
          have eC8 : H8 C = some (.lst (zs.map V.str)) := f8 _ _ (hD6.nep hC) CB eC7
          refine ⟨_, eC8, szt (by simp; omega), hD8.upd (hD6.nep hC) (hD6.nel hC), (f7.trans f8).mut hC, zs ++ [z], by rw [upd_ne CB.symm]; exact eB8, by rw [upd_same, List.map_append]; rfl, by simp [l7], ?_⟩
          intro y hy
          rcases List.mem_append.mp hy with h | h
          · exact g7 y h
          · rw [List.mem_singleton.mp h]; exact nz
        · rintro H7 ⟨hD7, f7, zs, eB7, eC7, l7, g7⟩
          walk_at "u"
          refine r_tupleD (ds := zs.map .str) (SqL.of eC7) TdL.strs fun u H8 s8 t8 => ?_
          have lz : zs.length ≤ 10 := by omega
          have gz := g7
          have f6 : Fr p H4 H8 := (Fr2.drop s5 hB ((Fr.of k6).two.trans f7)).trans (Fr.same s8)
          have tu := t8
          have hD6 := hD7.same s8
          clear hD7 f7 eB7 eC7 l7 g7 t8 s8
          obtain ⟨acc, eA⟩ := a4.at_ Ap Ar f6.two
          walk_at "u"
          refine ⟨p, l, true, rfl, hD6, fun nm H7 nn hD7 f7 => ?_⟩
          walk_at "u"
          have er7 : H7 r = some (.lst [.int kr]) := f7 _ _ rp (f6 _ _ rp er4)
          refine call hD7 er7 fun v d k' H8 ed td hD8 f8 er8 => ?_
          walk_at "u"
          refine ⟨szl (by simp), fun C hC => ?_⟩
          have tu8 : Td K H8 u (.tup (zs.map .str)) := (tu.k (hD6.tk f7)).k (f8.tk hD7.nt (Nt.lst er7))
          obtain ⟨H9, e9, s9, t9⟩ := Td.lay (K := K) hC (.cons (.str nm) (.cons tu8 (.cons td .nil)))
          rw [e9]
          walk_at "u"
          refine a4.app hA Ap Al Ar (by omega) (hD8.same s9) (f6.two.trans (f7.two.trans (f8.trans (Fr2.same s9)))) ⟨k', s9 _ _ er8⟩ t9 ⟨nm, _, d, rfl, nn, by rw [List.length_map]; exact lz, (fun h => absurd (h1.symm.trans h) (by decide +kernel)), fun x hx => by
            obtain ⟨z, hz, rfl⟩ := List.mem_map.mp hx
            exact ⟨z, rfl, gz z hz⟩, ed⟩ fun H10 a10 => ?_
          walk_at "u"
          exact ⟨by omega, a10, _, _, _, _, rfl⟩
      · rintro σ H4 ⟨hi8, a4, hy⟩
        walk_at "u"
        exact ⟨_, by omega, .inr h1, a4, hy⟩
    · walk_at "u"
      exact ⟨0, by omega, .inl rfl, a0, _, _, _, _, rfl⟩
  rintro σ H2 ⟨i2, hi2, hc2, a2, y5, y6, y7, y8, rfl⟩
  refine r_cut (fun σ' H' => ∃ i, i ≤ 8 ∧ (i = 0 ∨ op = "case" ∨ op = "handle") ∧ AL K p l r A H (ArmD op (ED m)) i H' ∧ ∃ y5 y6 y7 y8, σ' = [some (.ref p), some (.str op), some (.int m), some (.ref r), some (.ref A), y5, y6, y7, y8]) ?_ ?_
  · walk_at "u"
    refine br_d (fun h1 => ?_) (fun h1 => ?_)
    · walk_at "u"
      refine ⟨p, l, _, rfl, by decide, by decide, a2.1, fun i H3 i0 i1 hD3 k3 => ?_⟩
      walk_at "u"
      refine r_ifCI ?_
      walk_at "u"
      refine ⟨p, l, _, rfl, by split <;> decide, by split <;> decide, hD3, fun N H4 n0 n1 hD4 k4 => ?_⟩
      have N8 : N < 7 := by split at n1 <;> omega
      walk_at "u"
      obtain ⟨hD2, f2, ⟨kr, er2⟩, vs2, ds2, e2, td2, l2, g2⟩ := a2
      have f24 : Fr p H2 H4 := (Fr.of k3).trans (Fr.of k4)
      have a4 : AL K p l r A H (ArmD op (ED m)) i2 H4 := ⟨hD4, f2.trans f24.two, ⟨kr, f24 _ _ rp er2⟩, vs2, ds2, f24 _ _ Ap e2, td2.k (f24.two.tk hD2.nt (Nt.lst er2)), l2, g2⟩
      refine ⟨by omega, by omega, f_range (fun i σ' H' => i ≤ 7 ∧ AL K p l r A H (ArmD op (ED m)) (i2 + i) H' ∧ ∃ y5 y6 y7 y8, σ' = [some (.ref p), some (.str op), some (.int m), some (.ref r), some (.ref A), y5, y6, y7, y8]) ⟨by omega, a4, _, _, _, _, rfl⟩ ?_ ?_⟩
      · rintro i σ H5 hi ⟨hi8, a5, y5, y6, y7, y8, rfl⟩
        obtain ⟨hD5, _, ⟨kr, er5⟩, _⟩ := id a5
        obtain ⟨acc, eA⟩ := a5.at_ Ap Ar Fr2.refl
        walk_at "u"
        refine ⟨p, l, rfl, hD5, fun nm H6 nn hD6 f6 => ?_⟩
        walk_at "u"
        refine ⟨p, l, false, rfl, hD6, fun z H7 nz hD7 f7 => ?_⟩
        walk_at "u"
        refine ⟨szl (by simp), fun B hB => ?_⟩
        obtain ⟨H8, e8, s8, t8⟩ := Td.lay (K := K) hB (.cons (.str z) .nil)
        rw [e8]
        walk_at "u"
        have er8 : H8 r = some (.lst [.int kr]) := s8 _ _ (f7 _ _ rp (f6 _ _ rp er5))
        refine call (hD7.same s8) er8 fun v d k' H9 ed td hD9 f9 er9 => ?_
        walk_at "u"
        refine ⟨szl (by simp), fun C hC => ?_⟩
        have t9 := t8.k (f9.tk (hD7.same s8).nt (Nt.lst er8))
        obtain ⟨H10, e10, s10, t10⟩ := Td.lay (K := K) hC (.cons (.str nm) (.cons t9 (.cons td .nil)))
        rw [e10]
        walk_at "u"
        refine a5.app hA Ap Al Ar (by omega) (hD9.same s10) (f6.two.trans (f7.two.trans ((Fr2.same s8).trans (f9.trans (Fr2.same s10))))) ⟨k', s10 _ _ er9⟩ t10 ⟨nm, _, d, rfl, nn, by simp, (fun _ => rfl), fun x hx => by
          rw [List.mem_singleton.mp hx]
          exact ⟨z, rfl, nz⟩, ed⟩ fun H11 a11 => ?_
        walk_at "u"
        exact ⟨by omega, a11, _, _, _, _, rfl⟩
      · rintro σ H5 ⟨hi8, a5, hy⟩
        walk_at "u"
        exact ⟨_, by
          rcases hc2 with e | e
          · omega
          · exact absurd (e.symm.trans h1) (by decide +kernel), .inr (.inr h1), a5, hy⟩
    · walk_at "u"
      exact ⟨i2, by omega, hc2.elim .inl (fun h => .inr (.inl h)), a2, _, _, _, _, rfl⟩
  rintro σ H3 ⟨i, hi, hc3, ⟨hD3, f3, ⟨kr, er3⟩, vs3, ds3, e3, td3, l3, g3⟩, y5, y6, y7, y8, rfl⟩
  walk_at "u"
  refine r_tupleD (SqL.of e3) td3 fun u H4 s4 t4 => ?_
  exact q u ds3 kr H4 ⟨g3, fun h => hc3.resolve_left (fun e => h (List.eq_nil_of_length_eq_zero (l3.trans e)))⟩ (by omega) t4 (hD3.same s4) (f3.trans (Fr2.same s4)) (s4 _ _ er3)
end
abbrev ksC : List Str := ["tuple", "get", "let", "if", "fn", "apply", "raise", "ref", "deref", "len", "print", "set", "array", "at", "seq", "put", "add", "sub", "mul", "div", "rem", "equal", "less", "call", "make", "case", "handle"]
theorem ksC_ok : ∀ z ∈ ksC, NameOk z ∧ z ∉ leafOps := by
  have : ∀ z ∈ ksC, (z.cps.toList.all (fun c => isNm c) = true ∧ 0 < z.length ∧ z.length ≤ 14) ∧ z ∉ leafOps := by decide +kernel
  exact fun z hz => ⟨NameOk.lit (this z hz).1, (this z hz).2⟩
theorem ksC_val : ∀ z ∈ ksC, ∃ k : Nat, valV countsK (.inr z) = some (.int k) ∧ k ≤ 3 ∧ (z = "case" ∨ z = "handle" → k ≤ 1) := by
  simp only [ksC, List.forall_mem_cons]
  refine ⟨?_, ?_, ?_, ?_, ?_, ?_, ?_, ?_, ?_, ?_, ?_, ?_, ?_, ?_, ?_, ?_, ?_, ?_, ?_, ?_, ?_, ?_, ?_, ?_, ?_, ?_, ?_, (fun _ h => nomatch h)⟩
  · exact ⟨2, by decide +kernel, by decide, by decide +kernel⟩
  · exact ⟨1, by decide +kernel, by decide, by decide +kernel⟩
  · exact ⟨2, by decide +kernel, by decide, by decide +kernel⟩
  · exact ⟨3, by decide +kernel, by decide, by decide +kernel⟩
  · exact ⟨1, by decide +kernel, by decide, by decide +kernel⟩
  · exact ⟨2, by decide +kernel, by decide, by decide +kernel⟩
  · exact ⟨1, by decide +kernel, by decide, by decide +kernel⟩
  · exact ⟨1, by decide +kernel, by decide, by decide +kernel⟩
  · exact ⟨1, by decide +kernel, by decide, by decide +kernel⟩
  · exact ⟨1, by decide +kernel, by decide, by decide +kernel⟩
  · exact ⟨1, by decide +kernel, by decide, by decide +kernel⟩
  · exact ⟨2, by decide +kernel, by decide, by decide +kernel⟩
  · exact ⟨2, by decide +kernel, by decide, by decide +kernel⟩
  · exact ⟨2, by decide +kernel, by decide, by decide +kernel⟩
  · exact ⟨2, by decide +kernel, by decide, by decide +kernel⟩
  · exact ⟨3, by decide +kernel, by decide, by decide +kernel⟩
  · exact ⟨2, by decide +kernel, by decide, by decide +kernel⟩
  · exact ⟨2, by decide +kernel, by decide, by decide +kernel⟩
  · exact ⟨2, by decide +kernel, by decide, by decide +kernel⟩
  · exact ⟨2, by decide +kernel, by decide, by decide +kernel⟩
  · exact ⟨2, by decide +kernel, by decide, by decide +kernel⟩
  · exact ⟨2, by decide +kernel, by decide, by decide +kernel⟩
  · exact ⟨2, by decide +kernel, by decide, by decide +kernel⟩
  · exact ⟨0, by decide +kernel, by decide, by decide +kernel⟩
  · exact ⟨0, by decide +kernel, by decide, by decide +kernel⟩
  · exact ⟨1, by decide +kernel, by decide, by decide +kernel⟩
  · exact ⟨1, by decide +kernel, by decide, by decide +kernel⟩
theorem fit_pair {n : Nat} {a b : D} (h1 : D.fit n a = true) (h2 : D.fit n b = true) : D.fit (n + 1) (.tup [a, b]) = true :=
  D.fit_tup.mpr ⟨by simp, fun e he => by
    simp only [List.mem_cons, List.not_mem_nil, or_false] at he
    rcases he with rfl | rfl <;> assumption⟩
section
variable {K : PySem.W.Frag} {vs : List V} {H : Hp} {Q : VK} {E : XK} {n : Nat}
/-- the state in the middle of an expression: the draws, the room, the info so far -/
def IS (K : PySem.W.Frag) (p l r : Addr) (H : Hp) (P : D → Prop) (H' : Hp) (v : V) : Prop := Dr H' p l ∧ Fr2 p r H H' ∧ (∃ k : Int, H' r = some (.lst [.int k])) ∧ ∃ d, Td K H' v d ∧ P d
theorem IS.to {p l r : Addr} {H H' : Hp} {P P' : D → Prop} {v : V} (a : IS K p l r H P H' v) (h : ∀ d, P d → P' d) : IS K p l r H P' H' v := ⟨a.1, a.2.1, a.2.2.1, a.2.2.2.elim fun d t => ⟨d, t.1, h d t.2⟩⟩
def IsStr (d : D) : Prop := ∃ z, d = .str z ∧ NameOk z
def IsPair (d : D) : Prop := ∃ z k, d = .tup [.str z, k] ∧ NameOk z ∧ KiD 3 k
def P1 (op : Str) (d : D) : Prop := ((op = "call" ∨ op = "let") ∧ IsStr d) ∨ (¬ (op = "call" ∨ op = "let") ∧ d = .non)
def P2 (op : Str) (d : D) : Prop := (op ∈ strOps ∧ IsStr d) ∨ (op ∉ strOps ∧ d = .non)
def P3 (op : Str) (d : D) : Prop := (op ∈ strOps ∧ IsStr d) ∨ (op = "get" ∧ ∃ i : Nat, d = .int i ∧ i < 6) ∨ (op ∉ strOps ∧ op ≠ "get" ∧ d = .non)
def P4 (op : Str) (d : D) : Prop := (op ∈ strOps ∧ IsStr d) ∨ (op = "get" ∧ ∃ i : Nat, d = .int i ∧ i < 6) ∨ (op = "fn" ∧ IsPair d) ∨ (op ∉ strOps ∧ op ≠ "get" ∧ op ≠ "fn" ∧ d = .non)
theorem rd_l_expr (h : spr_l_expr (n + 1) K vs H Q E) : t_l_expr K (spr_l_arms n) (spr_l_expr n) { nx := fun _ H' => Q .non H', rt := Q } (start n_l_expr vs) H := by
  obtain ⟨p, l, r, m, k, rfl, hm, hD, rp, rl, er, q⟩ := h
  unfold t_l_expr
  walk_at "u"
  have hD1 : Dr (upd H r (.lst ([V.int k].set (Int.toNat 0) (.int (k - 1))))) p l := hD.upd rp rl
  have f1 : Fr2 p r H (upd H r (.lst ([V.int k].set (Int.toNat 0) (.int (k - 1))))) := Fr2.refl.mb
  have er1 : upd H r (.lst ([V.int k].set (Int.toNat 0) (.int (k - 1)))) r = some (.lst [.int (k - 1)]) := upd_same
  generalize upd H r (.lst ([V.int k].set (Int.toNat 0) (.int (k - 1)))) = H1 at hD1 f1 er1
  refine ⟨rfl, fun c H2 s2 ec => ?_⟩
  walk_at "u"
  refine ⟨c, countsK, ksC, rfl, .inl ec, rfl, by decide, fun ys b hperm _ hb => ?_⟩
  obtain ⟨H3, e3, s3, eb⟩ := lay_new (o := .lst (ys.map V.str)) hb
  rw [e3]
  have hD3 := (hD1.same s2).same s3
  have er3 : H3 r = some (.lst [.int (k - 1)]) := s3 _ _ (s2 _ _ er1)
  have ec3 := s3 _ _ ec
  walk_at "u"
  refine ⟨p, l, _, rfl, by decide, by decide, hD3, fun pk H4 p0 p1 hD4 k4 => ?_⟩
  have f4 : Fr2 p r H H4 := f1.trans ((Fr2.same s2).trans ((Fr2.same s3).trans (Fr.of k4).two))
  have er4 : H4 r = some (.lst [.int (k - 1)]) := by rw [k4 r rp]; exact er3
  have nelst : ∀ {x : Addr} {xs : List V} {ys : List (Key × V)}, H3 x = some (.lst xs) → H3 c = some (.dK ys) → x ≠ c := fun e1 e2 h => by rw [h, e2] at e1; cases e1
  have cp : c ≠ p := fun h => by
    obtain ⟨ns, cur, seed, at_, hp, _⟩ := hD3
    rw [h, hp] at ec3; cases ec3
  have bp : b ≠ p := (hD1.same s2).nep hb
  have br : b ≠ r := (ne_of_none (s2 _ _ er1) hb).symm
  have cr : c ≠ r := fun h => by rw [h, er3] at ec3; cases ec3
  have ec4 : H4 c = some (.dK countsK) := by rw [k4 c cp]; exact ec3
  have eb4 : H4 b = some (.lst (ys.map V.str)) := by rw [k4 b bp]; exact eb
  have ly : ys.length = 27 := hperm.length_eq
  walk_at "u"
  refine r_cut (fun σ' H' => H' = H4 ∧ σ' = [some (.ref p), some (.int m), some (.ref r), some (.ref c), some (.ref b), some (.int pk), none, none, none, none, none] ∧ 1 ≤ m ∧ pk < 27) ?_ ?_
  · have leaf : sp_l_leaf K [.ref p] H4 Q E0 := by
      refine ⟨p, l, rfl, hD4, fun v d H5 ed td hD5 f5 => ?_⟩
      exact q v d (k - 1) H5 (ed.mono (by omega)) td hD5 (f4.trans f5.two) (f5 _ _ rp er4)
    walk_at "u"
    refine br_d (fun h1 => ?_) (fun h1 => ?_)
    · walk_at "u"
      exact leaf
    · walk_at "u"
      refine br_d (fun h2 => ?_) (fun h2 => ?_)
      · walk_at "u"
        exact leaf
      · walk_at "u"
        rw [List.length_map, ly]
        refine br_d (fun h3 => ?_) (fun h3 => ?_)
        · walk_at "u"
          exact leaf
        · walk_at "u"
          exact ⟨rfl, rfl, by omega, by omega⟩
  rintro σ H5 ⟨rfl, rfl, m1, pk27⟩
  obtain ⟨pk, rfl⟩ : ∃ j : Nat, pk = (j : Int) := ⟨pk.toNat, by omega⟩
  have hpk : pk < ys.length := by omega
  have hop : ys[pk] ∈ ksC := hperm.mem_iff.mp (List.getElem_mem hpk)
  have hget : (ys.map V.str)[pk]? = some (.str ys[pk]) := by rw [List.getElem?_map, List.getElem?_eq_getElem hpk]; rfl
  generalize ys[pk] = op at hop hget
  obtain ⟨mn, hmn, mn3, mn1⟩ := ksC_val op hop
  obtain ⟨nop, nint⟩ := ksC_ok op hop
  walk_at "u"
  refine r_ixL (SqL.of eb4) (atI_nat hget) ?_
  walk_at "u"
  refine ⟨c, _, rfl, hmn ▸ DGet.k (k := .inr op) ec4, ?_⟩
  walk_at "u"
  refine r_cut (fun σ' H' => Dr H' p l ∧ Fr2 p r H H' ∧ (∃ k : Int, H' r = some (.lst [.int k])) ∧ ∃ mn' : Int, 0 ≤ mn' ∧ mn' ≤ 9 ∧ (op = "case" ∨ op = "handle" → mn' ≤ 1) ∧ σ' = [some (.ref p), some (.int m), some (.ref r), some (.ref c), some (.ref b), some (.int pk), some (.str op), some (.int mn'), none, none, none]) ?_ ?_
  · walk_at "u"
    refine ⟨szl (by simp), fun a ha => ?_⟩
    obtain ⟨H6, e6, s6, ea⟩ := lay_new (o := .tup [.str "call", .str "make", .str "tuple"]) ha
    rw [e6]
    have hD6 := hD4.same s6
    refine r_inS (ss := ["call", "make", "tuple"]) (SqT.of ea) ?_
    walk_at "u"
    refine br_d (fun h1 => ?_) (fun h1 => ?_)
    · walk_at "u"
      refine ⟨p, l, _, rfl, by decide, by decide, hD6, fun i H7 i0 i1 hD7 k7 => ?_⟩
      walk_at "u"
      refine br_d (fun h2 => ?_) (fun h2 => ?_)
      · walk_at "u"
        refine ⟨p, l, _, rfl, by omega, by omega, hD7, fun j H8 j0 j1 hD8 k8 => ?_⟩
        walk_at "u"
        exact ⟨hD8, f4.trans ((Fr2.same s6).trans ((Fr.of k7).two.trans (Fr.of k8).two)), ⟨k - 1, by rw [k8 r rp, k7 r rp]; exact s6 _ _ er4⟩, _, by omega, by omega, (fun c => by
          exfalso
          rcases c with c | c <;> rw [c] at h1 <;> revert h1 <;> decide +kernel), rfl⟩
      · walk_at "u"
        refine ⟨p, l, _, rfl, by omega, by omega, hD7, fun j H8 j0 j1 hD8 k8 => ?_⟩
        walk_at "u"
        exact ⟨hD8, f4.trans ((Fr2.same s6).trans ((Fr.of k7).two.trans (Fr.of k8).two)), ⟨k - 1, by rw [k8 r rp, k7 r rp]; exact s6 _ _ er4⟩, _, by omega, by omega, (fun c => by
          exfalso
          rcases c with c | c <;> rw [c] at h1 <;> revert h1 <;> decide +kernel), rfl⟩
    · walk_at "u"
      exact ⟨hD6, f4.trans (Fr2.same s6), ⟨k - 1, s6 _ _ er4⟩, _, by omega, by omega, (fun c => by have := mn1 c; omega), rfl⟩
  rintro σ H6 ⟨hD6, f6, ⟨k6, er6⟩, mn', mn0, mn9, mnc, rfl⟩
  walk_at "u"
  have is0 : IS K p l r H (fun d => d = .non) H6 .non := ⟨hD6, f6, ⟨k6, er6⟩, .non, .non, rfl⟩
  clear hD6 f6 er6
  have strI : ∀ {P : D → Prop} {H' : Hp} {z : Str} {v : V}, IS K p l r H P H' v → NameOk z → ∀ H'', Dr H'' p l → Fr p H' H'' → IS K p l r H IsStr H'' (.str z) := fun {P H' z v} is nz H'' hD'' f'' => by
    obtain ⟨_, f, ⟨k, hr⟩, _⟩ := is
    exact ⟨hD'', f.trans f''.two, ⟨k, f'' _ _ rp hr⟩, .str z, .str z, z, rfl, nz⟩
  refine r_cut (fun σ' H' => ∃ v, IS K p l r H (P1 op) H' v ∧ σ' = [some (.ref p), some (.int m), some (.ref r), some (.ref c), some (.ref b), some (.int pk), some (.str op), some (.int mn'), some v, none, none]) ?_ ?_
  · walk_at "u"
    have nm : ∀ {R : V → Hp → Prop}, (∀ z H', IS K p l r H IsStr H' (.str z) → R (.str z) H') → sp_l_name K [.ref p, .bl false] H6 R E0 := fun {R} h => ⟨p, l, false, rfl, is0.1, fun z H7 nz hD7 f7 => h z H7 (strI is0 nz H7 hD7 f7)⟩
    refine br_d (fun h1 => ?_) (fun h1 => ?_)
    · walk_at "u"
      refine nm fun z H7 is => ?_
      walk_at "u"
      exact ⟨_, is.to fun d t => .inl ⟨.inl h1, t⟩, rfl⟩
    · walk_at "u"
      refine br_d (fun h2 => ?_) (fun h2 => ?_)
      · walk_at "u"
        refine nm fun z H7 is => ?_
        walk_at "u"
        exact ⟨_, is.to fun d t => .inl ⟨.inr h2, t⟩, rfl⟩
      · walk_at "u"
        exact ⟨_, is0.to fun d t => .inr ⟨fun c => c.elim h1 h2, t⟩, rfl⟩
  rintro σ H7 ⟨v7, is7, rfl⟩
  refine r_cut (fun σ' H' => ∃ v, IS K p l r H (P2 op) H' v ∧ σ' = [some (.ref p), some (.int m), some (.ref r), some (.ref c), some (.ref b), some (.int pk), some (.str op), some (.int mn'), some v, none, none]) ?_ ?_
  · walk_at "u"
    refine br_d (fun h1 => ?_) (fun h1 => ?_)
    · walk_at "u"
      refine ⟨p, l, true, rfl, is7.1, fun z H8 nz hD8 f8 => ?_⟩
      walk_at "u"
      exact ⟨_, (strI is7 nz H8 hD8 f8).to fun d t => .inl ⟨by rw [h1]; simp, t⟩, rfl⟩
    · walk_at "u"
      exact ⟨_, is7.to fun d t => t.elim (fun t => .inl ⟨by rcases t.1 with e | e <;> rw [e] <;> simp, t.2⟩) (fun t => .inr ⟨fun c => by
        simp only [strOps, List.mem_cons, List.not_mem_nil, or_false] at c
        rcases c with c | c | c
        · exact t.1 (.inl c)
        · exact t.1 (.inr c)
        · exact h1 c, t.2⟩), rfl⟩
  clear is7
  rintro σ H8 ⟨v8, is8, rfl⟩
  refine r_cut (fun σ' H' => ∃ v, IS K p l r H (P3 op) H' v ∧ σ' = [some (.ref p), some (.int m), some (.ref r), some (.ref c), some (.ref b), some (.int pk), some (.str op), some (.int mn'), some v, none, none]) ?_ ?_
  · walk_at "u"
    refine br_d (fun h1 => ?_) (fun h1 => ?_)
    · walk_at "u"
      refine ⟨p, l, _, rfl, by decide, by decide, is8.1, fun z H9 z0 z1 hD9 k9 => ?_⟩
      walk_at "u"
      obtain ⟨_, f, ⟨kk, hr⟩, _⟩ := is8
      exact ⟨_, ⟨hD9, f.trans (Fr.of k9).two, ⟨kk, by rw [k9 r rp]; exact hr⟩, .int z, .int z, .inr (.inl ⟨h1, z.toNat, by rw [Int.toNat_of_nonneg z0], by omega⟩)⟩, rfl⟩
    · walk_at "u"
      exact ⟨_, is8.to fun d t => t.elim (fun t => .inl t) (fun t => .inr (.inr ⟨t.1, h1, t.2⟩)), rfl⟩
  clear is8
  rintro σ H9 ⟨v9, is9, rfl⟩
  have pairI : ∀ {P : D → Prop} {H' : Hp} {v : V}, IS K p l r H P H' v → ∀ H2 z, NameOk z → Dr H2 p l → Fr p H' H2 → ∀ w d H3, KiD 3 d → Td K H3 w d → Dr H3 p l → Fr p H2 H3 → ∀ a, H3 a = none → IS K p l r H IsPair (upd H3 a (.tup [.str z, w])) (.ref a) := fun {P H' v} is H2 z nz hD2 f2 w d H3 kd td hD3 f3 a ha => by
    obtain ⟨_, f, ⟨kk, hr⟩, _⟩ := is
    exact ⟨hD3.new ha, f.trans (f2.two.trans (f3.two.trans (Fr2.refl.mut ha))), ⟨kk, by rw [upd_ne (ne_of_none (f3 _ _ rp (f2 _ _ rp hr)) ha)]; exact f3 _ _ rp (f2 _ _ rp hr)⟩, .tup [.str z, d], Td.newT (.cons (.str z) (.cons td .nil)) ha, z, d, rfl, nz, kd⟩
  refine r_cut (fun σ' H' => ∃ v, IS K p l r H (P4 op) H' v ∧ σ' = [some (.ref p), some (.int m), some (.ref r), some (.ref c), some (.ref b), some (.int pk), some (.str op), some (.int mn'), some v, none, none]) ?_ ?_
  · walk_at "u"
    refine br_d (fun h1 => ?_) (fun h1 => ?_)
    · walk_at "u"
      refine ⟨p, l, false, rfl, is9.1, fun z H10 nz hD10 f10 => ?_⟩
      walk_at "u"
      refine ⟨p, l, 2, rfl, by decide, hD10, fun w d H11 kd td hD11 f11 => ?_⟩
      walk_at "u"
      refine ⟨szl (by simp), fun a ha => ?_⟩
      walk_at "u"
      exact ⟨_, (pairI is9 H10 z nz hD10 f10 w d H11 kd td hD11 f11 a ha).to fun d t => .inr (.inr (.inl ⟨h1, t⟩)), rfl⟩
    · walk_at "u"
      exact ⟨_, is9.to fun d t => by
        rcases t with t | t | t
        · exact .inl t
        · exact .inr (.inl t)
        · exact .inr (.inr (.inr ⟨t.1, t.2.1, h1, t.2.2⟩)), rfl⟩
  clear is9
  rintro σ H10 ⟨v10, is10, rfl⟩
  refine r_cut (fun σ' H' => ∃ v, IS K p l r H (InfoOk op) H' v ∧ σ' = [some (.ref p), some (.int m), some (.ref r), some (.ref c), some (.ref b), some (.int pk), some (.str op), some (.int mn'), some v, none, none]) ?_ ?_
  · walk_at "u"
    refine br_d (fun h1 => ?_) (fun h1 => ?_)
    · walk_at "u"
      refine ⟨p, l, rfl, is10.1, fun z H11 nz hD11 f11 => ?_⟩
      walk_at "u"
      refine ⟨p, l, 2, rfl, by decide, hD11, fun w d H12 kd td hD12 f12 => ?_⟩
      walk_at "u"
      refine ⟨szl (by simp), fun a ha => ?_⟩
      walk_at "u"
      exact ⟨_, (pairI is10 H11 z nz hD11 f11 w d H12 kd td hD12 f12 a ha).to fun d t => .inr (.inr (.inr (.inr (.inr (.inr (.inl ⟨by rw [h1]; simp, t⟩)))))), rfl⟩
    · walk_at "u"
      exact ⟨_, is10.to fun d t => by
        rcases t with t | t | t | t
        · exact .inr (.inr (.inr (.inr (.inl t))))
        · exact .inr (.inr (.inr (.inr (.inr (.inl t)))))
        · exact .inr (.inr (.inr (.inr (.inr (.inr (.inl ⟨by rw [t.1]; simp, t.2⟩))))))
        · refine .inr (.inr (.inr (.inr (.inr (.inr (.inr ⟨nint, t.1, t.2.1, fun c => ?_, t.2.2.2⟩))))))
          simp only [pairOps, List.mem_cons, List.not_mem_nil, or_false] at c
          rcases c with c | c
          · exact t.2.2.1 c
          · exact h1 c, rfl⟩
  clear is10
  rintro σ H11 ⟨v11, ⟨hD11, f11, ⟨k11, er11⟩, d11, t11, fit11⟩, rfl⟩
  have call : ∀ {H' : Hp} {Q' : VK} {k : Int}, Dr H' p l → H' r = some (.lst [.int k]) → (∀ v d (k' : Int) H'', ED m d → Td K H'' v d → Dr H'' p l → Fr2 p r H' H'' → H'' r = some (.lst [.int k']) → Q' v H'') → spr_l_expr n K [.ref p, .int ((m : Int) - 1), .ref r] H' Q' E0 := fun {H' Q' k} hD' hr' q' =>
    ⟨p, l, r, m - 1, k, by rw [show ((m : Int) - 1) = ((m - 1 : Nat) : Int) by omega], by omega, hD', rp, rl, hr', fun v d k' H'' kd => by rw [show m - 1 + 1 = m by omega] at kd; exact q' v d k' H'' kd⟩
  walk_at "u"
  refine ⟨by omega, by omega, fun A hA => c_range (AL K p l r A H11 (ED m)) (AL.start hD11 er11 hA) ?_ ?_⟩
  · intro i H12 hi a12
    obtain ⟨hD12, _, ⟨k12, er12⟩, _⟩ := id a12
    walk_at "u"
    refine ⟨rfl, ?_⟩
    walk_at "u"
    refine call hD12 er12 fun v d k' H13 ed td hD13 f13 er13 => ?_
    exact a12.step hA (hD11.nep hA) (hD11.nel hA) (ne_of_none er11 hA).symm (by omega) hD13 f13 ⟨k', er13⟩ td ed
  · rintro H12 ⟨hD12, f12, ⟨k12, er12⟩, ws, ds, e12, td12, l12, g12⟩
    walk_at "u"
    refine r_tupleD (SqL.of e12) td12 fun u H13 s13 t13 => ?_
    have hD13 := hD12.same s13
    have er13 := s13 _ _ er12
    walk_at "u"
    refine ⟨p, l, r, op, m, k12, rfl, by omega, m1, hD13, rp, rl, er13, fun v es k' H14 ⟨ga, gc⟩ lga ta hD14 f14 er14 => ?_⟩
    walk_at "u"
    refine ⟨szl (by simp), fun a ha => ?_⟩
    have tk14 : Tk K H13 H14 := f14.tk hD13.nt (Nt.lst er13)
    have tk12 : Tk K H11 H12 := f12.tk hD11.nt (Nt.lst er11)
    refine q _ (.tup [.str op, .int 0, d11, .tup ds, .tup es]) k' _ ⟨op, 0, d11, ds, es, rfl, nop, fit11, (fun h => absurd h nint), gc, by omega, lga, ⟨(fun e => by omega), (fun c => by have := mnc c; omega)⟩, g12, ga⟩ (Td.newT (.cons (.str op) (.cons (.int 0) (.cons (t11.k (tk12.trans ((Same.tk s13).trans tk14))) (.cons (t13.k tk14) (.cons ta .nil))))) ha) (hD14.new ha) (f11.trans (f12.trans ((Fr2.same s13).trans (f14.trans (Fr2.refl.mut ha))))) (by rw [upd_ne (ne_of_none er14 ha)]; exact er14)
end
/-- all but the cells of a list stays -/
def FrN (ls : List Addr) (H H' : Hp) : Prop := ∀ c x, c ∉ ls → H c = some x → H' c = some x
section
variable {K : PySem.W.Frag} {H H' H2 H1 H3 : Hp} {p l t x : Addr} {o : HO} {ls : List Addr} {n : Nat}
theorem FrN.refl : FrN ls H H := fun _ _ _ h => h
theorem FrN.trans (a : FrN ls H H') (b : FrN ls H' H2) : FrN ls H H2 := fun c x hc e => b c x hc (a c x hc e)
theorem FrN.same (s : Same H H') : FrN ls H H' := fun c x _ e => s c x e
theorem FrN.fr (hp : p ∈ ls) (f : Fr p H H') : FrN ls H H' := fun c x hc e => f c x (fun h => hc (h ▸ hp)) e
theorem FrN.fr2 (hp : p ∈ ls) (ht : t ∈ ls) (f : Fr2 p t H H') : FrN ls H H' := fun c x hc e => f c x (fun h => hc (h ▸ hp)) (fun h => hc (h ▸ ht)) e
theorem FrN.mut (f : FrN ls H H') (h : H x = none) : FrN ls H (upd H' x o) := fun c y hc e => by
  rw [upd_ne (ne_of_none e h)]
  exact f c y hc e
theorem FrN.self (f : FrN ls H H') (h : x ∈ ls) : FrN ls H (upd H' x o) := fun c y hc e => by
  by_cases z : c = x
  · subst z; exact absurd h hc
  · rw [upd_ne z]
    exact f c y hc e
theorem FrN.cut (f : FrN (x :: ls) H1 H3) (h : H1 x = none) : FrN ls H1 H3 := fun c y hc e => f c y (fun m => by
  rcases List.mem_cons.mp m with m | m
  · rw [m, h] at e; cases e
  · exact hc m) e
theorem FrN.sub {ls' : List Addr} (f : FrN ls H H') (h : ∀ a ∈ ls, a ∈ ls') : FrN ls' H H' := fun c y hc e => f c y (fun m => hc (h c m)) e
theorem FrN.nix (f : FrN ls H H') (hx : x ∉ ls) (h : H' x = none) : H x = none := by
  cases e : H x with
  | none => rfl
  | some y => rw [f x y hx e] at h; cases h
/-- a cell that is new is no part of what was -/
theorem FrN.drop (f : FrN (x :: ls) H2 H3) (s : FrN ls H1 H2) (h : H1 x = none) : FrN ls H1 H3 := fun c y hc e => f c y (fun m => by
  rcases List.mem_cons.mp m with m | m
  · rw [m, h] at e; cases e
  · exact hc m) (s c y hc e)
theorem FrN.tk (f : FrN ls H H') (h : ∀ a ∈ ls, Nt H a) : Tk K H H' := fun a ys e => by
  rcases e with (e | ⟨ob, e⟩) | e
  · exact .inl (.inl (f _ _ (fun m => (h a m).1 _ e) e))
  · exact .inl (.inr ⟨ob, f _ _ (fun m => (h a m).2 _ _ e) e⟩)
  · exact .inr e
def StrL (H : Hp) (t : Addr) (n : Nat) : Prop := ∃ zs : List Str, H t = some (.lst (zs.map V.str)) ∧ zs.length ≤ n ∧ ∀ z ∈ zs, NameOk z
theorem StrL.keep (s : StrL H t n) (f : FrN ls H H') (h : t ∉ ls) : StrL H' t n := by
  obtain ⟨zs, e, l⟩ := s
  exact ⟨zs, f _ _ h e, l⟩
theorem StrL.off (s : StrL H t n) (h : t ≠ x) : StrL (upd H x o) t n := by
  obtain ⟨zs, e, l⟩ := s
  exact ⟨zs, (upd_ne h).trans e, l⟩
theorem StrL.nt (s : StrL H t n) : Nt H t := by
  obtain ⟨zs, e, l⟩ := s
  exact Nt.lst e
theorem StrL.ne (s : StrL H t n) (h : H x = none) : x ≠ t := by
  obtain ⟨zs, e, l⟩ := s
  exact (ne_of_none e h).symm
theorem StrL.le {m : Nat} (s : StrL H t n) (h : n ≤ m) : StrL H t m := by
  obtain ⟨zs, e, l, g⟩ := s
  exact ⟨zs, e, by omega, g⟩
theorem fresh_call {g : Bool} {R : VK} (hD : Dr H p l) (tp : t ≠ p) (tl : t ≠ l) (s : StrL H t n) (hn : n ≤ 999) (q : ∀ z H', NameOk z → Dr H' p l → Fr2 p t H H' → StrL H' t (n + 1) → R (.str z) H') : sp_l_fresh K [.ref p, .bl g, .ref t] H R E0 := by
  obtain ⟨zs, e, l, gs⟩ := s
  exact ⟨p, _, t, g, zs, rfl, hD, tp, tl, e, by omega, fun z H' nz hD' f e' => q z H' nz hD' f ⟨_, e', by simp; omega, fun x hx => by
    rcases List.mem_append.mp hx with h | h
    · exact gs x h
    · rw [List.mem_singleton.mp h]; exact nz⟩⟩
/-- a list of data at A -/
def DL (K : PySem.W.Frag) (H : Hp) (A : Addr) (G : D → Prop) (i : Nat) : Prop := ∃ vs ds, H A = some (.lst vs) ∧ TdL K H vs ds ∧ ds.length = i ∧ ∀ d ∈ ds, G d
theorem DL.keep {A : Addr} {G : D → Prop} {i : Nat} (a : DL K H A G i) (f : FrN ls H H') (h : A ∉ ls) (tk : Tk K H H') : DL K H' A G i := by
  obtain ⟨vs, ds, e, td, l, g⟩ := a
  exact ⟨vs, ds, f _ _ h e, td.k tk, l, g⟩
theorem DL.nt {A : Addr} {G : D → Prop} {i : Nat} (a : DL K H A G i) : Nt H A := by
  obtain ⟨vs, ds, e, td, l, g⟩ := a
  exact Nt.lst e
theorem DL.ne {A : Addr} {G : D → Prop} {i : Nat} (a : DL K H A G i) (h : H x = none) : x ≠ A := by
  obtain ⟨vs, ds, e, td, l, g⟩ := a
  exact (ne_of_none e h).symm
theorem DL.at_ {A : Addr} {G : D → Prop} {i : Nat} (a : DL K H A G i) : ∃ acc, H A = some (.lst acc) := by
  obtain ⟨vs, ds, e, td, l, g⟩ := a
  exact ⟨vs, e⟩
theorem DL.off {A : Addr} {G : D → Prop} {i : Nat} (a : DL K H A G i) (h : A ≠ x) (tk : Tk K H (upd H x o)) : DL K (upd H x o) A G i := by
  obtain ⟨vs, ds, e, td, l, g⟩ := a
  exact ⟨vs, ds, (upd_ne h).trans e, td.k tk, l, g⟩
theorem DL.new {A : Addr} {G : D → Prop} (h : H A = some (.lst [])) : DL K H A G 0 := ⟨[], [], h, .nil, rfl, (fun _ h => nomatch h)⟩
theorem DL.put {A : Addr} {G : D → Prop} {i : Nat} {y : V} {d : D} (a : DL K H A G i) (hi : i < 60000) (t : Td K H y d) (g : G d) : ∃ acc, H A = some (.lst acc) ∧ acc.length < sizeLine ∧ DL K (upd H A (.lst (acc ++ [y]))) A G (i + 1) := by
  obtain ⟨vs, ds, e, td, l, gs⟩ := a
  refine ⟨vs, e, szt (by rw [td.len]; omega), vs ++ [y], ds ++ [d], upd_same, (td.append (.one t)).k (Tk.lst e), by simp [l], fun x hx => ?_⟩
  rcases List.mem_append.mp hx with h | h
  · exact gs x h
  · rw [List.mem_singleton.mp h]; exact g
theorem DL.app {A : Addr} {G : D → Prop} {i : Nat} {y : V} {d : D} {Q : VK} (a : DL K H A G i) (hi : i < 60000) (t : Td K H y d) (g : G d) (q : ∀ acc, H A = some (.lst acc) → DL K (upd H A (.lst (acc ++ [y]))) A G (i + 1) → Q .non (upd H A (.lst (acc ++ [y])))) : uAppend (.ref A) [y] H Q := by
  obtain ⟨acc, e, l, d'⟩ := a.put hi t g
  exact ⟨acc, e, l, q acc e d'⟩
end
abbrev RowG (d : D) : Prop := RowD d
abbrev DataG (d : D) : Prop := DataD d
abbrev KindG (d : D) : Prop := KiD 3 d
abbrev ParG (d : D) : Prop := ParD d
theorem intK : KiD 3 (.tup [.str "int", .tup [], .int 0]) := ⟨_, _, rfl, .inl ⟨by simp, rfl⟩⟩
section
variable {K : PySem.W.Frag} {vs : List V} {H : Hp} {Q : VK} {E : XK} {n : Nat}
theorem rd_l_tree (h : sp_l_tree K vs H Q E) : t_l_tree K { nx := fun _ H' => Q .non H', rt := Q } (start n_l_tree vs) H := by
  obtain ⟨p, l, rfl, hD, q⟩ := h
  unfold t_l_tree
  walk_at "u"
  refine ⟨szl (by simp), fun S hS => ?_⟩
  obtain ⟨H1, e1, s1, eS1⟩ := lay_new (o := .lst []) hS
  rw [e1]
  walk_at "u"
  refine ⟨szl (by simp), fun C hC => ?_⟩
  obtain ⟨H2, e2, s2, eC2⟩ := lay_new (o := .lst []) hC
  rw [e2]
  walk_at "u"
  refine ⟨szl (by simp), fun N hN => ?_⟩
  obtain ⟨H3, e3, s3, eN3⟩ := lay_new (o := .lst [.str "main"]) hN
  rw [e3]
  walk_at "u"
  refine ⟨szl (by simp), fun B hB => ?_⟩
  obtain ⟨H4, e4, s4, eB4⟩ := lay_new (o := .lst []) hB
  rw [e4]
  have hD1 := hD.same s1
  have hD2 := hD1.same s2
  have hD3 := hD2.same s3
  have hD4 := hD3.same s4
  have Sp := hD.nep hS
  have Sl := hD.nel hS
  have Cp := hD1.nep hC
  have Cl := hD1.nel hC
  have Np := hD2.nep hN
  have Nl := hD2.nel hN
  have Bp := hD3.nep hB
  have Bl := hD3.nel hB
  have SC : S ≠ C := ne_of_none eS1 hC
  have SN : S ≠ N := ne_of_none (s2 _ _ eS1) hN
  have CN : C ≠ N := ne_of_none eC2 hN
  have SB : S ≠ B := ne_of_none (s3 _ _ (s2 _ _ eS1)) hB
  have CB : C ≠ B := ne_of_none (s3 _ _ eC2) hB
  have NB : N ≠ B := ne_of_none eN3 hB
  have s14 := (s1.trans s2).trans (s3.trans s4)
  have S4 : StrL H4 S 0 := ⟨[], s4 _ _ (s3 _ _ (s2 _ _ eS1)), by simp, (fun _ h => nomatch h)⟩
  have C4 : StrL H4 C 0 := ⟨[], s4 _ _ (s3 _ _ eC2), by simp, (fun _ h => nomatch h)⟩
  have nMain : NameOk "main" := NameOk.lit (by decide +kernel)
  have N4 : StrL H4 N 1 := ⟨["main"], s4 _ _ eN3, by simp, fun z hz => by rw [List.mem_singleton.mp hz]; exact nMain⟩
  walk_at "u"
  refine r_cut (fun σ' H' => Dr H' p l ∧ Fr p H H' ∧ StrL H' N 1 ∧ (∃ i, i ≤ 3 ∧ DL K H' B DataG i) ∧ ∃ y5 y6 y7 y8 y9, σ' = [some (.ref p), some (.ref S), some (.ref C), some (.ref N), some (.ref B), y5, y6, y7, y8, y9, none, none, none, none, none, none, none, none, none]) ?_ ?_
  · walk_at "u"
    refine ⟨p, l, _, rfl, by decide, by decide, hD4, fun N0 H5 n0 n1 hD5 k5 => ?_⟩
    walk_at "u"
    have f5 : FrN [p, S, C, B] H4 H5 := FrN.fr (by simp) (Fr.of k5)
    refine ⟨by omega, by omega, f_range (fun i σ' H' => i ≤ 3 ∧ Dr H' p l ∧ FrN [p, S, C, B] H4 H' ∧ StrL H' S i ∧ StrL H' C (8 * i) ∧ DL K H' B DataG i ∧ ∃ y5 y6 y7 y8 y9, σ' = [some (.ref p), some (.ref S), some (.ref C), some (.ref N), some (.ref B), y5, y6, y7, y8, y9, none, none, none, none, none, none, none, none, none]) ⟨by omega, hD5, f5, S4.keep (FrN.fr (List.mem_singleton.mpr rfl) (Fr.of k5)) (by simp [Sp]), C4.keep (FrN.fr (List.mem_singleton.mpr rfl) (Fr.of k5)) (by simp [Cp]), DL.new (by rw [k5 B Bp]; exact eB4), none, none, none, none, none, rfl⟩ ?_ ?_⟩
    · rintro i σ H6 hi ⟨hi3, hD6, f6, S6, C6, B6, y5, y6, y7, y8, y9, rfl⟩
      walk_at "u"
      generalize some (V.int (0 + (i : Int))) = w5
      refine fresh_call hD6 Sp Sl S6 (by omega) fun nm H7 nn hD7 f7 S7 => ?_
      walk_at "u"
      refine ⟨szl (by simp), fun R hR => ?_⟩
      obtain ⟨H8, e8, s8, eR8⟩ := lay_new (o := .lst []) hR
      rw [e8]
      have hD8 := hD7.same s8
      have Rp := hD7.nep hR
      have Rl := hD7.nel hR
      have RS : R ≠ S := S7.ne hR
      have f68 : FrN [p, S] H6 H8 := (FrN.fr2 (by simp) (by simp) f7).trans (FrN.same s8)
      have C8 : StrL H8 C (8 * i) := C6.keep f68 (by simp [Cp, SC.symm])
      have RC : R ≠ C := (C6.keep (FrN.fr2 (ls := [p, S]) (by simp) (by simp) f7) (by simp [Cp, SC.symm])).ne hR
      have tk68 : Tk K H6 H8 := f68.tk (fun a ha => by
        simp only [List.mem_cons, List.not_mem_nil, or_false] at ha
        rcases ha with rfl | rfl
        · exact hD6.nt
        · exact S6.nt)
      have B8 : DL K H8 B DataG i := B6.keep f68 (by simp [Bp, SB.symm]) tk68
      have RB : R ≠ B := by
        obtain ⟨vs, ds, e, _⟩ := B6.keep (FrN.fr2 (ls := [p, S]) (by simp) (by simp) f7) (by simp [Bp, SB.symm]) ((FrN.fr2 (ls := [p, S]) (by simp) (by simp) f7).tk (fun a ha => by
          simp only [List.mem_cons, List.not_mem_nil, or_false] at ha
          rcases ha with rfl | rfl
          · exact hD6.nt
          · exact S6.nt))
        exact (ne_of_none e hR).symm
      have S8 : StrL H8 S (i + 1) := S7.keep (ls := []) (FrN.same s8) (by simp)
      walk_at "u"
      refine r_cut (fun σ' H' => Dr H' p l ∧ FrN [p, C, R] H8 H' ∧ StrL H' C (8 * (i + 1)) ∧ (∃ j, 1 ≤ j ∧ j ≤ 8 ∧ DL K H' R RowG j) ∧ ∃ y8 y9, σ' = [some (.ref p), some (.ref S), some (.ref C), some (.ref N), some (.ref B), w5, some (.str nm), some (.ref R), y8, y9, none, none, none, none, none, none, none, none, none]) ?_ ?_
      · walk_at "u"
        refine ⟨p, l, _, rfl, by decide, by decide, hD8, fun a1 H9 a10 a11 hD9 k9 => ?_⟩
        walk_at "u"
        refine r_ifCI ?_
        walk_at "u"
        refine ⟨p, l, _, rfl, by split <;> decide, by split <;> decide, hD9, fun a2 H10 a20 a21 hD10 k10 => ?_⟩
        have A8 : a2 < 8 := by split at a21 <;> omega
        walk_at "u"
        have f10 : Fr p H8 H10 := (Fr.of k9).trans (Fr.of k10)
        have f10n : FrN [p] H8 H10 := FrN.fr (by simp) f10
        refine ⟨by omega, by omega, f_range (fun j σ' H' => j ≤ 8 ∧ Dr H' p l ∧ FrN [p, C, R] H8 H' ∧ StrL H' C (8 * i + j) ∧ DL K H' R RowG j ∧ ∃ y8 y9, σ' = [some (.ref p), some (.ref S), some (.ref C), some (.ref N), some (.ref B), w5, some (.str nm), some (.ref R), y8, y9, none, none, none, none, none, none, none, none, none]) ⟨by omega, hD10, FrN.fr (by simp) f10, C8.keep f10n (by simp [Cp]), DL.new (f10 _ _ Rp eR8), _, _, rfl⟩ ?_ ?_⟩
        · rintro j σ H11 hj ⟨hj8, hD11, f11, C11, R11, y8, y9, rfl⟩
          walk_at "u"
          generalize some (V.int (0 + (j : Int))) = w8
          refine ⟨p, l, _, rfl, by decide, by decide, hD11, fun a1 H12 a10 a11 hD12 k12 => ?_⟩
          walk_at "u"
          refine r_ifCI ?_
          walk_at "u"
          refine ⟨p, l, _, rfl, by split <;> decide, by split <;> decide, hD12, fun a3 H13 a30 a31 hD13 k13 => ?_⟩
          have A7 : a3 < 7 := by split at a31 <;> omega
          walk_at "u"
          refine ⟨by omega, by omega, fun X hX => c_range (CD K (fun H => Dr H p l) p X H13 KindG) (CD.start (hD13.new hX) hX) ?_ ?_⟩
          · intro r H14 hr c
            walk_at "u"
            refine ⟨rfl, ?_⟩
            walk_at "u"
            refine ⟨p, l, 2, rfl, by decide, c.1, fun v d H15 kd td hD15 f15 => ?_⟩
            exact c.stepL hX (hD13.nep hX) (hD13.nel hX) (by omega) hD15 f15 td kd
          · rintro H14 ⟨hD14, f14, ws, ds, e14, t14, l14, g14⟩
            walk_at "u"
            refine r_tupleD (SqL.of e14) t14 fun u H15 s15 t15 => ?_
            have hD15 := hD14.same s15
            have fp : Fr p H11 H15 := ((Fr.of k12).trans (Fr.of k13)).trans (f14.trans (Fr.same s15))
            have C15 := C11.keep (FrN.fr (ls := [p]) (by simp) fp) (by simp [Cp])
            have R15 := R11.keep (FrN.fr (ls := [p]) (by simp) fp) (by simp [Rp]) (hD11.tk fp)
            obtain ⟨accR, eR⟩ : ∃ acc, H15 R = some (.lst acc) := by obtain ⟨vs, ds, e, _⟩ := R15; exact ⟨vs, e⟩
            walk_at "u"
            refine fresh_call hD15 Cp Cl C15 (by omega) fun z H16 nz hD16 f16 C16 => ?_
            walk_at "u"
            refine ⟨szl (by simp), fun Y hY => ?_⟩
            have tk16 : Tk K H15 H16 := f16.tk hD15.nt C15.nt
            obtain ⟨H17, e17, s17, t17⟩ := Td.lay (K := K) hY (.cons (.str z) (.cons (t15.k tk16) .nil))
            rw [e17]
            walk_at "u"
            have f1517 : FrN [p, C] H15 H17 := (FrN.fr2 (by simp) (by simp) f16).trans (FrN.same s17)
            have R17 := R15.keep f1517 (by simp [Rp, RC]) (tk16.trans (Same.tk s17))
            refine R17.app (by omega) t17 ⟨z, ds, rfl, nz, by omega, g14⟩ fun acc ea R18 => ?_
            walk_at "u"
            have C17 : StrL H17 C (8 * i + j + 1) := C16.keep (ls := []) (FrN.same s17) (by simp)
            refine ⟨by omega, (hD16.same s17).upd Rp Rl, ?_, ?_, R18, _, _, rfl⟩
            · exact (f11.trans ((FrN.fr (by simp) fp).trans ((FrN.fr2 (by simp) (by simp) f16).trans (FrN.same s17)))).self (by simp)
            · obtain ⟨zs, e, lz⟩ := C17
              exact ⟨zs, by rw [upd_ne RC.symm]; exact e, lz⟩
        · rintro σ H11 ⟨hj8, hD11, f11, C11, R11, y8, y9, rfl⟩
          walk_at "u"
          exact ⟨hD11, f11, C11.le (by omega), ⟨_, by omega, by omega, R11⟩, _, _, rfl⟩
      rintro σ H9 ⟨hD9, f9, C9, ⟨j, hj1, hj, R9⟩, y8, y9, rfl⟩
      have tk89 : Tk K H8 H9 := f9.tk (fun a ha => by
        simp only [List.mem_cons, List.not_mem_nil, or_false] at ha
        rcases ha with rfl | rfl | rfl
        · exact hD8.nt
        · exact C8.nt
        · exact Nt.lst eR8)
      have B9 := B8.keep f9 (by simp [Bp, CB.symm, RB.symm]) tk89
      have S9 := S8.keep f9 (by simp [Sp, SC, RS.symm])
      obtain ⟨accB, eB⟩ : ∃ acc, H9 B = some (.lst acc) := by obtain ⟨vs, ds, e, _⟩ := B9; exact ⟨vs, e⟩
      obtain ⟨vR, dR, eR, tR, lR, gR⟩ := R9
      walk_at "u"
      refine r_tupleD (SqL.of eR) tR fun u H10 s10 t10 => ?_
      walk_at "u"
      refine ⟨szl (by simp), fun Y hY => ?_⟩
      obtain ⟨H11, e11, s11, t11⟩ := Td.lay (K := K) hY (.cons (.str nm) (.cons t10 .nil))
      rw [e11]
      have s911 := s10.trans s11
      walk_at "u"
      have B11 := B9.keep (ls := []) (FrN.same s911) (by simp) (Same.tk s911)
      refine B11.app (by omega) t11 ⟨nm, dR, rfl, nn, by omega, by omega, gR⟩ fun acc ea B12 => ?_
      walk_at "u"
      refine ⟨by omega, (hD9.same s911).upd Bp Bl, ?_, ?_, ?_, B12, _, _, _, _, _, rfl⟩
      · have R4 : H4 R = none := FrN.nix (f6.trans (FrN.fr2 (by simp) (by simp) f7)) (by simp [Rp, RS, RC, RB]) hR
        refine FrN.self (FrN.cut (x := R) ?_ R4) (by simp)
        refine (f6.sub (fun a ha => List.mem_cons_of_mem _ ha)).trans ((f68.sub fun a ha => ?_).trans ((f9.sub fun a ha => ?_).trans (FrN.same s911)))
        · simp only [List.mem_cons, List.not_mem_nil, or_false] at ha ⊢
          rcases ha with h | h <;> simp [h]
        · simp only [List.mem_cons, List.not_mem_nil, or_false] at ha ⊢
          rcases ha with h | h | h <;> simp [h]
      · exact (S9.keep (ls := []) (FrN.same s911) (by simp)).off SB
      · exact (C9.keep (ls := []) (FrN.same s911) (by simp)).off CB
    · rintro σ H6 ⟨hi3, hD6, f6, S6, C6, B6, y5, y6, y7, y8, y9, rfl⟩
      walk_at "u"
      refine ⟨hD6, ?_, N4.keep f6 (by simp [Np, SN.symm, CN.symm, NB]), ⟨_, by omega, B6⟩, _, _, _, _, _, rfl⟩
      intro c x hc e
      refine f6 c x (fun m => ?_) (s14 _ _ e)
      simp only [List.mem_cons, List.not_mem_nil, or_false] at m
      rcases m with m | m | m | m
      · exact hc m
      · rw [m, hS] at e; cases e
      · rw [m, Same.free s1 hC] at e; cases e
      · rw [m, Same.free (s1.trans (s2.trans s3)) hB] at e; cases e
  have N0 : H N = none := Same.free (s1.trans s2) hN
  have NB' := NB
  clear S4 C4 N4 SC SN CN SB CB NB eS1 eC2 eN3 eB4 e1 e2 e3 e4 s14 hD1 hD2 hD3 hD4 s1 s2 s3 s4 hS hC hN hB H4
  rintro σ H5 ⟨hD5, f5, N5, ⟨nb, hnb, B5⟩, y5, y6, y7, y8, y9, rfl⟩
  walk_at "u"
  refine ⟨szl (by simp), fun X hX => ?_⟩
  obtain ⟨H6, e6, s6, eX⟩ := lay_new (o := .lst []) hX
  rw [e6]
  have hD6 := hD5.same s6
  have Xp := hD5.nep hX
  have Xl := hD5.nel hX
  have XN := N5.ne hX
  have XB := B5.ne hX
  have N6 := N5.keep (ls := []) (FrN.same s6) (by simp)
  have B6 := B5.keep (ls := []) (FrN.same s6) (by simp) (Same.tk s6)
  walk_at "u"
  refine r_cut (fun σ' H' => Dr H' p l ∧ Fr p H H' ∧ StrL H' N 1 ∧ DL K H' B DataG nb ∧ StrL H' X 3 ∧ ∃ y5, σ' = [some (.ref p), some (.ref S), some (.ref C), some (.ref N), some (.ref B), y5, y6, y7, y8, y9, some (.ref X), none, none, none, none, none, none, none, none]) ?_ ?_
  · walk_at "u"
    refine ⟨p, l, _, rfl, by decide, by decide, hD6, fun a1 H7 a10 a11 hD7 k7 => ?_⟩
    walk_at "u"
    refine ⟨by omega, by omega, f_range (fun i σ' H' => i ≤ 3 ∧ Dr H' p l ∧ FrN [p, X] H6 H' ∧ StrL H' X i ∧ ∃ y5, σ' = [some (.ref p), some (.ref S), some (.ref C), some (.ref N), some (.ref B), y5, y6, y7, y8, y9, some (.ref X), none, none, none, none, none, none, none, none]) ⟨by omega, hD7, FrN.fr (by simp) (Fr.of k7), ⟨[], by rw [k7 X Xp]; exact eX, by simp, (fun _ h => nomatch h)⟩, _, rfl⟩ ?_ ?_⟩
    · rintro i σ H8 hi ⟨hi3, hD8, f8, X8, y5, rfl⟩
      walk_at "u"
      refine fresh_call hD8 Xp Xl X8 (by omega) fun z H9 nz hD9 f9 X9 => ?_
      walk_at "u"
      exact ⟨by omega, hD9, f8.trans (FrN.fr2 (by simp) (by simp) f9), X9, _, rfl⟩
    · rintro σ H8 ⟨hi3, hD8, f8, X8, y5, rfl⟩
      walk_at "u"
      have tk : Tk K H6 H8 := f8.tk (fun a ha => by
        simp only [List.mem_cons, List.not_mem_nil, or_false] at ha
        rcases ha with rfl | rfl
        · exact hD6.nt
        · exact Nt.lst eX)
      refine ⟨hD8, ?_, N6.keep f8 (by simp [Np, XN.symm]), B6.keep f8 (by simp [Bp, XB.symm]) tk, X8.le (by omega), _, rfl⟩
      exact f5.trans (fun c x hc e => f8 c x (by
        simp only [List.mem_cons, List.not_mem_nil, or_false, not_or]
        exact ⟨hc, ne_of_none e hX⟩) (s6 _ _ e))
  clear N6 B6 N5 B5 hD5 hD6 f5 eX e6 s6 hX H6 H5 y5
  rintro σ H5 ⟨hD5, f5, N5, B5, X5, y5, rfl⟩
  walk_at "u"
  refine ⟨szl (by simp), fun F hF => ?_⟩
  obtain ⟨H6, e6, s6, eF⟩ := lay_new (o := .lst []) hF
  rw [e6]
  have hD6 := hD5.same s6
  have Fp := hD5.nep hF
  have Fl := hD5.nel hF
  have FN := N5.ne hF
  have FB := B5.ne hF
  have FX := X5.ne hF
  have N6 := N5.keep (ls := []) (FrN.same s6) (by simp)
  have B6 := B5.keep (ls := []) (FrN.same s6) (by simp) (Same.tk s6)
  have X6 := X5.keep (ls := []) (FrN.same s6) (by simp)
  have f56 : Fr p H H6 := f5.trans (Fr.same s6)
  walk_at "u"
  refine ⟨p, l, _, rfl, by decide, by decide, hD6, fun mn H7 mn0 mn3 hD7 k7 => ?_⟩
  have fk7 : FrN [p] H6 H7 := FrN.fr (by simp) (Fr.of k7)
  have N7 := N6.keep fk7 (by simp [Np])
  have B7 := B6.keep fk7 (by simp [Bp]) (hD6.tk (Fr.of k7))
  have X7 := X6.keep fk7 (by simp [Xp])
  have eF7 : H7 F = some (.lst []) := by rw [k7 F Fp]; exact eF
  walk_at "u"
  refine r_cut (fun σ' H' => Dr H' p l ∧ FrN [p, N, F] H7 H' ∧ (∃ i, i ≤ 3 ∧ DL K H' F (FuD (ED 5)) i) ∧ ∃ z5 z6 z8 z13 z14 z15 z16 z17 z18, σ' = [some (.ref p), some (.ref S), some (.ref C), some (.ref N), some (.ref B), z5, z6, y7, z8, y9, some (.ref X), some (.ref F), some (.int mn), z13, z14, z15, z16, z17, z18]) ?_ ?_
  · walk_at "u"
    refine ⟨by omega, by omega, f_range (fun i σ' H' => i ≤ 3 ∧ Dr H' p l ∧ FrN [p, N, F] H7 H' ∧ StrL H' N (1 + i) ∧ DL K H' F (FuD (ED 5)) i ∧ ∃ z5 z6 z8 z13 z14 z15 z16 z17 z18, σ' = [some (.ref p), some (.ref S), some (.ref C), some (.ref N), some (.ref B), z5, z6, y7, z8, y9, some (.ref X), some (.ref F), some (.int mn), z13, z14, z15, z16, z17, z18]) ⟨by omega, hD7, FrN.refl, N7, DL.new eF7, _, _, _, _, _, _, _, _, _, rfl⟩ ?_ ?_⟩
    · rintro i σ H8 hi ⟨hi3, hD8, f8, N8, F8, z5, z6, z8, z13, z14, z15, z16, z17, z18, rfl⟩
      walk_at "u"
      refine ⟨szl (by simp), fun T hT => ?_⟩
      obtain ⟨H9, e9, s9, eT⟩ := lay_new (o := .lst []) hT
      rw [e9]
      have hD9 := hD8.same s9
      have Tp := hD8.nep hT
      have Tl := hD8.nel hT
      have TN := N8.ne hT
      have TF := F8.ne hT
      have N9 := N8.keep (ls := []) (FrN.same s9) (by simp)
      have F9 := F8.keep (ls := []) (FrN.same s9) (by simp) (Same.tk s9)
      walk_at "u"
      refine r_cut (fun σ' H' => Dr H' p l ∧ FrN [p, N] H9 H' ∧ StrL H' N (1 + (i + 1)) ∧ ∃ nm, NameOk nm ∧ σ' = [some (.ref p), some (.ref S), some (.ref C), some (.ref N), some (.ref B), some (.int (0 + (i : Int))), some (.str nm), y7, z8, y9, some (.ref X), some (.ref F), some (.int mn), some (.ref T), z14, z15, z16, z17, z18]) ?_ ?_
      · walk_at "u"
        refine br_d (fun h1 => ?_) (fun h1 => ?_)
        · walk_at "u"
          refine fresh_call hD9 Np Nl N9 (by omega) fun nm H10 nn hD10 f10 N10 => ?_
          walk_at "u"
          exact ⟨hD10, FrN.fr2 (by simp) (by simp) f10, N10, nm, nn, rfl⟩
        · walk_at "u"
          exact ⟨hD9, FrN.refl, N9.le (by omega), _, nMain, rfl⟩
      rintro σ H10 ⟨hD10, f10, N10, nm, nn, rfl⟩
      have tk910 : Tk K H9 H10 := f10.tk (fun a ha => by
        simp only [List.mem_cons, List.not_mem_nil, or_false] at ha
        rcases ha with rfl | rfl
        · exact hD9.nt
        · exact N9.nt)
      have F10 := F9.keep f10 (by simp [Fp, FN]) tk910
      have T10 : StrL H10 T 0 := ⟨[], f10 _ _ (by simp [Tp, TN]) eT, by simp, (fun _ h => nomatch h)⟩
      walk_at "u"
      refine ⟨p, l, _, rfl, by decide, by decide, hD10, fun a1 H11 a10 a11 hD11 k11 => ?_⟩
      walk_at "u"
      refine ⟨by omega, by omega, fun Y hY => c_range (CD K (fun H => Dr H p l) p Y H11 KindG) (CD.start (hD11.new hY) hY) ?_ ?_⟩
      · intro r H12 hr c
        walk_at "u"
        refine ⟨rfl, ?_⟩
        walk_at "u"
        refine br_d (fun h1 => ?_) (fun h1 => ?_)
        · walk_at "u"
          refine ⟨szl (by simp), fun a ha => ?_⟩
          obtain ⟨G1, g1, t1, u1⟩ := Td.lay (K := K) ha .nil
          rw [g1]
          walk_at "u"
          refine ⟨szl (by simp), fun b hb => ?_⟩
          obtain ⟨G2, g2, t2, u2⟩ := Td.lay (K := K) hb (.cons (.str "int") (.cons u1 (.cons (.int 0) .nil)))
          rw [g2]
          exact c.stepL hY (hD11.nep hY) (hD11.nel hY) (by omega) ((c.1.same t1).same t2) (Fr.same (t1.trans t2)) u2 intK
        · walk_at "u"
          refine ⟨p, l, 2, rfl, by decide, c.1, fun v d H13 kd td hD13 f13 => ?_⟩
          exact c.stepL hY (hD11.nep hY) (hD11.nel hY) (by omega) hD13 f13 td kd
      · rintro H12 ⟨hD12, f12, wk, dk, e12, t12, l12, g12⟩
        walk_at "u"
        refine it_list ?_
        walk_at "u"
        have f1012 : FrN [p, T] H10 H12 := FrN.fr (by simp) ((Fr.of k11).trans f12)
        have T12 := T10.keep (FrN.fr (ls := [p]) (by simp) ((Fr.of k11).trans f12)) (by simp [Tp])
        have YT : Y ≠ T := (T10.keep (FrN.fr (ls := [p]) (by simp) (Fr.of k11)) (by simp [Tp])).ne hY
        have Yp := hD11.nep hY
        have lwk : wk.length ≤ 3 := by rw [t12.len, l12]; omega
        refine ⟨Y, rfl, ⟨_, SqL.of e12⟩, fun Z hZ => c_lists (xs := wk) (fun r H' => Dr H' p l ∧ FrN [p, T] H12 H' ∧ StrL H' T r ∧ DL K H' Z ParG r) ⟨hD12.new hZ, FrN.refl.mut hZ, T12.off (T12.ne hZ).symm, DL.new upd_same⟩ (fun r H' P => SqL.of (P.2.1 _ _ (by simp [Yp, YT]) e12)) ?_ ?_⟩
        · rintro r x H13 hx ⟨hD13, f13, T13, Z13⟩
          have rl := (List.getElem?_eq_some_iff.mp hx).1
          obtain ⟨d, hd, td⟩ := t12.getV hx
          have tk13 : Tk K H12 H13 := f13.tk (fun a ha => by
            simp only [List.mem_cons, List.not_mem_nil, or_false] at ha
            rcases ha with rfl | rfl
            · exact hD12.nt
            · exact T12.nt)
          have ZT := T12.ne hZ
          have Zp := hD12.nep hZ
          have Zl := hD12.nel hZ
          walk_at "u"
          refine ⟨rfl, ?_⟩
          walk_at "u"
          refine fresh_call hD13 Tp Tl T13 (by omega) fun z H14 nz hD14 f14 T14 => ?_
          have tk14 := f14.tk (K := K) hD13.nt T13.nt
          walk_at "u"
          refine ⟨szl (by simp), fun a ha => ?_⟩
          obtain ⟨H15, e15, s15, t15⟩ := Td.lay (K := K) ha (.cons (.str z) (.cons ((td.k tk13).k tk14) .nil))
          rw [e15]
          have f1315 : FrN [p, T] H13 H15 := (FrN.fr2 (by simp) (by simp) f14).trans (FrN.same s15)
          have Z15 := Z13.keep f1315 (by simp [Zp, ZT]) (tk14.trans (Same.tk s15))
          obtain ⟨acc, ea, la, Z16⟩ := Z15.put (by omega) t15 ⟨z, d, rfl, nz, g12 d (List.mem_of_getElem? hd)⟩
          exact ⟨acc, ea, la, (hD14.same s15).upd Zp Zl, (f13.trans f1315).mut hZ, (T14.keep (ls := []) (FrN.same s15) (by simp)).off ZT.symm, Z16⟩
        · rintro H13 ⟨hD13, f13, T13, ⟨wz, dz, ez, tz, lz, gz⟩⟩
          walk_at "u"
          refine r_tupleD (SqL.of ez) tz fun u H14 s14 tu => ?_
          have hD14 := hD13.same s14
          have T14 := T13.keep (ls := []) (FrN.same s14) (by simp)
          have f1014 : FrN [p, T] H10 H14 := f1012.trans (f13.trans (FrN.same s14))
          walk_at "u"
          refine br_d (fun h1 => ?_) (fun h1 => ?_)
          · walk_at "u"
            refine ⟨szl (by simp), fun a ha => ?_⟩
            obtain ⟨G1, g1, t1, u1⟩ := Td.lay (K := K) ha .nil
            rw [g1]
            walk_at "u"
            refine ⟨szl (by simp), fun a2 ha2 => ?_⟩
            obtain ⟨H15, g2, t2, td⟩ := Td.lay (K := K) ha2 (.cons (.str "int") (.cons u1 (.cons (.int 0) .nil)))
            rw [g2]
            obtain ⟨d, hd⟩ : ∃ d : D, d = .tup [.str "int", .tup [], .int 0] := ⟨_, rfl⟩
            rw [← hd] at td
            have kd : KiD 3 d := by rw [hd]; exact intK
            have hD15 := (hD14.same t1).same t2
            have f15 : Fr p H14 H15 := Fr.same (t1.trans t2)
            have f1015 : FrN [p, T] H10 H15 := f1014.trans (FrN.fr (by simp) f15)
            have nt10 : ∀ a ∈ [p, T], Nt H10 a := fun a ha => by
              simp only [List.mem_cons, List.not_mem_nil, or_false] at ha
              rcases ha with rfl | rfl
              · exact hD10.nt
              · exact T10.nt
            have F15 := F10.keep f1015 (by simp [Fp, TF.symm]) (f1015.tk nt10)
            obtain ⟨accF, eF15⟩ := F15.at_
            have T15 := T14.keep (FrN.fr (ls := [p]) (by simp) f15) (by simp [Tp])
            have N15 := N10.keep f1015 (by simp [Np, TN.symm])
            walk_at "u"
            refine ⟨p, l, _, rfl, by decide, by decide, hD15, fun dp H16 dp0 dp4 hD16 k16 => ?_⟩
            have f16 : FrN [p] H15 H16 := FrN.fr (by simp) (Fr.of k16)
            have T16 := T15.keep f16 (by simp [Tp])
            have N16 := N15.keep f16 (by simp [Np])
            have F16 := F15.keep f16 (by simp [Fp]) (hD15.tk (Fr.of k16))
            walk_at "u"
            refine ⟨szl (by simp), fun r hr => ?_⟩
            obtain ⟨H17, e17, s17, er⟩ := lay_new (o := .lst [.int 40]) hr
            rw [e17]
            have rp := hD16.nep hr
            have rl := hD16.nel hr
            have rT := T16.ne hr
            have rN := N16.ne hr
            have rF := F16.ne hr
            have hD17 := hD16.same s17
            have N17 := N16.keep (ls := []) (FrN.same s17) (by simp)
            have F17 := F16.keep (ls := []) (FrN.same s17) (by simp) (Same.tk s17)
            walk_at "u"
            refine ⟨p, l, r, 1 + dp.toNat, 40, by rw [show (1 + dp) = ((1 + dp.toNat : Nat) : Int) by omega], by omega, hD17, rp, rl, er, fun v2 d2 k2 H18 ed te hD18 f18 er18 => ?_⟩
            have tk18 : Tk K H17 H18 := f18.tk hD17.nt (Nt.lst er)
            have f18n : FrN [p, r] H17 H18 := FrN.fr2 (by simp) (by simp) f18
            have N18 := N17.keep f18n (by simp [Np, rN.symm])
            have F18 := F17.keep f18n (by simp [Fp, rF.symm]) tk18
            walk_at "u"
            refine ⟨szl (by simp), fun b hb => ?_⟩
            have tk1518 : Tk K H15 H18 := (hD15.tk (Fr.of k16)).trans ((Same.tk s17).trans tk18)
            obtain ⟨H19, e19, s19, t19⟩ := Td.lay (K := K) hb (.cons (.str nm) (.cons (.int 0) (.cons ((tu.k (hD14.tk f15)).k tk1518) (.cons (td.k tk1518) (.cons te .nil)))))
            rw [e19]
            walk_at "u"
            have F19 := F18.keep (ls := []) (FrN.same s19) (by simp) (Same.tk s19)
            refine F19.app (by omega) t19 ⟨nm, 0, dz, d, d2, rfl, nn, by omega, gz, kd, ed.mono (by omega)⟩ fun acc ea F20 => ?_
            walk_at "u"
            have f810 : FrN [p, N] H8 H10 := (FrN.same s9).trans f10
            have f1016 : FrN [p, T] H10 H16 := f1015.trans (FrN.fr (by simp) (Fr.of k16))
            have r8 : H8 r = none := FrN.nix (ls := [p, N, T]) ((f810.sub (fun a ha => by
              simp only [List.mem_cons, List.not_mem_nil, or_false] at ha ⊢
              rcases ha with h | h <;> simp [h])).trans (f1016.sub (fun a ha => by
              simp only [List.mem_cons, List.not_mem_nil, or_false] at ha ⊢
              rcases ha with h | h <;> simp [h]))) (by simp [rp, rN, rT]) hr
            have f819 : FrN [r, T, p, N] H8 H19 := (f810.sub (fun a ha => by
              simp only [List.mem_cons, List.not_mem_nil, or_false] at ha ⊢
              rcases ha with h | h <;> simp [h])).trans ((f1016.sub (fun a ha => by
              simp only [List.mem_cons, List.not_mem_nil, or_false] at ha ⊢
              rcases ha with h | h <;> simp [h])).trans ((FrN.same s17).trans ((f18n.sub (fun a ha => by
              simp only [List.mem_cons, List.not_mem_nil, or_false] at ha ⊢
              rcases ha with h | h <;> simp [h])).trans (FrN.same s19))))
            have f8' := FrN.cut (FrN.cut f819 r8) hT
            refine ⟨by omega, (hD18.same s19).upd Fp Fl, FrN.self (f8.trans (f8'.sub (fun a ha => by
              simp only [List.mem_cons, List.not_mem_nil, or_false] at ha ⊢
              rcases ha with h | h <;> simp [h]))) (by simp), ((N18.keep (ls := []) (FrN.same s19) (by simp)).off FN.symm).le (by omega), F20, _, _, _, _, _, _, _, _, _, rfl⟩
          · walk_at "u"
            refine ⟨p, l, 2, rfl, by decide, hD14, fun v d H15 kd td hD15 f15 => ?_⟩
            have kd : KiD 3 d := kd
            have f1015 : FrN [p, T] H10 H15 := f1014.trans (FrN.fr (by simp) f15)
            have nt10 : ∀ a ∈ [p, T], Nt H10 a := fun a ha => by
              simp only [List.mem_cons, List.not_mem_nil, or_false] at ha
              rcases ha with rfl | rfl
              · exact hD10.nt
              · exact T10.nt
            have F15 := F10.keep f1015 (by simp [Fp, TF.symm]) (f1015.tk nt10)
            obtain ⟨accF, eF15⟩ := F15.at_
            have T15 := T14.keep (FrN.fr (ls := [p]) (by simp) f15) (by simp [Tp])
            have N15 := N10.keep f1015 (by simp [Np, TN.symm])
            walk_at "u"
            refine ⟨p, l, _, rfl, by decide, by decide, hD15, fun dp H16 dp0 dp4 hD16 k16 => ?_⟩
            have f16 : FrN [p] H15 H16 := FrN.fr (by simp) (Fr.of k16)
            have T16 := T15.keep f16 (by simp [Tp])
            have N16 := N15.keep f16 (by simp [Np])
            have F16 := F15.keep f16 (by simp [Fp]) (hD15.tk (Fr.of k16))
            walk_at "u"
            refine ⟨szl (by simp), fun r hr => ?_⟩
            obtain ⟨H17, e17, s17, er⟩ := lay_new (o := .lst [.int 40]) hr
            rw [e17]
            have rp := hD16.nep hr
            have rl := hD16.nel hr
            have rT := T16.ne hr
            have rN := N16.ne hr
            have rF := F16.ne hr
            have hD17 := hD16.same s17
            have N17 := N16.keep (ls := []) (FrN.same s17) (by simp)
            have F17 := F16.keep (ls := []) (FrN.same s17) (by simp) (Same.tk s17)
            walk_at "u"
            refine ⟨p, l, r, 1 + dp.toNat, 40, by rw [show (1 + dp) = ((1 + dp.toNat : Nat) : Int) by omega], by omega, hD17, rp, rl, er, fun v2 d2 k2 H18 ed te hD18 f18 er18 => ?_⟩
            have tk18 : Tk K H17 H18 := f18.tk hD17.nt (Nt.lst er)
            have f18n : FrN [p, r] H17 H18 := FrN.fr2 (by simp) (by simp) f18
            have N18 := N17.keep f18n (by simp [Np, rN.symm])
            have F18 := F17.keep f18n (by simp [Fp, rF.symm]) tk18
            walk_at "u"
            refine ⟨szl (by simp), fun b hb => ?_⟩
            have tk1518 : Tk K H15 H18 := (hD15.tk (Fr.of k16)).trans ((Same.tk s17).trans tk18)
            obtain ⟨H19, e19, s19, t19⟩ := Td.lay (K := K) hb (.cons (.str nm) (.cons (.int 0) (.cons ((tu.k (hD14.tk f15)).k tk1518) (.cons (td.k tk1518) (.cons te .nil)))))
            rw [e19]
            walk_at "u"
            have F19 := F18.keep (ls := []) (FrN.same s19) (by simp) (Same.tk s19)
            refine F19.app (by omega) t19 ⟨nm, 0, dz, d, d2, rfl, nn, by omega, gz, kd, ed.mono (by omega)⟩ fun acc ea F20 => ?_
            walk_at "u"
            have f810 : FrN [p, N] H8 H10 := (FrN.same s9).trans f10
            have f1016 : FrN [p, T] H10 H16 := f1015.trans (FrN.fr (by simp) (Fr.of k16))
            have r8 : H8 r = none := FrN.nix (ls := [p, N, T]) ((f810.sub (fun a ha => by
              simp only [List.mem_cons, List.not_mem_nil, or_false] at ha ⊢
              rcases ha with h | h <;> simp [h])).trans (f1016.sub (fun a ha => by
              simp only [List.mem_cons, List.not_mem_nil, or_false] at ha ⊢
              rcases ha with h | h <;> simp [h]))) (by simp [rp, rN, rT]) hr
            have f819 : FrN [r, T, p, N] H8 H19 := (f810.sub (fun a ha => by
              simp only [List.mem_cons, List.not_mem_nil, or_false] at ha ⊢
              rcases ha with h | h <;> simp [h])).trans ((f1016.sub (fun a ha => by
              simp only [List.mem_cons, List.not_mem_nil, or_false] at ha ⊢
              rcases ha with h | h <;> simp [h])).trans ((FrN.same s17).trans ((f18n.sub (fun a ha => by
              simp only [List.mem_cons, List.not_mem_nil, or_false] at ha ⊢
              rcases ha with h | h <;> simp [h])).trans (FrN.same s19))))
            have f8' := FrN.cut (FrN.cut f819 r8) hT
            refine ⟨by omega, (hD18.same s19).upd Fp Fl, FrN.self (f8.trans (f8'.sub (fun a ha => by
              simp only [List.mem_cons, List.not_mem_nil, or_false] at ha ⊢
              rcases ha with h | h <;> simp [h]))) (by simp), ((N18.keep (ls := []) (FrN.same s19) (by simp)).off FN.symm).le (by omega), F20, _, _, _, _, _, _, _, _, _, rfl⟩
    · rintro σ H8 ⟨hi3, hD8, f8, N8, F8, hy⟩
      walk_at "u"
      exact ⟨hD8, f8, ⟨_, by omega, F8⟩, hy⟩
  rintro σ H8 ⟨hD8, f8, ⟨nf, hnf, F8⟩, z5, z6, z8, z13, z14, z15, z16, z17, z18, rfl⟩
  have tk78 : Tk K H7 H8 := f8.tk (fun a ha => by
    simp only [List.mem_cons, List.not_mem_nil, or_false] at ha
    rcases ha with rfl | rfl | rfl
    · exact hD7.nt
    · exact N7.nt
    · exact Nt.lst eF7)
  have XN' := X7.nt
  obtain ⟨vB, dB, eB, tB, lB, gB⟩ := B7.keep f8 (by simp [Bp, NB'.symm, FB.symm]) tk78
  have XN2 : X ≠ N := XN
  obtain ⟨zs, eX8, lX, gX⟩ := X7.keep f8 (by simp [Xp, XN2, FX.symm])
  obtain ⟨vF, dF, eF8, tF, lF, gF⟩ := F8
  walk_at "u"
  refine r_tupleD (SqL.of eB) tB fun u1 G1 t1 w1 => ?_
  walk_at "u"
  refine ⟨szl (by simp), fun a ha => ?_⟩
  obtain ⟨G2, g2, t2, w2⟩ := Td.lay (K := K) (ds := [.str "Div", .str "Index", .str "Size"]) ha (.cons (.str _) (.cons (.str _) (.cons (.str _) .nil)))
  rw [g2]
  walk_at "u"
  refine r_tupleD (ds := zs.map .str) (SqL.of (t2 _ _ (t1 _ _ eX8))) TdL.strs fun u3 G3 t3 w3 => ?_
  refine r_catD (w2.k (Same.tk t3)) w3 (szl (by rw [List.length_map]; simp only [List.length_cons, List.length_nil]; omega)) fun u4 G4 t4 w4 => ?_
  walk_at "u"
  refine r_tupleD (SqL.of (t4 _ _ (t3 _ _ (t2 _ _ (t1 _ _ eF8))))) (tF.k (Same.tk ((t1.trans t2).trans (t3.trans t4)))) fun u5 G5 t5 w5 => ?_
  walk_at "u"
  refine ⟨szl (by simp), fun b hb => ?_⟩
  have sA := ((t1.trans t2).trans (t3.trans t4)).trans t5
  refine q _ (.tup [.tup dB, .tup ([.str "Div", .str "Index", .str "Size"] ++ zs.map .str), .tup dF]) _ ⟨dB, zs.map .str, dF, rfl, by omega, gB, by rw [List.length_map]; omega, fun x hx => by
    obtain ⟨z, hz, rfl⟩ := List.mem_map.mp hx
    exact ⟨z, rfl, gX z hz⟩, by omega, gF⟩
    (Td.newT (.cons (w1.k (Same.tk ((t2.trans (t3.trans t4)).trans t5))) (.cons (w4.k (Same.tk t5)) (.cons w5 .nil))) hb) ((hD8.same sA).new hb) ?_
  intro c x hc e
  have c6 := f56 c x hc e
  have c7 := (Fr.of k7) c x hc c6
  have hF0 : H F = none := by
    cases e2 : H F with
    | none => rfl
    | some y => rw [f5 _ _ Fp e2] at hF; cases hF
  have c8 := f8 c x (by
    simp only [List.mem_cons, List.not_mem_nil, or_false, not_or]
    exact ⟨hc, ne_of_none e N0, ne_of_none e hF0⟩) c7
  rw [upd_ne (ne_of_none (sA _ _ c8) hb)]
  exact sA _ _ c8
end
section
variable {K : PySem.W.Frag} {vs : List V} {H : Hp} {Q : VK} {E : XK} {n : Nat}
theorem sum_len : ∀ (ys : List Str) (cs : List Sx), TxtIs ys cs → (ys.map (·.length)).sum + ys.length = sumL cs
  | [], [], _ => rfl
  | [], _ :: _, h => by cases h
  | _ :: _, [], h => by cases h
  | y :: ys, c :: cs, h => by
    unfold TxtIs at h
    rw [List.map_cons, List.map_cons] at h
    injection h with h1 h2
    have ih := sum_len ys cs h2
    have e : y.length = c.txt.length := by rw [str_len, h1]
    rw [List.map_cons, List.sum_cons, List.length_cons, sumL_cons]
    omega
theorem txtL_ge : ∀ cs : List Sx, sumL cs ≤ (Sx.txtL cs).length + 1
  | [] => Nat.zero_le _
  | c :: r => by
    rw [Sx.txtL, List.length_append, txtR_sum, sumL_cons]
    omega
theorem node_ge (cs : List Sx) : sumL cs ≤ (Sx.node cs).txt.length := by
  have := txtL_ge cs
  rw [Sx.txt, List.length_cons, List.length_append]
  simp only [List.length_cons, List.length_nil]
  omega
theorem rd_form (h : sp_form K vs H Q E) : t_form K { nx := fun _ H' => Q .non H', rt := Q } (start n_form vs) H := by
  obtain ⟨a, ys, cs, rfl, hs, he, hl, q⟩ := h
  have e1 : (" " : Str).length = 1 := by decide +kernel
  have e2 : ("(" : Str).length = 1 := by decide +kernel
  have e3 : (")" : Str).length = 1 := by decide +kernel
  have hsum := sum_len ys cs he
  have hge := node_ge cs
  have hjt := join_txt he
  have hjl : (Txt.join (Str.ofString " ") ys).length ≤ sumL cs := by rw [str_len, hjt]; exact txtL_sum cs
  unfold t_form
  walk_at "u"
  refine ⟨ys, .inl hs, by rw [e1]; omega, ?_⟩
  refine r_addS (szl (by rw [e2]; omega)) ?_
  walk_at "u"
  refine' r_addS ?hs2 ?_
  case hs2 => exact szl (by rw [str_cat, e2, e3]; omega)
  refine q _ ?_
  unfold TxtOf
  rw [str_catL, str_catL, hjt, Sx.txt]
  rfl
theorem lst_form {p : Addr} {ys : List Str} {cs : List Sx} {R : VK} (hp : H p = some (.lst (ys.map V.str))) (h : TxtIs ys cs) (hl : sumL cs ≤ 9000000) (q : ∀ z, TxtOf z (.node cs) → R (.str z) H) : sp_form K [.ref p] H R E :=
  ⟨p, ys, cs, rfl, SqL.of hp, h, Nat.le_trans (node_sum cs) (by omega), q⟩
theorem mem_sum {c : Sx} : ∀ {cs : List Sx}, c ∈ cs → c.txt.length ≤ sumL cs
  | d :: cs, h => by
    rw [sumL_cons]
    rcases List.mem_cons.mp h with rfl | h
    · omega
    · have := mem_sum h
      omega
/-- texts of forms, built up at A, all else stays -/
def TInv (A : Addr) (H0 : Hp) (cs : List Sx) (i : Nat) (H : Hp) : Prop := Same H0 H ∧ ∃ xs : List Str, H A = some (.lst (xs.map V.str)) ∧ TxtIs xs (cs.take i)
theorem TInv.start {A : Addr} {H0 : Hp} {cs : List Sx} (h : H0 A = none) : TInv A H0 cs 0 (upd H0 A (.lst [])) := ⟨same_new h, [], upd_same, rfl⟩
theorem TxtIs.snoc {xs : List Str} {cs : List Sx} {z : Str} {c : Sx} (h : TxtIs xs cs) (hz : TxtOf z c) : TxtIs (xs ++ [z]) (cs ++ [c]) := by
  unfold TxtIs at *
  rw [List.map_append, List.map_append, h]
  show _ ++ [z.cps.toList] = _ ++ [c.txt]
  rw [hz]
theorem TxtIs.len {xs : List Str} {cs : List Sx} (h : TxtIs xs cs) : xs.length = cs.length := by
  have := congrArg List.length h
  rw [List.length_map, List.length_map] at this
  exact this
theorem strs_snoc5 (ws : List Str) (w : Str) : ws.map V.str ++ [V.str w] = (ws ++ [w]).map V.str := by rw [List.map_append]; rfl
theorem TInv.step {A : Addr} {H0 H1 H2 : Hp} {cs : List Sx} {i : Nat} {z : Str} {c : Sx} (t : TInv A H0 cs i H1) (h0 : H0 A = none) (s : Same H1 H2) (hc : cs[i]? = some c) (hz : TxtOf z c) (hi : i < 100000) : LcEnd A (TInv A H0 cs (i + 1)) (.str z) H2 := by
  obtain ⟨s0, xs, e, tx⟩ := t
  have hl := tx.len
  have hle : (cs.take i).length ≤ i := List.length_take_le ..
  refine ⟨_, s _ _ e, szt (by rw [List.length_map]; omega), same_mut (s0.trans s) h0, xs ++ [z], ?_, ?_⟩
  · rw [upd_same, strs_snoc5]
  · rw [List.take_add_one, hc]
    exact tx.snoc hz
theorem rd_write_kind (h : spr_write_kind (n + 1) K vs H Q E) : t_write_kind K (spr_write_kind n) { nx := fun _ H' => Q .non H', rt := Q } (start n_write_kind vs) H := by
  obtain ⟨v, d, rfl, hd, hk, hlen, q⟩ := h
  obtain ⟨hh, w, rfl, hc⟩ := hk
  unfold t_write_kind
  walk_at "u"
  refine r_gT3 hd fun x y z hx hy hz => ?_
  have hx := hx.invS
  subst hx
  walk_at "ui"
  refine br_d (fun h1 => ?_) (fun h1 => ?_)
  · walk_at "u"
    rcases hc with ⟨hx, rfl⟩ | ⟨rfl, z, rfl, hz⟩ | ⟨ds, rfl, hx, h0, h6, hs⟩
    · rw [h1] at hx
      exact absurd hx (by decide +kernel)
    · have hy := hy.invS
      subst hy
      exact q z H (Same.refl _) (by unfold TxtOf; rfl)
    · rw [h1] at hx
      exact absurd hx (by decide +kernel)
  walk_at "u"
  walk_at "ui"
  rcases hc with ⟨hx, rfl⟩ | ⟨rfl, z, rfl, hz⟩ | ⟨ds, rfl, hx, h0, h6, hs⟩
  · obtain ⟨a, vs, rfl, sa, ta⟩ := hy.inv
    cases ta
    refine ⟨false, .inr (.inl ⟨[], sa, rfl⟩), ?_⟩
    walk_at "u"
    exact q hh H (Same.refl _) (by unfold TxtOf; rfl)
  · exact absurd rfl h1
  · have esx : sxK (n + 1) (.tup [.str hh, .tup ds, .int 0]) = .node (.atom hh :: ds.map (sxK n)) := by
      show (if ds.isEmpty then _ else _) = _
      cases ds with
      | nil => cases h0
      | cons a b => rfl
    rw [esx] at hlen q
    obtain ⟨a, vs, rfl, sa, ta⟩ := hy.inv
    have hvl := ta.len
    refine ⟨true, .inr (.inl ⟨vs, sa, ?_⟩), ?_⟩
    · cases vs with
      | nil => rw [List.length_nil] at hvl; omega
      | cons _ _ => rfl
    walk_at "u"
    refine ⟨szl (by simp), fun A hA => ?_⟩
    obtain ⟨H1, e1, s1, eA⟩ := lay_new (o := .lst [.str hh]) hA
    rw [e1]
    walk_at "u"
    refine it_tup ?_
    walk_at "u"
    refine ⟨a, rfl, ⟨_, Same.tk s1 _ _ sa⟩, fun B hB => ?_⟩
    have hge := node_ge (.atom hh :: ds.map (sxK n))
    rw [sumL_cons] at hge
    refine c_tups (xs := vs) (TInv B H1 (ds.map (sxK n))) (TInv.start hB) (fun i H' t => Same.tk (s1.trans t.1) _ _ sa) ?_ ?_
    · intro i x H2 hx2 t
      obtain ⟨e, he, hxe⟩ := (ta.k (Same.tk (s1.trans t.1))).getV hx2
      have hmem := List.mem_of_getElem? he
      have hel : (sxK n e).txt.length ≤ sumL (ds.map (sxK n)) := mem_sum (List.mem_map.mpr ⟨e, hmem, rfl⟩)
      refine r_gname ⟨rfl, ?_⟩
      walk_at "u"
      refine ⟨x, e, rfl, hxe, hs e hmem, by omega, fun z H3 s3 hz => ?_⟩
      have hi := (List.getElem?_eq_some_iff.mp he).1
      exact t.step hB s3 (by rw [List.getElem?_map, he]; rfl) hz (by omega)
    intro H2 t
    obtain ⟨s2, xs, eB, tx⟩ := t
    rw [hvl, List.take_of_length_le (by rw [List.length_map]; exact Nat.le_refl _)] at tx
    have hxl := tx.len
    rw [List.length_map] at hxl
    refine .inl ⟨_, _, s2 _ _ eA, eB, szl (by rw [List.length_map]; simp; omega), fun p hp => ?_⟩
    obtain ⟨H3, e3, s3, ep⟩ := lay_new (o := .lst ([.str hh] ++ xs.map V.str)) hp
    rw [e3]
    walk_at "u"
    refine lst_form (ys := hh :: xs) (cs := .atom hh :: ds.map (sxK n)) ep ?_ (by rw [sumL_cons]; omega) fun z hz => q z H3 (s1.trans (s2.trans s3)) hz
    unfold TxtIs at *
    rw [List.map_cons, List.map_cons, tx]
    rfl
end
section
variable {K : PySem.W.Frag} {vs : List V} {H : Hp} {Q : VK} {E : XK} {n : Nat}
theorem txt_atom (z : Str) : TxtOf z (.atom z) := by unfold TxtOf; rw [Sx.txt]
theorem kind_call {v : V} {d : D} {R : VK} (h : Td K H v d) (hk : KiD 3 d) (q : ∀ z H', Same H H' → TxtOf z (sxK 3 d) → R (.str z) H') : sp_write_kind K [v] H R E :=
  ⟨v, d, rfl, h, hk, by have := sxK_len hk; rw [kB3] at this; omega, q⟩
theorem rd_write_parameter (h : sp_write_parameter K vs H Q E) : t_write_parameter K { nx := fun _ H' => Q .non H', rt := Q } (start n_write_parameter vs) H := by
  obtain ⟨v, d, rfl, hd, hp, q⟩ := h
  have hlen := sxPar_len hp
  obtain ⟨z, k, rfl, hz, hk⟩ := hp
  unfold t_write_parameter
  walk_at "u"
  refine r_ixD (k := 0) hd rfl fun u hu => ?_
  have hu := hu.invS
  subst hu
  walk_at "u"
  refine r_ixD (k := 1) hd rfl fun w hw => ?_
  walk_at "u"
  refine kind_call hw hk fun y H1 s1 hy => ?_
  walk_at "u"
  refine ⟨szl (by simp), fun A hA => ?_⟩
  obtain ⟨H2, e2, s2, eA⟩ := lay_new (o := .lst [.str z, .str y]) hA
  rw [e2]
  walk_at "u"
  have hge := node_ge [.atom z, sxK 3 k]
  have hl : sumL [.atom z, sxK 3 k] ≤ 9000000 := by
    have : (Sx.node [.atom z, sxK 3 k]).txt.length ≤ 680 := hlen
    omega
  refine lst_form (ys := [z, y]) (cs := [.atom z, sxK 3 k]) eA ?_ hl fun x hx => q x H2 (s1.trans s2) hx
  unfold TxtIs
  show [z.cps.toList, y.cps.toList] = [(Sx.atom z).txt, (sxK 3 k).txt]
  rw [hy, Sx.txt]
theorem log_small {i : Int} (h1 : -2147483648 ≤ i) (h2 : i ≤ 2147483647) : i.natAbs.log2 < 1920 := by
  by_cases h0 : i.natAbs = 0
  · rw [h0]; decide
  · have h40 : (2 : Nat) ^ 40 = 1099511627776 := by decide
    have := (Nat.log2_lt h0 (k := 40)).mpr (by rw [h40]; omega)
    omega
theorem rd_write_leaf (h : sp_write_leaf K vs H Q E) : t_write_leaf K { nx := fun _ H' => Q .non H', rt := Q } (start n_write_leaf vs) H := by
  obtain ⟨op, v, info, rfl, hv, hl, hi, q⟩ := h
  unfold t_write_leaf
  walk_at "ui"
  rcases hi with ⟨rfl, i, rfl, i1, i2⟩ | ⟨rfl, b, rfl⟩ | ⟨rfl, rfl⟩ | ⟨rfl, z, rfl, nz⟩ | ⟨ho, _⟩ | ⟨rfl, _⟩ | ⟨ho, _⟩ | ⟨ho, _⟩
  · refine br_y rfl ?_
    have hv := hv.invI
    subst hv
    walk_at "u"
    refine r_strI (log_small i1 i2) ?_
    exact q _ (by unfold TxtOf sxLeaf; dsimp only; rw [Sx.txt]; rfl)
  · refine br_n (by decide +kernel) ?_
    have hv : v = .bl b := by cases hv; rfl
    subst hv
    walk_at "u"
    walk_at "ui"
    try refine br_y rfl ?_
    cases b with
    | true => walk_at "u"; exact q _ (by unfold TxtOf sxLeaf; dsimp only; rw [Sx.txt]; rfl)
    | false => walk_at "u"; exact q _ (by unfold TxtOf sxLeaf; dsimp only; rw [Sx.txt]; rfl)
  · refine br_n (by decide +kernel) ?_
    walk_at "u"
    walk_at "ui"
    try refine br_n (by decide +kernel) ?_
    walk_at "u"
    walk_at "ui"
    try refine br_y rfl ?_
    walk_at "u"
    exact q _ (by unfold TxtOf sxLeaf; dsimp only; rw [Sx.txt])
  · refine br_n (by decide +kernel) ?_
    have hv := hv.invS
    subst hv
    walk_at "u"
    walk_at "ui"
    try refine br_n (by decide +kernel) ?_
    walk_at "u"
    walk_at "ui"
    try refine br_n (by decide +kernel) ?_
    walk_at "u"
    exact q _ (by unfold TxtOf sxLeaf; dsimp only; rw [Sx.txt])
  · exact absurd hl (by
      simp only [strOps, List.mem_cons, List.not_mem_nil, or_false] at ho
      rcases ho with rfl | rfl | rfl <;> decide +kernel)
  · exact absurd hl (by decide +kernel)
  · exact absurd hl (by
      simp only [pairOps, List.mem_cons, List.not_mem_nil, or_false] at ho
      rcases ho with rfl | rfl <;> decide +kernel)
  · exact absurd hl ho
/-- a list of texts -/
theorem lst1 {xs : List Str} {cs : List Sx} {R : VK} (h : TxtIs xs cs) (hn : xs.length ≤ 1000) (q : ∀ p H', Same H H' → H p = none → H' p = some (.lst (xs.map V.str)) → R (.ref p) H') : (xs.map V.str).length ≤ sizeLine ∧ ∀ p, H p = none → R (.ref p) (upd H p (.lst (xs.map V.str))) :=
  ⟨szl (by rw [List.length_map]; omega), fun p hp => q p _ (same_new hp) hp upd_same⟩
theorem none_back {H1 : Hp} {p : Addr} (s : Same H H1) (h : H1 p = none) : H p = none := by
  cases z : H p with
  | none => rfl
  | some o => rw [s _ _ z] at h; cases h
theorem tx1 (z : Str) : TxtIs [z] [.atom z] := by unfold TxtIs; show [z.cps.toList] = [(Sx.atom z).txt]; rw [Sx.txt]
theorem tx2 {z y : Str} {c : Sx} (h : TxtOf y c) : TxtIs [z, y] [.atom z, c] := by unfold TxtIs; show [z.cps.toList, y.cps.toList] = [(Sx.atom z).txt, c.txt]; rw [Sx.txt, h]
theorem tx3 {z w y : Str} {c : Sx} (h : TxtOf y c) : TxtIs [z, w, y] [.atom z, .atom w, c] := by unfold TxtIs; show [z.cps.toList, w.cps.toList, y.cps.toList] = [(Sx.atom z).txt, (Sx.atom w).txt, c.txt]; rw [Sx.txt, Sx.txt, h]
theorem rd_write_head (h : sp_write_head K vs H Q E) : t_write_head K { nx := fun _ H' => Q .non H', rt := Q } (start n_write_head vs) H := by
  obtain ⟨op, v, info, rfl, hv, hl, hop, hi, q⟩ := h
  unfold t_write_head
  walk_at "ui"
  refine ⟨szl (by simp), fun T hT => ?_⟩
  obtain ⟨H1, e1, s1, eT⟩ := lay_new (o := .tup [.str "call", .str "make"]) hT
  rw [e1]
  refine r_inS (ss := ["call", "make"]) (SqT.of eT) ?_
  have hv1 := hv.k (Same.tk s1)
  have q1 : ∀ p xs H', Same H1 H' → H1 p = none → H' p = some (.lst (xs.map V.str)) → TxtIs xs (sxHead op info) → Q (.ref p) H' := fun p xs H' s hp e t => q p xs H' (s1.trans s) (none_back s1 hp) e t
  clear q hv s1 e1 hT eT T
  walk_at "u"
  rcases hi with ⟨e, _⟩ | ⟨e, _⟩ | ⟨e, _⟩ | ⟨e, _⟩ | ⟨ho, z, rfl, nz⟩ | ⟨rfl, i, rfl, hi⟩ | ⟨ho, z, k, rfl, nz, kf⟩ | ⟨ho1, ho2, ho3, ho4, rfl⟩
  · exact absurd (by rw [e]; decide +kernel) hl
  · exact absurd (by rw [e]; decide +kernel) hl
  · exact absurd (by rw [e]; decide +kernel) hl
  · exact absurd (by rw [e]; decide +kernel) hl
  · have hv1 := hv1.invS
    subst hv1
    simp only [strOps, List.mem_cons, List.not_mem_nil, or_false] at ho
    rcases ho with rfl | rfl | rfl
    · refine br_y (by decide +kernel) ?_
      walk_at "u"
      exact lst1 (xs := [z]) (tx1 z) (by simp) fun p H' s hp e => q1 p [z] H' s hp e (tx1 z)
    · refine br_n (by decide +kernel) ?_
      walk_at "u"
      walk_at "ui"
      walk_at "ui"
      exact lst1 (xs := ["let", z]) (tx2 (txt_atom z)) (by simp) fun p H' s hp e => q1 p ["let", z] H' s hp e (tx2 (txt_atom z))
    · refine br_y (by decide +kernel) ?_
      walk_at "u"
      exact lst1 (xs := [z]) (tx1 z) (by simp) fun p H' s hp e => q1 p [z] H' s hp e (tx1 z)
  · have hv1 := hv1.invI
    subst hv1
    refine br_n (by decide +kernel) ?_
    walk_at "u"
    walk_at "ui"
    refine r_strI (log_small (by omega) (by omega)) ?_
    walk_at "u"
    exact lst1 (xs := ["get", numS i]) (tx2 (txt_atom (numS i))) (by simp) fun p H' s hp e => q1 p ["get", numS i] H' s hp e (tx2 (txt_atom (numS i)))
  · simp only [pairOps, List.mem_cons, List.not_mem_nil, or_false] at ho
    rcases ho with rfl | rfl
    · refine br_n (by decide +kernel) ?_
      walk_at "u"
      walk_at "ui"
      walk_at "ui"
      walk_at "ui"
      refine ⟨v, _, rfl, hv1, ⟨z, k, rfl, nz, kf⟩, fun y H2 s2 hy => ?_⟩
      walk_at "u"
      exact lst1 (xs := ["fn", y]) (tx2 hy) (by simp) fun p H' s hp e => q1 p ["fn", y] H' (s2.trans s) (none_back s2 hp) e (tx2 hy)
    · refine br_n (by decide +kernel) ?_
      walk_at "u"
      walk_at "ui"
      walk_at "ui"
      walk_at "ui"
      walk_at "ui"
      refine r_ixD (k := 0) hv1 rfl fun u hu => ?_
      have hu := hu.invS
      subst hu
      walk_at "u"
      refine r_ixD (k := 1) hv1 rfl fun w hw => ?_
      walk_at "u"
      refine kind_call hw kf fun y H2 s2 hy => ?_
      walk_at "u"
      exact lst1 (xs := ["raise", z, y]) (tx3 hy) (by simp) fun p H' s hp e => q1 p ["raise", z, y] H' (s2.trans s) (none_back s2 hp) e (tx3 hy)
  · have n1 : op ≠ "call" := fun e => ho2 (by rw [e]; decide +kernel)
    have n2 : op ≠ "make" := fun e => ho2 (by rw [e]; decide +kernel)
    have n3 : op ≠ "let" := fun e => ho2 (by rw [e]; decide +kernel)
    have n4 : op ≠ "fn" := fun e => ho4 (by rw [e]; decide +kernel)
    have n5 : op ≠ "raise" := fun e => ho4 (by rw [e]; decide +kernel)
    refine br_n (fun e => by
      simp only [List.mem_cons, List.not_mem_nil, or_false] at e
      rcases e with e | e
      · exact n1 e
      · exact n2 e) ?_
    walk_at "u"
    walk_at "ui"
    try refine br_n ho3 ?_
    walk_at "u"
    walk_at "ui"
    try refine br_n n3 ?_
    walk_at "u"
    walk_at "ui"
    try refine br_n n4 ?_
    walk_at "u"
    walk_at "ui"
    try refine br_n n5 ?_
    walk_at "u"
    exact lst1 (xs := [op]) (tx1 op) (by simp) fun p H' s hp e => q1 p [op] H' s hp e (tx1 op)
end
section
variable {K : PySem.W.Frag} {vs : List V} {H : Hp} {Q : VK} {E : XK} {n : Nat}
/-- the texts of a list of names -/
theorem names_of : ∀ {vars : List D} {us : List V}, TdL K H us vars → (∀ x ∈ vars, ∃ z, x = .str z ∧ NameOk z) → ∃ zs : List Str, us = zs.map V.str ∧ vars = zs.map D.str
  | _, _, .nil, _ => ⟨[], rfl, rfl⟩
  | _, _, .cons h t, hn => by
    obtain ⟨z, rfl, _⟩ := hn _ (List.mem_cons_self ..)
    obtain ⟨zs, rfl, rfl⟩ := names_of t (fun x hx => hn x (List.mem_cons_of_mem _ hx))
    have h := h.invS
    subst h
    exact ⟨z :: zs, rfl, rfl⟩
theorem tx_atoms : ∀ zs : List Str, TxtIs zs ((zs.map D.str).map fun v => Sx.atom (strD v))
  | [] => rfl
  | z :: zs => by
    have := tx_atoms zs
    unfold TxtIs at *
    rw [List.map_cons, List.map_cons, List.map_cons, List.map_cons, this]
    show z.cps.toList :: _ = (Sx.atom z).txt :: _
    rw [Sx.txt]
theorem TxtIs.cons {z : Str} {c : Sx} {zs : List Str} {cs : List Sx} (h : TxtOf z c) (t : TxtIs zs cs) : TxtIs (z :: zs) (c :: cs) := by
  unfold TxtIs at *
  rw [List.map_cons, List.map_cons, t, h]
theorem rd_write_arm (h : spr_write_arm (n + 1) K vs H Q E) : t_write_arm K (spr_write_arm n) (spr_write_expression n) { nx := fun _ H' => Q .non H', rt := Q } (start n_write_arm vs) H := by
  obtain ⟨op, v, a, m, rfl, hv, hm, ha, hop, hlen, q⟩ := h
  obtain ⟨nm, vars, body, rfl, h1, h2, h2', h3, h4⟩ := ha
  unfold t_write_arm
  walk_at "u"
  refine r_gT3 hv fun x y w hx hy hw => ?_
  have hx := hx.invS
  subst hx
  obtain ⟨b, us, rfl, sb, tb⟩ := hy.inv
  obtain ⟨zs, rfl, rfl⟩ := names_of tb h3
  rw [List.length_map] at h2 h2'
  walk_at "ui"
  rcases hop with rfl | rfl
  · have esx : sxArm "case" (sxE m) (.tup [.str nm, .tup (zs.map D.str), body]) = .node [.node (.atom nm :: (zs.map D.str).map fun v => .atom (strD v)), sxE m body] := rfl
    rw [esx] at q hlen
    have hge := node_ge [.node (.atom nm :: (zs.map D.str).map fun v => .atom (strD v)), sxE m body]
    rw [sumL_cons, sumL_cons] at hge
    have hge2 := node_ge (.atom nm :: (zs.map D.str).map fun v => .atom (strD v))
    try refine br_y rfl ?_
    walk_at "u"
    refine ⟨szl (by simp), fun A hA => ?_⟩
    obtain ⟨H1, e1, s1, eA⟩ := lay_new (o := .lst [.str nm]) hA
    rw [e1]
    walk_at "u"
    refine r_listT (Same.tk s1 _ _ sb) fun B hB => ?_
    obtain ⟨H2, e2, s2, eB⟩ := lay_new (o := .lst (zs.map V.str)) hB
    rw [e2]
    walk_at "u"
    refine .inl ⟨_, _, s2 _ _ eA, eB, szl (by rw [List.length_map]; simp; omega), fun G hG => ?_⟩
    obtain ⟨H3, e3, s3, eG⟩ := lay_new (o := .lst ([.str nm] ++ zs.map V.str)) hG
    rw [e3]
    walk_at "u"
    have s13 := s1.trans (s2.trans s3)
    refine lst_form (ys := nm :: zs) (cs := .atom nm :: (zs.map D.str).map fun v => .atom (strD v)) eG (TxtIs.cons (txt_atom nm) (tx_atoms zs)) (by omega) fun z hz => ?_
    walk_at "u"
    refine ⟨w, body, m, rfl, hw.k (Same.tk s13), by omega, h4, by omega, fun y H4 s4 hy => ?_⟩
    walk_at "u"
    refine ⟨szl (by simp), fun L hL => ?_⟩
    obtain ⟨H5, e5, s5, eL⟩ := lay_new (o := .lst [.str z, .str y]) hL
    rw [e5]
    walk_at "u"
    refine lst_form (ys := [z, y]) (cs := [.node (.atom nm :: (zs.map D.str).map fun v => .atom (strD v)), sxE m body]) eL (TxtIs.cons hz (TxtIs.cons hy rfl)) (by rw [sumL_cons, sumL_cons]; omega) fun x hx => q x H5 (s13.trans (s4.trans s5)) hx
  · have hz1 := h2' rfl
    obtain ⟨z, rfl⟩ : ∃ z, zs = [z] := by
      cases zs with
      | nil => cases hz1
      | cons z r =>
        cases r with
        | nil => exact ⟨z, rfl⟩
        | cons _ _ => rw [List.length_cons, List.length_cons] at hz1; omega
    have esx : sxArm "handle" (sxE m) (.tup [.str nm, .tup ([z].map D.str), body]) = .node [.atom nm, .atom z, sxE m body] := rfl
    rw [esx] at q hlen
    have hge := node_ge [.atom nm, .atom z, sxE m body]
    rw [sumL_cons, sumL_cons, sumL_cons] at hge
    try refine br_n (by decide +kernel) ?_
    walk_at "u"
    refine ⟨w, body, m, rfl, hw, by omega, h4, by omega, fun y H4 s4 hy => ?_⟩
    walk_at "u"
    refine ⟨szl (by simp), fun L hL => ?_⟩
    obtain ⟨H5, e5, s5, eL⟩ := lay_new (o := .lst [.str nm, .str z, .str y]) hL
    rw [e5]
    walk_at "u"
    refine lst_form (ys := [nm, z, y]) (cs := [.atom nm, .atom z, sxE m body]) eL (tx3 hy) (by rw [sumL_cons, sumL_cons, sumL_cons]; omega) fun x hx => q x H5 (s4.trans s5) hx
end
theorem r_gT5 {K : PySem.W.Frag} {H : Hp} {σ : L2.St} {v : V} {a b c d e : D} {i j k m o : Nat} {R : L2.St → Hp → Prop} (h : Td K H v (.tup [a, b, c, d, e])) (q : ∀ x y z u w, Td K H x a → Td K H y b → Td K H z c → Td K H u d → Td K H w e → R (((((σ.set i (some x)).set j (some y)).set k (some z)).set m (some u)).set o (some w)) H) :
    gTup K 5 (gCons (gName i) (gCons (gName j) (gCons (gName k) (gCons (gName m) (gCons (gName o) gNil))))) v σ H R := by
  obtain ⟨p, vs, rfl, s, t⟩ := h.inv
  cases t with
  | cons h1 t => cases t with
    | cons h2 t => cases t with
      | cons h3 t => cases t with
        | cons h4 t => cases t with
          | cons h5 t =>
            cases t
            exact ⟨p, _, rfl, s, rfl, _, _, rfl, _, _, rfl, _, _, rfl, _, _, rfl, _, _, rfl, rfl, q _ _ _ _ _ h1 h2 h3 h4 h5⟩
section
variable {K : PySem.W.Frag} {vs : List V} {H : Hp} {Q : VK} {E : XK} {n : Nat}
/-- the words of a form so far -/
def WTx (A : Addr) (H0 : Hp) (cs : List Sx) (H : Hp) : Prop := Same H0 H ∧ ∃ xs : List Str, H A = some (.lst (xs.map V.str)) ∧ TxtIs xs cs
theorem WTx.app {A : Addr} {H0 H1 H2 : Hp} {cs : List Sx} {c : Sx} {z : Str} {R : VK} (t : WTx A H0 cs H1) (h0 : H0 A = none) (s : Same H1 H2) (hz : TxtOf z c) (hn : cs.length < 100000) (q : ∀ H3, WTx A H0 (cs ++ [c]) H3 → R .non H3) : uAppend (.ref A) [.str z] H2 R := by
  obtain ⟨s0, xs, e, tx⟩ := t
  have hl := tx.len
  refine ⟨_, s _ _ e, szt (by rw [List.length_map]; omega), q _ ⟨same_mut (s0.trans s) h0, xs ++ [z], ?_, tx.snoc hz⟩⟩
  rw [upd_same, strs_snoc5]
theorem WTx.ty {A : Addr} {H0 H1 : Hp} {cs : List Sx} {B : Prop} (t : WTx A H0 cs H1) (b : B) : tyV K "list" (.ref A) H1 ∧ B := by
  obtain ⟨s0, xs, e, tx⟩ := t
  exact ⟨.inl ⟨rfl, _, SqL.of e⟩, b⟩
theorem rd_write_expression (h : spr_write_expression (n + 1) K vs H Q E) : t_write_expression K (spr_write_arm n) (spr_write_expression n) { nx := fun _ H' => Q .non H', rt := Q } (start n_write_expression vs) H := by
  obtain ⟨v, d, m, rfl, hv, hm, hd, hlen, q⟩ := h
  cases m with
  | zero => exact hd.elim
  | succ m =>
  obtain ⟨op, at_, info, kids, arms, rfl, h1, h2, h3, h3', h4, h5, h0, h6, h7⟩ := hd
  unfold t_write_expression
  walk_at "u"
  refine r_gT5 hv fun x y z u w hx hy hz hu hw => ?_
  have hx := hx.invS
  have hy := hy.invI
  subst hx hy
  walk_at "ui"
  refine ⟨szl (by simp), fun T hT => ?_⟩
  obtain ⟨H1, e1, s1, eT⟩ := lay_new (o := .tup [.str "int", .str "bool", .str "unit", .str "name"]) hT
  rw [e1]
  refine r_inS (ss := ["int", "bool", "unit", "name"]) (SqT.of eT) ?_
  walk_at "u"
  refine br_d (fun hl => ?_) (fun hl => ?_)
  · have hl : op ∈ leafOps := hl
    walk_at "u"
    have e : sxE (m + 1) (.tup [.str op, .int at_, info, .tup kids, .tup arms]) = sxLeaf op info := by
      show (if op ∈ leafOps then _ else _) = _
      rw [if_pos hl]
    rw [e] at q
    exact ⟨op, z, info, rfl, hz.k (Same.tk s1), hl, h2, fun zz hzz => q zz H1 s1 hzz⟩
  have hl : op ∉ leafOps := hl
  have e : sxE (m + 1) (.tup [.str op, .int at_, info, .tup kids, .tup arms]) = .node (sxHead op info ++ kids.map (sxE m) ++ arms.map (sxArm op (sxE m))) := by
    show (if op ∈ leafOps then _ else _) = _
    rw [if_neg hl]
  rw [e] at q hlen
  have hge := node_ge (sxHead op info ++ kids.map (sxE m) ++ arms.map (sxArm op (sxE m)))
  rw [sumL_app, sumL_app] at hge
  have hhl : (sxHead op info).length ≤ 715 := by
    have := sxHead_len h1 h2 hl
    have h9 : ∀ cs : List Sx, cs.length ≤ sumL cs := fun cs => by
      induction cs with
      | nil => exact Nat.zero_le _
      | cons c r ih => rw [sumL_cons, List.length_cons]; omega
    have := h9 (sxHead op info)
    omega
  walk_at "u"
  refine ⟨op, z, info, rfl, hz.k (Same.tk s1), hl, h1, h2, fun A xs H2 s2 hA eA tA => ?_⟩
  have t0 : WTx A H1 (sxHead op info) H2 := ⟨s2, xs, eA, tA⟩
  obtain ⟨ka, kus, rfl, ks, kt⟩ := hu.inv
  obtain ⟨ra, rus, rfl, rs, rt⟩ := hw.inv
  have kl := kt.len
  have rl := rt.len
  walk_at "u"
  refine r_cut (fun σ' H' => WTx A H1 (sxHead op info ++ kids.map (sxE m)) H' ∧ ∃ y7, σ' = [some v, some (.str op), some (.int at_), some z, some (.ref ka), some (.ref ra), some (.ref A), y7, none]) ?_ ?_
  · walk_at "u"
    refine it_tup ?_
    walk_at "u"
    refine ⟨ka, rfl, ⟨_, Same.tk (s1.trans s2) _ _ ks⟩, f_tup (xs := kus) (fun i σ' H' => WTx A H1 (sxHead op info ++ (kids.map (sxE m)).take i) H' ∧ ∃ y7, σ' = [some v, some (.str op), some (.int at_), some z, some (.ref ka), some (.ref ra), some (.ref A), y7, none]) ⟨by simpa using t0, none, rfl⟩ (fun i σ H' p => Same.tk (s1.trans p.1.1) _ _ ks) ?_ ?_⟩
    · rintro i x σ H3 hx ⟨t, y7, rfl⟩
      obtain ⟨kd, hkd, hkx⟩ := (kt.k (Same.tk (s1.trans t.1))).getV hx
      have hi := (List.getElem?_eq_some_iff.mp hkd).1
      have hmem := List.mem_of_getElem? hkd
      have hel : (sxE m kd).txt.length ≤ sumL (kids.map (sxE m)) := mem_sum (List.mem_map.mpr ⟨kd, hmem, rfl⟩)
      walk_at "u"
      refine t.ty ?_
      walk_at "u"
      refine ⟨x, kd, m, rfl, hkx, by omega, h6 kd hmem, by omega, fun zz H4 s4 hzz => ?_⟩
      walk_at "u"
      refine t.app hA s4 hzz (by rw [List.length_append, List.length_take, List.length_map]; omega) fun H5 t5 => ?_
      walk_at "u"
      refine ⟨?_, _, rfl⟩
      rw [List.take_add_one, List.getElem?_map, hkd, ← List.append_assoc]
      exact t5
    · rintro σ H3 ⟨t, y7, rfl⟩
      rw [List.take_of_length_le (by rw [List.length_map, kl]; exact Nat.le_refl _)] at t
      exact ⟨t, y7, rfl⟩
  rintro σ H3 ⟨t3, y7, rfl⟩
  refine r_cut (fun σ' H' => WTx A H1 (sxHead op info ++ kids.map (sxE m) ++ arms.map (sxArm op (sxE m))) H' ∧ ∃ y8, σ' = [some v, some (.str op), some (.int at_), some z, some (.ref ka), some (.ref ra), some (.ref A), y7, y8]) ?_ ?_
  · walk_at "u"
    refine it_tup ?_
    walk_at "u"
    refine ⟨ra, rfl, ⟨_, Same.tk (s1.trans t3.1) _ _ rs⟩, f_tup (xs := rus) (fun i σ' H' => WTx A H1 (sxHead op info ++ kids.map (sxE m) ++ (arms.map (sxArm op (sxE m))).take i) H' ∧ ∃ y8, σ' = [some v, some (.str op), some (.int at_), some z, some (.ref ka), some (.ref ra), some (.ref A), y7, y8]) ⟨by simpa using t3, none, rfl⟩ (fun i σ H' p => Same.tk (s1.trans p.1.1) _ _ rs) ?_ ?_⟩
    · rintro i x σ H4 hx ⟨t, y8, rfl⟩
      obtain ⟨ad, had, hax⟩ := (rt.k (Same.tk (s1.trans t.1))).getV hx
      have hi := (List.getElem?_eq_some_iff.mp had).1
      have hmem := List.mem_of_getElem? had
      have hel : (sxArm op (sxE m) ad).txt.length ≤ sumL (arms.map (sxArm op (sxE m))) := mem_sum (List.mem_map.mpr ⟨ad, hmem, rfl⟩)
      walk_at "u"
      refine t.ty ?_
      walk_at "u"
      refine ⟨op, x, ad, m, rfl, hax, by omega, h7 ad hmem, h3' (fun e => by rw [e] at hmem; cases hmem), by omega, fun zz H5 s5 hzz => ?_⟩
      walk_at "u"
      refine t.app hA s5 hzz (by rw [List.length_append, List.length_append, List.length_take, List.length_map, List.length_map]; omega) fun H6 t6 => ?_
      walk_at "u"
      refine ⟨?_, _, rfl⟩
      rw [List.take_add_one, List.getElem?_map, had, ← List.append_assoc]
      exact t6
    · rintro σ H4 ⟨t, y8, rfl⟩
      rw [List.take_of_length_le (by rw [List.length_map, rl]; exact Nat.le_refl _)] at t
      exact ⟨t, y8, rfl⟩
  rintro σ H4 ⟨⟨s4, ys, eA4, tx4⟩, y8, rfl⟩
  walk_at "u"
  exact lst_form eA4 tx4 (by rw [sumL_app, sumL_app]; omega) fun zz hzz => q zz H4 (s1.trans s4) hzz
end
section
variable {K : PySem.W.Frag} {vs : List V} {H : Hp} {Q : VK} {E : XK} {n : Nat}
theorem rd_write_data (h : sp_write_data K vs H Q E) : t_write_data K { nx := fun _ H' => Q .non H', rt := Q } (start n_write_data vs) H := by
  obtain ⟨v, d, rfl, hv, ⟨z, rs, rfl, hz, hr0, hrl, hrs⟩, q⟩ := h
  have esx : sxData (.tup [.str z, .tup rs]) = .atom "data" :: .atom z :: rs.map sxRow := rfl
  rw [esx] at q
  have hsum := sxData_sum hz hrl hrs
  unfold t_write_data
  walk_at "u"
  refine r_gT2 hv fun x y hx hy => ?_
  have hx := hx.invS
  subst hx
  obtain ⟨a, us, rfl, sa, ta⟩ := hy.inv
  have ul := ta.len
  walk_at "u"
  refine ⟨szl (by simp), fun A hA => ?_⟩
  obtain ⟨H1, e1, s1, eA⟩ := lay_new (o := .lst [.str "data", .str z]) hA
  rw [e1]
  have t0 : WTx A H [.atom "data", .atom z] H1 := ⟨s1, ["data", z], eA, tx2 (txt_atom z)⟩
  walk_at "u"
  refine r_cut (fun σ' H' => WTx A H ([.atom "data", .atom z] ++ rs.map sxRow) H' ∧ ∃ y4 y5, σ' = [some v, some (.str z), some (.ref a), some (.ref A), y4, y5, none]) ?_ ?_
  · walk_at "u"
    refine it_tup ?_
    walk_at "u"
    refine ⟨a, rfl, ⟨_, Same.tk s1 _ _ sa⟩, f_tup (xs := us) (fun i σ' H' => WTx A H ([.atom "data", .atom z] ++ (rs.map sxRow).take i) H' ∧ ∃ y4 y5, σ' = [some v, some (.str z), some (.ref a), some (.ref A), y4, y5, none]) ⟨by simpa using t0, none, none, rfl⟩ (fun i σ H' p => Same.tk p.1.1 _ _ sa) ?_ ?_⟩
    · rintro i x σ H3 hx ⟨t, y4, y5, rfl⟩
      obtain ⟨rd, hrd, hxr⟩ := (ta.k (Same.tk t.1)).getV hx
      have hi := (List.getElem?_eq_some_iff.mp hrd).1
      obtain ⟨c, ks, rfl, hc, hkl, hks⟩ := hrs rd (List.mem_of_getElem? hrd)
      have hrow := sxRow_sum hc hkl hks
      refine r_gT2 hxr fun x y hx hy => ?_
      have hx := hx.invS
      subst hx
      obtain ⟨b, kus, rfl, sb, tb⟩ := hy.inv
      have kl := tb.len
      walk_at "u"
      refine t.ty ?_
      walk_at "u"
      refine ⟨szl (by simp), fun B hB => ?_⟩
      obtain ⟨H4, e4, s4, eB⟩ := lay_new (o := .lst [.str c]) hB
      rw [e4]
      walk_at "u"
      refine it_tup ?_
      walk_at "u"
      refine ⟨b, rfl, ⟨_, Same.tk s4 _ _ sb⟩, fun C hC => ?_⟩
      refine c_tups (xs := kus) (TInv C H4 (ks.map (sxK 3))) (TInv.start hC) (fun i H' t => Same.tk (s4.trans t.1) _ _ sb) ?_ ?_
      · intro j x H5 hx2 tt
        obtain ⟨e, he, hxe⟩ := (tb.k (Same.tk (s4.trans tt.1))).getV hx2
        refine r_gname ⟨rfl, ?_⟩
        walk_at "u"
        refine kind_call hxe (hks e (List.mem_of_getElem? he)) fun zz H6 s6 hzz => ?_
        have hj := (List.getElem?_eq_some_iff.mp he).1
        exact tt.step hC s6 (by rw [List.getElem?_map, he]; rfl) hzz (by omega)
      intro H5 tt
      obtain ⟨s5, xs, eC, tx⟩ := tt
      rw [kl, List.take_of_length_le (by rw [List.length_map]; exact Nat.le_refl _)] at tx
      have hxl := tx.len
      rw [List.length_map] at hxl
      refine .inl ⟨_, _, s5 _ _ eB, eC, szl (by rw [List.length_map]; simp; omega), fun p hp => ?_⟩
      obtain ⟨H6, e6, s6, ep⟩ := lay_new (o := .lst ([.str c] ++ xs.map V.str)) hp
      rw [e6]
      walk_at "u"
      refine lst_form (ys := c :: xs) (cs := .atom c :: ks.map (sxK 3)) ep (TxtIs.cons (txt_atom c) tx) (by omega) fun zz hzz => ?_
      walk_at "u"
      refine t.app hA (s4.trans (s5.trans s6)) hzz (by rw [List.length_append, List.length_take, List.length_map]; simp; omega) fun H7 t7 => ?_
      walk_at "u"
      refine ⟨?_, _, _, rfl⟩
      rw [List.take_add_one, List.getElem?_map, hrd, ← List.append_assoc]
      exact t7
    · rintro σ H3 ⟨t, y4, y5, rfl⟩
      rw [List.take_of_length_le (by rw [List.length_map, ul]; exact Nat.le_refl _)] at t
      exact ⟨t, y4, y5, rfl⟩
  rintro σ H3 ⟨⟨s3, ys, eA3, tx3⟩, y4, y5, rfl⟩
  walk_at "u"
  exact lst_form eA3 tx3 (by show sumL (.atom "data" :: .atom z :: rs.map sxRow) ≤ _; omega) fun zz hzz => q zz H3 s3 hzz
end
section
variable {K : PySem.W.Frag} {vs : List V} {H : Hp} {Q : VK} {E : XK} {n : Nat}
theorem rd_write_function (h : sp_write_function K vs H Q E) : t_write_function K { nx := fun _ H' => Q .non H', rt := Q } (start n_write_function vs) H := by
  obtain ⟨v, d, rfl, hv, ⟨z, at_, ps, r, b, rfl, hz, hpl, hps, hr, hb⟩, q⟩ := h
  have esx : sxFun (.tup [.str z, .int at_, .tup ps, r, b]) = [.atom "fun", .atom z, .node (ps.map sxPar), sxK 3 r, sxE 5 b] := rfl
  rw [esx] at q
  have hbl := sxE_len hb
  have hb5 := eB5
  have hrl := sxK_len hr
  rw [kB3] at hrl
  have hpsum := sumL_map_le (f := sxPar) (k := 680) (xs := ps) (fun x hx => sxPar_len (hps x hx))
  have hpm := mul_le (c := 680 + 1) hpl
  have hpn := node_sum (ps.map sxPar)
  have hz14 := hz.2.2
  have hf : ("fun" : Str).length = 3 := by decide +kernel
  unfold t_write_function
  walk_at "u"
  refine r_gT5 hv fun x y w u t hx hy hw hu ht => ?_
  have hx := hx.invS
  have hy := hy.invI
  subst hx hy
  obtain ⟨a, us, rfl, sa, ta⟩ := hw.inv
  have ul := ta.len
  walk_at "u"
  refine it_tup ?_
  walk_at "u"
  refine ⟨a, rfl, ⟨_, sa⟩, fun C hC => ?_⟩
  refine c_tups (xs := us) (TInv C H (ps.map sxPar)) (TInv.start hC) (fun i H' t => Same.tk t.1 _ _ sa) ?_ ?_
  · intro j x H5 hx2 tt
    obtain ⟨e, he, hxe⟩ := (ta.k (Same.tk tt.1)).getV hx2
    refine r_gname ⟨rfl, ?_⟩
    walk_at "u"
    refine ⟨x, e, rfl, hxe, hps e (List.mem_of_getElem? he), fun zz H6 s6 hzz => ?_⟩
    have hj := (List.getElem?_eq_some_iff.mp he).1
    exact tt.step hC s6 (by rw [List.getElem?_map, he]; rfl) hzz (by omega)
  intro H1 tt
  obtain ⟨s1, xs, eC, tx⟩ := tt
  rw [ul, List.take_of_length_le (by rw [List.length_map]; exact Nat.le_refl _)] at tx
  have e1 : (" " : Str).length = 1 := by decide +kernel
  have e2 : ("(" : Str).length = 1 := by decide +kernel
  have e3 : (")" : Str).length = 1 := by decide +kernel
  have hsum := sum_len xs (ps.map sxPar) tx
  have hjt := join_txt tx
  have hjl : (Txt.join (Str.ofString " ") xs).length ≤ sumL (ps.map sxPar) := by rw [str_len, hjt]; exact txtL_sum _
  walk_at "u"
  refine ⟨xs, .inl (SqL.of eC), by rw [e1]; omega, ?_⟩
  refine r_addS (szl (by rw [e2]; omega)) ?_
  walk_at "u"
  refine' r_addS ?hs2 ?_
  case hs2 => exact szl (by rw [str_cat, e2, e3]; omega)
  have hwt : TxtOf (("(" : Str) ++ Txt.join (Str.ofString " ") xs ++ (")" : Str)) (.node (ps.map sxPar)) := by
    unfold TxtOf
    rw [str_catL, str_catL, hjt, Sx.txt]
    rfl
  generalize ("(" : Str) ++ Txt.join (Str.ofString " ") xs ++ (")" : Str) = wt at hwt
  walk_at "u"
  refine kind_call (hu.k (Same.tk s1)) hr fun yk H2 s2 hyk => ?_
  walk_at "u"
  refine ⟨t, b, 5, rfl, ht.k (Same.tk (s1.trans s2)), by decide, hb, by omega, fun yb H3 s3 hyb => ?_⟩
  walk_at "u"
  refine ⟨szl (by simp), fun L hL => ?_⟩
  obtain ⟨H4, e4, s4, eL⟩ := lay_new (o := .lst [.str "fun", .str z, .str wt, .str yk, .str yb]) hL
  rw [e4]
  walk_at "u"
  have h0 : sumL [] = 0 := rfl
  refine lst_form (ys := ["fun", z, wt, yk, yb]) (cs := [.atom "fun", .atom z, .node (ps.map sxPar), sxK 3 r, sxE 5 b]) eL (TxtIs.cons (txt_atom _) (TxtIs.cons (txt_atom z) (TxtIs.cons hwt (TxtIs.cons hyk (TxtIs.cons hyb rfl))))) ?_ fun zz hzz => q zz H4 (s1.trans (s2.trans (s3.trans s4))) hzz
  rw [sumL_cons, sumL_cons, sumL_cons, sumL_cons, sumL_cons, atom_len, atom_len, hf]
  omega
end
theorem cutD3 {a b c : D} {ds : List D} : cutD (a :: b :: c :: ds) (some 3) none = ds := by
  unfold cutD
  have e1 : HT.sIx (a :: b :: c :: ds).length 0 (some 3) = 3 := by unfold HT.sIx; simp
  have e2 : HT.sIx (a :: b :: c :: ds).length (a :: b :: c :: ds).length none = (a :: b :: c :: ds).length := rfl
  rw [e1, e2]
  try simp
theorem joinL_nil7 : ∀ xs : List (List Nat), TL.joinL [] xs = xs.flatten
  | [] => rfl
  | [x] => by simp [TL.joinL]
  | x :: y :: r => by
    show x ++ ([] ++ TL.joinL [] (y :: r)) = _
    rw [joinL_nil7 (y :: r)]
    simp
/-- one line's form -/
def lineX (cs : List Sx) : Sx := .node cs
theorem lines_flat : ∀ (ys : List Str) (ls : List (List Sx)), ys.map (fun y => y.cps.toList) = ls.map (fun cs => (Sx.node cs).txt ++ [10]) → (ys.map TL.tl).flatten = linesT ls := fun ys ls h => by
  unfold linesT
  rw [List.flatMap_def, ← h]
  try rfl
theorem exc_txt {z : Str} : TxtOf (("(exception " : Str) ++ z ++ (")" : Str)) (.node [.atom "exception", .atom z]) := by
  unfold TxtOf
  have e1 : ("(exception " : Str).cps.toList = 40 :: (("exception" : Str).cps.toList ++ [32]) := by decide +kernel
  have e2 : (")" : Str).cps.toList = [41] := by decide +kernel
  rw [str_catL, str_catL, e1, e2, Sx.txt, Sx.txtL, Sx.txtR, Sx.txtR, Sx.txt, Sx.txt]
  try simp
theorem sxFun_sum {d : D} (h : FuD (ED 5) d) : (Sx.node (sxFun d)).txt.length ≤ 2300000 := by
  obtain ⟨z, at_, ps, r, b, rfl, hz, hpl, hps, hr, hb⟩ := h
  have hbl := sxE_len hb
  have hb5 := eB5
  have hrl := sxK_len hr
  rw [kB3] at hrl
  have hpsum := sumL_map_le (f := sxPar) (k := 680) (xs := ps) (fun x hx => sxPar_len (hps x hx))
  have hpm := mul_le (c := 680 + 1) hpl
  have hpn := node_sum (ps.map sxPar)
  have hz14 := hz.2.2
  have hf : ("fun" : Str).length = 3 := by decide +kernel
  have n1 := node_sum [.atom "fun", .atom z, .node (ps.map sxPar), sxK 3 r, sxE 5 b]
  rw [sumL_cons, sumL_cons, sumL_cons, sumL_cons, sumL_cons, atom_len, atom_len, hf] at n1
  have h0 : sumL [] = 0 := rfl
  show (Sx.node [.atom "fun", .atom z, .node (ps.map sxPar), sxK 3 r, sxE 5 b]).txt.length ≤ _
  omega
/-- all lines as forms -/
def allX (datas excs funs : List D) : List Sx := datas.map (fun d => .node (sxData d)) ++ excs.map (fun d => .node (sxExc d)) ++ funs.map (fun d => .node (sxFun d))
theorem allX_sum {datas excs funs : List D} (h1 : datas.length ≤ 10) (h2 : ∀ x ∈ datas, DataD x) (h3 : excs.length ≤ 10) (h4 : ∀ x ∈ excs, ∃ z, x = .str z ∧ NameOk z) (h5 : funs.length ≤ 3) (h6 : ∀ f ∈ funs, FuD (ED 5) f) : sumL (allX datas excs funs) ≤ 9000000 := by
  unfold allX
  rw [sumL_app, sumL_app]
  have a := sumL_map_le (f := fun d => Sx.node (sxData d)) (k := 70010) (xs := datas) (fun x hx => by
    obtain ⟨z, rs, rfl, hz, _, hrl, hrs⟩ := h2 x hx
    have s := sxData_sum hz hrl hrs
    have n := node_sum (.atom "data" :: .atom z :: rs.map sxRow)
    show (Sx.node (.atom "data" :: .atom z :: rs.map sxRow)).txt.length ≤ _
    omega)
  have b := sumL_map_le (f := fun d => Sx.node (sxExc d)) (k := 100) (xs := excs) (fun x hx => by
    obtain ⟨z, rfl, hz⟩ := h4 x hx
    have n := node_sum [.atom "exception", .atom z]
    have e9 : ("exception" : Str).length = 9 := by decide +kernel
    have h0 : sumL [] = 0 := rfl
    rw [sumL_cons, sumL_cons, atom_len, atom_len, e9] at n
    have := hz.2.2
    show (Sx.node [.atom "exception", .atom z]).txt.length ≤ _
    omega)
  have c := sumL_map_le (f := fun d => Sx.node (sxFun d)) (k := 2300000) (xs := funs) (fun x hx => sxFun_sum (h6 x hx))
  have m1 := mul_le (c := 70010 + 1) h1
  have m2 := mul_le (c := 100 + 1) h3
  have m3 := mul_le (c := 2300000 + 1) h5
  omega
section
variable {K : PySem.W.Frag} {vs : List V} {H : Hp} {Q : VK} {E : XK} {n : Nat}
theorem mem_len {z : Str} : ∀ {ys : List Str}, z ∈ ys → z.length ≤ (ys.map (·.length)).sum
  | y :: ys, h => by
    rw [List.map_cons, List.sum_cons]
    rcases List.mem_cons.mp h with rfl | h
    · omega
    · have := mem_len h
      omega
theorem nl_sum : ∀ (ys : List Str), ((ys.map (fun z => z ++ ("\n" : Str))).map (·.length)).sum = (ys.map (·.length)).sum + ys.length
  | [] => rfl
  | y :: ys => by
    have l1 : ("\n" : Str).length = 1 := by decide +kernel
    rw [List.map_cons, List.map_cons, List.sum_cons, nl_sum ys, List.map_cons, List.sum_cons, List.length_cons, str_cat, l1]
    omega
theorem allX_node {datas excs funs : List D} : allX datas excs funs = (sxT (.tup [.tup datas, .tup ([.str "Div", .str "Index", .str "Size"] ++ excs), .tup funs])).map Sx.node := by
  show _ = (datas.map sxData ++ excs.map sxExc ++ funs.map sxFun).map Sx.node
  unfold allX
  simp only [List.map_append, List.map_map]
  rfl
theorem nl_txt {ys : List Str} {ls : List (List Sx)} (h : TxtIs ys (ls.map Sx.node)) : (ys.map (fun z => z ++ ("\n" : Str))).map (fun y => y.cps.toList) = ls.map (fun cs => (Sx.node cs).txt ++ [10]) := by
  unfold TxtIs at h
  have e : (ys.map (fun z => z ++ ("\n" : Str))).map (fun y => y.cps.toList) = (ys.map (fun y => y.cps.toList)).map (fun l => l ++ [10]) := by
    rw [List.map_map, List.map_map]
    refine List.map_congr_left fun z _ => ?_
    show (z ++ ("\n" : Str)).cps.toList = z.cps.toList ++ [10]
    rw [str_catL]
    rfl
  rw [e, h, List.map_map, List.map_map]
  rfl
theorem WTx.appK {A : Addr} {H0 H1 H2 : Hp} {cs : List Sx} {c : Sx} {z : Str} {R : VK} (t : WTx A H0 cs H1) (h0 : H0 A = none) (s : Same H1 H2) (hz : TxtOf z c) (hn : cs.length < 100000) (q : ∀ H3, WTx A H0 (cs ++ [c]) H3 → Tk K H2 H3 → R .non H3) : uAppend (.ref A) [.str z] H2 R := by
  obtain ⟨s0, xs, e, tx⟩ := t
  have hl := tx.len
  refine ⟨_, s _ _ e, szt (by rw [List.length_map]; omega), q _ ⟨same_mut (s0.trans s) h0, xs ++ [z], ?_, tx.snoc hz⟩ (Tk.lst (s _ _ e))⟩
  rw [upd_same, strs_snoc5]
theorem rd_write_program (h : sp_write_program K vs H Q E) : t_write_program K { nx := fun _ H' => Q .non H', rt := Q } (start n_write_program vs) H := by
  obtain ⟨v, d, rfl, hv, ⟨datas, excs, funs, rfl, hdl, hdd, hel, hee, hfl, hff⟩, q⟩ := h
  have hsum := allX_sum hdl hdd hel hee hfl hff
  unfold t_write_program
  walk_at "u"
  refine r_gT3 hv fun x y w hx hy hw => ?_
  obtain ⟨a, us, rfl, sa, ta⟩ := hx.inv
  have ul := ta.len
  walk_at "u"
  refine it_tup ?_
  walk_at "u"
  refine ⟨a, rfl, ⟨_, sa⟩, fun C hC => ?_⟩
  refine c_tups (xs := us) (TInv C H (datas.map fun d => .node (sxData d))) (TInv.start hC) (fun i H' t => Same.tk t.1 _ _ sa) ?_ ?_
  · intro j x H5 hx2 tt
    obtain ⟨e, he, hxe⟩ := (ta.k (Same.tk tt.1)).getV hx2
    refine r_gname ⟨rfl, ?_⟩
    walk_at "u"
    refine ⟨x, e, rfl, hxe, hdd e (List.mem_of_getElem? he), fun zz H6 s6 hzz => ?_⟩
    have hj := (List.getElem?_eq_some_iff.mp he).1
    exact tt.step hC s6 (by rw [List.getElem?_map, he]; rfl) hzz (by omega)
  intro H1 tt
  obtain ⟨s1, xs, eC, tx⟩ := tt
  rw [ul, List.take_of_length_le (by rw [List.length_map]; exact Nat.le_refl _)] at tx
  have t0 : WTx C H (datas.map fun d => .node (sxData d)) H1 := ⟨s1, xs, eC, tx⟩
  walk_at "u"
  refine r_cut (fun σ' H' => WTx C H (datas.map (fun d => .node (sxData d)) ++ excs.map (fun d => .node (sxExc d))) H' ∧ ∃ y5, σ' = [some v, some (.ref a), some y, some w, some (.ref C), y5, none, none, none]) ?_ ?_
  · walk_at "u"
    refine it_tup ?_
    walk_at "u"
    refine r_slD (hy.k (Same.tk s1)) fun u H2 s2 hu => ?_
    have ecut : cutD (([.str "Div", .str "Index", .str "Size"] : List D) ++ excs) (some 3) none = excs := cutD3
    rw [ecut] at hu
    obtain ⟨b, bus, rfl, sb, tb⟩ := hu.inv
    have bl := tb.len
    have t2 : WTx C H (datas.map fun d => .node (sxData d)) H2 := ⟨s1.trans s2, xs, s2 _ _ eC, tx⟩
    refine ⟨b, rfl, ⟨_, sb⟩, f_tup (xs := bus) (fun i σ' H' => Tk K H2 H' ∧ WTx C H (datas.map (fun d => .node (sxData d)) ++ (excs.map (fun d => .node (sxExc d))).take i) H' ∧ ∃ y5, σ' = [some v, some (.ref a), some y, some w, some (.ref C), y5, none, none, none]) ⟨Tk.refl, by simpa using t2, none, rfl⟩ (fun i σ H' p => p.1 _ _ sb) ?_ ?_⟩
    · rintro i x σ H3 hx ⟨k3, t, y5, rfl⟩
      obtain ⟨ed, hed, hex⟩ := (tb.k k3).getV hx
      have hi := (List.getElem?_eq_some_iff.mp hed).1
      obtain ⟨z, rfl, hz⟩ := hee ed (List.mem_of_getElem? hed)
      have hex := hex.invS
      subst hex
      have hz14 := hz.2.2
      have l1 : ("(exception " : Str).length = 11 := by decide +kernel
      have l2 : (")" : Str).length = 1 := by decide +kernel
      walk_at "u"
      refine t.ty ?_
      walk_at "u"
      refine' r_addS ?hs2 ?_
      case hs2 => exact szl (by rw [str_cat, l1, l2]; omega)
      walk_at "u"
      refine t.appK (K := K) hC (Same.refl _) exc_txt (by rw [List.length_append, List.length_take, List.length_map, List.length_map]; omega) fun H5 t5 k5 => ?_
      walk_at "u"
      refine ⟨k3.trans k5, ?_, _, rfl⟩
      rw [List.take_add_one, List.getElem?_map, hed, ← List.append_assoc]
      exact t5
    · rintro σ H3 ⟨_, t, y5, rfl⟩
      rw [List.take_of_length_le (by rw [List.length_map, bl]; exact Nat.le_refl _)] at t
      exact ⟨t, y5, rfl⟩
  rintro σ H2 ⟨t2, y5, rfl⟩
  obtain ⟨b, bus, rfl, sb, tb⟩ := hw.inv
  have bl := tb.len
  refine r_cut (fun σ' H' => WTx C H (allX datas excs funs) H' ∧ ∃ y6, σ' = [some v, some (.ref a), some y, some (.ref b), some (.ref C), y5, y6, none, none]) ?_ ?_
  · walk_at "u"
    refine it_tup ?_
    walk_at "u"
    refine ⟨b, rfl, ⟨_, Same.tk t2.1 _ _ sb⟩, f_tup (xs := bus) (fun i σ' H' => WTx C H (datas.map (fun d => .node (sxData d)) ++ excs.map (fun d => .node (sxExc d)) ++ (funs.map (fun d => .node (sxFun d))).take i) H' ∧ ∃ y6, σ' = [some v, some (.ref a), some y, some (.ref b), some (.ref C), y5, y6, none, none]) ⟨by simpa using t2, none, rfl⟩ (fun i σ H' p => Same.tk p.1.1 _ _ sb) ?_ ?_⟩
    · rintro i x σ H3 hx ⟨t, y6, rfl⟩
      obtain ⟨ed, hed, hex⟩ := (tb.k (Same.tk t.1)).getV hx
      have hi := (List.getElem?_eq_some_iff.mp hed).1
      walk_at "u"
      refine t.ty ?_
      walk_at "u"
      refine ⟨x, ed, rfl, hex, hff ed (List.mem_of_getElem? hed), fun zz H4 s4 hzz => ?_⟩
      walk_at "u"
      refine t.app hC s4 hzz (by rw [List.length_append, List.length_append, List.length_take, List.length_map, List.length_map, List.length_map]; omega) fun H5 t5 => ?_
      walk_at "u"
      refine ⟨?_, _, rfl⟩
      rw [List.take_add_one, List.getElem?_map, hed, ← List.append_assoc]
      exact t5
    · rintro σ H3 ⟨t, y6, rfl⟩
      rw [List.take_of_length_le (by rw [List.length_map, bl]; exact Nat.le_refl _)] at t
      exact ⟨t, y6, rfl⟩
  rintro σ H3 ⟨⟨s3, ys, eC3, tx3⟩, y6, rfl⟩
  have hys := sum_len ys _ tx3
  walk_at "u"
  refine it_list ?_
  walk_at "u"
  refine ⟨C, rfl, ⟨_, SqL.of eC3⟩, fun G hG => ?_⟩
  refine c_lists (xs := ys.map V.str) (CF G H3 ((ys.map (fun z => z ++ ("\n" : Str))).map V.str)) (CF.start hG) (fun i H' c => SqL.of (c.1 _ _ eC3)) ?_ ?_
  · intro i x H4 hx c
    rw [List.getElem?_map] at hx
    obtain ⟨z, hz, rfl⟩ := Option.map_eq_some_iff.mp hx
    have hzl := mem_len (List.mem_of_getElem? hz)
    have hi := (List.getElem?_eq_some_iff.mp hz).1
    have l1 : ("\n" : Str).length = 1 := by decide +kernel
    refine r_gname ⟨rfl, ?_⟩
    walk_at "u"
    refine c.step hG (Same.refl _) ?_ (by omega)
    rw [List.getElem?_map, List.getElem?_map, hz]
    rfl
  intro H4 c
  have hll : (ys.map V.str).length = ((ys.map (fun z => z ++ ("\n" : Str))).map V.str).length := by rw [List.length_map, List.length_map, List.length_map]
  rw [hll] at c
  have e := c.done
  have s34 : Same H3 H4 := fun b o hb => c.1 b o hb
  have l0 : ("" : Str).length = 0 := by decide +kernel
  walk_at "u"
  refine ⟨ys.map (fun z => z ++ ("\n" : Str)), .inl (SqL.of e), by rw [nl_sum, l0]; omega, ?_⟩
  refine q _ H4 (s3.trans s34) ?_
  rw [allX_node] at tx3
  have e5 := TL.tl_join (Str.ofString "") (ys.map (fun z => z ++ ("\n" : Str)))
  have e0 : TL.tl (Str.ofString "") = [] := by decide +kernel
  rw [TL.join_eq]
  show TL.tl _ = _
  rw [e5, e0, joinL_nil7]
  exact lines_flat _ _ (nl_txt tx3)
end
theorem tkL_app : ∀ (as bs : List Sx), Sx.tkL (as ++ bs) = Sx.tkL as ++ Sx.tkL bs
  | [], bs => by rw [Sx.tkL]; rfl
  | a :: as, bs => by rw [List.cons_append, Sx.tkL, Sx.tkL, tkL_app as bs, List.append_assoc]
theorem tkL_one (c : Sx) : Sx.tkL [c] = c.tk := by rw [Sx.tkL, Sx.tkL, List.append_nil]
theorem tkL_take {cs : List Sx} {i : Nat} {c : Sx} (h : cs[i]? = some c) : Sx.tkL (cs.take (i + 1)) = Sx.tkL (cs.take i) ++ c.tk ∧ (Sx.tkL (cs.take i)).length + c.tk.length ≤ (Sx.tkL cs).length := by
  have e : cs.take (i + 1) = cs.take i ++ [c] := by rw [List.take_add_one, h]; rfl
  have e1 : Sx.tkL (cs.take (i + 1)) = Sx.tkL (cs.take i) ++ c.tk := by rw [e, tkL_app, tkL_one]
  refine ⟨e1, ?_⟩
  have e2 : Sx.tkL cs = Sx.tkL (cs.take (i + 1)) ++ Sx.tkL (cs.drop (i + 1)) := by rw [← tkL_app, List.take_append_drop]
  have e3 := congrArg List.length e2
  rw [e1, List.length_append, List.length_append] at e3
  omega
section
variable {K : PySem.W.Frag} {vs : List V} {H : Hp} {Q : VK} {E : XK} {n : Nat}
/-- the words so far at r -/
def Wd (r : Addr) (H0 : Hp) (ws : List Str) (H : Hp) : Prop := Fr r H0 H ∧ H r = some (.lst (ws.map V.str))
theorem Wd.app {r : Addr} {H0 H1 : Hp} {ws : List Str} {z : Str} {R : VK} (t : Wd r H0 ws H1) (hn : roomW ws 1) (q : ∀ H2, Wd r H0 (ws ++ [z]) H2 → R .non H2) : uAppend (.ref r) [.str z] H1 R := by
  unfold roomW at hn
  refine ⟨_, t.2, szt (by rw [List.length_map]; omega), q _ ⟨t.1.self, ?_⟩⟩
  rw [upd_same, strs_snoc5]
theorem Wd.ty {r : Addr} {H0 H1 : Hp} {ws : List Str} {B : Prop} (t : Wd r H0 ws H1) (b : B) : tyV K "list" (.ref r) H1 ∧ B := ⟨.inl ⟨rfl, _, SqL.of t.2⟩, b⟩
theorem Wd.same {r : Addr} {H0 H1 H2 : Hp} {ws : List Str} (t : Wd r H0 ws H1) (s : Same H1 H2) : Wd r H0 ws H2 := ⟨t.1.trans (Fr.same s), s _ _ t.2⟩
theorem rd_l_kind_words (h : spr_l_kind_words (n + 1) K vs H Q E) : t_l_kind_words K (spr_l_kind_words n) { nx := fun _ H' => Q .non H', rt := Q } (start n_l_kind_words vs) H := by
  obtain ⟨v, d, r, ws, rfl, hv, hk, er, hroom, q⟩ := h
  obtain ⟨hh, w, rfl, hc⟩ := hk
  have t0 : Wd r H ws H := ⟨Fr.refl, er⟩
  unfold roomW at hroom
  unfold t_l_kind_words
  walk_at "u"
  refine r_ixD (k := 0) hv rfl fun u hu => ?_
  have hu := hu.invS
  subst hu
  walk_at "u"
  refine ⟨szl (by simp), fun T hT => ?_⟩
  obtain ⟨H1, e1, s1, eT⟩ := lay_new (o := .tup [.str "int", .str "bool", .str "unit"]) hT
  rw [e1]
  have t1 := t0.same s1
  have hv1 := hv.k (Same.tk s1)
  refine r_inS (ss := ["int", "bool", "unit"]) (SqT.of eT) ?_
  walk_at "u"
  rcases hc with ⟨hx, rfl⟩ | ⟨rfl, z, rfl, hz⟩ | ⟨ds, rfl, hx, h0, h6, hs⟩
  · have esx : (sxK (n + 1) (.tup [.str hh, .tup [], .int 0])).tk = [hh] := by
      show (Sx.atom hh).tk = _
      rw [Sx.tk]
    rw [esx] at q hroom
    refine br_y hx ?_
    walk_at "u"
    refine t1.ty ?_
    walk_at "u"
    refine r_ixD (k := 0) hv1 rfl fun u hu => ?_
    have hu := hu.invS
    subst hu
    walk_at "u"
    exact t1.app hroom fun H2 t2 => q H2 t2.1 t2.2
  · have esx : (sxK (n + 1) (.tup [.str "data", .str z, .int 0])).tk = [z] := by
      show (Sx.atom z).tk = _
      rw [Sx.tk]
    rw [esx] at q hroom
    refine br_n (by decide +kernel) ?_
    walk_at "u"
    refine r_ixD (k := 0) hv1 rfl fun u hu => ?_
    have hu := hu.invS
    subst hu
    walk_at "u"
    try refine br_y rfl ?_
    walk_at "u"
    refine t1.ty ?_
    walk_at "u"
    refine r_ixD (k := 1) hv1 rfl fun u hu => ?_
    have hu := hu.invS
    subst hu
    walk_at "u"
    exact t1.app hroom fun H2 t2 => q H2 t2.1 t2.2
  · have esx : (sxK (n + 1) (.tup [.str hh, .tup ds, .int 0])).tk = lp :: (hh :: Sx.tkL (ds.map (sxK n)) ++ [rp]) := by
      have e : sxK (n + 1) (.tup [.str hh, .tup ds, .int 0]) = .node (.atom hh :: ds.map (sxK n)) := by
        show (if ds.isEmpty then _ else _) = _
        cases ds with
        | nil => cases h0
        | cons a b => rfl
      rw [e, Sx.tk, Sx.tkL, Sx.tk]
      rfl
    rw [esx] at q hroom
    simp only [List.length_cons, List.length_append, List.length_nil] at hroom
    have hnl : hh ∉ (["int", "bool", "unit"] : List Str) := by
      simp only [nodeK, List.mem_cons, List.not_mem_nil, or_false] at hx
      rcases hx with rfl | rfl | rfl | rfl <;> decide +kernel
    have hnd : hh ≠ "data" := by
      simp only [nodeK, List.mem_cons, List.not_mem_nil, or_false] at hx
      rcases hx with rfl | rfl | rfl | rfl <;> decide +kernel
    refine br_n hnl ?_
    walk_at "u"
    refine r_ixD (k := 0) hv1 rfl fun u hu => ?_
    have hu := hu.invS
    subst hu
    walk_at "u"
    try refine br_n hnd ?_
    walk_at "u"
    refine t1.ty ?_
    walk_at "u"
    refine t1.app (by unfold roomW; omega) fun H2 t2 => ?_
    walk_at "u"
    refine t2.ty ?_
    walk_at "u"
    refine r_ixD (k := 0) (hv.k (t2.1.tk er)) rfl fun u hu => ?_
    have hu := hu.invS
    subst hu
    walk_at "u"
    refine t2.app (by unfold roomW; simp only [List.length_append, List.length_cons, List.length_nil]; omega) fun H3 t3 => ?_
    walk_at "u"
    refine r_cut (fun σ' H' => Wd r H (ws ++ [lp] ++ [hh] ++ Sx.tkL (ds.map (sxK n))) H' ∧ ∃ y2, σ' = [some v, some (.ref r), y2]) ?_ ?_
    · walk_at "u"
      refine it_tup ?_
      walk_at "u"
      refine r_ixD (k := 1) (hv.k (t3.1.tk er)) rfl fun u hu => ?_
      obtain ⟨b, us, rfl, sb, tb⟩ := hu.inv
      have bl := tb.len
      refine ⟨b, rfl, ⟨_, sb⟩, f_tup (xs := us) (fun i σ' H' => Tk K H3 H' ∧ Wd r H (ws ++ [lp] ++ [hh] ++ Sx.tkL ((ds.map (sxK n)).take i)) H' ∧ ∃ y2, σ' = [some v, some (.ref r), y2]) ⟨Tk.refl, by rw [List.take_zero, Sx.tkL, List.append_nil]; exact t3, none, rfl⟩ (fun i σ H' p => p.1 _ _ sb) ?_ ?_⟩
      · rintro i x σ H4 hx2 ⟨k4, t4, y2, rfl⟩
        obtain ⟨ed, hed, hex⟩ := (tb.k k4).getV hx2
        obtain ⟨g1, g2⟩ := tkL_take (cs := ds.map (sxK n)) (i := i) (c := sxK n ed) (by rw [List.getElem?_map, hed]; rfl)
        walk_at "u"
        refine ⟨x, ed, r, _, rfl, hex, hs ed (List.mem_of_getElem? hed), t4.2, by unfold roomW; simp only [List.length_append, List.length_cons, List.length_nil]; omega, fun H5 f5 e5 => ?_⟩
        walk_at "u"
        refine ⟨k4.trans (f5.tk t4.2), ⟨t4.1.trans f5, ?_⟩, _, rfl⟩
        rw [g1, ← List.append_assoc]
        exact e5
      · rintro σ H4 ⟨_, t4, y2, rfl⟩
        rw [List.take_of_length_le (by rw [List.length_map, bl]; exact Nat.le_refl _)] at t4
        exact ⟨t4, y2, rfl⟩
    rintro σ H4 ⟨t4, y2, rfl⟩
    walk_at "u"
    refine t4.ty ?_
    walk_at "u"
    refine t4.app (by unfold roomW; simp only [List.length_append, List.length_cons, List.length_nil]; omega) fun H5 t5 => ?_
    walk_at "u"
    refine q H5 t5.1 ?_
    rw [t5.2]
    simp
end
local macro_rules | `(tactic| walk_at "rm") => `(tactic| (unfold roomW; (try simp only [List.length_append, List.length_cons, List.length_nil, List.length_map]); omega))
section
variable {K : PySem.W.Frag} {vs : List V} {H : Hp} {Q : VK} {E : XK} {n : Nat}
theorem tkL_cons {c : Sx} {cs : List Sx} : Sx.tkL (c :: cs) = c.tk ++ Sx.tkL cs := by rw [Sx.tkL]
theorem tkL_nil : Sx.tkL [] = [] := by rw [Sx.tkL]
theorem tk_atom {z : Str} : (Sx.atom z).tk = [z] := by rw [Sx.tk]
theorem tk_node {cs : List Sx} : (Sx.node cs).tk = lp :: (Sx.tkL cs ++ [rp]) := by rw [Sx.tk]
theorem Wd.apk {r : Addr} {H0 H1 : Hp} {ws : List Str} {z : Str} {R : VK} (t : Wd r H0 ws H1) (hn : roomW ws 1) (q : ∀ H2, Wd r H0 (ws ++ [z]) H2 → Tk K H1 H2 → R .non H2) : uAppend (.ref r) [.str z] H1 R := by
  unfold roomW at hn
  have f : Fr r H1 (upd H1 r (.lst (ws.map V.str ++ [V.str z]))) := Fr.refl.self
  refine ⟨_, t.2, szt (by rw [List.length_map]; omega), q _ ⟨t.1.trans f, ?_⟩ (f.tk t.2)⟩
  rw [upd_same, strs_snoc5]
theorem Wd.kw {r : Addr} {H1 : Hp} {ws : List Str} {v : V} {k : D} {R : VK} (t : Wd r H ws H1) (h : Td K H1 v k) (hk : KiD 3 k) (hn : roomW ws (sxK 3 k).tk.length) (q : ∀ H2, Wd r H (ws ++ (sxK 3 k).tk) H2 → Tk K H1 H2 → R .non H2) : sp_l_kind_words K [v, .ref r] H1 R E0 :=
  ⟨v, k, r, ws, rfl, h, hk, t.2, hn, fun H2 f e => q H2 ⟨t.1.trans f, e⟩ (f.tk t.2)⟩
theorem rd_l_head (h : sp_l_head K vs H Q E) : t_l_head K { nx := fun _ H' => Q .non H', rt := Q } (start n_l_head vs) H := by
  obtain ⟨v, op, at_, info, kids, arms, r, ws, rfl, hv, hl, hop, hi, er, hroom, q⟩ := h
  have t0 : Wd r H ws H := ⟨Fr.refl, er⟩
  unfold roomW at hroom
  unfold t_l_head
  walk_at "u"
  refine r_gT5 hv fun x y z u w hx hy hz hu hw => ?_
  have hx := hx.invS
  have hy := hy.invI
  subst hx hy
  walk_at "u"
  refine t0.app (by unfold roomW; omega) fun H1 t1 => ?_
  clear t0
  walk_at "u"
  refine t1.ty ?_
  walk_at "u"
  refine ⟨szl (by simp), fun T hT => ?_⟩
  obtain ⟨H2, e2, s2, eT⟩ := lay_new (o := .tup [.str "call", .str "make"]) hT
  rw [e2]
  have t2 := t1.same s2
  clear t1
  refine r_inS (ss := ["call", "make"]) (SqT.of eT) ?_
  have hz2 := hz.k (t2.1.tk er)
  clear hz hu hw hv e2 hT eT s2 er
  walk_at "u"
  rcases hi with ⟨e, _⟩ | ⟨e, _⟩ | ⟨e, _⟩ | ⟨e, _⟩ | ⟨ho, z, rfl, nz⟩ | ⟨rfl, i, rfl, hi⟩ | ⟨ho, z, k, rfl, nz, kf⟩ | ⟨ho1, ho2, ho3, ho4, rfl⟩
  · exact absurd (by rw [e]; decide +kernel) hl
  · exact absurd (by rw [e]; decide +kernel) hl
  · exact absurd (by rw [e]; decide +kernel) hl
  · exact absurd (by rw [e]; decide +kernel) hl
  · have hz2 := hz2.invS
    subst hz2
    simp only [strOps, List.mem_cons, List.not_mem_nil, or_false] at ho
    rcases ho with rfl | rfl | rfl
    · have e : Sx.tkL (sxHead "call" (.str z)) = [z] := by
        show Sx.tkL [.atom z] = _
        rw [tkL_one, tk_atom]
      rw [e] at q hroom
      simp only [List.length_cons, List.length_nil] at hroom
      refine br_y (by decide +kernel) ?_
      walk_at "u"
      refine t2.app (by unfold roomW; simp only [List.length_append, List.length_cons, List.length_nil]; omega) fun H3 t3 => ?_
      repeat (first | walk_at "ui" | (refine br_n (by decide +kernel) ?_))
      walk_at "u"
      exact q H3 t3.1 (by rw [t3.2]; simp)
    · have e : Sx.tkL (sxHead "let" (.str z)) = [("let" : Str), z] := by
        show Sx.tkL [.atom "let", .atom z] = _
        rw [tkL_cons, tkL_one, tk_atom, tk_atom]
        rfl
      rw [e] at q hroom
      simp only [List.length_cons, List.length_nil] at hroom
      refine br_n (by decide +kernel) ?_
      walk_at "u"
      refine t2.app (by unfold roomW; simp only [List.length_append, List.length_cons, List.length_nil]; omega) fun H3 t3 => ?_
      repeat (first | walk_at "ui" | (refine br_n (by decide +kernel) ?_))
      walk_at "u"
      try refine t3.ty ?_
      walk_at "u"
      refine t3.app (by unfold roomW; simp only [List.length_append, List.length_cons, List.length_nil]; omega) fun H4 t4 => ?_
      repeat (first | walk_at "ui" | (refine br_n (by decide +kernel) ?_))
      walk_at "u"
      exact q H4 t4.1 (by rw [t4.2]; simp)
    · have e : Sx.tkL (sxHead "make" (.str z)) = [z] := by
        show Sx.tkL [.atom z] = _
        rw [tkL_one, tk_atom]
      rw [e] at q hroom
      simp only [List.length_cons, List.length_nil] at hroom
      refine br_y (by decide +kernel) ?_
      walk_at "u"
      refine t2.app (by unfold roomW; simp only [List.length_append, List.length_cons, List.length_nil]; omega) fun H3 t3 => ?_
      repeat (first | walk_at "ui" | (refine br_n (by decide +kernel) ?_))
      walk_at "u"
      exact q H3 t3.1 (by rw [t3.2]; simp)
  · have hz2 := hz2.invI
    subst hz2
    have e : Sx.tkL (sxHead "get" (.int i)) = [("get" : Str), numS i] := by
      show Sx.tkL [.atom "get", .atom (numS i)] = _
      rw [tkL_cons, tkL_one, tk_atom, tk_atom]
      rfl
    rw [e] at q hroom
    simp only [List.length_cons, List.length_nil] at hroom
    refine br_n (by decide +kernel) ?_
    walk_at "u"
    refine t2.app (by unfold roomW; simp only [List.length_append, List.length_cons, List.length_nil]; omega) fun H3 t3 => ?_
    walk_at "ui"
    refine t3.ty ?_
    walk_at "u"
    refine r_strI (log_small (by omega) (by omega)) ?_
    walk_at "u"
    refine t3.app (by unfold roomW; simp only [List.length_append, List.length_cons, List.length_nil]; omega) fun H4 t4 => ?_
    repeat (first | walk_at "ui" | (refine br_n (by decide +kernel) ?_))
    walk_at "u"
    exact q H4 t4.1 (by rw [t4.2]; simp; rfl)
  · simp only [pairOps, List.mem_cons, List.not_mem_nil, or_false] at ho
    rcases ho with rfl | rfl
    · have e : Sx.tkL (sxHead "fn" (.tup [.str z, k])) = ("fn" : Str) :: (lp :: (z :: ((sxK 3 k).tk ++ [rp]))) := by
        show Sx.tkL [.atom "fn", .node [.atom z, sxK 3 k]] = _
        rw [tkL_cons, tkL_one, tk_atom, tk_node, tkL_cons, tkL_one, tk_atom]
        rfl
      rw [e] at q hroom
      simp only [List.length_append, List.length_cons, List.length_nil] at hroom
      refine br_n (by decide +kernel) ?_
      walk_at "u"
      refine t2.apk (K := K) (by walk_at "rm") fun H3 t3 k3 => ?_
      repeat (first | walk_at "ui" | (refine br_n (by decide +kernel) ?_))
      walk_at "u"
      try refine t3.ty ?_
      walk_at "u"
      refine t3.apk (K := K) (by walk_at "rm") fun H4 t4 k4 => ?_
      walk_at "u"
      refine t4.ty ?_
      walk_at "u"
      refine r_ixD (k := 0) (hz2.k (k3.trans k4)) rfl fun u hu => ?_
      have hu := hu.invS
      subst hu
      walk_at "u"
      refine t4.apk (K := K) (by walk_at "rm") fun H5 t5 k5 => ?_
      walk_at "u"
      refine r_ixD (k := 1) (hz2.k ((k3.trans k4).trans k5)) rfl fun u hu => ?_
      walk_at "u"
      refine t5.kw hu kf (by walk_at "rm") fun H6 t6 k6 => ?_
      walk_at "u"
      refine t6.ty ?_
      walk_at "u"
      refine t6.app (by walk_at "rm") fun H7 t7 => ?_
      repeat (first | walk_at "ui" | (refine br_n (by decide +kernel) ?_))
      walk_at "u"
      exact q H7 t7.1 (by rw [t7.2]; simp)
    · have e : Sx.tkL (sxHead "raise" (.tup [.str z, k])) = ("raise" : Str) :: (z :: (sxK 3 k).tk) := by
        show Sx.tkL [.atom "raise", .atom z, sxK 3 k] = _
        rw [tkL_cons, tkL_cons, tkL_one, tk_atom, tk_atom]
        rfl
      rw [e] at q hroom
      simp only [List.length_append, List.length_cons, List.length_nil] at hroom
      refine br_n (by decide +kernel) ?_
      walk_at "u"
      refine t2.apk (K := K) (by walk_at "rm") fun H3 t3 k3 => ?_
      repeat (first | walk_at "ui" | (refine br_n (by decide +kernel) ?_))
      walk_at "u"
      try refine t3.ty ?_
      walk_at "u"
      refine r_ixD (k := 0) (hz2.k k3) rfl fun u hu => ?_
      have hu := hu.invS
      subst hu
      walk_at "u"
      refine t3.apk (K := K) (by walk_at "rm") fun H4 t4 k4 => ?_
      walk_at "u"
      refine r_ixD (k := 1) (hz2.k (k3.trans k4)) rfl fun u hu => ?_
      walk_at "u"
      refine t4.kw hu kf (by walk_at "rm") fun H5 t5 k5 => ?_
      walk_at "u"
      exact q H5 t5.1 (by rw [t5.2]; simp)
  · have n1 : op ≠ "call" := fun e => ho2 (by rw [e]; decide +kernel)
    have n2 : op ≠ "make" := fun e => ho2 (by rw [e]; decide +kernel)
    have n3 : op ≠ "let" := fun e => ho2 (by rw [e]; decide +kernel)
    have n4 : op ≠ "fn" := fun e => ho4 (by rw [e]; decide +kernel)
    have n5 : op ≠ "raise" := fun e => ho4 (by rw [e]; decide +kernel)
    have e : Sx.tkL (sxHead op .non) = [op] := by
      show Sx.tkL [.atom op] = _
      rw [tkL_one, tk_atom]
    rw [e] at q hroom
    simp only [List.length_cons, List.length_nil] at hroom
    refine br_n (fun e => by
      simp only [List.mem_cons, List.not_mem_nil, or_false] at e
      rcases e with e | e
      · exact n1 e
      · exact n2 e) ?_
    walk_at "u"
    refine t2.app (by unfold roomW; simp only [List.length_append, List.length_cons, List.length_nil]; omega) fun H3 t3 => ?_
    walk_at "ui"
    try refine br_n ho3 ?_
    walk_at "u"
    walk_at "ui"
    try refine br_n n3 ?_
    walk_at "u"
    walk_at "ui"
    try refine br_n n4 ?_
    walk_at "u"
    try refine br_n n5 ?_
    walk_at "u"
    exact q H3 t3.1 (by rw [t3.2]; simp)
end
section
variable {K : PySem.W.Frag} {vs : List V} {H : Hp} {Q : VK} {E : XK} {n : Nat}
theorem Wd.non {r A : Addr} {H1 : Hp} {ws : List Str} (t : Wd r H ws H1) (h : H1 A = none) : H A = none := by
  cases e : H A with
  | none => rfl
  | some o' =>
    by_cases ar : A = r
    · subst ar; rw [t.2] at h; cases h
    · rw [t.1 _ _ ar e] at h; cases h
theorem Wd.ne {r A : Addr} {H1 : Hp} {ws : List Str} (t : Wd r H ws H1) (h : H1 A = none) : A ≠ r := (ne_of_none t.2 h).symm
theorem Wd.mut {r A : Addr} {H1 : Hp} {ws : List Str} {o : HO} (t : Wd r H ws H1) (h : H A = none) (hA : A ≠ r) : Wd r H ws (upd H1 A o) := ⟨t.1.mut h, by rw [upd_ne hA.symm]; exact t.2⟩
/-- what the list at A holds: data with the forms of the first i -/
def LB (K : PySem.W.Frag) (A : Addr) (g : D → Sx) (G : D → Prop) (kids : List D) (i : Nat) (H : Hp) : Prop :=
  ∃ vs ds, H A = some (.lst vs) ∧ TdL K H vs ds ∧ ds.length = i ∧ (∀ d ∈ ds, G d) ∧ ds.map g = (kids.map g).take i
section
variable {A r : Addr} {g : D → Sx} {G : D → Prop} {kids : List D} {i : Nat} {H1 H2 : Hp}
theorem LB.start : LB K A g G kids 0 (upd H A (.lst [])) := ⟨[], [], upd_same, .nil, rfl, (fun _ h => nomatch h), by simp⟩
theorem LB.keep (b : LB K A g G kids i H1) (f : Fr r H1 H2) (hA : A ≠ r) (tk : Tk K H1 H2) : LB K A g G kids i H2 := by
  obtain ⟨vs, ds, e, t, l, gs, m⟩ := b
  exact ⟨vs, ds, f _ _ hA e, t.k tk, l, gs, m⟩
theorem LB.app {R : VK} {y : V} {d kd : D} (b : LB K A g G kids i H1) (hk : kids[i]? = some kd) (ty : Td K H1 y d) (gd : G d) (e : g d = g kd) (hi : i < 60000) (q : ∀ vs, H1 A = some (.lst vs) → LB K A g G kids (i + 1) (upd H1 A (.lst (vs ++ [y]))) → R .non (upd H1 A (.lst (vs ++ [y])))) : uAppend (.ref A) [y] H1 R := by
  obtain ⟨vs, ds, eA, t, l, gs, m⟩ := b
  refine ⟨vs, eA, szt (by rw [t.len]; omega), q vs eA ⟨vs ++ [y], ds ++ [d], upd_same, (t.append (.one ty)).k (Tk.lst eA), by simp [l], ?_, ?_⟩⟩
  · intro x hx
    rcases List.mem_append.mp hx with h | h
    · exact gs x h
    · rw [List.mem_singleton.mp h]; exact gd
  · rw [List.map_append, m, List.take_add_one, List.getElem?_map, hk]
    simp [e]
theorem LB.lc {P : Hp → Prop} {y : V} {d kd : D} (b : LB K A g G kids i H1) (hk : kids[i]? = some kd) (ty : Td K H1 y d) (gd : G d) (e : g d = g kd) (hi : i < 60000) (q : ∀ vs, H1 A = some (.lst vs) → LB K A g G kids (i + 1) (upd H1 A (.lst (vs ++ [y]))) → P (upd H1 A (.lst (vs ++ [y])))) : LcEnd A P y H1 := by
  obtain ⟨vs, ds, eA, t, l, gs, m⟩ := b
  refine ⟨vs, eA, szt (by rw [t.len]; omega), q vs eA ⟨vs ++ [y], ds ++ [d], upd_same, (t.append (.one ty)).k (Tk.lst eA), by simp [l], ?_, ?_⟩⟩
  · intro x hx
    rcases List.mem_append.mp hx with h | h
    · exact gs x h
    · rw [List.mem_singleton.mp h]; exact gd
  · rw [List.map_append, m, List.take_add_one, List.getElem?_map, hk]
    simp [e]
theorem LB.done (b : LB K A g G kids kids.length H1) : ∃ vs ds, H1 A = some (.lst vs) ∧ TdL K H1 vs ds ∧ ds.length = kids.length ∧ (∀ d ∈ ds, G d) ∧ ds.map g = kids.map g := by
  obtain ⟨vs, ds, eA, t, l, gs, m⟩ := b
  exact ⟨vs, ds, eA, t, l, gs, by rw [m, List.take_of_length_le (by rw [List.length_map]; exact Nat.le_refl _)]⟩
end
def lpIf (op : Str) : List Str := if op = "case" then [lp] else []
def rpIf (op : Str) : List Str := if op = "case" then [rp] else []
theorem tk_vars : ∀ vars : List D, Sx.tkL (vars.map fun v => Sx.atom (strD v)) = vars.map strD
  | [] => tkL_nil
  | a :: r => by rw [List.map_cons, tkL_cons, tk_atom, tk_vars r]; rfl
theorem tk_arm {op nm : Str} {vars : List D} {body : D} {g : D → Sx} : (sxArm op g (.tup [.str nm, .tup vars, body])).tk = lp :: (lpIf op ++ (nm :: (vars.map strD ++ (rpIf op ++ ((g body).tk ++ [rp]))))) := by
  unfold sxArm lpIf rpIf
  dsimp only
  split
  · rw [tk_node, tkL_cons, tk_node, tkL_cons, tk_atom, tk_vars, tkL_one]
    simp
  · rw [tk_node, List.cons_append, tkL_cons, tk_atom, tkL_app, tk_vars, tkL_one]
    simp
theorem sxArm_same {op nm : Str} {vars : List D} {b b' : D} {g : D → Sx} (e : g b' = g b) : sxArm op g (.tup [.str nm, .tup vars, b']) = sxArm op g (.tup [.str nm, .tup vars, b]) := by
  unfold sxArm
  dsimp only
  rw [e]
end
section
variable {K : PySem.W.Frag} {vs : List V} {H : Hp} {Q : VK} {E : XK} {n : Nat}
theorem tk_data {z : Str} {rs : List D} : (Sx.node (sxData (.tup [.str z, .tup rs]))).tk = lp :: ("data" :: (z :: (Sx.tkL (rs.map sxRow) ++ [rp]))) := by
  show (Sx.node (.atom "data" :: .atom z :: rs.map sxRow)).tk = _
  rw [tk_node, tkL_cons, tkL_cons, tk_atom, tk_atom]
  rfl
theorem tk_row {z : Str} {ks : List D} : (sxRow (.tup [.str z, .tup ks])).tk = lp :: (z :: (Sx.tkL (ks.map (sxK 3)) ++ [rp])) := by
  show (Sx.node (.atom z :: ks.map (sxK 3))).tk = _
  rw [tk_node, tkL_cons, tk_atom]
  rfl
theorem rd_l_data_words (h : sp_l_data_words K vs H Q E) : t_l_data_words K { nx := fun _ H' => Q .non H', rt := Q } (start n_l_data_words vs) H := by
  obtain ⟨v, d, r, ws, rfl, hv, ⟨z, rs, rfl, hz, h0, hl, hr⟩, er, hroom, q⟩ := h
  have t0 : Wd r H ws H := ⟨Fr.refl, er⟩
  rw [tk_data] at hroom q
  unfold roomW at hroom
  simp only [List.length_append, List.length_cons, List.length_nil] at hroom
  unfold t_l_data_words
  walk_at "u"
  refine t0.app (by walk_at "rm") fun H1 t1 => ?_
  walk_at "u"
  refine t1.ty ?_
  walk_at "u"
  refine t1.app (by walk_at "rm") fun H2 t2 => ?_
  walk_at "u"
  refine t2.ty ?_
  walk_at "u"
  refine r_ixD (k := 0) (hv.k (t2.1.tk er)) rfl fun u hu => ?_
  have hu := hu.invS
  subst hu
  walk_at "u"
  refine t2.app (by walk_at "rm") fun H3 t3 => ?_
  refine r_cut (fun σ' H' => Wd r H (ws ++ [lp] ++ [("data" : Str)] ++ [z] ++ Sx.tkL (rs.map sxRow)) H' ∧ ∃ y2 y3 y4, σ' = [some v, some (.ref r), y2, y3, y4]) ?_ ?_
  · walk_at "u"
    refine it_tup ?_
    walk_at "u"
    refine r_ixD (k := 1) (hv.k (t3.1.tk er)) rfl fun u hu => ?_
    obtain ⟨b, us, rfl, sb, tb⟩ := hu.inv
    have bl := tb.len
    refine ⟨b, rfl, ⟨_, sb⟩, f_tup (xs := us) (fun i σ' H' => Tk K H3 H' ∧ Wd r H (ws ++ [lp] ++ [("data" : Str)] ++ [z] ++ Sx.tkL ((rs.map sxRow).take i)) H' ∧ ∃ y2 y3 y4, σ' = [some v, some (.ref r), y2, y3, y4]) ⟨Tk.refl, by rw [List.take_zero, Sx.tkL, List.append_nil]; exact t3, none, none, none, rfl⟩ (fun i σ H' p => p.1 _ _ sb) ?_ ?_⟩
    · rintro i x σ H4 hx2 ⟨k4, t4, y2, y3, y4, rfl⟩
      obtain ⟨ed, hed, hex⟩ := (tb.k k4).getV hx2
      obtain ⟨g1, g2⟩ := tkL_take (cs := rs.map sxRow) (i := i) (c := sxRow ed) (by rw [List.getElem?_map, hed]; rfl)
      obtain ⟨zr, ks, rfl, hzr, hkl, hk⟩ := hr ed (List.mem_of_getElem? hed)
      rw [tk_row] at g1 g2
      simp only [List.length_append, List.length_cons, List.length_nil] at g2
      refine r_gT2 hex fun xn xk hxn hxk => ?_
      have hxn := hxn.invS
      subst hxn
      walk_at "u"
      refine t4.ty ?_
      walk_at "u"
      refine t4.apk (K := K) (by walk_at "rm") fun H5 t5 k5 => ?_
      walk_at "u"
      refine t5.ty ?_
      walk_at "u"
      refine t5.apk (K := K) (by walk_at "rm") fun H6 t6 k6 => ?_
      have k46 : Tk K H4 H6 := k5.trans k6
      refine r_cut (fun σ' H' => Tk K H4 H' ∧ Wd r H (ws ++ [lp] ++ [("data" : Str)] ++ [z] ++ Sx.tkL ((rs.map sxRow).take i) ++ [lp] ++ [zr] ++ Sx.tkL (ks.map (sxK 3))) H' ∧ ∃ y4, σ' = [some v, some (.ref r), some (.str zr), some xk, y4]) ?_ ?_
      · walk_at "u"
        refine it_tup ?_
        walk_at "u"
        obtain ⟨kb, kus, rfl, skb, tkb⟩ := (hxk.k k46).inv
        have kbl := tkb.len
        refine ⟨kb, rfl, ⟨_, skb⟩, f_tup (xs := kus) (fun j σ' H' => Tk K H6 H' ∧ Wd r H (ws ++ [lp] ++ [("data" : Str)] ++ [z] ++ Sx.tkL ((rs.map sxRow).take i) ++ [lp] ++ [zr] ++ Sx.tkL ((ks.map (sxK 3)).take j)) H' ∧ ∃ y4, σ' = [some v, some (.ref r), some (.str zr), some (.ref kb), y4]) ⟨Tk.refl, by rw [List.take_zero, Sx.tkL, List.append_nil]; exact t6, y4, rfl⟩ (fun i σ H' p => p.1 _ _ skb) ?_ ?_⟩
        · rintro j x2 σ H7 hx2 ⟨k7, t7, y4, rfl⟩
          obtain ⟨kd, hkd, hkx⟩ := (tkb.k k7).getV hx2
          obtain ⟨f1, f2⟩ := tkL_take (cs := ks.map (sxK 3)) (i := j) (c := sxK 3 kd) (by rw [List.getElem?_map, hkd]; rfl)
          walk_at "u"
          refine t7.kw hkx (hk kd (List.mem_of_getElem? hkd)) (by walk_at "rm") fun H8 t8 k8 => ?_
          walk_at "u"
          refine ⟨k7.trans k8, ?_, _, rfl⟩
          rw [f1, ← List.append_assoc]
          exact t8
        · rintro σ H7 ⟨k7, t7, y4, rfl⟩
          rw [List.take_of_length_le (l := ks.map (sxK 3)) (by rw [List.length_map, kbl]; exact Nat.le_refl _)] at t7
          exact ⟨k46.trans k7, t7, y4, rfl⟩
      rintro σ H7 ⟨k7, t7, y4, rfl⟩
      walk_at "u"
      refine t7.ty ?_
      walk_at "u"
      refine t7.apk (K := K) (by walk_at "rm") fun H8 t8 k8 => ?_
      have k48 : Tk K H4 H8 := k7.trans k8
      walk_at "u"
      refine ⟨k4.trans k48, ?_, _, _, _, rfl⟩
      rw [g1]
      simpa using t8
    · rintro σ H4 ⟨_, t4, y2, y3, y4, rfl⟩
      rw [List.take_of_length_le (by rw [List.length_map, bl]; exact Nat.le_refl _)] at t4
      exact ⟨t4, y2, y3, y4, rfl⟩
  rintro σ H4 ⟨t4, y2, y3, y4, rfl⟩
  walk_at "u"
  refine t4.ty ?_
  walk_at "u"
  refine t4.app (by walk_at "rm") fun H5 t5 => ?_
  walk_at "u"
  refine q H5 t5.1 ?_
  rw [t5.2]
  simp
end
local macro_rules | `(tactic| walk_at "rn") => `(tactic| (unfold roomW; (try simp only [List.length_append, List.length_cons, List.length_nil, List.length_map, List.length_take]); omega))
section
variable {K : PySem.W.Frag} {vs : List V} {H : Hp} {Q : VK} {E : XK} {n : Nat}
theorem Wd.apf {r : Addr} {H0 H1 : Hp} {ws : List Str} {z : Str} {R : VK} (t : Wd r H0 ws H1) (hn : roomW ws 1) (q : ∀ H2, Wd r H0 (ws ++ [z]) H2 → Fr r H1 H2 → R .non H2) : uAppend (.ref r) [.str z] H1 R := by
  unfold roomW at hn
  have f : Fr r H1 (upd H1 r (.lst (ws.map V.str ++ [V.str z]))) := Fr.refl.self
  refine ⟨_, t.2, szt (by rw [List.length_map]; omega), q _ ⟨t.1.trans f, ?_⟩ f⟩
  rw [upd_same, strs_snoc5]
theorem tk_pos : ∀ x : Sx, 1 ≤ x.tk.length
  | .atom z => by rw [tk_atom]; exact Nat.le_refl _
  | .node cs => by rw [tk_node, List.length_cons]; omega
theorem LB.ty {A : Addr} {g : D → Sx} {G : D → Prop} {kids : List D} {i : Nat} {B : Prop} (b : LB K A g G kids i H) (c : B) : tyV K "list" (.ref A) H ∧ B := by
  obtain ⟨vs, ds, e, _⟩ := b
  exact ⟨.inl ⟨rfl, _, SqL.of e⟩, c⟩
/-- one arm's rows: the tail of its body -/
theorem rd_l_expr_words (h : spr_l_expr_words (n + 1) K vs H Q E) : t_l_expr_words K (spr_l_expr_words n) { nx := fun _ H' => Q .non H', rt := Q } (start n_l_expr_words vs) H := by
  obtain ⟨v, d, r, ws, rfl, hv, hd, er, hroom, q⟩ := h
  obtain ⟨op, at_, info, kids, arms, rfl, h1, h2, h3, h3', h4, h5, h0, h6, h7⟩ := hd
  have t0 : Wd r H ws H := ⟨Fr.refl, er⟩
  unfold roomW at hroom
  have hpos := tk_pos (sxE (n + 1) (.tup [.str op, .int at_, info, .tup kids, .tup arms]))
  unfold t_l_expr_words
  walk_at "u"
  refine r_gT5 hv fun x y z u w hx hy hz hu hw => ?_
  have hx := hx.invS
  have hy := hy.invI
  subst hx hy
  walk_at "u"
  generalize hat : ((List.map V.str ws).length : Int) = at2
  refine r_cut (fun σ' H' => σ' = [some v, some (.ref r), some (.str op), some (.int at2), some z, some u, some w, none, none, none, none] ∧ (op ∈ leafOps → Wd r H (ws ++ (sxLeaf op info).tk) H') ∧ (op ∉ leafOps → H' = H)) ?_ ?_
  · by_cases hl : op ∈ leafOps
    · have hfin : ∀ H2, Wd r H (ws ++ (sxLeaf op info).tk) H2 → (op ∈ leafOps → Wd r H (ws ++ (sxLeaf op info).tk) H2) ∧ (op ∉ leafOps → H2 = H) := fun H2 t => ⟨fun _ => t, fun h => absurd hl h⟩
      rcases h2 with ⟨rfl, i, rfl, i1, i2⟩ | ⟨rfl, b, rfl⟩ | ⟨rfl, rfl⟩ | ⟨rfl, y, rfl, ny⟩ | ⟨ho, _⟩ | ⟨rfl, _⟩ | ⟨ho, _⟩ | ⟨ho, _⟩
      · have hz := hz.invI
        subst hz
        have e : (sxLeaf "int" (.int i)).tk = [numS i] := tk_atom
        rw [e] at hfin ⊢
        walk_at "u"
        try refine br_y rfl ?_
        walk_at "u"
        refine r_strI (log_small i1 i2) ?_
        walk_at "u"
        refine t0.app (by unfold roomW; omega) fun H2 t2 => ?_
        walk_at "u"
        exact ⟨rfl, hfin H2 t2⟩
      · have hz : z = .bl b := by cases hz; rfl
        subst hz
        have e : (sxLeaf "bool" (.bl b)).tk = [if b then ("true" : Str) else "false"] := tk_atom
        rw [e] at hfin ⊢
        walk_at "u"
        try refine br_y rfl ?_
        cases b with
        | true =>
          walk_at "u"
          refine t0.app (by unfold roomW; omega) fun H2 t2 => ?_
          walk_at "u"
          exact ⟨rfl, hfin H2 t2⟩
        | false =>
          walk_at "u"
          refine t0.app (by unfold roomW; omega) fun H2 t2 => ?_
          walk_at "u"
          exact ⟨rfl, hfin H2 t2⟩
      · have e : (sxLeaf "unit" .non).tk = [("unit" : Str)] := tk_atom
        rw [e] at hfin ⊢
        walk_at "u"
        try refine br_y rfl ?_
        walk_at "u"
        refine t0.app (by unfold roomW; omega) fun H2 t2 => ?_
        walk_at "u"
        exact ⟨rfl, hfin H2 t2⟩
      · have hz := hz.invS
        subst hz
        have e : (sxLeaf "name" (.str y)).tk = [y] := tk_atom
        rw [e] at hfin ⊢
        walk_at "u"
        try refine br_y rfl ?_
        walk_at "u"
        refine t0.app (by unfold roomW; omega) fun H2 t2 => ?_
        walk_at "u"
        exact ⟨rfl, hfin H2 t2⟩
      · exact absurd hl (by
          simp only [strOps, List.mem_cons, List.not_mem_nil, or_false] at ho
          rcases ho with rfl | rfl | rfl <;> decide +kernel)
      · exact absurd hl (by decide +kernel)
      · exact absurd hl (by
          simp only [pairOps, List.mem_cons, List.not_mem_nil, or_false] at ho
          rcases ho with rfl | rfl <;> decide +kernel)
      · exact absurd hl ho
    · have n1 : op ≠ "int" := fun e => hl (by rw [e]; decide +kernel)
      have n2 : op ≠ "bool" := fun e => hl (by rw [e]; decide +kernel)
      have n3 : op ≠ "unit" := fun e => hl (by rw [e]; decide +kernel)
      have n4 : op ≠ "name" := fun e => hl (by rw [e]; decide +kernel)
      walk_at "u"
      exact ⟨rfl, fun h => absurd h hl, fun _ => rfl⟩
  rintro σ H1 ⟨rfl, hleaf, hnl⟩
  have k01 : Tk K H H1 := by
    by_cases hl : op ∈ leafOps
    · exact (hleaf hl).1.tk er
    · rw [hnl hl]; exact Tk.refl
  walk_at "ui"
  refine ⟨szl (by simp), fun T hT => ?_⟩
  obtain ⟨H2, e2, s2, eT⟩ := lay_new (o := .tup [.str "int", .str "bool", .str "unit", .str "name"]) hT
  rw [e2]
  refine r_inS (ss := ["int", "bool", "unit", "name"]) (SqT.of eT) ?_
  clear e2 hT eT
  have k02 := k01.trans (Same.tk s2)
  walk_at "u"
  refine br_d (fun hl => ?_) (fun hl => ?_)
  · have hl : op ∈ leafOps := hl
    have e : sxE (n + 1) (.tup [.str op, .int at_, info, .tup kids, .tup arms]) = sxLeaf op info := by
      show (if op ∈ leafOps then _ else _) = _
      rw [if_pos hl]
    have e' : sxE (n + 1) (.tup [.str op, .int at2, info, .tup [], .tup []]) = sxLeaf op info := by
      show (if op ∈ leafOps then _ else _) = _
      rw [if_pos hl]
    rw [e] at q
    have t2 := (hleaf hl).same s2
    walk_at "u"
    refine ⟨szl (by simp), fun P hP => ?_⟩
    obtain ⟨H3, e3, s3, w3⟩ := Td.lay (K := K) (ds := []) hP .nil
    rw [e3]
    refine ⟨szl (by simp), fun P2 hP2 => ?_⟩
    obtain ⟨H4, e4, s4, w4⟩ := Td.lay (K := K) (ds := []) hP2 .nil
    rw [e4]
    walk_at "u"
    refine ⟨szl (by simp), fun P3 hP3 => ?_⟩
    obtain ⟨H5, e5, s5, w5⟩ := Td.lay (K := K) (ds := [.str op, .int at2, info, .tup [], .tup []]) hP3 (.cons (.str op) (.cons (.int at2) (.cons (hz.k (k02.trans (Same.tk (s3.trans s4)))) (.cons (w3.k (Same.tk s4)) (.cons w4 .nil)))))
    rw [e5]
    have t5 := t2.same ((s3.trans s4).trans s5)
    exact q _ _ H5 ⟨op, at2, info, [], [], rfl, h1, h2, fun _ => ⟨rfl, rfl⟩, fun h => absurd rfl h, by simp, by simp, ⟨h0.1, fun _ => by simp⟩, (fun _ h => nomatch h), (fun _ h => nomatch h)⟩ e' w5 t5.1 t5.2
  have hl : op ∉ leafOps := hl
  have e := hnl hl
  subst e
  have t2 := t0.same s2
  have e : sxE (n + 1) (.tup [.str op, .int at_, info, .tup kids, .tup arms]) = .node (sxHead op info ++ kids.map (sxE n) ++ arms.map (sxArm op (sxE n))) := by
    show (if op ∈ leafOps then _ else _) = _
    rw [if_neg hl]
  have e' : ∀ kids' arms' : List D, kids'.map (sxE n) = kids.map (sxE n) → arms'.map (sxArm op (sxE n)) = arms.map (sxArm op (sxE n)) → sxE (n + 1) (.tup [.str op, .int at2, info, .tup kids', .tup arms']) = .node (sxHead op info ++ kids.map (sxE n) ++ arms.map (sxArm op (sxE n))) := fun kids' arms' ek ea => by
    show (if op ∈ leafOps then _ else _) = _
    rw [if_neg hl, ← ek, ← ea]
  rw [e] at q hroom
  have etk : (Sx.node (sxHead op info ++ kids.map (sxE n) ++ arms.map (sxArm op (sxE n)))).tk = lp :: (Sx.tkL (sxHead op info) ++ Sx.tkL (kids.map (sxE n)) ++ Sx.tkL (arms.map (sxArm op (sxE n))) ++ [rp]) := by rw [tk_node, tkL_app, tkL_app]
  rw [etk] at q hroom
  simp only [List.length_append, List.length_cons, List.length_nil] at hroom
  clear e etk hleaf hnl hpos
  walk_at "u"
  refine ⟨v, op, at_, info, .tup kids, .tup arms, r, ws, rfl, hv.k k02, hl, h1, h2, t2.2, by unfold roomW; omega, fun H3 f3 e3 => ?_⟩
  have t3 : Wd r H1 (ws ++ lp :: Sx.tkL (sxHead op info)) H3 := ⟨t2.1.trans f3, e3⟩
  clear f3 e3 t2
  obtain ⟨ka, kus, rfl, ks, kt⟩ := hu.inv
  obtain ⟨ra, rus, rfl, rs, rt⟩ := hw.inv
  have kl := kt.len
  have rl := rt.len
  refine r_cut (fun σ' H' => Wd r H1 (ws ++ lp :: Sx.tkL (sxHead op info) ++ Sx.tkL (kids.map (sxE n))) H' ∧ ∃ u' kds y10, σ' = [some v, some (.ref r), some (.str op), some (.int at2), some z, some u', some (.ref ra), none, none, none, y10] ∧ Td K H' u' (.tup kds) ∧ kds.length = kids.length ∧ (∀ d ∈ kds, ED n d) ∧ kds.map (sxE n) = kids.map (sxE n)) ?_ ?_
  · walk_at "u"
    refine it_tup ?_
    walk_at "u"
    refine ⟨ka, rfl, ⟨_, t3.1.tk er _ _ ks⟩, fun A hA => ?_⟩
    have hA0 := t3.non hA
    have hAr := t3.ne hA
    refine c_tups (xs := kus) (fun i H' => Wd r H1 (ws ++ lp :: Sx.tkL (sxHead op info) ++ Sx.tkL ((kids.map (sxE n)).take i)) H' ∧ LB K A (sxE n) (ED n) kids i H') ⟨by rw [List.take_zero, tkL_nil, List.append_nil]; exact t3.mut hA0 hAr, LB.start⟩ (fun i H' p => p.1.1.tk er _ _ ks) ?_ ?_
    · rintro i x H4 hx ⟨t4, b4⟩
      obtain ⟨kd, hkd, hkx⟩ := (kt.k (t4.1.tk er)).getV hx
      have hi := (List.getElem?_eq_some_iff.mp hkd).1
      obtain ⟨g1, g2⟩ := tkL_take (cs := kids.map (sxE n)) (i := i) (c := sxE n kd) (by rw [List.getElem?_map, hkd]; rfl)
      refine r_gname ⟨rfl, ?_⟩
      walk_at "u"
      refine ⟨x, kd, r, _, rfl, hkx, h6 kd (List.mem_of_getElem? hkd), t4.2, by walk_at "rn", fun v' d' H5 ed es td f5 e5 => ?_⟩
      refine (b4.keep f5 hAr (f5.tk t4.2)).lc hkd td ed es (by omega) fun vs eA b' => ⟨?_, b'⟩
      have t5 : Wd r H1 _ H5 := ⟨t4.1.trans f5, e5⟩
      rw [g1, ← List.append_assoc]
      exact t5.mut hA0 hAr
    · rintro H4 ⟨t4, b4⟩
      rw [List.take_of_length_le (by rw [List.length_map, kl]; exact Nat.le_refl _)] at t4
      rw [kl] at b4
      obtain ⟨vs, ds, eA, td, dl, dg, dm⟩ := b4.done
      walk_at "u"
      refine r_tupleD (SqL.of eA) td fun u5 H5 s5 w5 => ?_
      walk_at "u"
      exact ⟨t4.same s5, u5, ds, _, rfl, w5, dl, dg, dm⟩
  rintro σ H4 ⟨t4, u', kds, y10, rfl, hu', kdl, kdg, kdm⟩
  walk_at "u"
  refine ⟨szl (by simp), fun B hB => ?_⟩
  have hB0 := t4.non hB
  have hBr := t4.ne hB
  have t5 : Wd r H1 _ _ := t4.mut (o := .lst []) hB0 hBr
  have b5 : LB K B (sxArm op (sxE n)) (ArmD op (ED n)) arms 0 (upd H4 B (.lst [])) := LB.start
  have hu5 := hu'.k (Same.tk (same_new (o := .lst []) hB))
  clear t4 hu' hu t3
  generalize upd H4 B (.lst []) = H5 at t5 b5 hu5 ⊢
  refine r_cut (fun σ' H' => Wd r H1 (ws ++ lp :: Sx.tkL (sxHead op info) ++ Sx.tkL (kids.map (sxE n)) ++ Sx.tkL (arms.map (sxArm op (sxE n)))) H' ∧ LB K B (sxArm op (sxE n)) (ArmD op (ED n)) arms arms.length H' ∧ Tk K H5 H' ∧ ∃ y8 y9 y10, σ' = [some v, some (.ref r), some (.str op), some (.int at2), some z, some u', some (.ref ra), some (.ref B), y8, y9, y10]) ?_ ?_
  · walk_at "u"
    refine it_tup ?_
    walk_at "u"
    refine ⟨ra, rfl, ⟨_, t5.1.tk er _ _ rs⟩, f_tup (xs := rus) (fun i σ' H' => Wd r H1 (ws ++ lp :: Sx.tkL (sxHead op info) ++ Sx.tkL (kids.map (sxE n)) ++ Sx.tkL ((arms.map (sxArm op (sxE n))).take i)) H' ∧ LB K B (sxArm op (sxE n)) (ArmD op (ED n)) arms i H' ∧ Tk K H5 H' ∧ ∃ y8 y9 y10, σ' = [some v, some (.ref r), some (.str op), some (.int at2), some z, some u', some (.ref ra), some (.ref B), y8, y9, y10]) ⟨by rw [List.take_zero, tkL_nil, List.append_nil]; exact t5, b5, Tk.refl, _, _, _, rfl⟩ (fun i σ' H' p => p.1.1.tk er _ _ rs) ?_ ?_⟩
    · rintro i x σ H6 hx ⟨t6, b6, k6, y8, y9, y10, rfl⟩
      obtain ⟨ad, had, hax⟩ := (rt.k (t6.1.tk er)).getV hx
      have hi := (List.getElem?_eq_some_iff.mp had).1
      have harm := h7 ad (List.mem_of_getElem? had)
      obtain ⟨nm, vars, body, rfl, ha1, ha2, ha3, ha4, ha5⟩ := id harm
      obtain ⟨g1, g2⟩ := tkL_take (cs := arms.map (sxArm op (sxE n))) (i := i) (c := sxArm op (sxE n) (.tup [.str nm, .tup vars, body])) (by rw [List.getElem?_map, had]; rfl)
      rw [tk_arm] at g1 g2
      simp only [List.length_append, List.length_cons, List.length_nil, List.length_map] at g2
      walk_at "u"
      refine t6.ty ?_
      walk_at "u"
      refine t6.apf (by walk_at "rn") fun H7 t7 f7 => ?_
      generalize hW : ws ++ lp :: Sx.tkL (sxHead op info) ++ Sx.tkL (kids.map (sxE n)) ++ Sx.tkL ((arms.map (sxArm op (sxE n))).take i) = W at *
      have hWl : W.length = ws.length + (1 + (Sx.tkL (sxHead op info)).length) + (Sx.tkL (kids.map (sxE n))).length + (Sx.tkL ((arms.map (sxArm op (sxE n))).take i)).length := by
        rw [← hW]
        simp only [List.length_append, List.length_cons]
        omega
      refine r_cut (fun σ' H' => Wd r H1 (W ++ [lp] ++ lpIf op) H' ∧ Fr r H6 H' ∧ σ' = [some v, some (.ref r), some (.str op), some (.int at2), some z, some u', some (.ref ra), some (.ref B), some x, y9, y10]) ?_ ?_
      · by_cases hc : op = "case"
        · have el : lpIf op = [lp] := if_pos hc
          rw [el] at g2 ⊢
          simp only [List.length_cons, List.length_nil] at g2
          walk_at "u"
          refine t7.ty ?_
          walk_at "u"
          refine t7.apf (by walk_at "rn") fun H8 t8 f8 => ?_
          walk_at "u"
          exact ⟨t8, f7.trans f8, rfl⟩
        · have el : lpIf op = [] := if_neg hc
          rw [el, List.append_nil]
          walk_at "u"
          exact ⟨t7, f7, rfl⟩
      rintro σ H8 ⟨t8, f8, rfl⟩
      have k68 : Tk K H6 H8 := f8.tk t6.2
      walk_at "u"
      refine t8.ty ?_
      walk_at "u"
      refine r_ixD (k := 0) (hax.k k68) rfl fun u0 hu0 => ?_
      have hu0 := hu0.invS
      subst hu0
      walk_at "u"
      refine t8.apf (by walk_at "rn") fun H9 t9 f9 => ?_
      have f69 : Fr r H6 H9 := f8.trans f9
      clear t7 f7 t8 f8 f9 k68
      refine r_cut (fun σ' H' => Wd r H1 (W ++ [lp] ++ lpIf op ++ [nm] ++ vars.map strD) H' ∧ Fr r H6 H' ∧ ∃ y9, σ' = [some v, some (.ref r), some (.str op), some (.int at2), some z, some u', some (.ref ra), some (.ref B), some x, y9, y10]) ?_ ?_
      · walk_at "u"
        refine it_tup ?_
        walk_at "u"
        refine r_ixD (k := 1) (hax.k (f69.tk t6.2)) rfl fun u1 hu1 => ?_
        obtain ⟨va, vus, rfl, vsq, vt⟩ := hu1.inv
        have vl := vt.len
        refine ⟨va, rfl, ⟨_, vsq⟩, f_tup (xs := vus) (fun j σ' H' => Wd r H1 (W ++ [lp] ++ lpIf op ++ [nm] ++ (vars.map strD).take j) H' ∧ Fr r H9 H' ∧ ∃ y9, σ' = [some v, some (.ref r), some (.str op), some (.int at2), some z, some u', some (.ref ra), some (.ref B), some x, y9, y10]) ⟨by rw [List.take_zero, List.append_nil]; exact t9, Fr.refl, _, rfl⟩ (fun i σ' H' p => p.2.1.tk t9.2 _ _ vsq) ?_ ?_⟩
        · rintro j x2 σ H10 hx2 ⟨t10, f10, z9, rfl⟩
          obtain ⟨vd, hvd, hvx⟩ := (vt.k (f10.tk t9.2)).getV hx2
          have hj := (List.getElem?_eq_some_iff.mp hvd).1
          obtain ⟨zz, rfl, hzz⟩ := ha4 vd (List.mem_of_getElem? hvd)
          have hvx := hvx.invS
          subst hvx
          walk_at "u"
          refine t10.ty ?_
          walk_at "u"
          refine t10.apf (by walk_at "rn") fun H11 t11 f11 => ?_
          walk_at "u"
          refine ⟨?_, f10.trans f11, _, rfl⟩
          rw [List.take_add_one, List.getElem?_map, hvd, ← List.append_assoc]
          exact t11
        · rintro σ H10 ⟨t10, f10, z9, rfl⟩
          rw [List.take_of_length_le (by rw [List.length_map, vl]; exact Nat.le_refl _)] at t10
          exact ⟨t10, f69.trans f10, z9, rfl⟩
      rintro σ H10 ⟨t10, f10, z9, rfl⟩
      clear t9 f69
      refine r_cut (fun σ' H' => Wd r H1 (W ++ [lp] ++ lpIf op ++ [nm] ++ vars.map strD ++ rpIf op) H' ∧ Fr r H6 H' ∧ σ' = [some v, some (.ref r), some (.str op), some (.int at2), some z, some u', some (.ref ra), some (.ref B), some x, z9, y10]) ?_ ?_
      · by_cases hc : op = "case"
        · have el : rpIf op = [rp] := if_pos hc
          rw [el] at g2 ⊢
          simp only [List.length_cons, List.length_nil] at g2
          walk_at "u"
          refine t10.ty ?_
          walk_at "u"
          refine t10.apf (by walk_at "rn") fun H11 t11 f11 => ?_
          walk_at "u"
          exact ⟨t11, f10.trans f11, rfl⟩
        · have el : rpIf op = [] := if_neg hc
          rw [el, List.append_nil]
          walk_at "u"
          exact ⟨t10, f10, rfl⟩
      rintro σ H11 ⟨t11, f11, rfl⟩
      clear t10 f10
      have k611 : Tk K H6 H11 := f11.tk t6.2
      have b11 := b6.keep f11 hBr k611
      have hax11 := hax.k k611
      walk_at "u"
      refine b11.ty ?_
      walk_at "u"
      refine r_ixD (k := 0) hax11 rfl fun u0 hu0 => ?_
      have hu0 := hu0.invS
      subst hu0
      walk_at "u"
      refine r_ixD (k := 1) hax11 rfl fun u1 hu1 => ?_
      walk_at "u"
      refine r_ixD (k := 2) hax11 rfl fun u2 hu2 => ?_
      walk_at "u"
      refine ⟨u2, body, r, _, rfl, hu2, ha5, t11.2, by walk_at "rn", fun v' d' H12 ed es td f12 e12 => ?_⟩
      have t12 : Wd r H1 _ H12 := ⟨t11.1.trans f12, e12⟩
      have k12 := f12.tk (K := K) t11.2
      walk_at "u"
      refine ⟨szl (by simp), fun P hP => ?_⟩
      obtain ⟨H13, e13, s13, w13⟩ := Td.lay (K := K) (ds := [.str nm, .tup vars, d']) hP (.cons (.str nm) (.cons (hu1.k k12) (.cons td .nil)))
      rw [e13]
      have t13 := t12.same s13
      have b13 := (b11.keep f12 hBr k12).keep (Fr.same s13) hBr (Same.tk s13)
      walk_at "u"
      refine b13.app had w13 ⟨nm, vars, d', rfl, ha1, ha2, ha3, ha4, ed⟩ (sxArm_same es) (by omega) fun vs eB b14 => ?_
      have t14 : Wd r H1 _ _ := t13.mut (o := .lst (vs ++ [.ref P])) hB0 hBr
      have k14 : Tk K H13 (upd H13 B (.lst (vs ++ [.ref P]))) := Tk.lst eB
      generalize upd H13 B (.lst (vs ++ [.ref P])) = H14 at t14 b14 k14 ⊢
      walk_at "u"
      refine t14.ty ?_
      walk_at "u"
      refine t14.apf (by walk_at "rn") fun H15 t15 f15 => ?_
      walk_at "u"
      have k15 := f15.tk (K := K) t14.2
      refine ⟨?_, b14.keep f15 hBr k15, k6.trans (k611.trans (k12.trans ((Same.tk s13).trans (k14.trans k15)))), _, _, _, rfl⟩
      rw [g1]
      have e9 : W ++ (Sx.tkL ((arms.map (sxArm op (sxE n))).take i)) = W ++ (Sx.tkL ((arms.map (sxArm op (sxE n))).take i)) := rfl
      rw [← List.append_assoc, hW]
      simpa using t15
    · rintro σ H6 ⟨t6, b6, k6, y8, y9, y10, rfl⟩
      rw [List.take_of_length_le (by rw [List.length_map, rl]; exact Nat.le_refl _)] at t6
      rw [rl] at b6
      exact ⟨t6, b6, k6, y8, y9, y10, rfl⟩
  rintro σ H6 ⟨t6, b6, k6, y8, y9, y10, rfl⟩
  walk_at "u"
  refine t6.ty ?_
  walk_at "u"
  refine t6.apf (by walk_at "rn") fun H7 t7 f7 => ?_
  walk_at "u"
  obtain ⟨vs, ds, eA, td, dl, dg, dm⟩ := (b6.keep f7 hBr (f7.tk t6.2)).done
  refine r_tupleD (SqL.of eA) td fun u8 H8 s8 w8 => ?_
  walk_at "u"
  refine ⟨szl (by simp), fun P3 hP3 => ?_⟩
  have k58 : Tk K H5 H8 := (k6.trans (f7.tk t6.2)).trans (Same.tk s8)
  have t8 := t7.same s8
  obtain ⟨H9, e9, s9, w9⟩ := Td.lay (K := K) (ds := [.str op, .int at2, info, .tup kds, .tup ds]) hP3 (.cons (.str op) (.cons (.int at2) (.cons (hz.k (t8.1.tk er)) (.cons (hu5.k k58) (.cons w8 .nil)))))
  rw [e9]
  have t9 := t8.same s9
  have hne : ds ≠ [] → arms ≠ [] := fun h e => h (List.eq_nil_of_length_eq_zero (by rw [dl, e]; rfl))
  refine q _ _ H9 ⟨op, at2, info, kds, ds, rfl, h1, h2, fun h => absurd h hl, fun h => h3' (hne h), by omega, by omega, ⟨h0.1, fun h => by rw [kdl]; exact h0.2 h⟩, kdg, dg⟩ (e' kds ds kdm dm) w9 t9.1 ?_
  rw [t9.2]
  simp
end
section
variable {K : PySem.W.Frag} {vs : List V} {H : Hp} {Q : VK} {E : XK} {n : Nat}
theorem tk_par {z : Str} {k : D} : (sxPar (.tup [.str z, k])).tk = lp :: (z :: ((sxK 3 k).tk ++ [rp])) := by
  show (Sx.node [.atom z, sxK 3 k]).tk = _
  rw [tk_node, tkL_cons, tk_atom, tkL_one]
  rfl
theorem tk_fun {z : Str} {a : D} {ps : List D} {k b : D} : (Sx.node (sxFun (.tup [.str z, a, .tup ps, k, b]))).tk = lp :: ("fun" :: (z :: (lp :: (Sx.tkL (ps.map sxPar) ++ (rp :: ((sxK 3 k).tk ++ ((sxE 5 b).tk ++ [rp]))))))) := by
  show (Sx.node [.atom "fun", .atom z, .node (ps.map sxPar), sxK 3 k, sxE 5 b]).tk = _
  rw [tk_node, tkL_cons, tkL_cons, tkL_cons, tkL_cons, tkL_one, tk_atom, tk_atom, tk_node]
  simp
theorem Wd.ew {r : Addr} {H1 : Hp} {ws : List Str} {v : V} {d : D} {R : VK} (t : Wd r H ws H1) (h : Td K H1 v d) (hd : ED 5 d) (hn : roomW ws (sxE 5 d).tk.length) (q : ∀ v' d' H2, ED 5 d' → sxE 5 d' = sxE 5 d → Td K H2 v' d' → Wd r H (ws ++ (sxE 5 d).tk) H2 → Tk K H1 H2 → R v' H2) : sp_l_expr_words K [v, .ref r] H1 R E0 :=
  ⟨v, d, r, ws, rfl, h, hd, t.2, hn, fun v' d' H2 a b c f e => q v' d' H2 a b c ⟨t.1.trans f, e⟩ (f.tk t.2)⟩
theorem rd_l_function_words (h : sp_l_function_words K vs H Q E) : t_l_function_words K { nx := fun _ H' => Q .non H', rt := Q } (start n_l_function_words vs) H := by
  obtain ⟨v, d, r, ws, rfl, hv, ⟨nm, at_, ps, res, body, rfl, hz, hl, hp, hres, hb⟩, er, hroom, q⟩ := h
  have t0 : Wd r H ws H := ⟨Fr.refl, er⟩
  rw [tk_fun] at hroom q
  unfold roomW at hroom
  simp only [List.length_append, List.length_cons, List.length_nil] at hroom
  unfold t_l_function_words
  walk_at "u"
  refine r_gT5 hv fun x y z u w hx hy hps hu hw => ?_
  have hx := hx.invS
  have hy := hy.invI
  subst hx hy
  walk_at "u"
  refine t0.apk (K := K) (by walk_at "rm") fun H1 t1 k1 => ?_
  walk_at "u"
  refine t1.ty ?_
  walk_at "u"
  refine t1.apk (K := K) (by walk_at "rm") fun H2 t2 k2 => ?_
  have eR2 := t2.2
  walk_at "u"
  refine t2.apk (K := K) (by walk_at "rm") fun H3 t3 k3 => ?_
  walk_at "u"
  refine t3.ty ?_
  walk_at "u"
  refine t3.apk (K := K) (by walk_at "rm") fun H4 t4 k4 => ?_
  have k04 : Tk K H H4 := ((k1.trans k2).trans k3).trans k4
  generalize hat : ((List.map V.str (ws ++ [Str.ofString "("] ++ [Str.ofString "fun"])).length : Int) = at2
  clear t0 t1 t2 t3 k1 k2 k3 k4 eR2
  refine r_cut (fun σ' H' => Wd r H (ws ++ [lp] ++ [("fun" : Str)] ++ [nm] ++ [lp] ++ Sx.tkL (ps.map sxPar)) H' ∧ ∃ y7, σ' = [some v, some (.ref r), some (.str nm), some (.int at2), some z, some u, some w, y7]) ?_ ?_
  · walk_at "u"
    refine it_tup ?_
    walk_at "u"
    obtain ⟨b, us, rfl, sb, tb⟩ := (hps.k k04).inv
    have bl := tb.len
    refine ⟨b, rfl, ⟨_, sb⟩, f_tup (xs := us) (fun i σ' H' => Tk K H4 H' ∧ Wd r H (ws ++ [lp] ++ [("fun" : Str)] ++ [nm] ++ [lp] ++ Sx.tkL ((ps.map sxPar).take i)) H' ∧ ∃ y7, σ' = [some v, some (.ref r), some (.str nm), some (.int at2), some (.ref b), some u, some w, y7]) ⟨Tk.refl, by rw [List.take_zero, tkL_nil, List.append_nil]; exact t4, none, rfl⟩ (fun i σ H' p => p.1 _ _ sb) ?_ ?_⟩
    · rintro i x σ H5 hx2 ⟨k5, t5, y7, rfl⟩
      obtain ⟨ed, hed, hex⟩ := (tb.k k5).getV hx2
      obtain ⟨g1, g2⟩ := tkL_take (cs := ps.map sxPar) (i := i) (c := sxPar ed) (by rw [List.getElem?_map, hed]; rfl)
      obtain ⟨pn, pk, rfl, hpn, hpk⟩ := hp ed (List.mem_of_getElem? hed)
      rw [tk_par] at g1 g2
      simp only [List.length_append, List.length_cons, List.length_nil] at g2
      walk_at "u"
      refine t5.ty ?_
      walk_at "u"
      refine t5.apk (K := K) (by walk_at "rm") fun H6 t6 k6 => ?_
      walk_at "u"
      refine t6.ty ?_
      walk_at "u"
      refine r_ixD (k := 0) (hex.k k6) rfl fun u0 hu0 => ?_
      have hu0 := hu0.invS
      subst hu0
      walk_at "u"
      refine t6.apk (K := K) (by walk_at "rm") fun H7 t7 k7 => ?_
      walk_at "u"
      refine r_ixD (k := 1) (hex.k (k6.trans k7)) rfl fun u1 hu1 => ?_
      walk_at "u"
      refine t7.kw hu1 hpk (by walk_at "rm") fun H8 t8 k8 => ?_
      walk_at "u"
      refine t8.ty ?_
      walk_at "u"
      refine t8.apk (K := K) (by walk_at "rm") fun H9 t9 k9 => ?_
      walk_at "u"
      refine ⟨k5.trans (((k6.trans k7).trans k8).trans k9), ?_, _, rfl⟩
      rw [g1]
      simpa using t9
    · rintro σ H5 ⟨_, t5, y7, rfl⟩
      rw [List.take_of_length_le (by rw [List.length_map, bl]; exact Nat.le_refl _)] at t5
      exact ⟨t5, y7, rfl⟩
  rintro σ H5 ⟨t5, y7, rfl⟩
  walk_at "u"
  refine t5.ty ?_
  walk_at "u"
  refine t5.apk (K := K) (by walk_at "rm") fun H6 t6 k6 => ?_
  walk_at "u"
  refine t6.kw (hu.k (t6.1.tk er)) hres (by walk_at "rm") fun H7 t7 k7 => ?_
  walk_at "u"
  refine t7.ew (hw.k (t7.1.tk er)) hb (by walk_at "rm") fun v' d' H8 ed es td t8 k8 => ?_
  walk_at "u"
  refine t8.ty ?_
  walk_at "u"
  refine t8.apk (K := K) (by walk_at "rm") fun H9 t9 k9 => ?_
  walk_at "u"
  obtain ⟨pa, pus, rfl, psq, pt⟩ := hps.inv
  refine ⟨szl (by simp), fun P hP => ?_⟩
  obtain ⟨H10, e10, s10, w10⟩ := Td.lay (K := K) (ds := [.str nm, .int at2, .tup ps, res, d']) hP (.cons (.str nm) (.cons (.int at2) (.cons (hps.k (t9.1.tk er)) (.cons (hu.k (t9.1.tk er)) (.cons (td.k k9) .nil)))))
  rw [e10]
  have t10 := t9.same s10
  refine q _ _ H10 ⟨nm, at2, ps, res, d', rfl, hz, hl, hp, hres, ed⟩ ?_ w10 t10.1 ?_
  · show [Sx.atom "fun", .atom nm, .node (ps.map sxPar), sxK 3 res, sxE 5 d'] = [Sx.atom "fun", .atom nm, .node (ps.map sxPar), sxK 3 res, sxE 5 body]
    rw [es]
  · rw [t10.2]
    simp
end
section
variable {K : PySem.W.Frag} {vs : List V} {H : Hp} {Q : VK} {E : XK} {n : Nat}
theorem linesW_app (as bs : List (List Sx)) : linesW (as ++ bs) = linesW as ++ linesW bs := List.flatMap_append
theorem linesW_take {cs : List (List Sx)} {i : Nat} {c : List Sx} (h : cs[i]? = some c) : linesW (cs.take (i + 1)) = linesW (cs.take i) ++ (Sx.node c).tk ∧ (linesW (cs.take i)).length + (Sx.node c).tk.length ≤ (linesW cs).length := by
  have e : cs.take (i + 1) = cs.take i ++ [c] := by rw [List.take_add_one, h]; rfl
  have e1 : linesW (cs.take (i + 1)) = linesW (cs.take i) ++ (Sx.node c).tk := by rw [e, linesW_app]; simp [linesW]
  refine ⟨e1, ?_⟩
  have e2 : linesW cs = linesW (cs.take (i + 1)) ++ linesW (cs.drop (i + 1)) := by rw [← linesW_app, List.take_append_drop]
  have e3 := congrArg List.length e2
  rw [e1, List.length_append, List.length_append] at e3
  omega
theorem tk_exc {z : Str} : (Sx.node (sxExc (.str z))).tk = [lp, "exception", z, rp] := by
  show (Sx.node [.atom "exception", .atom z]).tk = _
  rw [tk_node, tkL_cons, tkL_one, tk_atom, tk_atom]
  rfl
/-- what the list at A holds: functions with the lines of the first i -/
def LF (K : PySem.W.Frag) (A : Addr) (kids : List D) (i : Nat) (H : Hp) : Prop :=
  ∃ vs ds, H A = some (.lst vs) ∧ TdL K H vs ds ∧ ds.length = i ∧ (∀ d ∈ ds, FuD (ED 5) d) ∧ ds.map sxFun = (kids.map sxFun).take i
section
variable {A r : Addr} {kids : List D} {i : Nat} {H1 H2 : Hp}
theorem LF.start : LF K A kids 0 (upd H A (.lst [])) := ⟨[], [], upd_same, .nil, rfl, (fun _ h => nomatch h), by simp⟩
theorem LF.keep (b : LF K A kids i H1) (f : Fr r H1 H2) (hA : A ≠ r) (tk : Tk K H1 H2) : LF K A kids i H2 := by
  obtain ⟨vs, ds, e, t, l, gs, m⟩ := b
  exact ⟨vs, ds, f _ _ hA e, t.k tk, l, gs, m⟩
theorem LF.lc {P : Hp → Prop} {y : V} {d kd : D} (b : LF K A kids i H1) (hk : kids[i]? = some kd) (ty : Td K H1 y d) (gd : FuD (ED 5) d) (e : sxFun d = sxFun kd) (hi : i < 60000) (q : ∀ vs, H1 A = some (.lst vs) → LF K A kids (i + 1) (upd H1 A (.lst (vs ++ [y]))) → P (upd H1 A (.lst (vs ++ [y])))) : LcEnd A P y H1 := by
  obtain ⟨vs, ds, eA, t, l, gs, m⟩ := b
  refine ⟨vs, eA, szt (by rw [t.len]; omega), q vs eA ⟨vs ++ [y], ds ++ [d], upd_same, (t.append (.one ty)).k (Tk.lst eA), by simp [l], ?_, ?_⟩⟩
  · intro x hx
    rcases List.mem_append.mp hx with h | h
    · exact gs x h
    · rw [List.mem_singleton.mp h]; exact gd
  · rw [List.map_append, m, List.take_add_one, List.getElem?_map, hk]
    simp [e]
theorem LF.done (b : LF K A kids kids.length H1) : ∃ vs ds, H1 A = some (.lst vs) ∧ TdL K H1 vs ds ∧ ds.length = kids.length ∧ (∀ d ∈ ds, FuD (ED 5) d) ∧ ds.map sxFun = kids.map sxFun := by
  obtain ⟨vs, ds, eA, t, l, gs, m⟩ := b
  exact ⟨vs, ds, eA, t, l, gs, by rw [m, List.take_of_length_le (by rw [List.length_map]; exact Nat.le_refl _)]⟩
end
theorem rd_l_words (h : sp_l_words K vs H Q E) : t_l_words K { nx := fun _ H' => Q .non H', rt := Q } (start n_l_words vs) H := by
  obtain ⟨v, d, r, rfl, hv, ⟨datas, excs, funs, rfl, hdl, hdd, hel, hee, hfl, hff⟩, er, hroom, q⟩ := h
  have t0 : Wd r H [] H := ⟨Fr.refl, er⟩
  have eT : sxT (.tup [.tup datas, .tup ([.str "Div", .str "Index", .str "Size"] ++ excs), .tup funs]) = datas.map sxData ++ excs.map sxExc ++ funs.map sxFun := rfl
  rw [eT] at hroom q
  rw [linesW_app, linesW_app, List.length_append, List.length_append] at hroom
  unfold t_l_words
  refine r_cut (fun σ' H' => Wd r H (linesW (datas.map sxData)) H' ∧ ∃ y2, σ' = [some v, some (.ref r), y2, none, none, none]) ?_ ?_
  · walk_at "u"
    refine it_tup ?_
    walk_at "u"
    refine r_ixD (k := 0) hv rfl fun u hu => ?_
    obtain ⟨b, us, rfl, sb, tb⟩ := hu.inv
    have bl := tb.len
    refine ⟨b, rfl, ⟨_, sb⟩, f_tup (xs := us) (fun i σ' H' => Tk K H H' ∧ Wd r H (linesW ((datas.map sxData).take i)) H' ∧ ∃ y2, σ' = [some v, some (.ref r), y2, none, none, none]) ⟨Tk.refl, t0, none, rfl⟩ (fun i σ H' p => p.1 _ _ sb) ?_ ?_⟩
    · rintro i x σ H3 hx ⟨k3, t, y2, rfl⟩
      obtain ⟨ed, hed, hex⟩ := (tb.k k3).getV hx
      obtain ⟨g1, g2⟩ := linesW_take (cs := datas.map sxData) (i := i) (c := sxData ed) (by rw [List.getElem?_map, hed]; rfl)
      walk_at "u"
      refine ⟨x, ed, r, _, rfl, hex, hdd ed (List.mem_of_getElem? hed), t.2, by walk_at "rm", fun H4 f4 e4 => ?_⟩
      walk_at "u"
      refine ⟨k3.trans (f4.tk t.2), ⟨t.1.trans f4, ?_⟩, _, rfl⟩
      rw [g1]
      exact e4
    · rintro σ H3 ⟨_, t, y2, rfl⟩
      rw [List.take_of_length_le (by rw [List.length_map, bl]; exact Nat.le_refl _)] at t
      exact ⟨t, y2, rfl⟩
  rintro σ H1 ⟨t1, y2, rfl⟩
  refine r_cut (fun σ' H' => Wd r H (linesW (datas.map sxData) ++ linesW (excs.map sxExc)) H' ∧ ∃ y3 y4, σ' = [some v, some (.ref r), y2, y3, y4, none]) ?_ ?_
  · walk_at "u"
    refine it_tup ?_
    walk_at "u"
    refine r_ixD (k := 1) (hv.k (t1.1.tk er)) rfl fun u hu => ?_
    walk_at "u"
    refine r_slD hu fun u H2 s2 hu => ?_
    have ecut : cutD (([.str "Div", .str "Index", .str "Size"] : List D) ++ excs) (some 3) none = excs := cutD3
    rw [ecut] at hu
    obtain ⟨b, bus, rfl, sb, tb⟩ := hu.inv
    have bl := tb.len
    have t2 := t1.same s2
    refine ⟨b, rfl, ⟨_, sb⟩, f_tup (xs := bus) (fun i σ' H' => Tk K H2 H' ∧ Wd r H (linesW (datas.map sxData) ++ linesW ((excs.map sxExc).take i)) H' ∧ ∃ y3 y4, σ' = [some v, some (.ref r), y2, y3, y4, none]) ⟨Tk.refl, by rw [List.take_zero]; simpa [linesW] using t2, none, none, rfl⟩ (fun i σ H' p => p.1 _ _ sb) ?_ ?_⟩
    · rintro i x σ H3 hx ⟨k3, t, y3, y4, rfl⟩
      obtain ⟨ed, hed, hex⟩ := (tb.k k3).getV hx
      obtain ⟨g1, g2⟩ := linesW_take (cs := excs.map sxExc) (i := i) (c := sxExc ed) (by rw [List.getElem?_map, hed]; rfl)
      obtain ⟨z, rfl, hz⟩ := hee ed (List.mem_of_getElem? hed)
      have hex := hex.invS
      subst hex
      rw [tk_exc] at g1 g2
      simp only [List.length_cons, List.length_nil] at g2
      walk_at "u"
      refine it_tup ?_
      walk_at "u"
      refine ⟨szl (by simp), fun B hB => ?_⟩
      obtain ⟨H4, e4, s4, eB⟩ := lay_new (o := .tup [.str "(", .str "exception", .str z, .str ")"]) hB
      rw [e4]
      have t4 := t.same s4
      refine ⟨B, rfl, ⟨_, SqT.of eB⟩, f_tup (xs := [.str "(", .str "exception", .str z, .str ")"]) (fun j σ' H' => Tk K H4 H' ∧ Wd r H (linesW (datas.map sxData) ++ linesW ((excs.map sxExc).take i) ++ ([lp, "exception", z, rp] : List Str).take j) H' ∧ ∃ y4, σ' = [some v, some (.ref r), y2, some (.str z), y4, none]) ⟨Tk.refl, by simpa using t4, y4, rfl⟩ (fun i σ H' p => p.1 _ _ (SqT.of eB)) ?_ ?_⟩
      · rintro j x2 σ H5 hx2 ⟨k5, t5, y4, rfl⟩
        have hx2 : (([lp, "exception", z, rp] : List Str).map V.str)[j]? = some x2 := hx2
        rw [List.getElem?_map] at hx2
        obtain ⟨w, hw, rfl⟩ := Option.map_eq_some_iff.mp hx2
        have hj := (List.getElem?_eq_some_iff.mp hw).1
        simp only [List.length_cons, List.length_nil] at hj
        walk_at "u"
        refine t5.ty ?_
        walk_at "u"
        refine t5.apk (K := K) (by unfold roomW; simp only [List.length_append, List.length_take, List.length_cons, List.length_nil]; omega) fun H6 t6 k6 => ?_
        walk_at "u"
        refine ⟨k5.trans k6, ?_, _, rfl⟩
        rw [List.take_add_one, hw, ← List.append_assoc]
        exact t6
      · rintro σ H5 ⟨k5, t5, y4, rfl⟩
        refine ⟨k3.trans ((Same.tk s4).trans k5), ?_, _, _, rfl⟩
        rw [g1, ← List.append_assoc]
        exact t5
    · rintro σ H3 ⟨_, t, y3, y4, rfl⟩
      rw [List.take_of_length_le (by rw [List.length_map, bl]; exact Nat.le_refl _)] at t
      exact ⟨t, y3, y4, rfl⟩
  rintro σ H2 ⟨t2, y3, y4, rfl⟩
  have k2 : Tk K H H2 := t2.1.tk er
  walk_at "u"
  refine r_ixD (k := 0) (hv.k k2) rfl fun u0 hu0 => ?_
  walk_at "u"
  refine r_ixD (k := 1) (hv.k k2) rfl fun u1 hu1 => ?_
  walk_at "u"
  refine it_tup ?_
  walk_at "u"
  refine r_ixD (k := 2) (hv.k k2) rfl fun u2 hu2 => ?_
  obtain ⟨b, bus, rfl, sb, tb⟩ := hu2.inv
  have bl := tb.len
  refine ⟨b, rfl, ⟨_, sb⟩, fun A hA => ?_⟩
  have hA0 := t2.non hA
  have hAr := t2.ne hA
  have hAn := ne_of_none er hA0
  refine c_tups (xs := bus) (fun i H' => Wd r H (linesW (datas.map sxData) ++ linesW (excs.map sxExc) ++ linesW ((funs.map sxFun).take i)) H' ∧ LF K A funs i H' ∧ Tk K H2 H') ⟨by rw [List.take_zero]; simpa [linesW] using t2.mut hA0 hAr, LF.start, Same.tk (same_new hA)⟩ (fun i H' p => p.2.2 _ _ sb) ?_ ?_
  · rintro i x H4 hx ⟨t4, b4, k4⟩
    obtain ⟨kd, hkd, hkx⟩ := (tb.k k4).getV hx
    have hi := (List.getElem?_eq_some_iff.mp hkd).1
    obtain ⟨g1, g2⟩ := linesW_take (cs := funs.map sxFun) (i := i) (c := sxFun kd) (by rw [List.getElem?_map, hkd]; rfl)
    refine r_gname ⟨rfl, ?_⟩
    walk_at "u"
    refine ⟨x, kd, r, _, rfl, hkx, hff kd (List.mem_of_getElem? hkd), t4.2, by walk_at "rm", fun v' d' H5 ed es td f5 e5 => ?_⟩
    refine (b4.keep f5 hAr (f5.tk t4.2)).lc hkd td ed es (by omega) fun vs eA b' => ⟨?_, b', k4.trans ((f5.tk t4.2).trans (Tk.lst eA))⟩
    have t5 : Wd r H _ H5 := ⟨t4.1.trans f5, e5⟩
    rw [g1, ← List.append_assoc]
    exact t5.mut hA0 hAr
  · rintro H4 ⟨t4, b4, k4⟩
    rw [List.take_of_length_le (by rw [List.length_map, bl]; exact Nat.le_refl _)] at t4
    rw [bl] at b4
    obtain ⟨vs, ds, eA, td, dl, dg, dm⟩ := b4.done
    walk_at "u"
    refine r_tupleD (SqL.of eA) td fun u5 H5 s5 w5 => ?_
    walk_at "u"
    refine ⟨szl (by simp), fun P hP => ?_⟩
    obtain ⟨H6, e6, s6, w6⟩ := Td.lay (K := K) (ds := [.tup datas, .tup ([.str "Div", .str "Index", .str "Size"] ++ excs), .tup ds]) hP (.cons (hu0.k (k4.trans (Same.tk s5))) (.cons (hu1.k (k4.trans (Same.tk s5))) (.cons w5 .nil)))
    rw [e6]
    have t6 := (t4.same s5).same s6
    refine q _ _ H6 ⟨datas, excs, ds, rfl, hdl, hdd, hel, hee, by omega, dg⟩ ?_ w6 t6.1 ?_
    · show datas.map sxData ++ excs.map sxExc ++ ds.map sxFun = _
      rw [dm]
    · rw [t6.2, linesW_app, linesW_app]
end
section
variable {K : PySem.W.Frag} {vs : List V} {H : Hp} {Q : VK} {E : XK} {n : Nat}
theorem cStep_def {t : List Nat} {d : Int} {b w : Str} : cStep (t, d, b) w = (if w = rp ∧ (if w = rp then (if w = lp then d + 1 else d) - 1 else (if w = lp then d + 1 else d)) = 0 then (if 0 < d ∧ b ≠ lp ∧ w ≠ rp then t ++ [32] else t) ++ w.cps.toList ++ [10] else (if 0 < d ∧ b ≠ lp ∧ w ≠ rp then t ++ [32] else t) ++ w.cps.toList, (if w = rp then (if w = lp then d + 1 else d) - 1 else (if w = lp then d + 1 else d)), w) := rfl
/-- the state of the canonical text -/
def CStO (σ0 : Addr) (s : List Nat × Int × Str) (σ' : L2.St) : Prop := ∃ (t : Str) (y4 : Option V), t.cps.toList = s.1 ∧ σ' = [some (.ref σ0), some (.str t), some (.int s.2.1), some (.str s.2.2), y4]
theorem rd_l_canonical (h : sp_l_canonical K vs H Q E) : t_l_canonical K { nx := fun _ H' => Q .non H', rt := Q } (start n_l_canonical vs) H := by
  obtain ⟨r, ws, rfl, er, hlen, q⟩ := h
  unfold t_l_canonical
  walk_at "u"
  refine r_cut (fun σ' H' => H' = H ∧ CStO r (ws.foldl cStep ([], 0, lp)) σ') ?_ ?_
  · walk_at "u"
    refine it_list ?_
    walk_at "u"
    refine ⟨r, rfl, ⟨_, SqL.of er⟩, f_list (xs := ws.map V.str) (fun i σ' H' => H' = H ∧ CStO r ((ws.take i).foldl cStep ([], 0, lp)) σ') ⟨rfl, "", none, (by rw [List.take_zero]; decide +kernel), rfl⟩ (fun i σ H' h => h.1 ▸ SqL.of er) ?_ ?_⟩
    · rintro i x σ H3 hx ⟨rfl, t, y4, et, rfl⟩
      rw [List.getElem?_map] at hx
      obtain ⟨w, hw, rfl⟩ := Option.map_eq_some_iff.mp hx
      have es : (ws.take (i + 1)).foldl cStep ([], 0, lp) = cStep ((ws.take i).foldl cStep ([], 0, lp)) w := by
        rw [List.take_add_one, hw]
        show (ws.take i ++ [w]).foldl cStep ([], 0, lp) = _
        rw [List.foldl_append]
        rfl
      have hm : ((ws.take (i + 1)).foldl cStep ([], 0, lp)).1.length ≤ 10000000 := by
        refine Nat.le_trans ?_ hlen
        have e2 : ws = ws.take (i + 1) ++ ws.drop (i + 1) := (List.take_append_drop ..).symm
        rw [e2, List.foldl_append, List.take_append_of_le_length (by rw [List.length_take]; have := (List.getElem?_eq_some_iff.mp hw).1; omega), List.take_take, Nat.min_self]
        exact fold_mono _ _
      rcases hs : (ws.take i).foldl cStep ([], 0, lp) with ⟨s1, s2, s3⟩
      rw [hs] at es et
      rw [es] at hm ⊢
      have et : t.cps.toList = s1 := et
      clear hs es
      rw [cStep_def] at hm ⊢
      have hm : (if w = rp ∧ (if w = rp then (if w = lp then s2 + 1 else s2) - 1 else (if w = lp then s2 + 1 else s2)) = 0 then (if 0 < s2 ∧ s3 ≠ lp ∧ w ≠ rp then s1 ++ [32] else s1) ++ w.cps.toList ++ [10] else (if 0 < s2 ∧ s3 ≠ lp ∧ w ≠ rp then s1 ++ [32] else s1) ++ w.cps.toList).length ≤ 10000000 := hm
      have hm2 : ((if 0 < s2 ∧ s3 ≠ lp ∧ w ≠ rp then s1 ++ [32] else s1) ++ w.cps.toList).length ≤ 10000000 := by
        refine Nat.le_trans ?_ hm
        refine ite_len ?_ (Nat.le_refl _)
        rw [List.length_append (bs := [10])]
        omega
      have hm3 : (if 0 < s2 ∧ s3 ≠ lp ∧ w ≠ rp then s1 ++ [32] else s1).length ≤ 10000000 := by
        rw [List.length_append] at hm2
        omega
      refine r_cut (fun σ' H' => H' = H3 ∧ ∃ t1 : Str, t1.cps.toList = (if 0 < s2 ∧ s3 ≠ lp ∧ w ≠ rp then s1 ++ [32] else s1) ∧ σ' = [some (.ref r), some (.str t1), some (.int s2), some (.str s3), some (.str w)]) ?_ ?_
      · have l1 : (" " : Str).length = 1 := by decide +kernel
        have l2 : (" " : Str).cps.toList = [32] := by decide +kernel
        have no : ¬ (0 < s2 ∧ s3 ≠ lp ∧ w ≠ rp) → t.cps.toList = (if 0 < s2 ∧ s3 ≠ lp ∧ w ≠ rp then s1 ++ [32] else s1) := fun h => by rw [if_neg h]; exact et
        by_cases c1 : 0 < s2
        · by_cases c2 : s3 = lp
          · walk_at "u"
            exact ⟨rfl, t, no (fun h => h.2.1 c2), rfl⟩
          · by_cases c3 : w = rp
            · walk_at "u"
              exact ⟨rfl, t, no (fun h => h.2.2 c3), rfl⟩
            · walk_at "u"
              rw [if_pos ⟨c1, c2, c3⟩] at hm3
              rw [List.length_append] at hm3
              have hs1 : t.length = s1.length := by rw [str_len, et]
              refine r_addS (szl (by rw [l1]; simp only [List.length_cons, List.length_nil] at hm3; omega)) ?_
              walk_at "u"
              exact ⟨rfl, t ++ (" " : Str), by rw [str_catL, et, l2, if_pos ⟨c1, c2, c3⟩], rfl⟩
        · walk_at "u"
          exact ⟨rfl, t, no (fun h => c1 h.1), rfl⟩
      rintro σ H4 ⟨rfl, t1, et1, rfl⟩
      rw [← et1] at hm hm2 ⊢
      walk_at "u"
      have hcat : (t1 ++ w).cps.toList = t1.cps.toList ++ w.cps.toList := str_catL _ _
      rw [← hcat] at hm hm2 ⊢
      have hsum := str_cat t1 w
      rw [str_len (t1 ++ w)] at hsum
      refine r_addS (szl (by omega)) ?_
      clear hsum
      generalize t1 ++ w = t2 at *
      walk_at "u"
      have lr : lp ≠ rp := lp_rp
      by_cases c1 : w = lp
      · have c2 : w ≠ rp := fun e => lr (c1.symm.trans e)
        walk_at "ui"
        walk_at "ui"
        refine ⟨rfl, t2, some (.str w), ?_, ?_⟩
        · show t2.cps.toList = if _ then _ else _
          rw [if_neg (fun e => c2 e.1)]
        · show _ = [_, _, some (V.int (if w = rp then _ else _)), _, _]
          rw [if_neg c2, if_pos c1]
          rfl
      by_cases c2 : w = rp
      · walk_at "ui"
        walk_at "ui"
        have e3 : (if w = rp then (if w = lp then s2 + 1 else s2) - 1 else (if w = lp then s2 + 1 else s2)) = s2 - 1 := by rw [if_pos c2, if_neg c1]
        rw [e3] at hm ⊢
        refine br_d (fun c3 => ?_) (fun c3 => ?_)
        · have c3 : s2 - 1 = 0 := c3
          rw [if_pos ⟨c2, c3⟩] at hm
          rw [List.length_append] at hm
          have l1 : ("\n" : Str).length = 1 := by decide +kernel
          have l2 : ("\n" : Str).cps.toList = [10] := by decide +kernel
          walk_at "u"
          refine r_addS (szl (by rw [l1, str_len]; simp only [List.length_cons, List.length_nil] at hm; omega)) ?_
          walk_at "u"
          refine ⟨rfl, t2 ++ ("\n" : Str), some (.str w), ?_, rfl⟩
          show _ = if _ then _ else _
          rw [str_catL, l2, if_pos ⟨c2, c3⟩]
        · have c3 : ¬ s2 - 1 = 0 := c3
          walk_at "u"
          refine ⟨rfl, t2, some (.str w), ?_, rfl⟩
          show _ = if _ then _ else _
          rw [if_neg (fun e => c3 e.2)]
      · walk_at "ui"
        walk_at "ui"
        refine ⟨rfl, t2, some (.str w), ?_, ?_⟩
        · show t2.cps.toList = if _ then _ else _
          rw [if_neg (fun e => c2 e.1)]
        · show _ = [_, _, some (V.int (if w = rp then _ else _)), _, _]
          rw [if_neg c2, if_neg c1]
          rfl
    · rintro σ H3 ⟨rfl, c⟩
      rw [List.take_of_length_le (by rw [List.length_map]; exact Nat.le_refl _)] at c
      exact ⟨rfl, c⟩
  rintro σ H3 ⟨rfl, t, y4, et, rfl⟩
  walk_at "u"
  exact q t et
end
section
variable {K : PySem.W.Frag} {vs : List V} {H : Hp} {Q : VK} {E : XK} {n : Nat}
theorem linesT_len {d : D} (h : TreeD (ED 5) d) : (linesT (sxT d)).length ≤ 9000000 := by
  obtain ⟨datas, excs, funs, rfl, h1, h2, h3, h4, h5, h6⟩ := h
  have s := allX_sum h1 h2 h3 h4 h5 h6
  have e : ∀ ls : List (List Sx), (linesT ls).length = sumL (ls.map Sx.node) := fun ls => by
    induction ls with
    | nil => rfl
    | cons c r ih =>
      show (((Sx.node c).txt ++ [10]) ++ linesT r).length = ((Sx.node c).txt.length + 1) + sumL (r.map Sx.node)
      rw [List.length_append, ih, List.length_append]
      rfl
  rw [e]
  have e2 : (sxT (.tup [.tup datas, .tup ([.str "Div", .str "Index", .str "Size"] ++ excs), .tup funs])).map Sx.node = allX datas excs funs := by
    show (datas.map sxData ++ excs.map sxExc ++ funs.map sxFun).map Sx.node = _
    unfold allX
    simp
    rfl
  rw [e2]
  exact s
theorem rd_law (h : sp_law K vs H Q E) : t_law K { nx := fun _ H' => Q .non H', rt := Q } (start n_law vs) H := by
  obtain ⟨a, ns, rfl, ha, hn, q⟩ := h
  unfold t_law
  walk_at "u"
  refine ⟨a, ns, rfl, ha, hn, fun p l H1 s1 hp0 hD1 => ?_⟩
  walk_at "u"
  refine ⟨p, l, rfl, hD1, fun v d H2 hd hv hD2 f2 => ?_⟩
  walk_at "u"
  refine ⟨szl (by simp), fun r hr => ?_⟩
  obtain ⟨H3, e3, s3, er⟩ := lay_new (o := .lst []) hr
  rw [e3]
  have hrp := hD2.nep hr
  have hrl := hD2.nel hr
  have hT := linesT_len hd
  have hok := sxT_ok hd
  have hW := linesW_le hok
  walk_at "u"
  refine ⟨v, d, r, rfl, hv.k (Same.tk s3), hd, er, by omega, fun v' d' H4 hd' es hv' f4 e4 => ?_⟩
  have hD4 : Dr H4 p l := by
    obtain ⟨ns2, cur, seed, at_, hp, hl, hne, h0⟩ := hD2.same s3
    exact ⟨ns2, cur, seed, at_, f4 _ _ hrp.symm hp, f4 _ _ hrl.symm hl, hne, h0⟩
  have hv4 : Td K H4 v d := hv.k ((Same.tk s3).trans (f4.tk er))
  walk_at "u"
  refine r_cut (fun σ' H' => H' r = some (.lst ((linesW (sxT d)).map V.str)) ∧ ∃ v2 d2, TreeD (ED 5) d2 ∧ sxT d2 = sxT d ∧ Td K H' v2 d2 ∧ σ' = [some (.ref a), some (.ref p), some v2, some (.ref r), some v', none]) ?_ ?_
  · walk_at "u"
    refine ⟨p, l, 2, rfl, by decide, by decide, hD4, fun n H5 n0 n1 hD5 f5 => ?_⟩
    have fr5 : Fr p H4 H5 := Fr.of f5
    have er5 := fr5 _ _ hrp e4
    have k5 : Tk K H4 H5 := hD4.tk fr5
    walk_at "u"
    by_cases hn1 : n = 1
    · walk_at "u"
      exact ⟨er5, v', d', hd', es, hv'.k k5, rfl⟩
    · walk_at "u"
      exact ⟨er5, v, d, hd, rfl, hv4.k k5, rfl⟩
  rintro σ H5 ⟨e5, v2, d2, hd2, es2, hv2, rfl⟩
  walk_at "u"
  refine ⟨v2, d2, rfl, hv2, hd2, fun zz H6 s6 hzz => ?_⟩
  walk_at "u"
  have hf := fold_lines (ls := sxT d) [] lp hok
  rw [List.nil_append] at hf
  refine ⟨r, linesW (sxT d), rfl, s6 _ _ e5, by rw [hf]; omega, fun z2 hz2 => ?_⟩
  have ez : zz = z2 := by rw [str_eq, hzz, hz2, hf, es2]
  walk_at "u"
  have ed : decide (zz = z2) = true := decide_eq_true ez
  rw [ed]
  exact q H6
end
section
variable {K : PySem.W.Frag} {vs : List V} {H : Hp} {Q : VK} {E : XK} {n : Nat}
theorem len_write_kind (h : spr_write_kind (n + 1) K vs H Q E) : vs.length = (["kind"] : List Str).length := by
  first | (obtain ⟨rfl, _⟩ := h; rfl) | (obtain ⟨_, rfl, _⟩ := h; rfl) | (obtain ⟨_, _, rfl, _⟩ := h; rfl) | (obtain ⟨_, _, _, rfl, _⟩ := h; rfl) | (obtain ⟨_, _, _, _, rfl, _⟩ := h; rfl) | (obtain ⟨_, _, _, _, _, rfl, _⟩ := h; rfl) | (obtain ⟨_, _, _, _, _, _, rfl, _⟩ := h; rfl) | (obtain ⟨_, _, _, _, _, _, _, rfl, _⟩ := h; rfl) | (obtain ⟨_, _, _, _, _, _, _, _, rfl, _⟩ := h; rfl)
theorem len_form (h : sp_form K vs H Q E) : vs.length = (["words"] : List Str).length := by
  first | (obtain ⟨rfl, _⟩ := h; rfl) | (obtain ⟨_, rfl, _⟩ := h; rfl) | (obtain ⟨_, _, rfl, _⟩ := h; rfl) | (obtain ⟨_, _, _, rfl, _⟩ := h; rfl) | (obtain ⟨_, _, _, _, rfl, _⟩ := h; rfl) | (obtain ⟨_, _, _, _, _, rfl, _⟩ := h; rfl) | (obtain ⟨_, _, _, _, _, _, rfl, _⟩ := h; rfl) | (obtain ⟨_, _, _, _, _, _, _, rfl, _⟩ := h; rfl) | (obtain ⟨_, _, _, _, _, _, _, _, rfl, _⟩ := h; rfl)
theorem len_write_parameter (h : sp_write_parameter K vs H Q E) : vs.length = (["parameter"] : List Str).length := by
  first | (obtain ⟨rfl, _⟩ := h; rfl) | (obtain ⟨_, rfl, _⟩ := h; rfl) | (obtain ⟨_, _, rfl, _⟩ := h; rfl) | (obtain ⟨_, _, _, rfl, _⟩ := h; rfl) | (obtain ⟨_, _, _, _, rfl, _⟩ := h; rfl) | (obtain ⟨_, _, _, _, _, rfl, _⟩ := h; rfl) | (obtain ⟨_, _, _, _, _, _, rfl, _⟩ := h; rfl) | (obtain ⟨_, _, _, _, _, _, _, rfl, _⟩ := h; rfl) | (obtain ⟨_, _, _, _, _, _, _, _, rfl, _⟩ := h; rfl)
theorem len_write_leaf (h : sp_write_leaf K vs H Q E) : vs.length = (["op", "info"] : List Str).length := by
  first | (obtain ⟨rfl, _⟩ := h; rfl) | (obtain ⟨_, rfl, _⟩ := h; rfl) | (obtain ⟨_, _, rfl, _⟩ := h; rfl) | (obtain ⟨_, _, _, rfl, _⟩ := h; rfl) | (obtain ⟨_, _, _, _, rfl, _⟩ := h; rfl) | (obtain ⟨_, _, _, _, _, rfl, _⟩ := h; rfl) | (obtain ⟨_, _, _, _, _, _, rfl, _⟩ := h; rfl) | (obtain ⟨_, _, _, _, _, _, _, rfl, _⟩ := h; rfl) | (obtain ⟨_, _, _, _, _, _, _, _, rfl, _⟩ := h; rfl)
theorem len_write_head (h : sp_write_head K vs H Q E) : vs.length = (["op", "info"] : List Str).length := by
  first | (obtain ⟨rfl, _⟩ := h; rfl) | (obtain ⟨_, rfl, _⟩ := h; rfl) | (obtain ⟨_, _, rfl, _⟩ := h; rfl) | (obtain ⟨_, _, _, rfl, _⟩ := h; rfl) | (obtain ⟨_, _, _, _, rfl, _⟩ := h; rfl) | (obtain ⟨_, _, _, _, _, rfl, _⟩ := h; rfl) | (obtain ⟨_, _, _, _, _, _, rfl, _⟩ := h; rfl) | (obtain ⟨_, _, _, _, _, _, _, rfl, _⟩ := h; rfl) | (obtain ⟨_, _, _, _, _, _, _, _, rfl, _⟩ := h; rfl)
theorem len_write_arm (h : spr_write_arm (n + 1) K vs H Q E) : vs.length = (["op", "arm"] : List Str).length := by
  first | (obtain ⟨rfl, _⟩ := h; rfl) | (obtain ⟨_, rfl, _⟩ := h; rfl) | (obtain ⟨_, _, rfl, _⟩ := h; rfl) | (obtain ⟨_, _, _, rfl, _⟩ := h; rfl) | (obtain ⟨_, _, _, _, rfl, _⟩ := h; rfl) | (obtain ⟨_, _, _, _, _, rfl, _⟩ := h; rfl) | (obtain ⟨_, _, _, _, _, _, rfl, _⟩ := h; rfl) | (obtain ⟨_, _, _, _, _, _, _, rfl, _⟩ := h; rfl) | (obtain ⟨_, _, _, _, _, _, _, _, rfl, _⟩ := h; rfl)
theorem len_write_expression (h : spr_write_expression (n + 1) K vs H Q E) : vs.length = (["expression"] : List Str).length := by
  first | (obtain ⟨rfl, _⟩ := h; rfl) | (obtain ⟨_, rfl, _⟩ := h; rfl) | (obtain ⟨_, _, rfl, _⟩ := h; rfl) | (obtain ⟨_, _, _, rfl, _⟩ := h; rfl) | (obtain ⟨_, _, _, _, rfl, _⟩ := h; rfl) | (obtain ⟨_, _, _, _, _, rfl, _⟩ := h; rfl) | (obtain ⟨_, _, _, _, _, _, rfl, _⟩ := h; rfl) | (obtain ⟨_, _, _, _, _, _, _, rfl, _⟩ := h; rfl) | (obtain ⟨_, _, _, _, _, _, _, _, rfl, _⟩ := h; rfl)
theorem len_write_data (h : sp_write_data K vs H Q E) : vs.length = (["data"] : List Str).length := by
  first | (obtain ⟨rfl, _⟩ := h; rfl) | (obtain ⟨_, rfl, _⟩ := h; rfl) | (obtain ⟨_, _, rfl, _⟩ := h; rfl) | (obtain ⟨_, _, _, rfl, _⟩ := h; rfl) | (obtain ⟨_, _, _, _, rfl, _⟩ := h; rfl) | (obtain ⟨_, _, _, _, _, rfl, _⟩ := h; rfl) | (obtain ⟨_, _, _, _, _, _, rfl, _⟩ := h; rfl) | (obtain ⟨_, _, _, _, _, _, _, rfl, _⟩ := h; rfl) | (obtain ⟨_, _, _, _, _, _, _, _, rfl, _⟩ := h; rfl)
theorem len_write_function (h : sp_write_function K vs H Q E) : vs.length = (["function"] : List Str).length := by
  first | (obtain ⟨rfl, _⟩ := h; rfl) | (obtain ⟨_, rfl, _⟩ := h; rfl) | (obtain ⟨_, _, rfl, _⟩ := h; rfl) | (obtain ⟨_, _, _, rfl, _⟩ := h; rfl) | (obtain ⟨_, _, _, _, rfl, _⟩ := h; rfl) | (obtain ⟨_, _, _, _, _, rfl, _⟩ := h; rfl) | (obtain ⟨_, _, _, _, _, _, rfl, _⟩ := h; rfl) | (obtain ⟨_, _, _, _, _, _, _, rfl, _⟩ := h; rfl) | (obtain ⟨_, _, _, _, _, _, _, _, rfl, _⟩ := h; rfl)
theorem len_write_program (h : sp_write_program K vs H Q E) : vs.length = (["tree"] : List Str).length := by
  first | (obtain ⟨rfl, _⟩ := h; rfl) | (obtain ⟨_, rfl, _⟩ := h; rfl) | (obtain ⟨_, _, rfl, _⟩ := h; rfl) | (obtain ⟨_, _, _, rfl, _⟩ := h; rfl) | (obtain ⟨_, _, _, _, rfl, _⟩ := h; rfl) | (obtain ⟨_, _, _, _, _, rfl, _⟩ := h; rfl) | (obtain ⟨_, _, _, _, _, _, rfl, _⟩ := h; rfl) | (obtain ⟨_, _, _, _, _, _, _, rfl, _⟩ := h; rfl) | (obtain ⟨_, _, _, _, _, _, _, _, rfl, _⟩ := h; rfl)
theorem len_l_start (h : sp_l_start K vs H Q E) : vs.length = (["_law_script"] : List Str).length := by
  first | (obtain ⟨rfl, _⟩ := h; rfl) | (obtain ⟨_, rfl, _⟩ := h; rfl) | (obtain ⟨_, _, rfl, _⟩ := h; rfl) | (obtain ⟨_, _, _, rfl, _⟩ := h; rfl) | (obtain ⟨_, _, _, _, rfl, _⟩ := h; rfl) | (obtain ⟨_, _, _, _, _, rfl, _⟩ := h; rfl) | (obtain ⟨_, _, _, _, _, _, rfl, _⟩ := h; rfl) | (obtain ⟨_, _, _, _, _, _, _, rfl, _⟩ := h; rfl) | (obtain ⟨_, _, _, _, _, _, _, _, rfl, _⟩ := h; rfl)
theorem len_l_draw (h : sp_l_draw K vs H Q E) : vs.length = (["_law_state", "_law_many"] : List Str).length := by
  first | (obtain ⟨rfl, _⟩ := h; rfl) | (obtain ⟨_, rfl, _⟩ := h; rfl) | (obtain ⟨_, _, rfl, _⟩ := h; rfl) | (obtain ⟨_, _, _, rfl, _⟩ := h; rfl) | (obtain ⟨_, _, _, _, rfl, _⟩ := h; rfl) | (obtain ⟨_, _, _, _, _, rfl, _⟩ := h; rfl) | (obtain ⟨_, _, _, _, _, _, rfl, _⟩ := h; rfl) | (obtain ⟨_, _, _, _, _, _, _, rfl, _⟩ := h; rfl) | (obtain ⟨_, _, _, _, _, _, _, _, rfl, _⟩ := h; rfl)
theorem len_l_reserved (h : sp_l_reserved K vs H Q E) : vs.length = ([] : List Str).length := by
  first | (obtain ⟨rfl, _⟩ := h; rfl) | (obtain ⟨_, rfl, _⟩ := h; rfl) | (obtain ⟨_, _, rfl, _⟩ := h; rfl) | (obtain ⟨_, _, _, rfl, _⟩ := h; rfl) | (obtain ⟨_, _, _, _, rfl, _⟩ := h; rfl) | (obtain ⟨_, _, _, _, _, rfl, _⟩ := h; rfl) | (obtain ⟨_, _, _, _, _, _, rfl, _⟩ := h; rfl) | (obtain ⟨_, _, _, _, _, _, _, rfl, _⟩ := h; rfl) | (obtain ⟨_, _, _, _, _, _, _, _, rfl, _⟩ := h; rfl)
theorem len_l_name (h : sp_l_name K vs H Q E) : vs.length = (["_law_state", "_law_great"] : List Str).length := by
  first | (obtain ⟨rfl, _⟩ := h; rfl) | (obtain ⟨_, rfl, _⟩ := h; rfl) | (obtain ⟨_, _, rfl, _⟩ := h; rfl) | (obtain ⟨_, _, _, rfl, _⟩ := h; rfl) | (obtain ⟨_, _, _, _, rfl, _⟩ := h; rfl) | (obtain ⟨_, _, _, _, _, rfl, _⟩ := h; rfl) | (obtain ⟨_, _, _, _, _, _, rfl, _⟩ := h; rfl) | (obtain ⟨_, _, _, _, _, _, _, rfl, _⟩ := h; rfl) | (obtain ⟨_, _, _, _, _, _, _, _, rfl, _⟩ := h; rfl)
theorem len_l_fresh (h : sp_l_fresh K vs H Q E) : vs.length = (["_law_state", "_law_great", "_law_taken"] : List Str).length := by
  first | (obtain ⟨rfl, _⟩ := h; rfl) | (obtain ⟨_, rfl, _⟩ := h; rfl) | (obtain ⟨_, _, rfl, _⟩ := h; rfl) | (obtain ⟨_, _, _, rfl, _⟩ := h; rfl) | (obtain ⟨_, _, _, _, rfl, _⟩ := h; rfl) | (obtain ⟨_, _, _, _, _, rfl, _⟩ := h; rfl) | (obtain ⟨_, _, _, _, _, _, rfl, _⟩ := h; rfl) | (obtain ⟨_, _, _, _, _, _, _, rfl, _⟩ := h; rfl) | (obtain ⟨_, _, _, _, _, _, _, _, rfl, _⟩ := h; rfl)
theorem len_l_kind (h : spr_l_kind (n + 1) K vs H Q E) : vs.length = (["_law_state", "_law_deep"] : List Str).length := by
  first | (obtain ⟨rfl, _⟩ := h; rfl) | (obtain ⟨_, rfl, _⟩ := h; rfl) | (obtain ⟨_, _, rfl, _⟩ := h; rfl) | (obtain ⟨_, _, _, rfl, _⟩ := h; rfl) | (obtain ⟨_, _, _, _, rfl, _⟩ := h; rfl) | (obtain ⟨_, _, _, _, _, rfl, _⟩ := h; rfl) | (obtain ⟨_, _, _, _, _, _, rfl, _⟩ := h; rfl) | (obtain ⟨_, _, _, _, _, _, _, rfl, _⟩ := h; rfl) | (obtain ⟨_, _, _, _, _, _, _, _, rfl, _⟩ := h; rfl)
theorem len_l_exception (h : sp_l_exception K vs H Q E) : vs.length = (["_law_state"] : List Str).length := by
  first | (obtain ⟨rfl, _⟩ := h; rfl) | (obtain ⟨_, rfl, _⟩ := h; rfl) | (obtain ⟨_, _, rfl, _⟩ := h; rfl) | (obtain ⟨_, _, _, rfl, _⟩ := h; rfl) | (obtain ⟨_, _, _, _, rfl, _⟩ := h; rfl) | (obtain ⟨_, _, _, _, _, rfl, _⟩ := h; rfl) | (obtain ⟨_, _, _, _, _, _, rfl, _⟩ := h; rfl) | (obtain ⟨_, _, _, _, _, _, _, rfl, _⟩ := h; rfl) | (obtain ⟨_, _, _, _, _, _, _, _, rfl, _⟩ := h; rfl)
theorem len_l_leaf (h : sp_l_leaf K vs H Q E) : vs.length = (["_law_state"] : List Str).length := by
  first | (obtain ⟨rfl, _⟩ := h; rfl) | (obtain ⟨_, rfl, _⟩ := h; rfl) | (obtain ⟨_, _, rfl, _⟩ := h; rfl) | (obtain ⟨_, _, _, rfl, _⟩ := h; rfl) | (obtain ⟨_, _, _, _, rfl, _⟩ := h; rfl) | (obtain ⟨_, _, _, _, _, rfl, _⟩ := h; rfl) | (obtain ⟨_, _, _, _, _, _, rfl, _⟩ := h; rfl) | (obtain ⟨_, _, _, _, _, _, _, rfl, _⟩ := h; rfl) | (obtain ⟨_, _, _, _, _, _, _, _, rfl, _⟩ := h; rfl)
theorem len_l_counts (h : sp_l_counts K vs H Q E) : vs.length = ([] : List Str).length := by
  first | (obtain ⟨rfl, _⟩ := h; rfl) | (obtain ⟨_, rfl, _⟩ := h; rfl) | (obtain ⟨_, _, rfl, _⟩ := h; rfl) | (obtain ⟨_, _, _, rfl, _⟩ := h; rfl) | (obtain ⟨_, _, _, _, rfl, _⟩ := h; rfl) | (obtain ⟨_, _, _, _, _, rfl, _⟩ := h; rfl) | (obtain ⟨_, _, _, _, _, _, rfl, _⟩ := h; rfl) | (obtain ⟨_, _, _, _, _, _, _, rfl, _⟩ := h; rfl) | (obtain ⟨_, _, _, _, _, _, _, _, rfl, _⟩ := h; rfl)
theorem len_l_arms (h : spr_l_arms (n + 1) K vs H Q E) : vs.length = (["_law_state", "_law_op", "_law_deep", "_law_room"] : List Str).length := by
  first | (obtain ⟨rfl, _⟩ := h; rfl) | (obtain ⟨_, rfl, _⟩ := h; rfl) | (obtain ⟨_, _, rfl, _⟩ := h; rfl) | (obtain ⟨_, _, _, rfl, _⟩ := h; rfl) | (obtain ⟨_, _, _, _, rfl, _⟩ := h; rfl) | (obtain ⟨_, _, _, _, _, rfl, _⟩ := h; rfl) | (obtain ⟨_, _, _, _, _, _, rfl, _⟩ := h; rfl) | (obtain ⟨_, _, _, _, _, _, _, rfl, _⟩ := h; rfl) | (obtain ⟨_, _, _, _, _, _, _, _, rfl, _⟩ := h; rfl)
theorem len_l_expr (h : spr_l_expr (n + 1) K vs H Q E) : vs.length = (["_law_state", "_law_deep", "_law_room"] : List Str).length := by
  first | (obtain ⟨rfl, _⟩ := h; rfl) | (obtain ⟨_, rfl, _⟩ := h; rfl) | (obtain ⟨_, _, rfl, _⟩ := h; rfl) | (obtain ⟨_, _, _, rfl, _⟩ := h; rfl) | (obtain ⟨_, _, _, _, rfl, _⟩ := h; rfl) | (obtain ⟨_, _, _, _, _, rfl, _⟩ := h; rfl) | (obtain ⟨_, _, _, _, _, _, rfl, _⟩ := h; rfl) | (obtain ⟨_, _, _, _, _, _, _, rfl, _⟩ := h; rfl) | (obtain ⟨_, _, _, _, _, _, _, _, rfl, _⟩ := h; rfl)
theorem len_l_tree (h : sp_l_tree K vs H Q E) : vs.length = (["_law_state"] : List Str).length := by
  first | (obtain ⟨rfl, _⟩ := h; rfl) | (obtain ⟨_, rfl, _⟩ := h; rfl) | (obtain ⟨_, _, rfl, _⟩ := h; rfl) | (obtain ⟨_, _, _, rfl, _⟩ := h; rfl) | (obtain ⟨_, _, _, _, rfl, _⟩ := h; rfl) | (obtain ⟨_, _, _, _, _, rfl, _⟩ := h; rfl) | (obtain ⟨_, _, _, _, _, _, rfl, _⟩ := h; rfl) | (obtain ⟨_, _, _, _, _, _, _, rfl, _⟩ := h; rfl) | (obtain ⟨_, _, _, _, _, _, _, _, rfl, _⟩ := h; rfl)
theorem len_l_kind_words (h : spr_l_kind_words (n + 1) K vs H Q E) : vs.length = (["_law_kind_here", "_law_words_here"] : List Str).length := by
  first | (obtain ⟨rfl, _⟩ := h; rfl) | (obtain ⟨_, rfl, _⟩ := h; rfl) | (obtain ⟨_, _, rfl, _⟩ := h; rfl) | (obtain ⟨_, _, _, rfl, _⟩ := h; rfl) | (obtain ⟨_, _, _, _, rfl, _⟩ := h; rfl) | (obtain ⟨_, _, _, _, _, rfl, _⟩ := h; rfl) | (obtain ⟨_, _, _, _, _, _, rfl, _⟩ := h; rfl) | (obtain ⟨_, _, _, _, _, _, _, rfl, _⟩ := h; rfl) | (obtain ⟨_, _, _, _, _, _, _, _, rfl, _⟩ := h; rfl)
theorem len_l_head (h : sp_l_head K vs H Q E) : vs.length = (["_law_expr_here", "_law_words_here"] : List Str).length := by
  first | (obtain ⟨rfl, _⟩ := h; rfl) | (obtain ⟨_, rfl, _⟩ := h; rfl) | (obtain ⟨_, _, rfl, _⟩ := h; rfl) | (obtain ⟨_, _, _, rfl, _⟩ := h; rfl) | (obtain ⟨_, _, _, _, rfl, _⟩ := h; rfl) | (obtain ⟨_, _, _, _, _, rfl, _⟩ := h; rfl) | (obtain ⟨_, _, _, _, _, _, rfl, _⟩ := h; rfl) | (obtain ⟨_, _, _, _, _, _, _, rfl, _⟩ := h; rfl) | (obtain ⟨_, _, _, _, _, _, _, _, rfl, _⟩ := h; rfl)
theorem len_l_expr_words (h : spr_l_expr_words (n + 1) K vs H Q E) : vs.length = (["_law_expr_here", "_law_words_here"] : List Str).length := by
  first | (obtain ⟨rfl, _⟩ := h; rfl) | (obtain ⟨_, rfl, _⟩ := h; rfl) | (obtain ⟨_, _, rfl, _⟩ := h; rfl) | (obtain ⟨_, _, _, rfl, _⟩ := h; rfl) | (obtain ⟨_, _, _, _, rfl, _⟩ := h; rfl) | (obtain ⟨_, _, _, _, _, rfl, _⟩ := h; rfl) | (obtain ⟨_, _, _, _, _, _, rfl, _⟩ := h; rfl) | (obtain ⟨_, _, _, _, _, _, _, rfl, _⟩ := h; rfl) | (obtain ⟨_, _, _, _, _, _, _, _, rfl, _⟩ := h; rfl)
theorem len_l_data_words (h : sp_l_data_words K vs H Q E) : vs.length = (["_law_data", "_law_words_here"] : List Str).length := by
  first | (obtain ⟨rfl, _⟩ := h; rfl) | (obtain ⟨_, rfl, _⟩ := h; rfl) | (obtain ⟨_, _, rfl, _⟩ := h; rfl) | (obtain ⟨_, _, _, rfl, _⟩ := h; rfl) | (obtain ⟨_, _, _, _, rfl, _⟩ := h; rfl) | (obtain ⟨_, _, _, _, _, rfl, _⟩ := h; rfl) | (obtain ⟨_, _, _, _, _, _, rfl, _⟩ := h; rfl) | (obtain ⟨_, _, _, _, _, _, _, rfl, _⟩ := h; rfl) | (obtain ⟨_, _, _, _, _, _, _, _, rfl, _⟩ := h; rfl)
theorem len_l_function_words (h : sp_l_function_words K vs H Q E) : vs.length = (["_law_function", "_law_words_here"] : List Str).length := by
  first | (obtain ⟨rfl, _⟩ := h; rfl) | (obtain ⟨_, rfl, _⟩ := h; rfl) | (obtain ⟨_, _, rfl, _⟩ := h; rfl) | (obtain ⟨_, _, _, rfl, _⟩ := h; rfl) | (obtain ⟨_, _, _, _, rfl, _⟩ := h; rfl) | (obtain ⟨_, _, _, _, _, rfl, _⟩ := h; rfl) | (obtain ⟨_, _, _, _, _, _, rfl, _⟩ := h; rfl) | (obtain ⟨_, _, _, _, _, _, _, rfl, _⟩ := h; rfl) | (obtain ⟨_, _, _, _, _, _, _, _, rfl, _⟩ := h; rfl)
theorem len_l_words (h : sp_l_words K vs H Q E) : vs.length = (["_law_tree_here", "_law_words_here"] : List Str).length := by
  first | (obtain ⟨rfl, _⟩ := h; rfl) | (obtain ⟨_, rfl, _⟩ := h; rfl) | (obtain ⟨_, _, rfl, _⟩ := h; rfl) | (obtain ⟨_, _, _, rfl, _⟩ := h; rfl) | (obtain ⟨_, _, _, _, rfl, _⟩ := h; rfl) | (obtain ⟨_, _, _, _, _, rfl, _⟩ := h; rfl) | (obtain ⟨_, _, _, _, _, _, rfl, _⟩ := h; rfl) | (obtain ⟨_, _, _, _, _, _, _, rfl, _⟩ := h; rfl) | (obtain ⟨_, _, _, _, _, _, _, _, rfl, _⟩ := h; rfl)
theorem len_l_canonical (h : sp_l_canonical K vs H Q E) : vs.length = (["_law_words_here"] : List Str).length := by
  first | (obtain ⟨rfl, _⟩ := h; rfl) | (obtain ⟨_, rfl, _⟩ := h; rfl) | (obtain ⟨_, _, rfl, _⟩ := h; rfl) | (obtain ⟨_, _, _, rfl, _⟩ := h; rfl) | (obtain ⟨_, _, _, _, rfl, _⟩ := h; rfl) | (obtain ⟨_, _, _, _, _, rfl, _⟩ := h; rfl) | (obtain ⟨_, _, _, _, _, _, rfl, _⟩ := h; rfl) | (obtain ⟨_, _, _, _, _, _, _, rfl, _⟩ := h; rfl) | (obtain ⟨_, _, _, _, _, _, _, _, rfl, _⟩ := h; rfl)
theorem len_law (h : sp_law K vs H Q E) : vs.length = (["_law_script"] : List Str).length := by
  first | (obtain ⟨rfl, _⟩ := h; rfl) | (obtain ⟨_, rfl, _⟩ := h; rfl) | (obtain ⟨_, _, rfl, _⟩ := h; rfl) | (obtain ⟨_, _, _, rfl, _⟩ := h; rfl) | (obtain ⟨_, _, _, _, rfl, _⟩ := h; rfl) | (obtain ⟨_, _, _, _, _, rfl, _⟩ := h; rfl) | (obtain ⟨_, _, _, _, _, _, rfl, _⟩ := h; rfl) | (obtain ⟨_, _, _, _, _, _, _, rfl, _⟩ := h; rfl) | (obtain ⟨_, _, _, _, _, _, _, _, rfl, _⟩ := h; rfl)
end
theorem law_in {K : PySem.W.Frag} {H : Hp} (a : Addr) (ns : List Int) (hl : ns.length ≤ 63) (h : SqL K H a (ns.map V.int)) : sp_law K [.ref a] H (fun v _ => v = .bl true) (fun _ _ _ => False) := ⟨a, ns, rfl, h, hl, fun _ => rfl⟩
def topS (i : Nat) : Stmt := PySem.Challenge.pw_escheat_k05_write_a_program.main.body.getD i (.Pass ⟨0, 0, 0, 0⟩)
abbrev s_write_kind : Stmt := topS 1
theorem sc_write_kind : FnScope n_write_kind ["kind"] (defScope s_write_kind) := ⟨rfl, rfl, rfl, by decide +kernel, rfl, by decide +kernel, by decide +kernel⟩
abbrev s_form : Stmt := topS 2
theorem sc_form : FnScope n_form ["words"] (defScope s_form) := ⟨rfl, rfl, rfl, by decide +kernel, rfl, by decide +kernel, by decide +kernel⟩
abbrev s_write_parameter : Stmt := topS 3
theorem sc_write_parameter : FnScope n_write_parameter ["parameter"] (defScope s_write_parameter) := ⟨rfl, rfl, rfl, by decide +kernel, rfl, by decide +kernel, by decide +kernel⟩
abbrev s_write_leaf : Stmt := topS 4
theorem sc_write_leaf : FnScope n_write_leaf ["op", "info"] (defScope s_write_leaf) := ⟨rfl, rfl, rfl, by decide +kernel, rfl, by decide +kernel, by decide +kernel⟩
abbrev s_write_head : Stmt := topS 5
theorem sc_write_head : FnScope n_write_head ["op", "info"] (defScope s_write_head) := ⟨rfl, rfl, rfl, by decide +kernel, rfl, by decide +kernel, by decide +kernel⟩
abbrev s_write_arm : Stmt := topS 6
theorem sc_write_arm : FnScope n_write_arm ["op", "arm"] (defScope s_write_arm) := ⟨rfl, rfl, rfl, by decide +kernel, rfl, by decide +kernel, by decide +kernel⟩
abbrev s_write_expression : Stmt := topS 7
theorem sc_write_expression : FnScope n_write_expression ["expression"] (defScope s_write_expression) := ⟨rfl, rfl, rfl, by decide +kernel, rfl, by decide +kernel, by decide +kernel⟩
abbrev s_write_data : Stmt := topS 8
theorem sc_write_data : FnScope n_write_data ["data"] (defScope s_write_data) := ⟨rfl, rfl, rfl, by decide +kernel, rfl, by decide +kernel, by decide +kernel⟩
abbrev s_write_function : Stmt := topS 9
theorem sc_write_function : FnScope n_write_function ["function"] (defScope s_write_function) := ⟨rfl, rfl, rfl, by decide +kernel, rfl, by decide +kernel, by decide +kernel⟩
abbrev s_write_program : Stmt := topS 11
theorem sc_write_program : FnScope n_write_program ["tree"] (defScope s_write_program) := ⟨rfl, rfl, rfl, by decide +kernel, rfl, by decide +kernel, by decide +kernel⟩
abbrev s_l_start : Stmt := topS 13
theorem sc_l_start : FnScope n_l_start ["_law_script"] (defScope s_l_start) := ⟨rfl, rfl, rfl, by decide +kernel, rfl, by decide +kernel, by decide +kernel⟩
abbrev s_l_draw : Stmt := topS 14
theorem sc_l_draw : FnScope n_l_draw ["_law_state", "_law_many"] (defScope s_l_draw) := ⟨rfl, rfl, rfl, by decide +kernel, rfl, by decide +kernel, by decide +kernel⟩
abbrev s_l_reserved : Stmt := topS 15
theorem sc_l_reserved : FnScope n_l_reserved [] (defScope s_l_reserved) := ⟨rfl, rfl, rfl, by decide +kernel, rfl, by decide +kernel, by decide +kernel⟩
abbrev s_l_name : Stmt := topS 16
theorem sc_l_name : FnScope n_l_name ["_law_state", "_law_great"] (defScope s_l_name) := ⟨rfl, rfl, rfl, by decide +kernel, rfl, by decide +kernel, by decide +kernel⟩
abbrev s_l_fresh : Stmt := topS 17
theorem sc_l_fresh : FnScope n_l_fresh ["_law_state", "_law_great", "_law_taken"] (defScope s_l_fresh) := ⟨rfl, rfl, rfl, by decide +kernel, rfl, by decide +kernel, by decide +kernel⟩
abbrev s_l_kind : Stmt := topS 18
theorem sc_l_kind : FnScope n_l_kind ["_law_state", "_law_deep"] (defScope s_l_kind) := ⟨rfl, rfl, rfl, by decide +kernel, rfl, by decide +kernel, by decide +kernel⟩
abbrev s_l_exception : Stmt := topS 19
theorem sc_l_exception : FnScope n_l_exception ["_law_state"] (defScope s_l_exception) := ⟨rfl, rfl, rfl, by decide +kernel, rfl, by decide +kernel, by decide +kernel⟩
abbrev s_l_leaf : Stmt := topS 20
theorem sc_l_leaf : FnScope n_l_leaf ["_law_state"] (defScope s_l_leaf) := ⟨rfl, rfl, rfl, by decide +kernel, rfl, by decide +kernel, by decide +kernel⟩
abbrev s_l_counts : Stmt := topS 21
theorem sc_l_counts : FnScope n_l_counts [] (defScope s_l_counts) := ⟨rfl, rfl, rfl, by decide +kernel, rfl, by decide +kernel, by decide +kernel⟩
abbrev s_l_arms : Stmt := topS 22
theorem sc_l_arms : FnScope n_l_arms ["_law_state", "_law_op", "_law_deep", "_law_room"] (defScope s_l_arms) := ⟨rfl, rfl, rfl, by decide +kernel, rfl, by decide +kernel, by decide +kernel⟩
abbrev s_l_expr : Stmt := topS 23
theorem sc_l_expr : FnScope n_l_expr ["_law_state", "_law_deep", "_law_room"] (defScope s_l_expr) := ⟨rfl, rfl, rfl, by decide +kernel, rfl, by decide +kernel, by decide +kernel⟩
abbrev s_l_tree : Stmt := topS 24
theorem sc_l_tree : FnScope n_l_tree ["_law_state"] (defScope s_l_tree) := ⟨rfl, rfl, rfl, by decide +kernel, rfl, by decide +kernel, by decide +kernel⟩
abbrev s_l_kind_words : Stmt := topS 25
theorem sc_l_kind_words : FnScope n_l_kind_words ["_law_kind_here", "_law_words_here"] (defScope s_l_kind_words) := ⟨rfl, rfl, rfl, by decide +kernel, rfl, by decide +kernel, by decide +kernel⟩
abbrev s_l_head : Stmt := topS 26
theorem sc_l_head : FnScope n_l_head ["_law_expr_here", "_law_words_here"] (defScope s_l_head) := ⟨rfl, rfl, rfl, by decide +kernel, rfl, by decide +kernel, by decide +kernel⟩
abbrev s_l_expr_words : Stmt := topS 27
theorem sc_l_expr_words : FnScope n_l_expr_words ["_law_expr_here", "_law_words_here"] (defScope s_l_expr_words) := ⟨rfl, rfl, rfl, by decide +kernel, rfl, by decide +kernel, by decide +kernel⟩
abbrev s_l_data_words : Stmt := topS 28
theorem sc_l_data_words : FnScope n_l_data_words ["_law_data", "_law_words_here"] (defScope s_l_data_words) := ⟨rfl, rfl, rfl, by decide +kernel, rfl, by decide +kernel, by decide +kernel⟩
abbrev s_l_function_words : Stmt := topS 29
theorem sc_l_function_words : FnScope n_l_function_words ["_law_function", "_law_words_here"] (defScope s_l_function_words) := ⟨rfl, rfl, rfl, by decide +kernel, rfl, by decide +kernel, by decide +kernel⟩
abbrev s_l_words : Stmt := topS 30
theorem sc_l_words : FnScope n_l_words ["_law_tree_here", "_law_words_here"] (defScope s_l_words) := ⟨rfl, rfl, rfl, by decide +kernel, rfl, by decide +kernel, by decide +kernel⟩
abbrev s_l_canonical : Stmt := topS 31
theorem sc_l_canonical : FnScope n_l_canonical ["_law_words_here"] (defScope s_l_canonical) := ⟨rfl, rfl, rfl, by decide +kernel, rfl, by decide +kernel, by decide +kernel⟩
abbrev s_law : Stmt := topS 32
theorem sc_law : FnScope n_law ["_law_script"] (defScope s_law) := ⟨rfl, rfl, rfl, by decide +kernel, rfl, by decide +kernel, by decide +kernel⟩
/-- what the top has left -/
structure Txt (K : PySem.W.Frag) (mg : Str → Option Value) : Prop where
  b_str : mg "str" = none
  b_list : mg "list" = none
  b_int : mg "int" = none
  b_len : mg "len" = none
  b_abs : mg "abs" = none
  b_range : mg "range" = none
  b_tuple : mg "tuple" = none
  b_sorted : mg "sorted" = none
  b_isinstance : mg "isinstance" = none
  g_write_kind : mg "write_kind" = some (.ref (He.ga K "write_kind"))
  F_write_kind : ∃ fd, FunD K "write_kind" "write_kind" (defArgs s_write_kind) (defBody s_write_kind) (defScope s_write_kind) [] [] (He.ga K "write_kind") fd
  g_form : mg "form" = some (.ref (He.ga K "form"))
  F_form : ∃ fd, FunD K "form" "form" (defArgs s_form) (defBody s_form) (defScope s_form) [] [] (He.ga K "form") fd
  g_write_parameter : mg "write_parameter" = some (.ref (He.ga K "write_parameter"))
  F_write_parameter : ∃ fd, FunD K "write_parameter" "write_parameter" (defArgs s_write_parameter) (defBody s_write_parameter) (defScope s_write_parameter) [] [] (He.ga K "write_parameter") fd
  g_write_leaf : mg "write_leaf" = some (.ref (He.ga K "write_leaf"))
  F_write_leaf : ∃ fd, FunD K "write_leaf" "write_leaf" (defArgs s_write_leaf) (defBody s_write_leaf) (defScope s_write_leaf) [] [] (He.ga K "write_leaf") fd
  g_write_head : mg "write_head" = some (.ref (He.ga K "write_head"))
  F_write_head : ∃ fd, FunD K "write_head" "write_head" (defArgs s_write_head) (defBody s_write_head) (defScope s_write_head) [] [] (He.ga K "write_head") fd
  g_write_arm : mg "write_arm" = some (.ref (He.ga K "write_arm"))
  F_write_arm : ∃ fd, FunD K "write_arm" "write_arm" (defArgs s_write_arm) (defBody s_write_arm) (defScope s_write_arm) [] [] (He.ga K "write_arm") fd
  g_write_expression : mg "write_expression" = some (.ref (He.ga K "write_expression"))
  F_write_expression : ∃ fd, FunD K "write_expression" "write_expression" (defArgs s_write_expression) (defBody s_write_expression) (defScope s_write_expression) [] [] (He.ga K "write_expression") fd
  g_write_data : mg "write_data" = some (.ref (He.ga K "write_data"))
  F_write_data : ∃ fd, FunD K "write_data" "write_data" (defArgs s_write_data) (defBody s_write_data) (defScope s_write_data) [] [] (He.ga K "write_data") fd
  g_write_function : mg "write_function" = some (.ref (He.ga K "write_function"))
  F_write_function : ∃ fd, FunD K "write_function" "write_function" (defArgs s_write_function) (defBody s_write_function) (defScope s_write_function) [] [] (He.ga K "write_function") fd
  g_write_program : mg "write_program" = some (.ref (He.ga K "write_program"))
  F_write_program : ∃ fd, FunD K "write_program" "write_program" (defArgs s_write_program) (defBody s_write_program) (defScope s_write_program) [] [] (He.ga K "write_program") fd
  g_l_start : mg "_law_start" = some (.ref (He.ga K "_law_start"))
  F_l_start : ∃ fd, FunD K "_law_start" "_law_start" (defArgs s_l_start) (defBody s_l_start) (defScope s_l_start) [] [] (He.ga K "_law_start") fd
  g_l_draw : mg "_law_draw" = some (.ref (He.ga K "_law_draw"))
  F_l_draw : ∃ fd, FunD K "_law_draw" "_law_draw" (defArgs s_l_draw) (defBody s_l_draw) (defScope s_l_draw) [] [] (He.ga K "_law_draw") fd
  g_l_reserved : mg "_law_reserved" = some (.ref (He.ga K "_law_reserved"))
  F_l_reserved : ∃ fd, FunD K "_law_reserved" "_law_reserved" (defArgs s_l_reserved) (defBody s_l_reserved) (defScope s_l_reserved) [] [] (He.ga K "_law_reserved") fd
  g_l_name : mg "_law_name" = some (.ref (He.ga K "_law_name"))
  F_l_name : ∃ fd, FunD K "_law_name" "_law_name" (defArgs s_l_name) (defBody s_l_name) (defScope s_l_name) [] [] (He.ga K "_law_name") fd
  g_l_fresh : mg "_law_fresh" = some (.ref (He.ga K "_law_fresh"))
  F_l_fresh : ∃ fd, FunD K "_law_fresh" "_law_fresh" (defArgs s_l_fresh) (defBody s_l_fresh) (defScope s_l_fresh) [] [] (He.ga K "_law_fresh") fd
  g_l_kind : mg "_law_kind" = some (.ref (He.ga K "_law_kind"))
  F_l_kind : ∃ fd, FunD K "_law_kind" "_law_kind" (defArgs s_l_kind) (defBody s_l_kind) (defScope s_l_kind) [] [] (He.ga K "_law_kind") fd
  g_l_exception : mg "_law_exception" = some (.ref (He.ga K "_law_exception"))
  F_l_exception : ∃ fd, FunD K "_law_exception" "_law_exception" (defArgs s_l_exception) (defBody s_l_exception) (defScope s_l_exception) [] [] (He.ga K "_law_exception") fd
  g_l_leaf : mg "_law_leaf" = some (.ref (He.ga K "_law_leaf"))
  F_l_leaf : ∃ fd, FunD K "_law_leaf" "_law_leaf" (defArgs s_l_leaf) (defBody s_l_leaf) (defScope s_l_leaf) [] [] (He.ga K "_law_leaf") fd
  g_l_counts : mg "_law_counts" = some (.ref (He.ga K "_law_counts"))
  F_l_counts : ∃ fd, FunD K "_law_counts" "_law_counts" (defArgs s_l_counts) (defBody s_l_counts) (defScope s_l_counts) [] [] (He.ga K "_law_counts") fd
  g_l_arms : mg "_law_arms" = some (.ref (He.ga K "_law_arms"))
  F_l_arms : ∃ fd, FunD K "_law_arms" "_law_arms" (defArgs s_l_arms) (defBody s_l_arms) (defScope s_l_arms) [] [] (He.ga K "_law_arms") fd
  g_l_expr : mg "_law_expr" = some (.ref (He.ga K "_law_expr"))
  F_l_expr : ∃ fd, FunD K "_law_expr" "_law_expr" (defArgs s_l_expr) (defBody s_l_expr) (defScope s_l_expr) [] [] (He.ga K "_law_expr") fd
  g_l_tree : mg "_law_tree" = some (.ref (He.ga K "_law_tree"))
  F_l_tree : ∃ fd, FunD K "_law_tree" "_law_tree" (defArgs s_l_tree) (defBody s_l_tree) (defScope s_l_tree) [] [] (He.ga K "_law_tree") fd
  g_l_kind_words : mg "_law_kind_words" = some (.ref (He.ga K "_law_kind_words"))
  F_l_kind_words : ∃ fd, FunD K "_law_kind_words" "_law_kind_words" (defArgs s_l_kind_words) (defBody s_l_kind_words) (defScope s_l_kind_words) [] [] (He.ga K "_law_kind_words") fd
  g_l_head : mg "_law_head" = some (.ref (He.ga K "_law_head"))
  F_l_head : ∃ fd, FunD K "_law_head" "_law_head" (defArgs s_l_head) (defBody s_l_head) (defScope s_l_head) [] [] (He.ga K "_law_head") fd
  g_l_expr_words : mg "_law_expr_words" = some (.ref (He.ga K "_law_expr_words"))
  F_l_expr_words : ∃ fd, FunD K "_law_expr_words" "_law_expr_words" (defArgs s_l_expr_words) (defBody s_l_expr_words) (defScope s_l_expr_words) [] [] (He.ga K "_law_expr_words") fd
  g_l_data_words : mg "_law_data_words" = some (.ref (He.ga K "_law_data_words"))
  F_l_data_words : ∃ fd, FunD K "_law_data_words" "_law_data_words" (defArgs s_l_data_words) (defBody s_l_data_words) (defScope s_l_data_words) [] [] (He.ga K "_law_data_words") fd
  g_l_function_words : mg "_law_function_words" = some (.ref (He.ga K "_law_function_words"))
  F_l_function_words : ∃ fd, FunD K "_law_function_words" "_law_function_words" (defArgs s_l_function_words) (defBody s_l_function_words) (defScope s_l_function_words) [] [] (He.ga K "_law_function_words") fd
  g_l_words : mg "_law_words" = some (.ref (He.ga K "_law_words"))
  F_l_words : ∃ fd, FunD K "_law_words" "_law_words" (defArgs s_l_words) (defBody s_l_words) (defScope s_l_words) [] [] (He.ga K "_law_words") fd
  g_l_canonical : mg "_law_canonical" = some (.ref (He.ga K "_law_canonical"))
  F_l_canonical : ∃ fd, FunD K "_law_canonical" "_law_canonical" (defArgs s_l_canonical) (defBody s_l_canonical) (defScope s_l_canonical) [] [] (He.ga K "_law_canonical") fd
  g_law : mg "law" = some (.ref (He.ga K "law"))
  F_law : ∃ fd, FunD K "law" "law" (defArgs s_law) (defBody s_law) (defScope s_law) [] [] (He.ga K "law") fd
section
variable {P : Program} {w : World} {K : PySem.W.Frag} {mg : Str → Option Value} {base : Heap}
theorem okr_write_kind (T : Txt K mg) (O_form : OkF P w K mg base 1 "form" ["words"] (sp_form K)) : ∀ n, OkF P w K mg base (2 + n) "write_kind" ["kind"] (spr_write_kind n K) := by
  intro n
  obtain ⟨fd, F⟩ := T.F_write_kind
  induction n with
  | zero => exact ⟨_, fd, T.g_write_kind, (F.ok (k := 1) sc_write_kind (fun vs H Q E h => (no_write_kind h).elim) (fun cdv A outer s H vs Q E hr h => (no_write_kind h).elim)), FunD.bindsN F fun _ _ _ _ _ _ us hl => match us, hl with | [_], _ => rfl, F.kp⟩
  | succ n O_write_kind =>
    refine ⟨_, fd, T.g_write_kind, F.ok (k := 2 + n) sc_write_kind (fun vs H Q E h => len_write_kind h) (fun cdv A outer s H vs Q E hr h => ⟨t_write_kind K (spr_write_kind n), PSs.nox ?_, rd_write_kind h⟩), FunD.bindsN F fun _ _ _ _ _ _ us hl => match us, hl with | [_], _ => rfl, F.kp⟩
    exact (pss_c (ps_asg (pv 0) (pg_tup rfl (pgs_cons (pg_name (i := 1) sc_write_kind.nd rfl (Or.inl rfl)) (pgs_cons (pg_name (i := 2) sc_write_kind.nd rfl (Or.inl rfl)) (pgs_cons (pg_name (i := 3) sc_write_kind.nd rfl (Or.inl rfl)) pgs_nil)))))
    (pss_c (ps_if (pt_cmpR (o_eq hr.units) (pv 1) pe_str (nomark _)) (pss_one (ps_ret (pv 2))) pss_nil)
    (pss_c (ps_if (pt_not (pt_tru (pv 2))) (pss_one (ps_ret (pv 1))) pss_nil)
    (pss_one (ps_ret (pe_fn O_form (hr.mono (by omega)) rfl (pa_cons (pe_op o_add (pe_lst (pa_cons (pv 1) pa_nil)) (pe_lc (own := [("part", 4)]) (g := (gName 4)) (tt := tYes) rfl sc_write_kind.nd (pi_any (pv 2)) (blkOk_by (own := [("part", 4)]) (N := n_write_kind) (sc := defScope s_write_kind) (by first | decide +kernel | rfl)) (fun _ _ _ _ _ => pg_name (i := 4) sc_write_kind.nd rfl (Or.inl rfl)) (fun _ _ _ _ _ => pts_nil) (fun _ _ _ _ _ => (pe_fn O_write_kind (hr.mono (by omega)) rfl (pa_cons (pv 4) pa_nil))))) pa_nil)))))))
theorem ok_write_kind (T : Txt K mg) (O_form : OkF P w K mg base 1 "form" ["words"] (sp_form K)) : OkF P w K mg base 5 "write_kind" ["kind"] (sp_write_kind K) := okr_write_kind T O_form 3
theorem ok_form (T : Txt K mg)  : OkF P w K mg base 1 "form" ["words"] (sp_form K) := by
  obtain ⟨fd, F⟩ := T.F_form
  refine ⟨_, fd, T.g_form, F.ok sc_form (fun vs H Q E h => len_form h) (fun cdv A outer s H vs Q E hr h => ⟨t_form K, PSs.nox ?_, rd_form h⟩), FunD.bindsN F fun _ _ _ _ _ _ us hl => match us, hl with | [_], _ => rfl, F.kp⟩
  exact (pss_one (ps_ret (pe_op o_add (pe_op o_add pe_str (pe_bm PySem.F.plainAttrs_str PySem.F.slot_str_join PySem.F.type_str_join m_join pe_str (pa_cons (pv 0) pa_nil))) pe_str)))
theorem ok_write_parameter (T : Txt K mg) (O_form : OkF P w K mg base 1 "form" ["words"] (sp_form K)) (O_write_kind : OkF P w K mg base 5 "write_kind" ["kind"] (sp_write_kind K)) : OkF P w K mg base 7 "write_parameter" ["parameter"] (sp_write_parameter K) := by
  obtain ⟨fd, F⟩ := T.F_write_parameter
  refine ⟨_, fd, T.g_write_parameter, F.ok sc_write_parameter (fun vs H Q E h => len_write_parameter h) (fun cdv A outer s H vs Q E hr h => ⟨t_write_parameter K, PSs.nox ?_, rd_write_parameter h⟩), FunD.bindsN F fun _ _ _ _ _ _ us hl => match us, hl with | [_], _ => rfl, F.kp⟩
  exact (pss_one (ps_ret (pe_fn O_form (hr.mono (by omega)) rfl (pa_cons (pe_lst (pa_cons (pe_ix i_x (pv 0) pe_int (fun _ _ => rfl)) (pa_cons (pe_fn O_write_kind (hr.mono (by omega)) rfl (pa_cons (pe_ix i_x (pv 0) pe_int (fun _ _ => rfl)) pa_nil)) pa_nil))) pa_nil))))
theorem ok_write_leaf (T : Txt K mg)  : OkF P w K mg base 1 "write_leaf" ["op", "info"] (sp_write_leaf K) := by
  obtain ⟨fd, F⟩ := T.F_write_leaf
  refine ⟨_, fd, T.g_write_leaf, F.ok sc_write_leaf (fun vs H Q E h => len_write_leaf h) (fun cdv A outer s H vs Q E hr h => ⟨t_write_leaf K, PSs.nox ?_, rd_write_leaf h⟩), FunD.bindsN F fun _ _ _ _ _ _ us hl => match us, hl with | [_, _], _ => rfl, F.kp⟩
  exact (pss_c (ps_if (pt_cmpR (o_eq hr.units) (pv 0) pe_str (nomark _)) (pss_one (ps_ret (pe_callTy c_str (by rfl) T.b_str (by decide +kernel) (pa_cons (pv 1) pa_nil)))) pss_nil)
    (pss_c (ps_if (pt_cmpR (o_eq hr.units) (pv 0) pe_str (nomark _)) (pss_one (ps_ret (pe_ifExp (pt_tru (pv 1)) pe_str pe_str))) pss_nil)
    (pss_c (ps_if (pt_cmpR (o_eq hr.units) (pv 0) pe_str (nomark _)) (pss_one (ps_ret (pv 0))) pss_nil)
    (pss_one (ps_ret (pv 1))))))
theorem ok_write_head (T : Txt K mg) (O_write_parameter : OkF P w K mg base 7 "write_parameter" ["parameter"] (sp_write_parameter K)) (O_write_kind : OkF P w K mg base 5 "write_kind" ["kind"] (sp_write_kind K)) : OkF P w K mg base 8 "write_head" ["op", "info"] (sp_write_head K) := by
  obtain ⟨fd, F⟩ := T.F_write_head
  refine ⟨_, fd, T.g_write_head, F.ok sc_write_head (fun vs H Q E h => len_write_head h) (fun cdv A outer s H vs Q E hr h => ⟨t_write_head K, PSs.nox ?_, rd_write_head h⟩), FunD.bindsN F fun _ _ _ _ _ _ us hl => match us, hl with | [_, _], _ => rfl, F.kp⟩
  exact (pss_c (ps_if (pt_cmpR o_in (pv 0) (pe_tup (pa_cons pe_str (pa_cons pe_str pa_nil))) (by rfl)) (pss_one (ps_ret (pe_lst (pa_cons (pv 1) pa_nil)))) pss_nil)
    (pss_c (ps_if (pt_cmpR (o_eq hr.units) (pv 0) pe_str (nomark _)) (pss_one (ps_ret (pe_lst (pa_cons (pv 0) (pa_cons (pe_callTy c_str (by rfl) T.b_str (by decide +kernel) (pa_cons (pv 1) pa_nil)) pa_nil))))) pss_nil)
    (pss_c (ps_if (pt_cmpR (o_eq hr.units) (pv 0) pe_str (nomark _)) (pss_one (ps_ret (pe_lst (pa_cons (pv 0) (pa_cons (pv 1) pa_nil))))) pss_nil)
    (pss_c (ps_if (pt_cmpR (o_eq hr.units) (pv 0) pe_str (nomark _)) (pss_one (ps_ret (pe_lst (pa_cons (pv 0) (pa_cons (pe_fn O_write_parameter (hr.mono (by omega)) rfl (pa_cons (pv 1) pa_nil)) pa_nil))))) pss_nil)
    (pss_c (ps_if (pt_cmpR (o_eq hr.units) (pv 0) pe_str (nomark _)) (pss_one (ps_ret (pe_lst (pa_cons (pv 0) (pa_cons (pe_ix i_x (pv 1) pe_int (fun _ _ => rfl)) (pa_cons (pe_fn O_write_kind (hr.mono (by omega)) rfl (pa_cons (pe_ix i_x (pv 1) pe_int (fun _ _ => rfl)) pa_nil)) pa_nil)))))) pss_nil)
    (pss_one (ps_ret (pe_lst (pa_cons (pv 0) pa_nil)))))))))
theorem okg_write_arm (T : Txt K mg) (O_form : OkF P w K mg base 1 "form" ["words"] (sp_form K)) (O_write_leaf : OkF P w K mg base 1 "write_leaf" ["op", "info"] (sp_write_leaf K)) (O_write_head : OkF P w K mg base 8 "write_head" ["op", "info"] (sp_write_head K)) : ∀ n, OkF P w K mg base (9 + n) "write_arm" ["op", "arm"] (spr_write_arm n K) ∧ OkF P w K mg base (9 + n) "write_expression" ["expression"] (spr_write_expression n K) := by
  intro n
  obtain ⟨fd_write_arm, F_write_arm⟩ := T.F_write_arm
  obtain ⟨fd_write_expression, F_write_expression⟩ := T.F_write_expression
  induction n with
  | zero => exact ⟨⟨⟨_, fd_write_arm, T.g_write_arm, (F_write_arm.ok (k := 8) sc_write_arm (fun vs H Q E h => (no_write_arm h).elim) (fun cdv A outer s H vs Q E hr h => (no_write_arm h).elim)), FunD.bindsN F_write_arm fun _ _ _ _ _ _ us hl => match us, hl with | [_, _], _ => rfl, F_write_arm.kp⟩⟩, ⟨⟨_, fd_write_expression, T.g_write_expression, (F_write_expression.ok (k := 8) sc_write_expression (fun vs H Q E h => (no_write_expression h).elim) (fun cdv A outer s H vs Q E hr h => (no_write_expression h).elim)), FunD.bindsN F_write_expression fun _ _ _ _ _ _ us hl => match us, hl with | [_], _ => rfl, F_write_expression.kp⟩⟩⟩
  | succ n ih =>
    obtain ⟨O_write_arm, O_write_expression⟩ := ih
    refine ⟨⟨⟨_, fd_write_arm, T.g_write_arm, F_write_arm.ok (k := 9 + n) sc_write_arm (fun vs H Q E h => len_write_arm h) (fun cdv A outer s H vs Q E hr h => ⟨t_write_arm K (spr_write_arm n) (spr_write_expression n), PSs.nox ?_, rd_write_arm h⟩), FunD.bindsN F_write_arm fun _ _ _ _ _ _ us hl => match us, hl with | [_, _], _ => rfl, F_write_arm.kp⟩⟩, ⟨⟨_, fd_write_expression, T.g_write_expression, F_write_expression.ok (k := 9 + n) sc_write_expression (fun vs H Q E h => len_write_expression h) (fun cdv A outer s H vs Q E hr h => ⟨t_write_expression K (spr_write_arm n) (spr_write_expression n), PSs.nox ?_, rd_write_expression h⟩), FunD.bindsN F_write_expression fun _ _ _ _ _ _ us hl => match us, hl with | [_], _ => rfl, F_write_expression.kp⟩⟩⟩
    · exact (pss_c (ps_asg (pv 1) (pg_tup rfl (pgs_cons (pg_name (i := 2) sc_write_arm.nd rfl (Or.inl rfl)) (pgs_cons (pg_name (i := 3) sc_write_arm.nd rfl (Or.inl rfl)) (pgs_cons (pg_name (i := 4) sc_write_arm.nd rfl (Or.inl rfl)) pgs_nil)))))
    (pss_c (ps_if (pt_cmpR (o_eq hr.units) (pv 0) pe_str (nomark _)) (pss_one (ps_ret (pe_fn O_form (hr.mono (by omega)) rfl (pa_cons (pe_lst (pa_cons (pe_fn O_form (hr.mono (by omega)) rfl (pa_cons (pe_op o_add (pe_lst (pa_cons (pv 2) pa_nil)) (pe_callTy c_list (by rfl) T.b_list (by decide +kernel) (pa_cons (pv 3) pa_nil))) pa_nil)) (pa_cons (pe_fn O_write_expression (hr.mono (by omega)) rfl (pa_cons (pv 4) pa_nil)) pa_nil))) pa_nil)))) pss_nil)
    (pss_one (ps_ret (pe_fn O_form (hr.mono (by omega)) rfl (pa_cons (pe_lst (pa_cons (pv 2) (pa_cons (pe_ix i_x (pv 3) pe_int (fun _ _ => rfl)) (pa_cons (pe_fn O_write_expression (hr.mono (by omega)) rfl (pa_cons (pv 4) pa_nil)) pa_nil)))) pa_nil))))))
    · exact (pss_c (ps_asg (pv 0) (pg_tup rfl (pgs_cons (pg_name (i := 1) sc_write_expression.nd rfl (Or.inl rfl)) (pgs_cons (pg_name (i := 2) sc_write_expression.nd rfl (Or.inl rfl)) (pgs_cons (pg_name (i := 3) sc_write_expression.nd rfl (Or.inl rfl)) (pgs_cons (pg_name (i := 4) sc_write_expression.nd rfl (Or.inl rfl)) (pgs_cons (pg_name (i := 5) sc_write_expression.nd rfl (Or.inl rfl)) pgs_nil)))))))
    (pss_c (ps_if (pt_cmpR o_in (pv 1) (pe_tup (pa_cons pe_str (pa_cons pe_str (pa_cons pe_str (pa_cons pe_str pa_nil))))) (by rfl)) (pss_one (ps_ret (pe_fn O_write_leaf (hr.mono (by omega)) rfl (pa_cons (pv 1) (pa_cons (pv 3) pa_nil))))) pss_nil)
    (pss_c (ps_set (i := 6) sc_write_expression.nd rfl (Or.inl rfl) (pe_fn O_write_head (hr.mono (by omega)) rfl (pa_cons (pv 1) (pa_cons (pv 3) pa_nil))))
    (pss_c (ps_for PassesOwn.never rfl (pi_any (pv 4)) (pg_name (i := 7) sc_write_expression.nd rfl (Or.inl rfl)) (pss_one (ps_expr (pe_bm PySem.F.plainAttrs_list PySem.F.slot_list_append PySem.F.type_list_append m_append (pv 6) (pa_cons (pe_fn O_write_expression (hr.mono (by omega)) rfl (pa_cons (pv 7) pa_nil)) pa_nil)))))
    (pss_c (ps_for PassesOwn.never rfl (pi_any (pv 5)) (pg_name (i := 8) sc_write_expression.nd rfl (Or.inl rfl)) (pss_one (ps_expr (pe_bm PySem.F.plainAttrs_list PySem.F.slot_list_append PySem.F.type_list_append m_append (pv 6) (pa_cons (pe_fn O_write_arm (hr.mono (by omega)) rfl (pa_cons (pv 1) (pa_cons (pv 8) pa_nil))) pa_nil)))))
    (pss_one (ps_ret (pe_fn O_form (hr.mono (by omega)) rfl (pa_cons (pv 6) pa_nil)))))))))
theorem ok_write_arm (T : Txt K mg) (O_form : OkF P w K mg base 1 "form" ["words"] (sp_form K)) (O_write_leaf : OkF P w K mg base 1 "write_leaf" ["op", "info"] (sp_write_leaf K)) (O_write_head : OkF P w K mg base 8 "write_head" ["op", "info"] (sp_write_head K)) : OkF P w K mg base 21 "write_arm" ["op", "arm"] (sp_write_arm K) := (okg_write_arm T O_form O_write_leaf O_write_head 12).1
theorem ok_write_expression (T : Txt K mg) (O_form : OkF P w K mg base 1 "form" ["words"] (sp_form K)) (O_write_leaf : OkF P w K mg base 1 "write_leaf" ["op", "info"] (sp_write_leaf K)) (O_write_head : OkF P w K mg base 8 "write_head" ["op", "info"] (sp_write_head K)) : OkF P w K mg base 21 "write_expression" ["expression"] (sp_write_expression K) := (okg_write_arm T O_form O_write_leaf O_write_head 12).2
theorem ok_write_data (T : Txt K mg) (O_form : OkF P w K mg base 1 "form" ["words"] (sp_form K)) (O_write_kind : OkF P w K mg base 5 "write_kind" ["kind"] (sp_write_kind K)) : OkF P w K mg base 7 "write_data" ["data"] (sp_write_data K) := by
  obtain ⟨fd, F⟩ := T.F_write_data
  refine ⟨_, fd, T.g_write_data, F.ok sc_write_data (fun vs H Q E h => len_write_data h) (fun cdv A outer s H vs Q E hr h => ⟨t_write_data K, PSs.nox ?_, rd_write_data h⟩), FunD.bindsN F fun _ _ _ _ _ _ us hl => match us, hl with | [_], _ => rfl, F.kp⟩
  exact (pss_c (ps_asg (pv 0) (pg_tup rfl (pgs_cons (pg_name (i := 1) sc_write_data.nd rfl (Or.inl rfl)) (pgs_cons (pg_name (i := 2) sc_write_data.nd rfl (Or.inl rfl)) pgs_nil))))
    (pss_c (ps_set (i := 3) sc_write_data.nd rfl (Or.inl rfl) (pe_lst (pa_cons pe_str (pa_cons (pv 1) pa_nil))))
    (pss_c (ps_for PassesOwn.never rfl (pi_any (pv 2)) (pg_tup rfl (pgs_cons (pg_name (i := 4) sc_write_data.nd rfl (Or.inl rfl)) (pgs_cons (pg_name (i := 5) sc_write_data.nd rfl (Or.inl rfl)) pgs_nil))) (pss_one (ps_expr (pe_bm PySem.F.plainAttrs_list PySem.F.slot_list_append PySem.F.type_list_append m_append (pv 3) (pa_cons (pe_fn O_form (hr.mono (by omega)) rfl (pa_cons (pe_op o_add (pe_lst (pa_cons (pv 4) pa_nil)) (pe_lc (own := [("kind", 6)]) (g := (gName 6)) (tt := tYes) rfl sc_write_data.nd (pi_any (pv 5)) (blkOk_by (own := [("kind", 6)]) (N := n_write_data) (sc := defScope s_write_data) (by first | decide +kernel | rfl)) (fun _ _ _ _ _ => pg_name (i := 6) sc_write_data.nd rfl (Or.inl rfl)) (fun _ _ _ _ _ => pts_nil) (fun _ _ _ _ _ => (pe_fn O_write_kind (hr.mono (by omega)) rfl (pa_cons (pv 6) pa_nil))))) pa_nil)) pa_nil)))))
    (pss_one (ps_ret (pe_fn O_form (hr.mono (by omega)) rfl (pa_cons (pv 3) pa_nil)))))))
theorem ok_write_function (T : Txt K mg) (O_write_parameter : OkF P w K mg base 7 "write_parameter" ["parameter"] (sp_write_parameter K)) (O_form : OkF P w K mg base 1 "form" ["words"] (sp_form K)) (O_write_expression : OkF P w K mg base 21 "write_expression" ["expression"] (sp_write_expression K)) (O_write_kind : OkF P w K mg base 5 "write_kind" ["kind"] (sp_write_kind K)) : OkF P w K mg base 23 "write_function" ["function"] (sp_write_function K) := by
  obtain ⟨fd, F⟩ := T.F_write_function
  refine ⟨_, fd, T.g_write_function, F.ok sc_write_function (fun vs H Q E h => len_write_function h) (fun cdv A outer s H vs Q E hr h => ⟨t_write_function K, PSs.nox ?_, rd_write_function h⟩), FunD.bindsN F fun _ _ _ _ _ _ us hl => match us, hl with | [_], _ => rfl, F.kp⟩
  exact (pss_c (ps_asg (pv 0) (pg_tup rfl (pgs_cons (pg_name (i := 1) sc_write_function.nd rfl (Or.inl rfl)) (pgs_cons (pg_name (i := 2) sc_write_function.nd rfl (Or.inl rfl)) (pgs_cons (pg_name (i := 3) sc_write_function.nd rfl (Or.inl rfl)) (pgs_cons (pg_name (i := 4) sc_write_function.nd rfl (Or.inl rfl)) (pgs_cons (pg_name (i := 5) sc_write_function.nd rfl (Or.inl rfl)) pgs_nil)))))))
    (pss_c (ps_set (i := 6) sc_write_function.nd rfl (Or.inl rfl) (pe_op o_add (pe_op o_add pe_str (pe_bm PySem.F.plainAttrs_str PySem.F.slot_str_join PySem.F.type_str_join m_join pe_str (pa_cons (pe_lc (own := [("parameter", 7)]) (g := (gName 7)) (tt := tYes) rfl sc_write_function.nd (pi_any (pv 3)) (blkOk_by (own := [("parameter", 7)]) (N := n_write_function) (sc := defScope s_write_function) (by first | decide +kernel | rfl)) (fun _ _ _ _ _ => pg_name (i := 7) sc_write_function.nd rfl (Or.inl rfl)) (fun _ _ _ _ _ => pts_nil) (fun _ _ _ _ _ => (pe_fn O_write_parameter (hr.mono (by omega)) rfl (pa_cons (pv 7) pa_nil)))) pa_nil))) pe_str))
    (pss_one (ps_ret (pe_fn O_form (hr.mono (by omega)) rfl (pa_cons (pe_lst (pa_cons pe_str (pa_cons (pv 1) (pa_cons (pv 6) (pa_cons (pe_fn O_write_kind (hr.mono (by omega)) rfl (pa_cons (pv 4) pa_nil)) (pa_cons (pe_fn O_write_expression (hr.mono (by omega)) rfl (pa_cons (pv 5) pa_nil)) pa_nil)))))) pa_nil))))))
theorem ok_write_program (T : Txt K mg) (O_write_data : OkF P w K mg base 7 "write_data" ["data"] (sp_write_data K)) (O_write_function : OkF P w K mg base 23 "write_function" ["function"] (sp_write_function K)) : OkF P w K mg base 24 "write_program" ["tree"] (sp_write_program K) := by
  obtain ⟨fd, F⟩ := T.F_write_program
  refine ⟨_, fd, T.g_write_program, F.ok sc_write_program (fun vs H Q E h => len_write_program h) (fun cdv A outer s H vs Q E hr h => ⟨t_write_program K, PSs.nox ?_, rd_write_program h⟩), FunD.bindsN F fun _ _ _ _ _ _ us hl => match us, hl with | [_], _ => rfl, F.kp⟩
  exact (pss_c (ps_asg (pv 0) (pg_tup rfl (pgs_cons (pg_name (i := 1) sc_write_program.nd rfl (Or.inl rfl)) (pgs_cons (pg_name (i := 2) sc_write_program.nd rfl (Or.inl rfl)) (pgs_cons (pg_name (i := 3) sc_write_program.nd rfl (Or.inl rfl)) pgs_nil)))))
    (pss_c (ps_setLc (i := 4) (own := [("data", 7)]) (g := (gName 7)) (tt := tYes) rfl sc_write_program.nd rfl rfl (sw_true rfl rfl rfl (by decide +kernel)) (pi_any (pv 1)) (blkOk_by (own := [("data", 7)]) (N := n_write_program) (sc := defScope s_write_program) (by first | decide +kernel | rfl)) (fun _ _ _ _ _ => pg_name (i := 7) sc_write_program.nd rfl (Or.inl rfl)) (fun _ _ _ _ _ => pts_nil) (fun _ _ _ _ _ => (pe_fn O_write_data (hr.mono (by omega)) rfl (pa_cons (pv 7) pa_nil))))
    (pss_c (ps_for PassesOwn.never rfl (pi_any (pe_slice s_l (pv 2) (po_some pe_int) po_none)) (pg_name (i := 5) sc_write_program.nd rfl (Or.inl rfl)) (pss_one (ps_expr (pe_bm PySem.F.plainAttrs_list PySem.F.slot_list_append PySem.F.type_list_append m_append (pv 4) (pa_cons (pe_op o_add (pe_op o_add pe_str (pv 5)) pe_str) pa_nil)))))
    (pss_c (ps_for PassesOwn.never rfl (pi_any (pv 3)) (pg_name (i := 6) sc_write_program.nd rfl (Or.inl rfl)) (pss_one (ps_expr (pe_bm PySem.F.plainAttrs_list PySem.F.slot_list_append PySem.F.type_list_append m_append (pv 4) (pa_cons (pe_fn O_write_function (hr.mono (by omega)) rfl (pa_cons (pv 6) pa_nil)) pa_nil)))))
    (pss_one (ps_ret (pe_bm PySem.F.plainAttrs_str PySem.F.slot_str_join PySem.F.type_str_join m_join pe_str (pa_cons (pe_lc (own := [("line", 8)]) (g := (gName 8)) (tt := tYes) rfl sc_write_program.nd (pi_any (pv 4)) (blkOk_by (own := [("line", 8)]) (N := n_write_program) (sc := defScope s_write_program) (by first | decide +kernel | rfl)) (fun _ _ _ _ _ => pg_name (i := 8) sc_write_program.nd rfl (Or.inl rfl)) (fun _ _ _ _ _ => pts_nil) (fun _ _ _ _ _ => (pe_op o_add (pv 8) pe_str))) pa_nil))))))))
theorem ok_l_start (T : Txt K mg)  : OkF P w K mg base 1 "_law_start" ["_law_script"] (sp_l_start K) := by
  obtain ⟨fd, F⟩ := T.F_l_start
  refine ⟨_, fd, T.g_l_start, F.ok sc_l_start (fun vs H Q E h => len_l_start h) (fun cdv A outer s H vs Q E hr h => ⟨t_l_start K, PSs.nox ?_, rd_l_start h⟩), FunD.bindsN F fun _ _ _ _ _ _ us hl => match us, hl with | [_], _ => rfl, F.kp⟩
  exact (pss_c (ps_set (i := 1) sc_l_start.nd rfl (Or.inl rfl) pe_int)
    (pss_c (ps_for PassesOwn.never rfl (pi_any (pv 0)) (pg_name (i := 2) sc_l_start.nd rfl (Or.inl rfl)) (pss_one (ps_set (i := 1) sc_l_start.nd rfl (Or.inl rfl) (pe_op o_add (pe_op o_mod (pe_callTy c_int (by rfl) T.b_int (by decide +kernel) (pa_cons (pe_op o_add (pe_op o_mul (pv 1) pe_int) (pv 2)) pa_nil)) pe_int) pe_int))))
    (pss_one (ps_ret (pe_lst (pa_cons (pe_callTy c_list (by rfl) T.b_list (by decide +kernel) (pa_cons (pv 0) pa_nil)) (pa_cons pe_int (pa_cons pe_int (pa_cons (pv 1) pa_nil)))))))))
theorem ok_l_draw (T : Txt K mg)  : OkF P w K mg base 1 "_law_draw" ["_law_state", "_law_many"] (sp_l_draw K) := by
  obtain ⟨fd, F⟩ := T.F_l_draw
  refine ⟨_, fd, T.g_l_draw, F.ok sc_l_draw (fun vs H Q E h => len_l_draw h) (fun cdv A outer s H vs Q E hr h => ⟨t_l_draw K, PSs.nox ?_, rd_l_draw h⟩), FunD.bindsN F fun _ _ _ _ _ _ us hl => match us, hl with | [_, _], _ => rfl, F.kp⟩
  exact (pss_c (ps_if (PW.pt (pw_and (pt_cmpR (o_eq hr.units) (pe_ix i_x (pv 0) pe_int (fun _ _ => rfl)) pe_int (nomark _)) (pw_and1 (pt_cmpR o_ge (pe_ix i_x (pv 0) pe_int (fun _ _ => rfl)) (pe_callB c_len (by rfl) T.b_len (by decide +kernel) (pa_cons (pe_ix i_x (pv 0) pe_int (fun _ _ => rfl)) pa_nil)) (nomark _))))) (pss_c (ps_asg (pe_op o_mod (pe_callTy c_int (by rfl) T.b_int (by decide +kernel) (pa_cons (pe_op o_add (pe_op o_mul (pe_ix i_x (pv 0) pe_int (fun _ _ => rfl)) pe_int) pe_int) pa_nil)) pe_int) (pg_sub (pv 0) pe_int p_list))
    (pss_one (ps_ret (pe_op o_mod (pe_callTy c_int (by rfl) T.b_int (by decide +kernel) (pa_cons (pe_op o_fdiv (pe_ix i_x (pv 0) pe_int (fun _ _ => rfl)) pe_int) pa_nil)) (pv 1))))) pss_nil)
    (pss_c (ps_if (pt_cmpR (o_eq hr.units) (pe_ix i_x (pv 0) pe_int (fun _ _ => rfl)) pe_int (nomark _)) (pss_c (ps_asg (pe_callB c_abs (by rfl) T.b_abs (by decide +kernel) (pa_cons (pe_ix i_x (pe_ix i_x (pv 0) pe_int (fun _ _ => rfl)) (pe_ix i_x (pv 0) pe_int (fun _ _ => rfl)) (fun _ _ => rfl)) pa_nil)) (pg_sub (pv 0) pe_int p_list))
    (pss_one (ps_augS (pv 0) pe_int g_list pe_int a_add p_list))) pss_nil)
    (pss_c (ps_set (i := 2) sc_l_draw.nd rfl (Or.inl rfl) (pe_op o_mod (pe_callTy c_int (by rfl) T.b_int (by decide +kernel) (pa_cons (pe_ix i_x (pv 0) pe_int (fun _ _ => rfl)) pa_nil)) (pv 1)))
    (pss_c (ps_asg (pe_op o_fdiv (pe_ix i_x (pv 0) pe_int (fun _ _ => rfl)) (pv 1)) (pg_sub (pv 0) pe_int p_list))
    (pss_one (ps_ret (pv 2)))))))
theorem ok_l_reserved (T : Txt K mg)  : OkF P w K mg base 1 "_law_reserved" [] (sp_l_reserved K) := by
  obtain ⟨fd, F⟩ := T.F_l_reserved
  refine ⟨_, fd, T.g_l_reserved, F.ok sc_l_reserved (fun vs H Q E h => len_l_reserved h) (fun cdv A outer s H vs Q E hr h => ⟨t_l_reserved K, PSs.nox ?_, rd_l_reserved h⟩), FunD.bindsN F fun _ _ _ _ _ _ us hl => match us, hl with | [], _ => rfl, F.kp⟩
  exact (pss_c (ps_set (i := 0) sc_l_reserved.nd rfl (Or.inl rfl) pe_str)
    (pss_c (ps_set (i := 0) sc_l_reserved.nd rfl (Or.inl rfl) (pe_op o_add (pv 0) pe_str))
    (pss_one (ps_ret (pe_bm PySem.F.plainAttrs_str PySem.F.slot_str_split PySem.F.type_str_split m_split (pv 0) (pa_cons pe_str pa_nil))))))
theorem ok_l_name (T : Txt K mg) (O_l_draw : OkF P w K mg base 1 "_law_draw" ["_law_state", "_law_many"] (sp_l_draw K)) (O_l_reserved : OkF P w K mg base 1 "_law_reserved" [] (sp_l_reserved K)) : OkF P w K mg base 2 "_law_name" ["_law_state", "_law_great"] (sp_l_name K) := by
  obtain ⟨fd, F⟩ := T.F_l_name
  refine ⟨_, fd, T.g_l_name, F.ok sc_l_name (fun vs H Q E h => len_l_name h) (fun cdv A outer s H vs Q E hr h => ⟨t_l_name K, PSs.nox ?_, rd_l_name h⟩), FunD.bindsN F fun _ _ _ _ _ _ us hl => match us, hl with | [_, _], _ => rfl, F.kp⟩
  exact (pss_c (ps_set (i := 2) sc_l_name.nd rfl (Or.inl rfl) pe_str)
    (pss_c (ps_set (i := 3) sc_l_name.nd rfl (Or.inr rfl) (pe_op o_add (pv 2) pe_str))
    (pss_c (ps_set (i := 4) sc_l_name.nd rfl (Or.inl rfl) (pe_ix i_x (pv 2) (pe_fn O_l_draw (hr.mono (by omega)) rfl (pa_cons (pv 0) (pa_cons pe_int pa_nil))) (fun _ _ => rfl)))
    (pss_c (ps_set (i := 5) sc_l_name.nd rfl (Or.inl rfl) (pe_fn O_l_draw (hr.mono (by omega)) rfl (pa_cons (pv 0) (pa_cons pe_int pa_nil))))
    (pss_c (ps_if (pt_cmpR (o_eq hr.units) (pe_fn O_l_draw (hr.mono (by omega)) rfl (pa_cons (pv 0) (pa_cons pe_int pa_nil))) pe_int (nomark _)) (pss_one (ps_set (i := 5) sc_l_name.nd rfl (Or.inl rfl) (pe_fn O_l_draw (hr.mono (by omega)) rfl (pa_cons (pv 0) (pa_cons pe_int pa_nil))))) pss_nil)
    (pss_c (ps_if (pt_tru (pv 1)) (pss_c (ps_set (i := 3) sc_l_name.nd rfl (Or.inr rfl) (pe_op o_add (pv 3) (pe_bm0 PySem.F.plainAttrs_str PySem.F.slot_str_upper PySem.F.type_str_upper m_upper (pv 2))))
    (pss_one (ps_set (i := 4) sc_l_name.nd rfl (Or.inl rfl) (pe_bm0 PySem.F.plainAttrs_str PySem.F.slot_str_upper PySem.F.type_str_upper m_upper (pv 4))))) pss_nil)
    (pss_c (ps_set (i := 6) sc_l_name.nd rfl (Or.inl rfl) (pe_op o_add (pv 4) (pe_bm PySem.F.plainAttrs_str PySem.F.slot_str_join PySem.F.type_str_join m_join pe_str (pa_cons (pe_lc (own := [("_law_k", 7)]) (g := (gName 7)) (tt := tYes) rfl sc_l_name.nd (pi_range1 rfl T.b_range (pa_cons (pv 5) pa_nil)) (blkOk_by (own := [("_law_k", 7)]) (N := n_l_name) (sc := defScope s_l_name) (by first | decide +kernel | rfl)) (fun _ _ _ _ _ => pg_name (i := 7) sc_l_name.nd rfl (Or.inl rfl)) (fun _ _ _ _ _ => pts_nil) (fun _ _ _ _ _ => (pe_ix i_x (pv 3) (pe_fn O_l_draw (hr.mono (by omega)) rfl (pa_cons (pv 0) (pa_cons (pe_callB c_len (by rfl) T.b_len (by decide +kernel) (pa_cons (pv 3) pa_nil)) pa_nil))) (fun _ _ => rfl)))) pa_nil))))
    (pss_c (ps_if (pt_cmpR o_in (pv 6) (pe_fn0 O_l_reserved (hr.mono (by omega)) rfl) (by rfl)) (pss_one (ps_ret (pe_op o_add (pv 6) pe_str))) pss_nil)
    (pss_one (ps_ret (pv 6)))))))))))
theorem ok_l_fresh (T : Txt K mg) (O_l_name : OkF P w K mg base 2 "_law_name" ["_law_state", "_law_great"] (sp_l_name K)) : OkF P w K mg base 3 "_law_fresh" ["_law_state", "_law_great", "_law_taken"] (sp_l_fresh K) := by
  obtain ⟨fd, F⟩ := T.F_l_fresh
  refine ⟨_, fd, T.g_l_fresh, F.ok sc_l_fresh (fun vs H Q E h => len_l_fresh h) (fun cdv A outer s H vs Q E hr h => ⟨t_l_fresh K, PSs.nox ?_, rd_l_fresh h⟩), FunD.bindsN F fun _ _ _ _ _ _ us hl => match us, hl with | [_, _, _], _ => rfl, F.kp⟩
  exact (pss_c (ps_set (i := 3) sc_l_fresh.nd rfl (Or.inl rfl) (pe_fn O_l_name (hr.mono (by omega)) rfl (pa_cons (pv 0) (pa_cons (pv 1) pa_nil))))
    (pss_c (ps_for PassesOwn.never rfl (pi_range1 rfl T.b_range (pa_cons pe_int pa_nil)) (pg_name (i := 4) sc_l_fresh.nd rfl (Or.inl rfl)) (pss_one (ps_if (pt_cmpR o_in (pv 3) (pv 2) (by rfl)) (pss_one (ps_set (i := 3) sc_l_fresh.nd rfl (Or.inl rfl) (pe_op o_add (pe_slice s_l (pv 3) po_none (po_some pe_int)) (pe_callTy c_str (by rfl) T.b_str (by decide +kernel) (pa_cons (pv 4) pa_nil))))) pss_nil)))
    (pss_c (ps_expr (pe_bm PySem.F.plainAttrs_list PySem.F.slot_list_append PySem.F.type_list_append m_append (pv 2) (pa_cons (pv 3) pa_nil)))
    (pss_one (ps_ret (pv 3))))))
theorem okr_l_kind (T : Txt K mg) (O_l_draw : OkF P w K mg base 1 "_law_draw" ["_law_state", "_law_many"] (sp_l_draw K)) (O_l_name : OkF P w K mg base 2 "_law_name" ["_law_state", "_law_great"] (sp_l_name K)) : ∀ n, OkF P w K mg base (3 + n) "_law_kind" ["_law_state", "_law_deep"] (spr_l_kind n K) := by
  intro n
  obtain ⟨fd, F⟩ := T.F_l_kind
  induction n with
  | zero => exact ⟨_, fd, T.g_l_kind, (F.ok (k := 2) sc_l_kind (fun vs H Q E h => (no_l_kind h).elim) (fun cdv A outer s H vs Q E hr h => (no_l_kind h).elim)), FunD.bindsN F fun _ _ _ _ _ _ us hl => match us, hl with | [_, _], _ => rfl, F.kp⟩
  | succ n O_l_kind =>
    refine ⟨_, fd, T.g_l_kind, F.ok (k := 3 + n) sc_l_kind (fun vs H Q E h => len_l_kind h) (fun cdv A outer s H vs Q E hr h => ⟨t_l_kind K (spr_l_kind n), PSs.nox ?_, rd_l_kind h⟩), FunD.bindsN F fun _ _ _ _ _ _ us hl => match us, hl with | [_, _], _ => rfl, F.kp⟩
    exact (pss_c (ps_set (i := 2) sc_l_kind.nd rfl (Or.inl rfl) (pe_fn O_l_draw (hr.mono (by omega)) rfl (pa_cons (pv 0) (pa_cons pe_int pa_nil))))
    (pss_c (ps_if (PW.pt (pw_or (pt_cmpR o_lt (pv 1) pe_int (nomark _)) (pw_or1 (pt_cmpR o_lt (pv 2) pe_int (nomark _))))) (pss_one (ps_ret (pe_tup (pa_cons (pe_ix i_x (pe_lst (pa_cons pe_str (pa_cons pe_str (pa_cons pe_str pa_nil)))) (pe_op o_mod (pv 2) pe_int) (fun _ _ => rfl)) (pa_cons (pe_tup pa_nil) (pa_cons pe_int pa_nil)))))) pss_nil)
    (pss_c (ps_if (pt_cmpR (o_eq hr.units) (pv 2) pe_int (nomark _)) (pss_one (ps_ret (pe_tup (pa_cons pe_str (pa_cons (pe_fn O_l_name (hr.mono (by omega)) rfl (pa_cons (pv 0) (pa_cons pe_bl pa_nil))) (pa_cons pe_int pa_nil)))))) pss_nil)
    (pss_c (ps_if (pt_cmpR (o_eq hr.units) (pv 2) pe_int (nomark _)) (pss_one (ps_ret (pe_tup (pa_cons pe_str (pa_cons (pe_callTy c_tuple (by rfl) T.b_tuple (by decide +kernel) (pa_cons (pe_lc (own := [("_law_k", 3)]) (g := (gName 3)) (tt := tYes) rfl sc_l_kind.nd (pi_range1 rfl T.b_range (pa_cons (pe_op o_add pe_int (pe_fn O_l_draw (hr.mono (by omega)) rfl (pa_cons (pv 0) (pa_cons pe_int pa_nil)))) pa_nil)) (blkOk_by (own := [("_law_k", 3)]) (N := n_l_kind) (sc := defScope s_l_kind) (by first | decide +kernel | rfl)) (fun _ _ _ _ _ => pg_name (i := 3) sc_l_kind.nd rfl (Or.inl rfl)) (fun _ _ _ _ _ => pts_nil) (fun _ _ _ _ _ => (pe_fn O_l_kind (hr.mono (by omega)) rfl (pa_cons (pv 0) (pa_cons (pe_op o_sub (pv 1) pe_int) pa_nil))))) pa_nil)) (pa_cons pe_int pa_nil)))))) pss_nil)
    (pss_c (ps_if (pt_cmpR (o_eq hr.units) (pv 2) pe_int (nomark _)) (pss_one (ps_ret (pe_tup (pa_cons pe_str (pa_cons (pe_tup (pa_cons (pe_fn O_l_kind (hr.mono (by omega)) rfl (pa_cons (pv 0) (pa_cons (pe_op o_sub (pv 1) pe_int) pa_nil))) (pa_cons (pe_fn O_l_kind (hr.mono (by omega)) rfl (pa_cons (pv 0) (pa_cons (pe_op o_sub (pv 1) pe_int) pa_nil))) pa_nil))) (pa_cons pe_int pa_nil)))))) pss_nil)
    (pss_one (ps_ret (pe_tup (pa_cons (pe_ix i_x (pe_lst (pa_cons pe_str (pa_cons pe_str pa_nil))) (pe_op o_mod (pv 2) pe_int) (fun _ _ => rfl)) (pa_cons (pe_tup (pa_cons (pe_fn O_l_kind (hr.mono (by omega)) rfl (pa_cons (pv 0) (pa_cons (pe_op o_sub (pv 1) pe_int) pa_nil))) pa_nil)) (pa_cons pe_int pa_nil)))))))))))
theorem ok_l_kind (T : Txt K mg) (O_l_draw : OkF P w K mg base 1 "_law_draw" ["_law_state", "_law_many"] (sp_l_draw K)) (O_l_name : OkF P w K mg base 2 "_law_name" ["_law_state", "_law_great"] (sp_l_name K)) : OkF P w K mg base 6 "_law_kind" ["_law_state", "_law_deep"] (sp_l_kind K) := okr_l_kind T O_l_draw O_l_name 3
theorem ok_l_exception (T : Txt K mg) (O_l_draw : OkF P w K mg base 1 "_law_draw" ["_law_state", "_law_many"] (sp_l_draw K)) (O_l_name : OkF P w K mg base 2 "_law_name" ["_law_state", "_law_great"] (sp_l_name K)) : OkF P w K mg base 3 "_law_exception" ["_law_state"] (sp_l_exception K) := by
  obtain ⟨fd, F⟩ := T.F_l_exception
  refine ⟨_, fd, T.g_l_exception, F.ok sc_l_exception (fun vs H Q E h => len_l_exception h) (fun cdv A outer s H vs Q E hr h => ⟨t_l_exception K, PSs.nox ?_, rd_l_exception h⟩), FunD.bindsN F fun _ _ _ _ _ _ us hl => match us, hl with | [_], _ => rfl, F.kp⟩
  exact (pss_c (ps_set (i := 1) sc_l_exception.nd rfl (Or.inl rfl) (pe_fn O_l_draw (hr.mono (by omega)) rfl (pa_cons (pv 0) (pa_cons pe_int pa_nil))))
    (pss_c (ps_if (pt_cmpR o_lt (pv 1) pe_int (nomark _)) (pss_one (ps_ret (pe_ix i_x (pe_lst (pa_cons pe_str (pa_cons pe_str (pa_cons pe_str pa_nil)))) (pv 1) (fun _ _ => rfl)))) pss_nil)
    (pss_one (ps_ret (pe_fn O_l_name (hr.mono (by omega)) rfl (pa_cons (pv 0) (pa_cons pe_bl pa_nil)))))))
theorem ok_l_leaf (T : Txt K mg) (O_l_draw : OkF P w K mg base 1 "_law_draw" ["_law_state", "_law_many"] (sp_l_draw K)) (O_l_name : OkF P w K mg base 2 "_law_name" ["_law_state", "_law_great"] (sp_l_name K)) : OkF P w K mg base 3 "_law_leaf" ["_law_state"] (sp_l_leaf K) := by
  obtain ⟨fd, F⟩ := T.F_l_leaf
  refine ⟨_, fd, T.g_l_leaf, F.ok sc_l_leaf (fun vs H Q E h => len_l_leaf h) (fun cdv A outer s H vs Q E hr h => ⟨t_l_leaf K, PSs.nox ?_, rd_l_leaf h⟩), FunD.bindsN F fun _ _ _ _ _ _ us hl => match us, hl with | [_], _ => rfl, F.kp⟩
  exact (pss_c (ps_set (i := 1) sc_l_leaf.nd rfl (Or.inl rfl) (pe_fn O_l_draw (hr.mono (by omega)) rfl (pa_cons (pv 0) (pa_cons pe_int pa_nil))))
    (pss_c (ps_if (pt_cmpR o_lt (pv 1) pe_int (nomark _)) (pss_one (ps_ret (pe_tup (pa_cons pe_str (pa_cons pe_int (pa_cons (pe_ix i_x (pe_lst (pa_cons pe_int (pa_cons pe_int (pa_cons (pe_un u_neg pe_int) (pa_cons pe_int (pa_cons (pe_un u_neg pe_int) (pa_cons pe_int (pa_cons pe_int pa_nil)))))))) (pe_fn O_l_draw (hr.mono (by omega)) rfl (pa_cons (pv 0) (pa_cons pe_int pa_nil))) (fun _ _ => rfl)) (pa_cons (pe_tup pa_nil) (pa_cons (pe_tup pa_nil) pa_nil)))))))) pss_nil)
    (pss_c (ps_if (pt_cmpR (o_eq hr.units) (pv 1) pe_int (nomark _)) (pss_one (ps_ret (pe_tup (pa_cons pe_str (pa_cons pe_int (pa_cons (pe_op o_sub (pe_fn O_l_draw (hr.mono (by omega)) rfl (pa_cons (pv 0) (pa_cons pe_int pa_nil))) pe_int) (pa_cons (pe_tup pa_nil) (pa_cons (pe_tup pa_nil) pa_nil)))))))) pss_nil)
    (pss_c (ps_if (pt_cmpR (o_eq hr.units) (pv 1) pe_int (nomark _)) (pss_one (ps_ret (pe_tup (pa_cons pe_str (pa_cons pe_int (pa_cons (pe_cmpR (o_eq hr.units) (pe_fn O_l_draw (hr.mono (by omega)) rfl (pa_cons (pv 0) (pa_cons pe_int pa_nil))) pe_int (nomark _)) (pa_cons (pe_tup pa_nil) (pa_cons (pe_tup pa_nil) pa_nil)))))))) pss_nil)
    (pss_c (ps_if (pt_cmpR (o_eq hr.units) (pv 1) pe_int (nomark _)) (pss_one (ps_ret (pe_tup (pa_cons pe_str (pa_cons pe_int (pa_cons pe_non (pa_cons (pe_tup pa_nil) (pa_cons (pe_tup pa_nil) pa_nil)))))))) pss_nil)
    (pss_one (ps_ret (pe_tup (pa_cons pe_str (pa_cons pe_int (pa_cons (pe_fn O_l_name (hr.mono (by omega)) rfl (pa_cons (pv 0) (pa_cons pe_bl pa_nil))) (pa_cons (pe_tup pa_nil) (pa_cons (pe_tup pa_nil) pa_nil)))))))))))))
theorem ok_l_counts (T : Txt K mg)  : OkF P w K mg base 1 "_law_counts" [] (sp_l_counts K) := by
  obtain ⟨fd, F⟩ := T.F_l_counts
  refine ⟨_, fd, T.g_l_counts, F.ok sc_l_counts (fun vs H Q E h => len_l_counts h) (fun cdv A outer s H vs Q E hr h => ⟨t_l_counts K, PSs.nox ?_, rd_l_counts h⟩), FunD.bindsN F fun _ _ _ _ _ _ us hl => match us, hl with | [], _ => rfl, F.kp⟩
  exact (pss_one (ps_ret (pe_dispL (kvs := [(.inr "tuple", .int 2), (.inr "get", .int 1), (.inr "let", .int 2), (.inr "if", .int 3), (.inr "fn", .int 1), (.inr "apply", .int 2), (.inr "raise", .int 1), (.inr "ref", .int 1), (.inr "deref", .int 1), (.inr "len", .int 1), (.inr "print", .int 1), (.inr "set", .int 2), (.inr "array", .int 2), (.inr "at", .int 2), (.inr "seq", .int 2), (.inr "put", .int 3), (.inr "add", .int 2), (.inr "sub", .int 2), (.inr "mul", .int 2), (.inr "div", .int 2), (.inr "rem", .int 2), (.inr "equal", .int 2), (.inr "less", .int 2), (.inr "call", .int 0), (.inr "make", .int 0), (.inr "case", .int 1), (.inr "handle", .int 1)]) (.cons pe_str pe_int (.cons pe_str pe_int (.cons pe_str pe_int (.cons pe_str pe_int (.cons pe_str pe_int (.cons pe_str pe_int (.cons pe_str pe_int (.cons pe_str pe_int (.cons pe_str pe_int (.cons pe_str pe_int (.cons pe_str pe_int (.cons pe_str pe_int (.cons pe_str pe_int (.cons pe_str pe_int (.cons pe_str pe_int (.cons pe_str pe_int (.cons pe_str pe_int (.cons pe_str pe_int (.cons pe_str pe_int (.cons pe_str pe_int (.cons pe_str pe_int (.cons pe_str pe_int (.cons pe_str pe_int (.cons pe_str pe_int (.cons pe_str pe_int (.cons pe_str pe_int (.cons pe_str pe_int .nil))))))))))))))))))))))))))) (by decide))))
theorem okg_l_arms (T : Txt K mg) (O_l_draw : OkF P w K mg base 1 "_law_draw" ["_law_state", "_law_many"] (sp_l_draw K)) (O_l_fresh : OkF P w K mg base 3 "_law_fresh" ["_law_state", "_law_great", "_law_taken"] (sp_l_fresh K)) (O_l_name : OkF P w K mg base 2 "_law_name" ["_law_state", "_law_great"] (sp_l_name K)) (O_l_exception : OkF P w K mg base 3 "_law_exception" ["_law_state"] (sp_l_exception K)) (O_l_counts : OkF P w K mg base 1 "_law_counts" [] (sp_l_counts K)) (O_l_leaf : OkF P w K mg base 3 "_law_leaf" ["_law_state"] (sp_l_leaf K)) (O_l_kind : OkF P w K mg base 6 "_law_kind" ["_law_state", "_law_deep"] (sp_l_kind K)) : ∀ n, OkF P w K mg base (8 + n) "_law_arms" ["_law_state", "_law_op", "_law_deep", "_law_room"] (spr_l_arms n K) ∧ OkF P w K mg base (8 + n) "_law_expr" ["_law_state", "_law_deep", "_law_room"] (spr_l_expr n K) := by
  intro n
  obtain ⟨fd_l_arms, F_l_arms⟩ := T.F_l_arms
  obtain ⟨fd_l_expr, F_l_expr⟩ := T.F_l_expr
  induction n with
  | zero => exact ⟨⟨⟨_, fd_l_arms, T.g_l_arms, (F_l_arms.ok (k := 7) sc_l_arms (fun vs H Q E h => (no_l_arms h).elim) (fun cdv A outer s H vs Q E hr h => (no_l_arms h).elim)), FunD.bindsN F_l_arms fun _ _ _ _ _ _ us hl => match us, hl with | [_, _, _, _], _ => rfl, F_l_arms.kp⟩⟩, ⟨⟨_, fd_l_expr, T.g_l_expr, (F_l_expr.ok (k := 7) sc_l_expr (fun vs H Q E h => (no_l_expr h).elim) (fun cdv A outer s H vs Q E hr h => (no_l_expr h).elim)), FunD.bindsN F_l_expr fun _ _ _ _ _ _ us hl => match us, hl with | [_, _, _], _ => rfl, F_l_expr.kp⟩⟩⟩
  | succ n ih =>
    obtain ⟨O_l_arms, O_l_expr⟩ := ih
    refine ⟨⟨⟨_, fd_l_arms, T.g_l_arms, F_l_arms.ok (k := 8 + n) sc_l_arms (fun vs H Q E h => len_l_arms h) (fun cdv A outer s H vs Q E hr h => ⟨t_l_arms K (spr_l_arms n) (spr_l_expr n), PSs.nox ?_, rd_l_arms h⟩), FunD.bindsN F_l_arms fun _ _ _ _ _ _ us hl => match us, hl with | [_, _, _, _], _ => rfl, F_l_arms.kp⟩⟩, ⟨⟨_, fd_l_expr, T.g_l_expr, F_l_expr.ok (k := 8 + n) sc_l_expr (fun vs H Q E h => len_l_expr h) (fun cdv A outer s H vs Q E hr h => ⟨t_l_expr K (spr_l_arms n) (spr_l_expr n), PSs.nox ?_, rd_l_expr h⟩), FunD.bindsN F_l_expr fun _ _ _ _ _ _ us hl => match us, hl with | [_, _, _], _ => rfl, F_l_expr.kp⟩⟩⟩
    · exact (pss_c (ps_set (i := 4) sc_l_arms.nd rfl (Or.inl rfl) (pe_lst pa_nil))
    (pss_c (ps_if (pt_cmpR (o_eq hr.units) (pv 1) pe_str (nomark _)) (pss_one (ps_for PassesOwn.never rfl (pi_range1 rfl T.b_range (pa_cons (pe_op o_add pe_int (pe_fn O_l_draw (hr.mono (by omega)) rfl (pa_cons (pv 0) (pa_cons (pe_ifExp (pt_cmpR (o_eq hr.units) (pe_fn O_l_draw (hr.mono (by omega)) rfl (pa_cons (pv 0) (pa_cons pe_int pa_nil))) pe_int (nomark _)) pe_int pe_int) pa_nil)))) pa_nil)) (pg_name (i := 5) sc_l_arms.nd rfl (Or.inl rfl)) (pss_c (ps_set (i := 6) sc_l_arms.nd rfl (Or.inr rfl) (pe_lst pa_nil))
    (pss_c (ps_set (i := 7) sc_l_arms.nd rfl (Or.inl rfl) (pe_callTy c_tuple (by rfl) T.b_tuple (by decide +kernel) (pa_cons (pe_lc (own := [("_law_j", 8)]) (g := (gName 8)) (tt := tYes) rfl sc_l_arms.nd (pi_range1 rfl T.b_range (pa_cons (pe_fn O_l_draw (hr.mono (by omega)) rfl (pa_cons (pv 0) (pa_cons pe_int pa_nil))) pa_nil)) (blkOk_by (own := [("_law_j", 8)]) (N := n_l_arms) (sc := defScope s_l_arms) (by first | decide +kernel | rfl)) (fun _ _ _ _ _ => pg_name (i := 8) sc_l_arms.nd rfl (Or.inl rfl)) (fun _ _ _ _ _ => pts_nil) (fun _ _ _ _ _ => (pe_fn O_l_fresh (hr.mono (by omega)) rfl (pa_cons (pv 0) (pa_cons pe_bl (pa_cons (pv 6) pa_nil)))))) pa_nil)))
    (pss_one (ps_expr (pe_bm PySem.F.plainAttrs_list PySem.F.slot_list_append PySem.F.type_list_append m_append (pv 4) (pa_cons (pe_tup (pa_cons (pe_fn O_l_name (hr.mono (by omega)) rfl (pa_cons (pv 0) (pa_cons pe_bl pa_nil))) (pa_cons (pv 7) (pa_cons (pe_fn O_l_expr (hr.mono (by omega)) rfl (pa_cons (pv 0) (pa_cons (pe_op o_sub (pv 2) pe_int) (pa_cons (pv 3) pa_nil)))) pa_nil)))) pa_nil)))))))) pss_nil)
    (pss_c (ps_if (pt_cmpR (o_eq hr.units) (pv 1) pe_str (nomark _)) (pss_one (ps_for PassesOwn.never rfl (pi_range1 rfl T.b_range (pa_cons (pe_fn O_l_draw (hr.mono (by omega)) rfl (pa_cons (pv 0) (pa_cons (pe_ifExp (pt_cmpR (o_eq hr.units) (pe_fn O_l_draw (hr.mono (by omega)) rfl (pa_cons (pv 0) (pa_cons pe_int pa_nil))) pe_int (nomark _)) pe_int pe_int) pa_nil))) pa_nil)) (pg_name (i := 5) sc_l_arms.nd rfl (Or.inl rfl)) (pss_one (ps_expr (pe_bm PySem.F.plainAttrs_list PySem.F.slot_list_append PySem.F.type_list_append m_append (pv 4) (pa_cons (pe_tup (pa_cons (pe_fn O_l_exception (hr.mono (by omega)) rfl (pa_cons (pv 0) pa_nil)) (pa_cons (pe_tup (pa_cons (pe_fn O_l_name (hr.mono (by omega)) rfl (pa_cons (pv 0) (pa_cons pe_bl pa_nil))) pa_nil)) (pa_cons (pe_fn O_l_expr (hr.mono (by omega)) rfl (pa_cons (pv 0) (pa_cons (pe_op o_sub (pv 2) pe_int) (pa_cons (pv 3) pa_nil)))) pa_nil)))) pa_nil)))))) pss_nil)
    (pss_one (ps_ret (pe_callTy c_tuple (by rfl) T.b_tuple (by decide +kernel) (pa_cons (pv 4) pa_nil)))))))
    · exact (pss_c (ps_augS (pv 2) pe_int g_list pe_int a_sub p_list)
    (pss_c (ps_set (i := 3) sc_l_expr.nd rfl (Or.inl rfl) (pe_fn0 O_l_counts (hr.mono (by omega)) rfl))
    (pss_c (ps_set (i := 4) sc_l_expr.nd rfl (Or.inl rfl) (pe_callB (c_sortD rfl) (by rfl) T.b_sorted (by decide +kernel) (pa_cons (pv 3) pa_nil)))
    (pss_c (ps_set (i := 5) sc_l_expr.nd rfl (Or.inl rfl) (pe_fn O_l_draw (hr.mono (by omega)) rfl (pa_cons (pv 0) (pa_cons pe_int pa_nil))))
    (pss_c (ps_if (PW.pt (pw_or (pt_cmpR o_lt (pv 1) pe_int (nomark _)) (pw_or (pt_cmpR o_lt (pe_ix i_x (pv 2) pe_int (fun _ _ => rfl)) pe_int (nomark _)) (pw_or1 (pt_cmpR o_ge (pv 5) (pe_callB c_len (by rfl) T.b_len (by decide +kernel) (pa_cons (pv 4) pa_nil)) (nomark _)))))) (pss_one (ps_ret (pe_fn O_l_leaf (hr.mono (by omega)) rfl (pa_cons (pv 0) pa_nil)))) pss_nil)
    (pss_c (ps_set (i := 6) sc_l_expr.nd rfl (Or.inl rfl) (pe_ix i_x (pv 4) (pv 5) (fun _ _ => rfl)))
    (pss_c (ps_set (i := 7) sc_l_expr.nd rfl (Or.inl rfl) (pe_dget (hu_of hr) (pv 3) (pv 6) (fun _ _ => rfl)))
    (pss_c (ps_if (pt_cmpR o_in (pv 6) (pe_tup (pa_cons pe_str (pa_cons pe_str (pa_cons pe_str pa_nil)))) (by rfl)) (pss_one (ps_aug (i := 7) sc_l_expr.nd rfl (Or.inl rfl) (pe_fn O_l_draw (hr.mono (by omega)) rfl (pa_cons (pv 0) (pa_cons (pe_ifExp (pt_cmpR (o_eq hr.units) (pe_fn O_l_draw (hr.mono (by omega)) rfl (pa_cons (pv 0) (pa_cons pe_int pa_nil))) pe_int (nomark _)) (pe_op o_sub pe_int (pv 7)) pe_int) pa_nil))) a_add)) pss_nil)
    (pss_c (ps_set (i := 8) sc_l_expr.nd rfl (Or.inl rfl) pe_non)
    (pss_c (ps_if (PW.pt (pw_or (pt_cmpR (o_eq hr.units) (pv 6) pe_str (nomark _)) (pw_or1 (pt_cmpR (o_eq hr.units) (pv 6) pe_str (nomark _))))) (pss_one (ps_set (i := 8) sc_l_expr.nd rfl (Or.inl rfl) (pe_fn O_l_name (hr.mono (by omega)) rfl (pa_cons (pv 0) (pa_cons pe_bl pa_nil))))) pss_nil)
    (pss_c (ps_if (pt_cmpR (o_eq hr.units) (pv 6) pe_str (nomark _)) (pss_one (ps_set (i := 8) sc_l_expr.nd rfl (Or.inl rfl) (pe_fn O_l_name (hr.mono (by omega)) rfl (pa_cons (pv 0) (pa_cons pe_bl pa_nil))))) pss_nil)
    (pss_c (ps_if (pt_cmpR (o_eq hr.units) (pv 6) pe_str (nomark _)) (pss_one (ps_set (i := 8) sc_l_expr.nd rfl (Or.inl rfl) (pe_fn O_l_draw (hr.mono (by omega)) rfl (pa_cons (pv 0) (pa_cons pe_int pa_nil))))) pss_nil)
    (pss_c (ps_if (pt_cmpR (o_eq hr.units) (pv 6) pe_str (nomark _)) (pss_one (ps_set (i := 8) sc_l_expr.nd rfl (Or.inl rfl) (pe_tup (pa_cons (pe_fn O_l_name (hr.mono (by omega)) rfl (pa_cons (pv 0) (pa_cons pe_bl pa_nil))) (pa_cons (pe_fn O_l_kind (hr.mono (by omega)) rfl (pa_cons (pv 0) (pa_cons pe_int pa_nil))) pa_nil))))) pss_nil)
    (pss_c (ps_if (pt_cmpR (o_eq hr.units) (pv 6) pe_str (nomark _)) (pss_one (ps_set (i := 8) sc_l_expr.nd rfl (Or.inl rfl) (pe_tup (pa_cons (pe_fn O_l_exception (hr.mono (by omega)) rfl (pa_cons (pv 0) pa_nil)) (pa_cons (pe_fn O_l_kind (hr.mono (by omega)) rfl (pa_cons (pv 0) (pa_cons pe_int pa_nil))) pa_nil))))) pss_nil)
    (pss_c (ps_set (i := 9) sc_l_expr.nd rfl (Or.inl rfl) (pe_callTy c_tuple (by rfl) T.b_tuple (by decide +kernel) (pa_cons (pe_lc (own := [("_law_k", 10)]) (g := (gName 10)) (tt := tYes) rfl sc_l_expr.nd (pi_range1 rfl T.b_range (pa_cons (pv 7) pa_nil)) (blkOk_by (own := [("_law_k", 10)]) (N := n_l_expr) (sc := defScope s_l_expr) (by first | decide +kernel | rfl)) (fun _ _ _ _ _ => pg_name (i := 10) sc_l_expr.nd rfl (Or.inl rfl)) (fun _ _ _ _ _ => pts_nil) (fun _ _ _ _ _ => (pe_fn O_l_expr (hr.mono (by omega)) rfl (pa_cons (pv 0) (pa_cons (pe_op o_sub (pv 1) pe_int) (pa_cons (pv 2) pa_nil)))))) pa_nil)))
    (pss_one (ps_ret (pe_tup (pa_cons (pv 6) (pa_cons pe_int (pa_cons (pv 8) (pa_cons (pv 9) (pa_cons (pe_fn O_l_arms (hr.mono (by omega)) rfl (pa_cons (pv 0) (pa_cons (pv 6) (pa_cons (pv 1) (pa_cons (pv 2) pa_nil))))) pa_nil)))))))))))))))))))))))
theorem ok_l_arms (T : Txt K mg) (O_l_draw : OkF P w K mg base 1 "_law_draw" ["_law_state", "_law_many"] (sp_l_draw K)) (O_l_fresh : OkF P w K mg base 3 "_law_fresh" ["_law_state", "_law_great", "_law_taken"] (sp_l_fresh K)) (O_l_name : OkF P w K mg base 2 "_law_name" ["_law_state", "_law_great"] (sp_l_name K)) (O_l_exception : OkF P w K mg base 3 "_law_exception" ["_law_state"] (sp_l_exception K)) (O_l_counts : OkF P w K mg base 1 "_law_counts" [] (sp_l_counts K)) (O_l_leaf : OkF P w K mg base 3 "_law_leaf" ["_law_state"] (sp_l_leaf K)) (O_l_kind : OkF P w K mg base 6 "_law_kind" ["_law_state", "_law_deep"] (sp_l_kind K)) : OkF P w K mg base 18 "_law_arms" ["_law_state", "_law_op", "_law_deep", "_law_room"] (sp_l_arms K) := (okg_l_arms T O_l_draw O_l_fresh O_l_name O_l_exception O_l_counts O_l_leaf O_l_kind 10).1
theorem ok_l_expr (T : Txt K mg) (O_l_draw : OkF P w K mg base 1 "_law_draw" ["_law_state", "_law_many"] (sp_l_draw K)) (O_l_fresh : OkF P w K mg base 3 "_law_fresh" ["_law_state", "_law_great", "_law_taken"] (sp_l_fresh K)) (O_l_name : OkF P w K mg base 2 "_law_name" ["_law_state", "_law_great"] (sp_l_name K)) (O_l_exception : OkF P w K mg base 3 "_law_exception" ["_law_state"] (sp_l_exception K)) (O_l_counts : OkF P w K mg base 1 "_law_counts" [] (sp_l_counts K)) (O_l_leaf : OkF P w K mg base 3 "_law_leaf" ["_law_state"] (sp_l_leaf K)) (O_l_kind : OkF P w K mg base 6 "_law_kind" ["_law_state", "_law_deep"] (sp_l_kind K)) : OkF P w K mg base 18 "_law_expr" ["_law_state", "_law_deep", "_law_room"] (sp_l_expr K) := (okg_l_arms T O_l_draw O_l_fresh O_l_name O_l_exception O_l_counts O_l_leaf O_l_kind 10).2
theorem ok_l_tree (T : Txt K mg) (O_l_draw : OkF P w K mg base 1 "_law_draw" ["_law_state", "_law_many"] (sp_l_draw K)) (O_l_fresh : OkF P w K mg base 3 "_law_fresh" ["_law_state", "_law_great", "_law_taken"] (sp_l_fresh K)) (O_l_kind : OkF P w K mg base 6 "_law_kind" ["_law_state", "_law_deep"] (sp_l_kind K)) (O_l_expr : OkF P w K mg base 18 "_law_expr" ["_law_state", "_law_deep", "_law_room"] (sp_l_expr K)) : OkF P w K mg base 20 "_law_tree" ["_law_state"] (sp_l_tree K) := by
  obtain ⟨fd, F⟩ := T.F_l_tree
  refine ⟨_, fd, T.g_l_tree, F.ok sc_l_tree (fun vs H Q E h => len_l_tree h) (fun cdv A outer s H vs Q E hr h => ⟨t_l_tree K, PSs.nox ?_, rd_l_tree h⟩), FunD.bindsN F fun _ _ _ _ _ _ us hl => match us, hl with | [_], _ => rfl, F.kp⟩
  exact (pss_c (ps_set (i := 1) sc_l_tree.nd rfl (Or.inl rfl) (pe_lst pa_nil))
    (pss_c (ps_set (i := 2) sc_l_tree.nd rfl (Or.inl rfl) (pe_lst pa_nil))
    (pss_c (ps_set (i := 3) sc_l_tree.nd rfl (Or.inl rfl) (pe_lst (pa_cons pe_str pa_nil)))
    (pss_c (ps_set (i := 4) sc_l_tree.nd rfl (Or.inl rfl) (pe_lst pa_nil))
    (pss_c (ps_for PassesOwn.never rfl (pi_range1 rfl T.b_range (pa_cons (pe_fn O_l_draw (hr.mono (by omega)) rfl (pa_cons (pv 0) (pa_cons pe_int pa_nil))) pa_nil)) (pg_name (i := 5) sc_l_tree.nd rfl (Or.inr rfl)) (pss_c (ps_set (i := 6) sc_l_tree.nd rfl (Or.inl rfl) (pe_fn O_l_fresh (hr.mono (by omega)) rfl (pa_cons (pv 0) (pa_cons pe_bl (pa_cons (pv 1) pa_nil)))))
    (pss_c (ps_set (i := 7) sc_l_tree.nd rfl (Or.inl rfl) (pe_lst pa_nil))
    (pss_c (ps_for PassesOwn.never rfl (pi_range1 rfl T.b_range (pa_cons (pe_op o_add pe_int (pe_fn O_l_draw (hr.mono (by omega)) rfl (pa_cons (pv 0) (pa_cons (pe_ifExp (pt_cmpR (o_eq hr.units) (pe_fn O_l_draw (hr.mono (by omega)) rfl (pa_cons (pv 0) (pa_cons pe_int pa_nil))) pe_int (nomark _)) pe_int pe_int) pa_nil)))) pa_nil)) (pg_name (i := 8) sc_l_tree.nd rfl (Or.inl rfl)) (pss_c (ps_set (i := 9) sc_l_tree.nd rfl (Or.inl rfl) (pe_callTy c_tuple (by rfl) T.b_tuple (by decide +kernel) (pa_cons (pe_lc (own := [("_law_m", 18)]) (g := (gName 18)) (tt := tYes) rfl sc_l_tree.nd (pi_range1 rfl T.b_range (pa_cons (pe_fn O_l_draw (hr.mono (by omega)) rfl (pa_cons (pv 0) (pa_cons (pe_ifExp (pt_cmpR (o_eq hr.units) (pe_fn O_l_draw (hr.mono (by omega)) rfl (pa_cons (pv 0) (pa_cons pe_int pa_nil))) pe_int (nomark _)) pe_int pe_int) pa_nil))) pa_nil)) (blkOk_by (own := [("_law_m", 18)]) (N := n_l_tree) (sc := defScope s_l_tree) (by first | decide +kernel | rfl)) (fun _ _ _ _ _ => pg_name (i := 18) sc_l_tree.nd rfl (Or.inl rfl)) (fun _ _ _ _ _ => pts_nil) (fun _ _ _ _ _ => (pe_fn O_l_kind (hr.mono (by omega)) rfl (pa_cons (pv 0) (pa_cons pe_int pa_nil))))) pa_nil)))
    (pss_one (ps_expr (pe_bm PySem.F.plainAttrs_list PySem.F.slot_list_append PySem.F.type_list_append m_append (pv 7) (pa_cons (pe_tup (pa_cons (pe_fn O_l_fresh (hr.mono (by omega)) rfl (pa_cons (pv 0) (pa_cons pe_bl (pa_cons (pv 2) pa_nil)))) (pa_cons (pv 9) pa_nil))) pa_nil))))))
    (pss_one (ps_expr (pe_bm PySem.F.plainAttrs_list PySem.F.slot_list_append PySem.F.type_list_append m_append (pv 4) (pa_cons (pe_tup (pa_cons (pv 6) (pa_cons (pe_callTy c_tuple (by rfl) T.b_tuple (by decide +kernel) (pa_cons (pv 7) pa_nil)) pa_nil))) pa_nil))))))))
    (pss_c (ps_set (i := 10) sc_l_tree.nd rfl (Or.inl rfl) (pe_lst pa_nil))
    (pss_c (ps_for PassesOwn.never rfl (pi_range1 rfl T.b_range (pa_cons (pe_fn O_l_draw (hr.mono (by omega)) rfl (pa_cons (pv 0) (pa_cons pe_int pa_nil))) pa_nil)) (pg_name (i := 5) sc_l_tree.nd rfl (Or.inr rfl)) (pss_one (ps_expr (pe_fn O_l_fresh (hr.mono (by omega)) rfl (pa_cons (pv 0) (pa_cons pe_bl (pa_cons (pv 10) pa_nil)))))))
    (pss_c (ps_set (i := 11) sc_l_tree.nd rfl (Or.inl rfl) (pe_lst pa_nil))
    (pss_c (ps_set (i := 12) sc_l_tree.nd rfl (Or.inr rfl) (pe_fn O_l_draw (hr.mono (by omega)) rfl (pa_cons (pv 0) (pa_cons pe_int pa_nil))))
    (pss_c (ps_for PassesOwn.never rfl (pi_range1 rfl T.b_range (pa_cons (pe_op o_add (pv 12) pe_int) pa_nil)) (pg_name (i := 5) sc_l_tree.nd rfl (Or.inr rfl)) (pss_c (ps_set (i := 13) sc_l_tree.nd rfl (Or.inr rfl) (pe_lst pa_nil))
    (pss_c (ps_set (i := 6) sc_l_tree.nd rfl (Or.inl rfl) pe_str)
    (pss_c (ps_if (pt_cmpR o_lt (pv 5) (pv 12) (nomark _)) (pss_one (ps_set (i := 6) sc_l_tree.nd rfl (Or.inl rfl) (pe_fn O_l_fresh (hr.mono (by omega)) rfl (pa_cons (pv 0) (pa_cons pe_bl (pa_cons (pv 3) pa_nil)))))) pss_nil)
    (pss_c (ps_setLc (i := 14) (own := [("_law_j", 8)]) (g := (gName 8)) (tt := tYes) rfl sc_l_tree.nd rfl rfl (sw_true rfl rfl rfl (by decide +kernel)) (pi_range1 rfl T.b_range (pa_cons (pe_fn O_l_draw (hr.mono (by omega)) rfl (pa_cons (pv 0) (pa_cons pe_int pa_nil))) pa_nil)) (blkOk_by (own := [("_law_j", 8)]) (N := n_l_tree) (sc := defScope s_l_tree) (by first | decide +kernel | rfl)) (fun _ _ _ _ _ => pg_name (i := 8) sc_l_tree.nd rfl (Or.inl rfl)) (fun _ _ _ _ _ => pts_nil) (fun _ _ _ _ _ => (pe_ifExp (pt_cmpR (o_eq hr.units) (pv 5) (pv 12) (nomark _)) (pe_tup (pa_cons pe_str (pa_cons (pe_tup pa_nil) (pa_cons pe_int pa_nil)))) (pe_fn O_l_kind (hr.mono (by omega)) rfl (pa_cons (pv 0) (pa_cons pe_int pa_nil))))))
    (pss_c (ps_set (i := 15) sc_l_tree.nd rfl (Or.inl rfl) (pe_callTy c_tuple (by rfl) T.b_tuple (by decide +kernel) (pa_cons (pe_lc (own := [("_law_kind_here", 17)]) (g := (gName 17)) (tt := tYes) rfl sc_l_tree.nd (pi_any (pv 14)) (blkOk_by (own := [("_law_kind_here", 17)]) (N := n_l_tree) (sc := defScope s_l_tree) (by first | decide +kernel | rfl)) (fun _ _ _ _ _ => pg_name (i := 17) sc_l_tree.nd rfl (Or.inl rfl)) (fun _ _ _ _ _ => pts_nil) (fun _ _ _ _ _ => (pe_tup (pa_cons (pe_fn O_l_fresh (hr.mono (by omega)) rfl (pa_cons (pv 0) (pa_cons pe_bl (pa_cons (pv 13) pa_nil)))) (pa_cons (pv 17) pa_nil))))) pa_nil)))
    (pss_c (ps_set (i := 16) sc_l_tree.nd rfl (Or.inl rfl) (pe_ifExp (pt_cmpR (o_eq hr.units) (pv 5) (pv 12) (nomark _)) (pe_tup (pa_cons pe_str (pa_cons (pe_tup pa_nil) (pa_cons pe_int pa_nil)))) (pe_fn O_l_kind (hr.mono (by omega)) rfl (pa_cons (pv 0) (pa_cons pe_int pa_nil)))))
    (pss_one (ps_expr (pe_bm PySem.F.plainAttrs_list PySem.F.slot_list_append PySem.F.type_list_append m_append (pv 11) (pa_cons (pe_tup (pa_cons (pv 6) (pa_cons pe_int (pa_cons (pv 15) (pa_cons (pv 16) (pa_cons (pe_fn O_l_expr (hr.mono (by omega)) rfl (pa_cons (pv 0) (pa_cons (pe_op o_add pe_int (pe_fn O_l_draw (hr.mono (by omega)) rfl (pa_cons (pv 0) (pa_cons pe_int pa_nil)))) (pa_cons (pe_lst (pa_cons pe_int pa_nil)) pa_nil)))) pa_nil)))))) pa_nil)))))))))))
    (pss_one (ps_ret (pe_tup (pa_cons (pe_callTy c_tuple (by rfl) T.b_tuple (by decide +kernel) (pa_cons (pv 4) pa_nil)) (pa_cons (pe_op o_add (pe_tup (pa_cons pe_str (pa_cons pe_str (pa_cons pe_str pa_nil)))) (pe_callTy c_tuple (by rfl) T.b_tuple (by decide +kernel) (pa_cons (pv 10) pa_nil))) (pa_cons (pe_callTy c_tuple (by rfl) T.b_tuple (by decide +kernel) (pa_cons (pv 11) pa_nil)) pa_nil))))))))))))))))
theorem okr_l_kind_words (T : Txt K mg)  : ∀ n, OkF P w K mg base (1 + n) "_law_kind_words" ["_law_kind_here", "_law_words_here"] (spr_l_kind_words n K) := by
  intro n
  obtain ⟨fd, F⟩ := T.F_l_kind_words
  induction n with
  | zero => exact ⟨_, fd, T.g_l_kind_words, (F.ok (k := 0) sc_l_kind_words (fun vs H Q E h => (no_l_kind_words h).elim) (fun cdv A outer s H vs Q E hr h => (no_l_kind_words h).elim)), FunD.bindsN F fun _ _ _ _ _ _ us hl => match us, hl with | [_, _], _ => rfl, F.kp⟩
  | succ n O_l_kind_words =>
    refine ⟨_, fd, T.g_l_kind_words, F.ok (k := 1 + n) sc_l_kind_words (fun vs H Q E h => len_l_kind_words h) (fun cdv A outer s H vs Q E hr h => ⟨t_l_kind_words K (spr_l_kind_words n), PSs.nox ?_, rd_l_kind_words h⟩), FunD.bindsN F fun _ _ _ _ _ _ us hl => match us, hl with | [_, _], _ => rfl, F.kp⟩
    exact (pss_one (ps_if (pt_cmpR o_in (pe_ix i_x (pv 0) pe_int (fun _ _ => rfl)) (pe_tup (pa_cons pe_str (pa_cons pe_str (pa_cons pe_str pa_nil)))) (by rfl)) (pss_one (ps_expr (pe_bm PySem.F.plainAttrs_list PySem.F.slot_list_append PySem.F.type_list_append m_append (pv 1) (pa_cons (pe_ix i_x (pv 0) pe_int (fun _ _ => rfl)) pa_nil)))) (pss_one (ps_if (pt_cmpR (o_eq hr.units) (pe_ix i_x (pv 0) pe_int (fun _ _ => rfl)) pe_str (nomark _)) (pss_one (ps_expr (pe_bm PySem.F.plainAttrs_list PySem.F.slot_list_append PySem.F.type_list_append m_append (pv 1) (pa_cons (pe_ix i_x (pv 0) pe_int (fun _ _ => rfl)) pa_nil)))) (pss_c (ps_expr (pe_bm PySem.F.plainAttrs_list PySem.F.slot_list_append PySem.F.type_list_append m_append (pv 1) (pa_cons pe_str pa_nil)))
    (pss_c (ps_expr (pe_bm PySem.F.plainAttrs_list PySem.F.slot_list_append PySem.F.type_list_append m_append (pv 1) (pa_cons (pe_ix i_x (pv 0) pe_int (fun _ _ => rfl)) pa_nil)))
    (pss_c (ps_for PassesOwn.never rfl (pi_any (pe_ix i_x (pv 0) pe_int (fun _ _ => rfl))) (pg_name (i := 2) sc_l_kind_words.nd rfl (Or.inl rfl)) (pss_one (ps_expr (pe_fn O_l_kind_words (hr.mono (by omega)) rfl (pa_cons (pv 2) (pa_cons (pv 1) pa_nil))))))
    (pss_one (ps_expr (pe_bm PySem.F.plainAttrs_list PySem.F.slot_list_append PySem.F.type_list_append m_append (pv 1) (pa_cons pe_str pa_nil)))))))))))
theorem ok_l_kind_words (T : Txt K mg)  : OkF P w K mg base 4 "_law_kind_words" ["_law_kind_here", "_law_words_here"] (sp_l_kind_words K) := okr_l_kind_words T  3
theorem ok_l_head (T : Txt K mg) (O_l_kind_words : OkF P w K mg base 4 "_law_kind_words" ["_law_kind_here", "_law_words_here"] (sp_l_kind_words K)) : OkF P w K mg base 6 "_law_head" ["_law_expr_here", "_law_words_here"] (sp_l_head K) := by
  obtain ⟨fd, F⟩ := T.F_l_head
  refine ⟨_, fd, T.g_l_head, F.ok sc_l_head (fun vs H Q E h => len_l_head h) (fun cdv A outer s H vs Q E hr h => ⟨t_l_head K, PSs.nox ?_, rd_l_head h⟩), FunD.bindsN F fun _ _ _ _ _ _ us hl => match us, hl with | [_, _], _ => rfl, F.kp⟩
  exact (pss_c (ps_asg (pv 0) (pg_tup rfl (pgs_cons (pg_name (i := 2) sc_l_head.nd rfl (Or.inl rfl)) (pgs_cons (pg_name (i := 3) sc_l_head.nd rfl (Or.inl rfl)) (pgs_cons (pg_name (i := 4) sc_l_head.nd rfl (Or.inl rfl)) (pgs_cons (pg_name (i := 5) sc_l_head.nd rfl (Or.inl rfl)) (pgs_cons (pg_name (i := 6) sc_l_head.nd rfl (Or.inl rfl)) pgs_nil)))))))
    (pss_c (ps_expr (pe_bm PySem.F.plainAttrs_list PySem.F.slot_list_append PySem.F.type_list_append m_append (pv 1) (pa_cons pe_str pa_nil)))
    (pss_c (ps_expr (pe_bm PySem.F.plainAttrs_list PySem.F.slot_list_append PySem.F.type_list_append m_append (pv 1) (pa_cons (pe_ifExp (pt_cmpR o_in (pv 2) (pe_tup (pa_cons pe_str (pa_cons pe_str pa_nil))) (by rfl)) (pv 4) (pv 2)) pa_nil)))
    (pss_c (ps_if (pt_cmpR (o_eq hr.units) (pv 2) pe_str (nomark _)) (pss_one (ps_expr (pe_bm PySem.F.plainAttrs_list PySem.F.slot_list_append PySem.F.type_list_append m_append (pv 1) (pa_cons (pe_callTy c_str (by rfl) T.b_str (by decide +kernel) (pa_cons (pv 4) pa_nil)) pa_nil)))) pss_nil)
    (pss_c (ps_if (pt_cmpR (o_eq hr.units) (pv 2) pe_str (nomark _)) (pss_one (ps_expr (pe_bm PySem.F.plainAttrs_list PySem.F.slot_list_append PySem.F.type_list_append m_append (pv 1) (pa_cons (pv 4) pa_nil)))) pss_nil)
    (pss_c (ps_if (pt_cmpR (o_eq hr.units) (pv 2) pe_str (nomark _)) (pss_c (ps_expr (pe_bm PySem.F.plainAttrs_list PySem.F.slot_list_append PySem.F.type_list_append m_append (pv 1) (pa_cons pe_str pa_nil)))
    (pss_c (ps_expr (pe_bm PySem.F.plainAttrs_list PySem.F.slot_list_append PySem.F.type_list_append m_append (pv 1) (pa_cons (pe_ix i_x (pv 4) pe_int (fun _ _ => rfl)) pa_nil)))
    (pss_c (ps_expr (pe_fn O_l_kind_words (hr.mono (by omega)) rfl (pa_cons (pe_ix i_x (pv 4) pe_int (fun _ _ => rfl)) (pa_cons (pv 1) pa_nil))))
    (pss_one (ps_expr (pe_bm PySem.F.plainAttrs_list PySem.F.slot_list_append PySem.F.type_list_append m_append (pv 1) (pa_cons pe_str pa_nil))))))) pss_nil)
    (pss_one (ps_if (pt_cmpR (o_eq hr.units) (pv 2) pe_str (nomark _)) (pss_c (ps_expr (pe_bm PySem.F.plainAttrs_list PySem.F.slot_list_append PySem.F.type_list_append m_append (pv 1) (pa_cons (pe_ix i_x (pv 4) pe_int (fun _ _ => rfl)) pa_nil)))
    (pss_one (ps_expr (pe_fn O_l_kind_words (hr.mono (by omega)) rfl (pa_cons (pe_ix i_x (pv 4) pe_int (fun _ _ => rfl)) (pa_cons (pv 1) pa_nil)))))) pss_nil))))))))
theorem okr_l_expr_words (T : Txt K mg) (O_l_head : OkF P w K mg base 6 "_law_head" ["_law_expr_here", "_law_words_here"] (sp_l_head K)) : ∀ n, OkF P w K mg base (7 + n) "_law_expr_words" ["_law_expr_here", "_law_words_here"] (spr_l_expr_words n K) := by
  intro n
  obtain ⟨fd, F⟩ := T.F_l_expr_words
  induction n with
  | zero => exact ⟨_, fd, T.g_l_expr_words, (F.ok (k := 6) sc_l_expr_words (fun vs H Q E h => (no_l_expr_words h).elim) (fun cdv A outer s H vs Q E hr h => (no_l_expr_words h).elim)), FunD.bindsN F fun _ _ _ _ _ _ us hl => match us, hl with | [_, _], _ => rfl, F.kp⟩
  | succ n O_l_expr_words =>
    refine ⟨_, fd, T.g_l_expr_words, F.ok (k := 7 + n) sc_l_expr_words (fun vs H Q E h => len_l_expr_words h) (fun cdv A outer s H vs Q E hr h => ⟨t_l_expr_words K (spr_l_expr_words n), PSs.nox ?_, rd_l_expr_words h⟩), FunD.bindsN F fun _ _ _ _ _ _ us hl => match us, hl with | [_, _], _ => rfl, F.kp⟩
    exact (pss_c (ps_asg (pv 0) (pg_tup rfl (pgs_cons (pg_name (i := 2) sc_l_expr_words.nd rfl (Or.inl rfl)) (pgs_cons (pg_name (i := 3) sc_l_expr_words.nd rfl (Or.inl rfl)) (pgs_cons (pg_name (i := 4) sc_l_expr_words.nd rfl (Or.inl rfl)) (pgs_cons (pg_name (i := 5) sc_l_expr_words.nd rfl (Or.inl rfl)) (pgs_cons (pg_name (i := 6) sc_l_expr_words.nd rfl (Or.inl rfl)) pgs_nil)))))))
    (pss_c (ps_set (i := 3) sc_l_expr_words.nd rfl (Or.inl rfl) (pe_callB c_len (by rfl) T.b_len (by decide +kernel) (pa_cons (pv 1) pa_nil)))
    (pss_c (ps_if (pt_cmpR (o_eq hr.units) (pv 2) pe_str (nomark _)) (pss_one (ps_expr (pe_bm PySem.F.plainAttrs_list PySem.F.slot_list_append PySem.F.type_list_append m_append (pv 1) (pa_cons (pe_callTy c_str (by rfl) T.b_str (by decide +kernel) (pa_cons (pv 4) pa_nil)) pa_nil)))) (pss_one (ps_if (pt_cmpR (o_eq hr.units) (pv 2) pe_str (nomark _)) (pss_one (ps_expr (pe_bm PySem.F.plainAttrs_list PySem.F.slot_list_append PySem.F.type_list_append m_append (pv 1) (pa_cons (pe_ifExp (pt_tru (pv 4)) pe_str pe_str) pa_nil)))) (pss_one (ps_if (pt_cmpR (o_eq hr.units) (pv 2) pe_str (nomark _)) (pss_one (ps_expr (pe_bm PySem.F.plainAttrs_list PySem.F.slot_list_append PySem.F.type_list_append m_append (pv 1) (pa_cons pe_str pa_nil)))) (pss_one (ps_if (pt_cmpR (o_eq hr.units) (pv 2) pe_str (nomark _)) (pss_one (ps_expr (pe_bm PySem.F.plainAttrs_list PySem.F.slot_list_append PySem.F.type_list_append m_append (pv 1) (pa_cons (pv 4) pa_nil)))) pss_nil)))))))
    (pss_c (ps_if (pt_cmpR o_in (pv 2) (pe_tup (pa_cons pe_str (pa_cons pe_str (pa_cons pe_str (pa_cons pe_str pa_nil))))) (by rfl)) (pss_one (ps_ret (pe_tup (pa_cons (pv 2) (pa_cons (pv 3) (pa_cons (pv 4) (pa_cons (pe_tup pa_nil) (pa_cons (pe_tup pa_nil) pa_nil)))))))) pss_nil)
    (pss_c (ps_expr (pe_fn O_l_head (hr.mono (by omega)) rfl (pa_cons (pv 0) (pa_cons (pv 1) pa_nil))))
    (pss_c (ps_set (i := 5) sc_l_expr_words.nd rfl (Or.inl rfl) (pe_callTy c_tuple (by rfl) T.b_tuple (by decide +kernel) (pa_cons (pe_lc (own := [("_law_kid", 10)]) (g := (gName 10)) (tt := tYes) rfl sc_l_expr_words.nd (pi_any (pv 5)) (blkOk_by (own := [("_law_kid", 10)]) (N := n_l_expr_words) (sc := defScope s_l_expr_words) (by first | decide +kernel | rfl)) (fun _ _ _ _ _ => pg_name (i := 10) sc_l_expr_words.nd rfl (Or.inl rfl)) (fun _ _ _ _ _ => pts_nil) (fun _ _ _ _ _ => (pe_fn O_l_expr_words (hr.mono (by omega)) rfl (pa_cons (pv 10) (pa_cons (pv 1) pa_nil))))) pa_nil)))
    (pss_c (ps_set (i := 7) sc_l_expr_words.nd rfl (Or.inl rfl) (pe_lst pa_nil))
    (pss_c (ps_for PassesOwn.never rfl (pi_any (pv 6)) (pg_name (i := 8) sc_l_expr_words.nd rfl (Or.inl rfl)) (pss_c (ps_expr (pe_bm PySem.F.plainAttrs_list PySem.F.slot_list_append PySem.F.type_list_append m_append (pv 1) (pa_cons pe_str pa_nil)))
    (pss_c (ps_if (pt_cmpR (o_eq hr.units) (pv 2) pe_str (nomark _)) (pss_one (ps_expr (pe_bm PySem.F.plainAttrs_list PySem.F.slot_list_append PySem.F.type_list_append m_append (pv 1) (pa_cons pe_str pa_nil)))) pss_nil)
    (pss_c (ps_expr (pe_bm PySem.F.plainAttrs_list PySem.F.slot_list_append PySem.F.type_list_append m_append (pv 1) (pa_cons (pe_ix i_x (pv 8) pe_int (fun _ _ => rfl)) pa_nil)))
    (pss_c (ps_for PassesOwn.never rfl (pi_any (pe_ix i_x (pv 8) pe_int (fun _ _ => rfl))) (pg_name (i := 9) sc_l_expr_words.nd rfl (Or.inl rfl)) (pss_one (ps_expr (pe_bm PySem.F.plainAttrs_list PySem.F.slot_list_append PySem.F.type_list_append m_append (pv 1) (pa_cons (pv 9) pa_nil)))))
    (pss_c (ps_if (pt_cmpR (o_eq hr.units) (pv 2) pe_str (nomark _)) (pss_one (ps_expr (pe_bm PySem.F.plainAttrs_list PySem.F.slot_list_append PySem.F.type_list_append m_append (pv 1) (pa_cons pe_str pa_nil)))) pss_nil)
    (pss_c (ps_expr (pe_bm PySem.F.plainAttrs_list PySem.F.slot_list_append PySem.F.type_list_append m_append (pv 7) (pa_cons (pe_tup (pa_cons (pe_ix i_x (pv 8) pe_int (fun _ _ => rfl)) (pa_cons (pe_ix i_x (pv 8) pe_int (fun _ _ => rfl)) (pa_cons (pe_fn O_l_expr_words (hr.mono (by omega)) rfl (pa_cons (pe_ix i_x (pv 8) pe_int (fun _ _ => rfl)) (pa_cons (pv 1) pa_nil))) pa_nil)))) pa_nil)))
    (pss_one (ps_expr (pe_bm PySem.F.plainAttrs_list PySem.F.slot_list_append PySem.F.type_list_append m_append (pv 1) (pa_cons pe_str pa_nil)))))))))))
    (pss_c (ps_expr (pe_bm PySem.F.plainAttrs_list PySem.F.slot_list_append PySem.F.type_list_append m_append (pv 1) (pa_cons pe_str pa_nil)))
    (pss_one (ps_ret (pe_tup (pa_cons (pv 2) (pa_cons (pv 3) (pa_cons (pv 4) (pa_cons (pv 5) (pa_cons (pe_callTy c_tuple (by rfl) T.b_tuple (by decide +kernel) (pa_cons (pv 7) pa_nil)) pa_nil)))))))))))))))))
theorem ok_l_expr_words (T : Txt K mg) (O_l_head : OkF P w K mg base 6 "_law_head" ["_law_expr_here", "_law_words_here"] (sp_l_head K)) : OkF P w K mg base 12 "_law_expr_words" ["_law_expr_here", "_law_words_here"] (sp_l_expr_words K) := okr_l_expr_words T O_l_head 5
theorem ok_l_data_words (T : Txt K mg) (O_l_kind_words : OkF P w K mg base 4 "_law_kind_words" ["_law_kind_here", "_law_words_here"] (sp_l_kind_words K)) : OkF P w K mg base 6 "_law_data_words" ["_law_data", "_law_words_here"] (sp_l_data_words K) := by
  obtain ⟨fd, F⟩ := T.F_l_data_words
  refine ⟨_, fd, T.g_l_data_words, F.ok sc_l_data_words (fun vs H Q E h => len_l_data_words h) (fun cdv A outer s H vs Q E hr h => ⟨t_l_data_words K, PSs.nox ?_, rd_l_data_words h⟩), FunD.bindsN F fun _ _ _ _ _ _ us hl => match us, hl with | [_, _], _ => rfl, F.kp⟩
  exact (pss_c (ps_expr (pe_bm PySem.F.plainAttrs_list PySem.F.slot_list_append PySem.F.type_list_append m_append (pv 1) (pa_cons pe_str pa_nil)))
    (pss_c (ps_expr (pe_bm PySem.F.plainAttrs_list PySem.F.slot_list_append PySem.F.type_list_append m_append (pv 1) (pa_cons pe_str pa_nil)))
    (pss_c (ps_expr (pe_bm PySem.F.plainAttrs_list PySem.F.slot_list_append PySem.F.type_list_append m_append (pv 1) (pa_cons (pe_ix i_x (pv 0) pe_int (fun _ _ => rfl)) pa_nil)))
    (pss_c (ps_for PassesOwn.never rfl (pi_any (pe_ix i_x (pv 0) pe_int (fun _ _ => rfl))) (pg_tup rfl (pgs_cons (pg_name (i := 2) sc_l_data_words.nd rfl (Or.inl rfl)) (pgs_cons (pg_name (i := 3) sc_l_data_words.nd rfl (Or.inl rfl)) pgs_nil))) (pss_c (ps_expr (pe_bm PySem.F.plainAttrs_list PySem.F.slot_list_append PySem.F.type_list_append m_append (pv 1) (pa_cons pe_str pa_nil)))
    (pss_c (ps_expr (pe_bm PySem.F.plainAttrs_list PySem.F.slot_list_append PySem.F.type_list_append m_append (pv 1) (pa_cons (pv 2) pa_nil)))
    (pss_c (ps_for PassesOwn.never rfl (pi_any (pv 3)) (pg_name (i := 4) sc_l_data_words.nd rfl (Or.inl rfl)) (pss_one (ps_expr (pe_fn O_l_kind_words (hr.mono (by omega)) rfl (pa_cons (pv 4) (pa_cons (pv 1) pa_nil))))))
    (pss_one (ps_expr (pe_bm PySem.F.plainAttrs_list PySem.F.slot_list_append PySem.F.type_list_append m_append (pv 1) (pa_cons pe_str pa_nil))))))))
    (pss_one (ps_expr (pe_bm PySem.F.plainAttrs_list PySem.F.slot_list_append PySem.F.type_list_append m_append (pv 1) (pa_cons pe_str pa_nil))))))))
theorem ok_l_function_words (T : Txt K mg) (O_l_kind_words : OkF P w K mg base 4 "_law_kind_words" ["_law_kind_here", "_law_words_here"] (sp_l_kind_words K)) (O_l_expr_words : OkF P w K mg base 12 "_law_expr_words" ["_law_expr_here", "_law_words_here"] (sp_l_expr_words K)) : OkF P w K mg base 14 "_law_function_words" ["_law_function", "_law_words_here"] (sp_l_function_words K) := by
  obtain ⟨fd, F⟩ := T.F_l_function_words
  refine ⟨_, fd, T.g_l_function_words, F.ok sc_l_function_words (fun vs H Q E h => len_l_function_words h) (fun cdv A outer s H vs Q E hr h => ⟨t_l_function_words K, PSs.nox ?_, rd_l_function_words h⟩), FunD.bindsN F fun _ _ _ _ _ _ us hl => match us, hl with | [_, _], _ => rfl, F.kp⟩
  exact (pss_c (ps_asg (pv 0) (pg_tup rfl (pgs_cons (pg_name (i := 2) sc_l_function_words.nd rfl (Or.inl rfl)) (pgs_cons (pg_name (i := 3) sc_l_function_words.nd rfl (Or.inl rfl)) (pgs_cons (pg_name (i := 4) sc_l_function_words.nd rfl (Or.inl rfl)) (pgs_cons (pg_name (i := 5) sc_l_function_words.nd rfl (Or.inl rfl)) (pgs_cons (pg_name (i := 6) sc_l_function_words.nd rfl (Or.inl rfl)) pgs_nil)))))))
    (pss_c (ps_expr (pe_bm PySem.F.plainAttrs_list PySem.F.slot_list_append PySem.F.type_list_append m_append (pv 1) (pa_cons pe_str pa_nil)))
    (pss_c (ps_expr (pe_bm PySem.F.plainAttrs_list PySem.F.slot_list_append PySem.F.type_list_append m_append (pv 1) (pa_cons pe_str pa_nil)))
    (pss_c (ps_set (i := 3) sc_l_function_words.nd rfl (Or.inl rfl) (pe_callB c_len (by rfl) T.b_len (by decide +kernel) (pa_cons (pv 1) pa_nil)))
    (pss_c (ps_expr (pe_bm PySem.F.plainAttrs_list PySem.F.slot_list_append PySem.F.type_list_append m_append (pv 1) (pa_cons (pv 2) pa_nil)))
    (pss_c (ps_expr (pe_bm PySem.F.plainAttrs_list PySem.F.slot_list_append PySem.F.type_list_append m_append (pv 1) (pa_cons pe_str pa_nil)))
    (pss_c (ps_for PassesOwn.never rfl (pi_any (pv 4)) (pg_name (i := 7) sc_l_function_words.nd rfl (Or.inl rfl)) (pss_c (ps_expr (pe_bm PySem.F.plainAttrs_list PySem.F.slot_list_append PySem.F.type_list_append m_append (pv 1) (pa_cons pe_str pa_nil)))
    (pss_c (ps_expr (pe_bm PySem.F.plainAttrs_list PySem.F.slot_list_append PySem.F.type_list_append m_append (pv 1) (pa_cons (pe_ix i_x (pv 7) pe_int (fun _ _ => rfl)) pa_nil)))
    (pss_c (ps_expr (pe_fn O_l_kind_words (hr.mono (by omega)) rfl (pa_cons (pe_ix i_x (pv 7) pe_int (fun _ _ => rfl)) (pa_cons (pv 1) pa_nil))))
    (pss_one (ps_expr (pe_bm PySem.F.plainAttrs_list PySem.F.slot_list_append PySem.F.type_list_append m_append (pv 1) (pa_cons pe_str pa_nil))))))))
    (pss_c (ps_expr (pe_bm PySem.F.plainAttrs_list PySem.F.slot_list_append PySem.F.type_list_append m_append (pv 1) (pa_cons pe_str pa_nil)))
    (pss_c (ps_expr (pe_fn O_l_kind_words (hr.mono (by omega)) rfl (pa_cons (pv 5) (pa_cons (pv 1) pa_nil))))
    (pss_c (ps_set (i := 6) sc_l_function_words.nd rfl (Or.inl rfl) (pe_fn O_l_expr_words (hr.mono (by omega)) rfl (pa_cons (pv 6) (pa_cons (pv 1) pa_nil))))
    (pss_c (ps_expr (pe_bm PySem.F.plainAttrs_list PySem.F.slot_list_append PySem.F.type_list_append m_append (pv 1) (pa_cons pe_str pa_nil)))
    (pss_one (ps_ret (pe_tup (pa_cons (pv 2) (pa_cons (pv 3) (pa_cons (pv 4) (pa_cons (pv 5) (pa_cons (pv 6) pa_nil)))))))))))))))))))
theorem ok_l_words (T : Txt K mg) (O_l_data_words : OkF P w K mg base 6 "_law_data_words" ["_law_data", "_law_words_here"] (sp_l_data_words K)) (O_l_function_words : OkF P w K mg base 14 "_law_function_words" ["_law_function", "_law_words_here"] (sp_l_function_words K)) : OkF P w K mg base 15 "_law_words" ["_law_tree_here", "_law_words_here"] (sp_l_words K) := by
  obtain ⟨fd, F⟩ := T.F_l_words
  refine ⟨_, fd, T.g_l_words, F.ok sc_l_words (fun vs H Q E h => len_l_words h) (fun cdv A outer s H vs Q E hr h => ⟨t_l_words K, PSs.nox ?_, rd_l_words h⟩), FunD.bindsN F fun _ _ _ _ _ _ us hl => match us, hl with | [_, _], _ => rfl, F.kp⟩
  exact (pss_c (ps_for PassesOwn.never rfl (pi_any (pe_ix i_x (pv 0) pe_int (fun _ _ => rfl))) (pg_name (i := 2) sc_l_words.nd rfl (Or.inl rfl)) (pss_one (ps_expr (pe_fn O_l_data_words (hr.mono (by omega)) rfl (pa_cons (pv 2) (pa_cons (pv 1) pa_nil))))))
    (pss_c (ps_for PassesOwn.never rfl (pi_any (pe_slice s_l (pe_ix i_x (pv 0) pe_int (fun _ _ => rfl)) (po_some pe_int) po_none)) (pg_name (i := 3) sc_l_words.nd rfl (Or.inl rfl)) (pss_one (ps_for PassesOwn.never rfl (pi_any (pe_tup (pa_cons pe_str (pa_cons pe_str (pa_cons (pv 3) (pa_cons pe_str pa_nil)))))) (pg_name (i := 4) sc_l_words.nd rfl (Or.inl rfl)) (pss_one (ps_expr (pe_bm PySem.F.plainAttrs_list PySem.F.slot_list_append PySem.F.type_list_append m_append (pv 1) (pa_cons (pv 4) pa_nil)))))))
    (pss_one (ps_ret (pe_tup (pa_cons (pe_ix i_x (pv 0) pe_int (fun _ _ => rfl)) (pa_cons (pe_ix i_x (pv 0) pe_int (fun _ _ => rfl)) (pa_cons (pe_callTy c_tuple (by rfl) T.b_tuple (by decide +kernel) (pa_cons (pe_lc (own := [("_law_function", 5)]) (g := (gName 5)) (tt := tYes) rfl sc_l_words.nd (pi_any (pe_ix i_x (pv 0) pe_int (fun _ _ => rfl))) (blkOk_by (own := [("_law_function", 5)]) (N := n_l_words) (sc := defScope s_l_words) (by first | decide +kernel | rfl)) (fun _ _ _ _ _ => pg_name (i := 5) sc_l_words.nd rfl (Or.inl rfl)) (fun _ _ _ _ _ => pts_nil) (fun _ _ _ _ _ => (pe_fn O_l_function_words (hr.mono (by omega)) rfl (pa_cons (pv 5) (pa_cons (pv 1) pa_nil))))) pa_nil)) pa_nil))))))))
theorem ok_l_canonical (T : Txt K mg)  : OkF P w K mg base 1 "_law_canonical" ["_law_words_here"] (sp_l_canonical K) := by
  obtain ⟨fd, F⟩ := T.F_l_canonical
  refine ⟨_, fd, T.g_l_canonical, F.ok sc_l_canonical (fun vs H Q E h => len_l_canonical h) (fun cdv A outer s H vs Q E hr h => ⟨t_l_canonical K, PSs.nox ?_, rd_l_canonical h⟩), FunD.bindsN F fun _ _ _ _ _ _ us hl => match us, hl with | [_], _ => rfl, F.kp⟩
  exact (pss_c (ps_set (i := 1) sc_l_canonical.nd rfl (Or.inl rfl) pe_str)
    (pss_c (ps_set (i := 2) sc_l_canonical.nd rfl (Or.inl rfl) pe_int)
    (pss_c (ps_set (i := 3) sc_l_canonical.nd rfl (Or.inl rfl) pe_str)
    (pss_c (ps_for PassesOwn.never rfl (pi_any (pv 0)) (pg_name (i := 4) sc_l_canonical.nd rfl (Or.inl rfl)) (pss_c (ps_if (PW.pt (pw_and (pt_cmpR o_gt (pv 2) pe_int (nomark _)) (pw_and (pt_cmpR (o_ne hr.units) (pv 3) pe_str (nomark _)) (pw_and1 (pt_cmpR (o_ne hr.units) (pv 4) pe_str (nomark _)))))) (pss_one (ps_set (i := 1) sc_l_canonical.nd rfl (Or.inl rfl) (pe_op o_add (pv 1) pe_str))) pss_nil)
    (pss_c (ps_set (i := 1) sc_l_canonical.nd rfl (Or.inl rfl) (pe_op o_add (pv 1) (pv 4)))
    (pss_c (ps_if (pt_cmpR (o_eq hr.units) (pv 4) pe_str (nomark _)) (pss_one (ps_aug (i := 2) sc_l_canonical.nd rfl (Or.inl rfl) pe_int a_add)) pss_nil)
    (pss_c (ps_if (pt_cmpR (o_eq hr.units) (pv 4) pe_str (nomark _)) (pss_c (ps_aug (i := 2) sc_l_canonical.nd rfl (Or.inl rfl) pe_int a_sub)
    (pss_one (ps_if (pt_cmpR (o_eq hr.units) (pv 2) pe_int (nomark _)) (pss_one (ps_set (i := 1) sc_l_canonical.nd rfl (Or.inl rfl) (pe_op o_add (pv 1) pe_str))) pss_nil))) pss_nil)
    (pss_one (ps_set (i := 3) sc_l_canonical.nd rfl (Or.inl rfl) (pv 4))))))))
    (pss_one (ps_ret (pv 1)))))))
theorem okf_law (T : Txt K mg) (O_l_start : OkF P w K mg base 1 "_law_start" ["_law_script"] (sp_l_start K)) (O_l_tree : OkF P w K mg base 20 "_law_tree" ["_law_state"] (sp_l_tree K)) (O_l_words : OkF P w K mg base 15 "_law_words" ["_law_tree_here", "_law_words_here"] (sp_l_words K)) (O_l_draw : OkF P w K mg base 1 "_law_draw" ["_law_state", "_law_many"] (sp_l_draw K)) (O_write_program : OkF P w K mg base 24 "write_program" ["tree"] (sp_write_program K)) (O_l_canonical : OkF P w K mg base 1 "_law_canonical" ["_law_words_here"] (sp_l_canonical K)) {fd : FuncData} (F : FunD K "law" "law" (defArgs s_law) (defBody s_law) (defScope s_law) [] [] (He.ga K "law") fd) : FnOk P w K mg base CX0 25 (He.ga K "law") fd ["_law_script"] (sp_law K) := by
  refine F.ok sc_law (fun vs H Q E h => len_law h) (fun cdv A outer s H vs Q E hr h => ⟨t_law K, PSs.nox ?_, rd_law h⟩)
  exact (pss_c (ps_set (i := 1) sc_law.nd rfl (Or.inl rfl) (pe_fn O_l_start (hr.mono (by omega)) rfl (pa_cons (pv 0) pa_nil)))
    (pss_c (ps_set (i := 2) sc_law.nd rfl (Or.inl rfl) (pe_fn O_l_tree (hr.mono (by omega)) rfl (pa_cons (pv 1) pa_nil)))
    (pss_c (ps_set (i := 3) sc_law.nd rfl (Or.inl rfl) (pe_lst pa_nil))
    (pss_c (ps_set (i := 4) sc_law.nd rfl (Or.inl rfl) (pe_fn O_l_words (hr.mono (by omega)) rfl (pa_cons (pv 2) (pa_cons (pv 3) pa_nil))))
    (pss_c (ps_if (pt_cmpR (o_eq hr.units) (pe_fn O_l_draw (hr.mono (by omega)) rfl (pa_cons (pv 1) (pa_cons pe_int pa_nil))) pe_int (nomark _)) (pss_one (ps_set (i := 2) sc_law.nd rfl (Or.inl rfl) (pv 4))) pss_nil)
    (pss_c (ps_set (i := 5) sc_law.nd rfl (Or.inl rfl) (pe_fn O_write_program (hr.mono (by omega)) rfl (pa_cons (pv 2) pa_nil)))
    (pss_one (ps_ret (pe_and (pe_callB c_isi (by rfl) T.b_isinstance (by decide +kernel) (pa_cons (pv 5) (pa_cons (pe_ty rfl T.b_str (by decide +kernel)) pa_nil))) (pe_one (pe_cmpR (o_eq hr.units) (pv 5) (pe_fn O_l_canonical (hr.mono (by omega)) rfl (pa_cons (pv 3) pa_nil)) (nomark _))))))))))))
end
/-! ### the head -/
def d_write_kind : He.DefD := ⟨("write_kind", none), "write_kind", "write_kind", defArgs s_write_kind, defBody s_write_kind, defScope s_write_kind, [], []⟩
def d_form : He.DefD := ⟨("form", none), "form", "form", defArgs s_form, defBody s_form, defScope s_form, [], []⟩
def d_write_parameter : He.DefD := ⟨("write_parameter", none), "write_parameter", "write_parameter", defArgs s_write_parameter, defBody s_write_parameter, defScope s_write_parameter, [], []⟩
def d_write_leaf : He.DefD := ⟨("write_leaf", none), "write_leaf", "write_leaf", defArgs s_write_leaf, defBody s_write_leaf, defScope s_write_leaf, [], []⟩
def d_write_head : He.DefD := ⟨("write_head", none), "write_head", "write_head", defArgs s_write_head, defBody s_write_head, defScope s_write_head, [], []⟩
def d_write_arm : He.DefD := ⟨("write_arm", none), "write_arm", "write_arm", defArgs s_write_arm, defBody s_write_arm, defScope s_write_arm, [], []⟩
def d_write_expression : He.DefD := ⟨("write_expression", none), "write_expression", "write_expression", defArgs s_write_expression, defBody s_write_expression, defScope s_write_expression, [], []⟩
def d_write_data : He.DefD := ⟨("write_data", none), "write_data", "write_data", defArgs s_write_data, defBody s_write_data, defScope s_write_data, [], []⟩
def d_write_function : He.DefD := ⟨("write_function", none), "write_function", "write_function", defArgs s_write_function, defBody s_write_function, defScope s_write_function, [], []⟩
def d_write_program : He.DefD := ⟨("write_program", none), "write_program", "write_program", defArgs s_write_program, defBody s_write_program, defScope s_write_program, [], []⟩
def d_l_start : He.DefD := ⟨("_law_start", none), "_law_start", "_law_start", defArgs s_l_start, defBody s_l_start, defScope s_l_start, [], []⟩
def d_l_draw : He.DefD := ⟨("_law_draw", none), "_law_draw", "_law_draw", defArgs s_l_draw, defBody s_l_draw, defScope s_l_draw, [], []⟩
def d_l_reserved : He.DefD := ⟨("_law_reserved", none), "_law_reserved", "_law_reserved", defArgs s_l_reserved, defBody s_l_reserved, defScope s_l_reserved, [], []⟩
def d_l_name : He.DefD := ⟨("_law_name", none), "_law_name", "_law_name", defArgs s_l_name, defBody s_l_name, defScope s_l_name, [], []⟩
def d_l_fresh : He.DefD := ⟨("_law_fresh", none), "_law_fresh", "_law_fresh", defArgs s_l_fresh, defBody s_l_fresh, defScope s_l_fresh, [], []⟩
def d_l_kind : He.DefD := ⟨("_law_kind", none), "_law_kind", "_law_kind", defArgs s_l_kind, defBody s_l_kind, defScope s_l_kind, [], []⟩
def d_l_exception : He.DefD := ⟨("_law_exception", none), "_law_exception", "_law_exception", defArgs s_l_exception, defBody s_l_exception, defScope s_l_exception, [], []⟩
def d_l_leaf : He.DefD := ⟨("_law_leaf", none), "_law_leaf", "_law_leaf", defArgs s_l_leaf, defBody s_l_leaf, defScope s_l_leaf, [], []⟩
def d_l_counts : He.DefD := ⟨("_law_counts", none), "_law_counts", "_law_counts", defArgs s_l_counts, defBody s_l_counts, defScope s_l_counts, [], []⟩
def d_l_arms : He.DefD := ⟨("_law_arms", none), "_law_arms", "_law_arms", defArgs s_l_arms, defBody s_l_arms, defScope s_l_arms, [], []⟩
def d_l_expr : He.DefD := ⟨("_law_expr", none), "_law_expr", "_law_expr", defArgs s_l_expr, defBody s_l_expr, defScope s_l_expr, [], []⟩
def d_l_tree : He.DefD := ⟨("_law_tree", none), "_law_tree", "_law_tree", defArgs s_l_tree, defBody s_l_tree, defScope s_l_tree, [], []⟩
def d_l_kind_words : He.DefD := ⟨("_law_kind_words", none), "_law_kind_words", "_law_kind_words", defArgs s_l_kind_words, defBody s_l_kind_words, defScope s_l_kind_words, [], []⟩
def d_l_head : He.DefD := ⟨("_law_head", none), "_law_head", "_law_head", defArgs s_l_head, defBody s_l_head, defScope s_l_head, [], []⟩
def d_l_expr_words : He.DefD := ⟨("_law_expr_words", none), "_law_expr_words", "_law_expr_words", defArgs s_l_expr_words, defBody s_l_expr_words, defScope s_l_expr_words, [], []⟩
def d_l_data_words : He.DefD := ⟨("_law_data_words", none), "_law_data_words", "_law_data_words", defArgs s_l_data_words, defBody s_l_data_words, defScope s_l_data_words, [], []⟩
def d_l_function_words : He.DefD := ⟨("_law_function_words", none), "_law_function_words", "_law_function_words", defArgs s_l_function_words, defBody s_l_function_words, defScope s_l_function_words, [], []⟩
def d_l_words : He.DefD := ⟨("_law_words", none), "_law_words", "_law_words", defArgs s_l_words, defBody s_l_words, defScope s_l_words, [], []⟩
def d_l_canonical : He.DefD := ⟨("_law_canonical", none), "_law_canonical", "_law_canonical", defArgs s_l_canonical, defBody s_l_canonical, defScope s_l_canonical, [], []⟩
def d_law : He.DefD := ⟨("law", none), "law", "law", defArgs s_law, defBody s_law, defScope s_law, [], []⟩
def fn : List He.DefD := [d_write_kind, d_form, d_write_parameter, d_write_leaf, d_write_head, d_write_arm, d_write_expression, d_write_data, d_write_function, d_write_program, d_l_start, d_l_draw, d_l_reserved, d_l_name, d_l_fresh, d_l_kind, d_l_exception, d_l_leaf, d_l_counts, d_l_arms, d_l_expr, d_l_tree, d_l_kind_words, d_l_head, d_l_expr_words, d_l_data_words, d_l_function_words, d_l_words, d_l_canonical, d_law]
def en : List ErrD := []
def fa : List He.Fa := [.free "str", .free "list", .free "int", .free "len", .free "abs", .free "range", .free "tuple", .free "sorted", .free "isinstance", .glo "write_kind", .glo "form", .glo "write_parameter", .glo "write_leaf", .glo "write_head", .glo "write_arm", .glo "write_expression", .glo "write_data", .glo "write_function", .glo "write_program", .glo "_law_start", .glo "_law_draw", .glo "_law_reserved", .glo "_law_name", .glo "_law_fresh", .glo "_law_kind", .glo "_law_exception", .glo "_law_leaf", .glo "_law_counts", .glo "_law_arms", .glo "_law_expr", .glo "_law_tree", .glo "_law_kind_words", .glo "_law_head", .glo "_law_expr_words", .glo "_law_data_words", .glo "_law_function_words", .glo "_law_words", .glo "_law_canonical", .glo "law"]
def ts : List (PySem.W.Frag → Bool) := []
abbrev fil : Str := PySem.Challenge.pw_escheat_k05_write_a_program.main.file
abbrev tst : PySem.W.Frag → Bool := fun K => ts.all fun f => f K
abbrev R : PySem.W.OpenRow := PySem.W.OpenLaw.row PySem.Challenge.rw_escheat_k05_write_a_program
abbrev hk : PySem.W.Hook := hookU fil 5 fa fn en tst
def ob (s : PySem.W.SharedT) : AlU := obsUG fil 5 fa fn en tst (HandSHeadRun.getT s)
theorem ob_eq (s : PySem.W.SharedT) : ob s = hk.obs s.abs := obsUG_eq (HandSHeadRun.getT_eq s)
theorem txt {K : PySem.W.Frag} {h : Heap} {mg : Str → Option Value} (X : K.In h) (G : h.Ns mainGlobals mg) (c : SaysU fil fa fn en tst K) : Txt K mg :=
  ⟨He.free_ok X G (c.d.fact 0 (f := .free "str") rfl),
   He.free_ok X G (c.d.fact 1 (f := .free "list") rfl),
   He.free_ok X G (c.d.fact 2 (f := .free "int") rfl),
   He.free_ok X G (c.d.fact 3 (f := .free "len") rfl),
   He.free_ok X G (c.d.fact 4 (f := .free "abs") rfl),
   He.free_ok X G (c.d.fact 5 (f := .free "range") rfl),
   He.free_ok X G (c.d.fact 6 (f := .free "tuple") rfl),
   He.free_ok X G (c.d.fact 7 (f := .free "sorted") rfl),
   He.free_ok X G (c.d.fact 8 (f := .free "isinstance") rfl),
   He.glo_ok X G (c.d.fact 9 (f := .glo "write_kind") rfl),
   c.d.def_ 0 (d := d_write_kind) rfl,
   He.glo_ok X G (c.d.fact 10 (f := .glo "form") rfl),
   c.d.def_ 1 (d := d_form) rfl,
   He.glo_ok X G (c.d.fact 11 (f := .glo "write_parameter") rfl),
   c.d.def_ 2 (d := d_write_parameter) rfl,
   He.glo_ok X G (c.d.fact 12 (f := .glo "write_leaf") rfl),
   c.d.def_ 3 (d := d_write_leaf) rfl,
   He.glo_ok X G (c.d.fact 13 (f := .glo "write_head") rfl),
   c.d.def_ 4 (d := d_write_head) rfl,
   He.glo_ok X G (c.d.fact 14 (f := .glo "write_arm") rfl),
   c.d.def_ 5 (d := d_write_arm) rfl,
   He.glo_ok X G (c.d.fact 15 (f := .glo "write_expression") rfl),
   c.d.def_ 6 (d := d_write_expression) rfl,
   He.glo_ok X G (c.d.fact 16 (f := .glo "write_data") rfl),
   c.d.def_ 7 (d := d_write_data) rfl,
   He.glo_ok X G (c.d.fact 17 (f := .glo "write_function") rfl),
   c.d.def_ 8 (d := d_write_function) rfl,
   He.glo_ok X G (c.d.fact 18 (f := .glo "write_program") rfl),
   c.d.def_ 9 (d := d_write_program) rfl,
   He.glo_ok X G (c.d.fact 19 (f := .glo "_law_start") rfl),
   c.d.def_ 10 (d := d_l_start) rfl,
   He.glo_ok X G (c.d.fact 20 (f := .glo "_law_draw") rfl),
   c.d.def_ 11 (d := d_l_draw) rfl,
   He.glo_ok X G (c.d.fact 21 (f := .glo "_law_reserved") rfl),
   c.d.def_ 12 (d := d_l_reserved) rfl,
   He.glo_ok X G (c.d.fact 22 (f := .glo "_law_name") rfl),
   c.d.def_ 13 (d := d_l_name) rfl,
   He.glo_ok X G (c.d.fact 23 (f := .glo "_law_fresh") rfl),
   c.d.def_ 14 (d := d_l_fresh) rfl,
   He.glo_ok X G (c.d.fact 24 (f := .glo "_law_kind") rfl),
   c.d.def_ 15 (d := d_l_kind) rfl,
   He.glo_ok X G (c.d.fact 25 (f := .glo "_law_exception") rfl),
   c.d.def_ 16 (d := d_l_exception) rfl,
   He.glo_ok X G (c.d.fact 26 (f := .glo "_law_leaf") rfl),
   c.d.def_ 17 (d := d_l_leaf) rfl,
   He.glo_ok X G (c.d.fact 27 (f := .glo "_law_counts") rfl),
   c.d.def_ 18 (d := d_l_counts) rfl,
   He.glo_ok X G (c.d.fact 28 (f := .glo "_law_arms") rfl),
   c.d.def_ 19 (d := d_l_arms) rfl,
   He.glo_ok X G (c.d.fact 29 (f := .glo "_law_expr") rfl),
   c.d.def_ 20 (d := d_l_expr) rfl,
   He.glo_ok X G (c.d.fact 30 (f := .glo "_law_tree") rfl),
   c.d.def_ 21 (d := d_l_tree) rfl,
   He.glo_ok X G (c.d.fact 31 (f := .glo "_law_kind_words") rfl),
   c.d.def_ 22 (d := d_l_kind_words) rfl,
   He.glo_ok X G (c.d.fact 32 (f := .glo "_law_head") rfl),
   c.d.def_ 23 (d := d_l_head) rfl,
   He.glo_ok X G (c.d.fact 33 (f := .glo "_law_expr_words") rfl),
   c.d.def_ 24 (d := d_l_expr_words) rfl,
   He.glo_ok X G (c.d.fact 34 (f := .glo "_law_data_words") rfl),
   c.d.def_ 25 (d := d_l_data_words) rfl,
   He.glo_ok X G (c.d.fact 35 (f := .glo "_law_function_words") rfl),
   c.d.def_ 26 (d := d_l_function_words) rfl,
   He.glo_ok X G (c.d.fact 36 (f := .glo "_law_words") rfl),
   c.d.def_ 27 (d := d_l_words) rfl,
   He.glo_ok X G (c.d.fact 37 (f := .glo "_law_canonical") rfl),
   c.d.def_ 28 (d := d_l_canonical) rfl,
   He.glo_ok X G (c.d.fact 38 (f := .glo "law") rfl),
   c.d.def_ 29 (d := d_law) rfl⟩
theorem run (w : World) : HandSHeadRun.RunEq R (PySem.W.view R.prog [32]) hk ob 4000 ["write_kind", "form", "write_parameter", "write_leaf", "write_head", "write_arm", "write_expression", "write_data", "write_function", "write_program", "_law_start", "_law_draw", "_law_reserved", "_law_name", "_law_fresh", "_law_kind", "_law_exception", "_law_leaf", "_law_counts", "_law_arms", "_law_expr", "_law_tree", "_law_kind_words", "_law_head", "_law_expr_words", "_law_data_words", "_law_function_words", "_law_words", "_law_canonical"] w := by
  intro os
  kernel_rfl
theorem facts {P : Program} {w : World} {K : PySem.W.Frag} {h : Heap} {mg : Str → Option Value} {f : Addr} (hP : P.main.file = fil) (hs : (P.main.scope.names.lookup ("super" : Str)).isSome = false) (X : K.In h) (G : h.Ns mainGlobals mg) (hfa : mg ("law" : Str) = some (.ref f)) (c : SaysU fil fa fn en tst K) :
    ∃ fd : FuncData, (∀ (s : Shared) (v : Value), BindsTo s fd ⟨[v], []⟩ [("_law_script", v)]) ∧ ∀ base : Heap, K.In base → base.Ns mainGlobals mg → FnOk P w K mg base CX0 25 f fd ["_law_script"] (sp_law K) := by
  have T : Txt K mg := txt X G c
  obtain ⟨fd, F⟩ := T.F_law
  have e := hfa.symm.trans T.g_law
  cases e
  have b := FunD.bindsA (ps := ["_law_script"]) F fun _ _ _ _ _ _ us hl => match us, hl with | [_], _ => rfl
  refine ⟨fd, fun s v => b s [v] rfl, fun base _ _ => ?_⟩
  have O_l_start : OkF P w K mg base 1 "_law_start" ["_law_script"] (sp_l_start K) := ok_l_start T 
  have O_l_draw : OkF P w K mg base 1 "_law_draw" ["_law_state", "_law_many"] (sp_l_draw K) := ok_l_draw T 
  have O_l_reserved : OkF P w K mg base 1 "_law_reserved" [] (sp_l_reserved K) := ok_l_reserved T 
  have O_l_name : OkF P w K mg base 2 "_law_name" ["_law_state", "_law_great"] (sp_l_name K) := ok_l_name T O_l_draw O_l_reserved
  have O_l_fresh : OkF P w K mg base 3 "_law_fresh" ["_law_state", "_law_great", "_law_taken"] (sp_l_fresh K) := ok_l_fresh T O_l_name
  have O_l_kind : OkF P w K mg base 6 "_law_kind" ["_law_state", "_law_deep"] (sp_l_kind K) := ok_l_kind T O_l_draw O_l_name
  have O_l_exception : OkF P w K mg base 3 "_law_exception" ["_law_state"] (sp_l_exception K) := ok_l_exception T O_l_draw O_l_name
  have O_l_counts : OkF P w K mg base 1 "_law_counts" [] (sp_l_counts K) := ok_l_counts T 
  have O_l_leaf : OkF P w K mg base 3 "_law_leaf" ["_law_state"] (sp_l_leaf K) := ok_l_leaf T O_l_draw O_l_name
  have O_l_expr : OkF P w K mg base 18 "_law_expr" ["_law_state", "_law_deep", "_law_room"] (sp_l_expr K) := ok_l_expr T O_l_draw O_l_fresh O_l_name O_l_exception O_l_counts O_l_leaf O_l_kind
  have O_l_tree : OkF P w K mg base 20 "_law_tree" ["_law_state"] (sp_l_tree K) := ok_l_tree T O_l_draw O_l_fresh O_l_kind O_l_expr
  have O_l_kind_words : OkF P w K mg base 4 "_law_kind_words" ["_law_kind_here", "_law_words_here"] (sp_l_kind_words K) := ok_l_kind_words T 
  have O_l_data_words : OkF P w K mg base 6 "_law_data_words" ["_law_data", "_law_words_here"] (sp_l_data_words K) := ok_l_data_words T O_l_kind_words
  have O_l_head : OkF P w K mg base 6 "_law_head" ["_law_expr_here", "_law_words_here"] (sp_l_head K) := ok_l_head T O_l_kind_words
  have O_l_expr_words : OkF P w K mg base 12 "_law_expr_words" ["_law_expr_here", "_law_words_here"] (sp_l_expr_words K) := ok_l_expr_words T O_l_head
  have O_l_function_words : OkF P w K mg base 14 "_law_function_words" ["_law_function", "_law_words_here"] (sp_l_function_words K) := ok_l_function_words T O_l_kind_words O_l_expr_words
  have O_l_words : OkF P w K mg base 15 "_law_words" ["_law_tree_here", "_law_words_here"] (sp_l_words K) := ok_l_words T O_l_data_words O_l_function_words
  have O_form : OkF P w K mg base 1 "form" ["words"] (sp_form K) := ok_form T 
  have O_write_kind : OkF P w K mg base 5 "write_kind" ["kind"] (sp_write_kind K) := ok_write_kind T O_form
  have O_write_data : OkF P w K mg base 7 "write_data" ["data"] (sp_write_data K) := ok_write_data T O_form O_write_kind
  have O_write_parameter : OkF P w K mg base 7 "write_parameter" ["parameter"] (sp_write_parameter K) := ok_write_parameter T O_form O_write_kind
  have O_write_leaf : OkF P w K mg base 1 "write_leaf" ["op", "info"] (sp_write_leaf K) := ok_write_leaf T 
  have O_write_head : OkF P w K mg base 8 "write_head" ["op", "info"] (sp_write_head K) := ok_write_head T O_write_parameter O_write_kind
  have O_write_expression : OkF P w K mg base 21 "write_expression" ["expression"] (sp_write_expression K) := ok_write_expression T O_form O_write_leaf O_write_head
  have O_write_function : OkF P w K mg base 23 "write_function" ["function"] (sp_write_function K) := ok_write_function T O_write_parameter O_form O_write_expression O_write_kind
  have O_write_program : OkF P w K mg base 24 "write_program" ["tree"] (sp_write_program K) := ok_write_program T O_write_data O_write_function
  have O_l_canonical : OkF P w K mg base 1 "_law_canonical" ["_law_words_here"] (sp_l_canonical K) := ok_l_canonical T 
  exact okf_law (base := base) (P := P) (w := w) T O_l_start O_l_tree O_l_words O_l_draw O_write_program O_l_canonical F
end U
open PySem PySem.W PySem.Calls PyProof.Rows
set_option maxHeartbeats 0 in
theorem PySem.Challenge.cw_escheat_k05_write_a_program_holds : PySem.Challenge.rw_escheat_k05_write_a_program.Holds := by
  w_on; o_law
  refine HandSHeadRun.head_any (r := OpenLaw.row PySem.Challenge.rw_escheat_k05_write_a_program) (q := view (OpenLaw.row PySem.Challenge.rw_escheat_k05_write_a_program).prog [32]) (H := U.hk) (ob := U.ob) (M := 4000) (loose := ["write_kind", "form", "write_parameter", "write_leaf", "write_head", "write_arm", "write_expression", "write_data", "write_function", "write_program", "_law_start", "_law_draw", "_law_reserved", "_law_name", "_law_fresh", "_law_kind", "_law_exception", "_law_leaf", "_law_counts", "_law_arms", "_law_expr", "_law_tree", "_law_kind_words", "_law_head", "_law_expr_words", "_law_data_words", "_law_function_words", "_law_words", "_law_canonical"]) (d := HandSHeadRun.topDef (OpenLaw.row PySem.Challenge.rw_escheat_k05_write_a_program).prog 32) (kwd := []) U.ob_eq
    (by kernel_rfl) (fun s => by kernel_rfl) U.run (by kernel_rfl) (by kernel_rfl) (by kernel_rfl) (by rfl) (by first | assumption | decide +kernel) (by decide +kernel) ⟨rfl, rfl, rfl, rfl, rfl, by decide +kernel⟩ ?hw ?hc
  case hw => w_witness2
  case hc =>
    refine L2.walk_ofE (l := PySem.Challenge.rw_escheat_k05_write_a_program) (n := 63) (k := 25) (x := "_law_script") (CX := L2.CX0) rfl (by decide) (by kernel_rfl) ⟨rfl, by decide, by decide⟩ ?F (fun _ _ _ _ z => z)
    intro w mg fa h Y G hmg0
    obtain ⟨K, KX, c⟩ := Y
    have hmg : mg ("law" : PySem.Str) = some (.ref fa) := by
      have e : (HandSHeadRun.topDef (OpenLaw.row PySem.Challenge.rw_escheat_k05_write_a_program).prog 32).name = ("law" : PySem.Str) := by kernel_rfl
      rw [← e]
      exact hmg0
    obtain ⟨fd, hb, hF⟩ := U.facts (P := (PySem.Challenge.rw_escheat_k05_write_a_program).prog) (w := w) (by kernel_rfl) (by kernel_rfl) KX G hmg c
    exact ⟨K, fd, U.sp_law K, KX, hb, fun H a ns hl _ hS => U.law_in a ns hl hS, hF⟩


import PyProof.Rows.All
import Wide.All
import OpenK.AllK
import Wide.FinOn
import HandS.ForMost
import HandS.Flow
import HandS.Wide
import HandS.IsInst
import HandS.TupAny
import HandS.StrMore
import HandS.SortInts
import HandS.Walk
import HandS.Style
import HandS.More
import HandS.HeadHook1
import HandS.Nested
import HandS.Exc
import HandS.ExcInit
import HandS.ExcSuper
import HandS.ExcOwn
import HandS.TryOnly
import HandS.ExcField
import HandS.ExcIs
import HandS.WordsExc
import HandS.HeadHook2
import KE.KExcSuper
import HandS.HotCalls
import HandS.Property
import KE.KIsAll
import HandS.SlotsOwn
import HandS.Zip
import HandS.SetFor
import KE.GoesEnum
import KE.KDictZip
import HandS.CallLocal
import HandS.Rev
import HandS.Defaults
import KE.GoesMore
import HandS.Small
import HandS.GenList
import HandS.GenYield
import HandS.IterVal
import HandS.OwnIter
import KE.KWithOwn
import PyProof.ReprRoads
import HandS.Head0
import HandS.Head1
import HandS.Head2
import HandS.HeadEnd
import PySem.Challenge.RW_escheat_k51_replayed_log
set_option Elab.async false
set_option linter.all false
set_option maxRecDepth 100000
set_option maxHeartbeats 4000000
/-! U: operators by value, as functions of the values' shapes (so that a reading computes), and the steps of a reading. -/
namespace U
open PySem PySem.Spec PyProof.Rows L2

/-! ### operators by value -/
section
variable {X : Cx}
def uAdd (K : PySem.W.Frag) : R2 := fun x y H Q => match x, y with
  | .int i, .int j => Q (.int (i + j)) H
  | .str a, .str b => a.length + b.length ≤ sizeLine ∧ Q (.str (a ++ b)) H
  | .ref a, .ref b => (∃ xs ys, H a = some (.lst xs) ∧ H b = some (.lst ys) ∧ xs.length + ys.length ≤ sizeLine ∧ ∀ p, H p = none → Q (.ref p) (upd H p (.lst (xs ++ ys)))) ∨ rCatA K x y H Q
  | _, _ => False
theorem o_add : OpR X (binaryOp .Add) (uAdd X.K) := by
  intro pins s σ H x y v u Q I rx ry h
  cases x <;> cases y <;> first | exact (show False from h).elim | skip
  · exact op_add pins s σ H _ _ v u Q I rx ry ⟨_, _, rfl, rfl, h⟩
  · exact op_add_str pins s σ H _ _ v u Q I rx ry ⟨_, _, rfl, rfl, h.1, h.2⟩
  · rcases h with h | h
    · obtain ⟨xs, ys, h1, h2, h3, h4⟩ := h
      exact op_cat pins s σ H _ _ v u Q I rx ry ⟨_, _, xs, ys, rfl, rfl, h1, h2, h3, h4⟩
    · exact op_catA pins s σ H _ _ v u Q I rx ry h
def uSub : R2 := fun x y H Q => match x, y with
  | .int i, .int j => Q (.int (i - j)) H
  | _, _ => False
theorem o_sub : OpR X (binaryOp .Sub) uSub := by
  intro pins s σ H x y v u Q I rx ry h
  cases x <;> cases y <;> first | exact (show False from h).elim | skip
  exact op_sub pins s σ H _ _ v u Q I rx ry ⟨_, _, rfl, rfl, h⟩
def uMul : R2 := fun x y H Q => match x, y with
  | .int i, .int j => (CMul i j ∨ CMulW i j) ∧ Q (.int (i * j)) H
  | .str z, .int k => z.length * k.toNat ≤ 1000000 ∧ k ≤ 1000000 ∧ -(2 ^ 63) ≤ k ∧ Q (.str (Txt.mul z k)) H
  | .ref a, .int k => ∃ xs, H a = some (.lst xs) ∧ -(2 ^ 63) ≤ k ∧ k < 2 ^ 63 ∧ xs.length * k.toNat ≤ sizeLine ∧ ∀ p, H p = none → Q (.ref p) (upd H p (.lst (List.replicate k.toNat xs).flatten))
  | _, _ => False
theorem o_mul : OpR X (binaryOp .Mult) uMul := by
  intro pins s σ H x y v u Q I rx ry h
  cases x <;> cases y <;> first | exact (show False from h).elim | skip
  · rcases h.1 with c | c
    · exact op_mul pins s σ H _ _ v u Q I rx ry ⟨_, _, rfl, rfl, c, h.2⟩
    · exact op_mulW pins s σ H _ _ v u Q I rx ry ⟨_, _, rfl, rfl, c, h.2⟩
  · rename_i z k
    obtain ⟨h1, h2, h3, q⟩ := h
    obtain ⟨t, rfl⟩ := rx
    obtain ⟨t', rfl⟩ := ry
    have hok : PySem.MulOk z k := by
      refine ⟨?_, fun h _ => ?_, fun h _ => ?_⟩
      · have a1 : ¬ k < -(2 ^ 63 : Int) := by omega
        have a2 : ¬ k ≥ (2 ^ 63 : Int) := by omega
        rw [decide_eq_false a1, decide_eq_false a2]; rfl
      · have hpos : 0 < k := by omega
        have e : ((z.length * k.toNat : Nat) : Int) = (z.length : Int) * k := by
          rw [Int.natCast_mul, Int.toNat_of_nonneg (by omega)]
        have h3 : (z.length : Int) * k ≤ 2 ^ 63 - 1 := by rw [← e]; omega
        have h4 : (z.length : Int) ≤ (2 ^ 63 - 1) / k := (Int.le_ediv_iff_mul_le hpos).mpr h3
        omega
      · exact PyProof.Rows.short24 (by omega)
    exact SB.mul hok fun t' n => ⟨.str _, H, I.tok _, ⟨_, rfl⟩, q⟩
  · obtain ⟨xs, h1, h2, h3, h4, h5⟩ := h
    exact op_rep pins s σ H _ _ v u Q I rx ry ⟨_, _, xs, rfl, rfl, h1, h2, h3, h4, h5⟩
def uFdiv : R2 := fun x y H Q => match x, y with
  | .int i, .int j => CDivW i j ∧ Q (.int (i / j)) H
  | _, _ => False
theorem o_fdiv : OpR X (binaryOp .FloorDiv) uFdiv := by
  intro pins s σ H x y v u Q I rx ry h
  cases x <;> cases y <;> first | exact (show False from h).elim | skip
  exact op_fdivW pins s σ H _ _ v u Q I rx ry ⟨_, _, rfl, rfl, h.1, h.2⟩
def uMod : R2 := fun x y H Q => match x, y with
  | .int i, .int j => 0 < j ∧ Q (.int (i % j)) H
  | _, _ => False
theorem o_mod : OpR X (binaryOp .Mod) uMod := by
  intro pins s σ H x y v u Q I rx ry h
  cases x <;> cases y <;> first | exact (show False from h).elim | skip
  exact op_mod pins s σ H _ _ v u Q I rx ry ⟨_, _, rfl, rfl, h.1, h.2⟩
def uPow : R2 := fun x y H Q => match x, y with
  | .int i, .int j => CPow i j ∧ Q (.int (i ^ j.toNat)) H
  | _, _ => False
theorem o_pow : OpR X (binaryOp .Pow) uPow := by
  intro pins s σ H x y v u Q I rx ry h
  cases x <;> cases y <;> first | exact (show False from h).elim | skip
  exact op_pow pins s σ H _ _ v u Q I rx ry ⟨_, _, rfl, rfl, h.1, h.2⟩
def uNeg : V → Hp → VK → Prop := fun x H Q => match x with
  | .int i => Q (.int (-i)) H
  | _ => False
theorem u_neg : UnR X (unaryOp .USub) uNeg := by
  intro pins s σ H x v Q I rx h
  cases x <;> first | exact (show False from h).elim | skip
  exact un_neg pins s σ H _ v Q I rx ⟨_, rfl, h⟩
/-! comparisons -/
def uEq (K : PySem.W.Frag) : R2 := fun x y H Q => (scal x y = true ∧ Q (.bl (decide (x = y))) H) ∨ rEqD K x y H Q
theorem o_eq (hu : X.A.units + 64 < cLine) : OpR X (compareOp .Eq) (uEq X.K) := op_eq.or (op_eqD hu)
def uNe (K : PySem.W.Frag) : R2 := fun x y H Q => (scal x y = true ∧ Q (.bl (!decide (x = y))) H) ∨ rNeD K x y H Q
theorem o_ne (hu : X.A.units + 64 < cLine) : OpR X (compareOp .NotEq) (uNe X.K) := op_ne.or (op_neD hu)
def uCmpI (p : Int → Int → Bool) : R2 := fun x y H Q => match x, y with
  | .int i, .int j => Q (.bl (p i j)) H
  | _, _ => False
abbrev uLt : R2 := uCmpI fun i j => decide (i < j)
abbrev uLe : R2 := uCmpI fun i j => decide (i ≤ j)
abbrev uGt : R2 := uCmpI fun i j => decide (j < i)
abbrev uGe : R2 := uCmpI fun i j => decide (j ≤ i)
theorem o_lt : OpR X (compareOp .Lt) uLt := by
  intro pins s σ H x y v u Q I rx ry h
  cases x <;> cases y <;> first | exact (show False from h).elim | skip
  exact op_lt pins s σ H _ _ v u Q I rx ry ⟨_, _, rfl, rfl, h⟩
theorem o_le : OpR X (compareOp .LtE) uLe := by
  intro pins s σ H x y v u Q I rx ry h
  cases x <;> cases y <;> first | exact (show False from h).elim | skip
  exact op_le pins s σ H _ _ v u Q I rx ry ⟨_, _, rfl, rfl, h⟩
theorem o_gt : OpR X (compareOp .Gt) uGt := by
  intro pins s σ H x y v u Q I rx ry h
  cases x <;> cases y <;> first | exact (show False from h).elim | skip
  exact op_gt pins s σ H _ _ v u Q I rx ry ⟨_, _, rfl, rfl, h⟩
theorem o_ge : OpR X (compareOp .GtE) uGe := by
  intro pins s σ H x y v u Q I rx ry h
  cases x <;> cases y <;> first | exact (show False from h).elim | skip
  exact op_ge pins s σ H _ _ v u Q I rx ry ⟨_, _, rfl, rfl, h⟩
/-- one sign in a text | a flat thing in a list, a tuple -/
def uIn (K : PySem.W.Frag) (f : Bool → Bool) : R2 := fun x y H Q => match y with
  | .str z => ∃ c : Nat, x = .str ⟨#[c]⟩ ∧ Q (.bl (f (decide (c ∈ z.cps.toList)))) H
  | .ref p => ∃ xs, (SqL K H p xs ∨ SqT K H p xs) ∧ flatV x = true ∧ xs.all flatV = true ∧ Q (.bl (f (inV x xs))) H
  | _ => False
theorem o_in : OpR X (compareOp .In) (uIn X.K id) := by
  intro pins s σ H x y v u Q I rx ry h
  cases y <;> first | exact (show False from h).elim | skip
  · obtain ⟨c, e, q⟩ := h
    exact op_in_sign pins s σ H _ _ v u Q I rx ry ⟨c, _, e, rfl, q⟩
  · obtain ⟨xs, h1, h2, h3, q⟩ := h
    exact op_in_seq pins s σ H _ _ v u Q I rx ry ⟨_, xs, rfl, h1, h2, h3, q⟩
theorem o_notIn : OpR X (compareOp .NotIn) (uIn X.K not) := by
  intro pins s σ H x y v u Q I rx ry h
  cases y <;> first | exact (show False from h).elim | skip
  · obtain ⟨c, e, q⟩ := h
    exact op_notIn_sign pins s σ H _ _ v u Q I rx ry ⟨c, _, e, rfl, q⟩
  · obtain ⟨xs, h1, h2, h3, q⟩ := h
    exact op_notIn_seq pins s σ H _ _ v u Q I rx ry ⟨_, xs, rfl, h1, h2, h3, q⟩
/-- is None (the right one), by the left one's shape -/
def isNonV : V → Bool
  | .non => true
  | _ => false
theorem isNonV_eq (x : V) : isNonV x = decide (x = .non) := by cases x <;> simp [isNonV]
def uIsN (f : Bool → Bool) : R2 := fun x y H Q => match y with
  | .non => Q (.bl (f (isNonV x))) H
  | _ => False
theorem o_is : OpR X (compareOp .Is) (uIsN id) := by
  intro pins s σ H x y v u Q I rx ry h
  cases y <;> first | exact (show False from h).elim | skip
  exact op_isN pins s σ H _ _ v u Q I rx ry ⟨rfl, by rw [← isNonV_eq]; exact h⟩
theorem o_isNot : OpR X (compareOp .IsNot) (uIsN not) := by
  intro pins s σ H x y v u Q I rx ry h
  cases y <;> first | exact (show False from h).elim | skip
  exact op_notN pins s σ H _ _ v u Q I rx ry ⟨rfl, by rw [← isNonV_eq]; exact h⟩
/-! subscripts -/
def uIx (K : PySem.W.Frag) : R2 := fun x y H Q => match x, y with
  | .ref a, .int i => ∃ xs v, (SqL K H a xs ∨ SqT K H a xs) ∧ atI xs i = some v ∧ Q v H
  | .str z, .int i => ∃ c, z.length ≤ sizeLine ∧ atI z.cps.toList i = some c ∧ Q (.str ⟨#[c]⟩) H
  | _, _ => False
theorem i_x : IxR X (uIx X.K) := by
  intro value slice pins s σ H x y v u Q I rx ry h hs
  cases x <;> cases y <;> first | exact (show False from h).elim | skip
  · obtain ⟨c, h1, h2, q⟩ := h
    exact ix_str value slice pins s σ H _ _ v u Q I rx ry ⟨_, _, c, rfl, rfl, h1, h2, q⟩ hs
  · obtain ⟨xs, w, h1, h2, q⟩ := h
    rcases h1 with h1 | h1
    · exact ix_list value slice pins s σ H _ _ v u Q I rx ry ⟨_, xs, _, w, rfl, rfl, h1, h2, q⟩ hs
    · exact ix_tup value slice pins s σ H _ _ v u Q I rx ry ⟨_, xs, _, w, rfl, rfl, h1, h2, q⟩ hs
def uSl (K : PySem.W.Frag) : V → Option Int → Option Int → Hp → VK → Prop := fun x lo hi H Q => match x with
  | .str z => z.length ≤ sizeLine ∧ Q (.str (cutS z lo hi)) H
  | .ref _ => rSlL K x lo hi H Q ∨ rSlA K x lo hi H Q
  | _ => False
theorem s_l : SlR X (uSl X.K) := by
  intro pins s σ H x v vl vu lo hi sl Q I rx hs pl pu q
  cases x <;> first | exact (show False from q).elim | skip
  · exact sl_str pins s σ H _ v vl vu lo hi sl Q I rx hs pl pu ⟨_, rfl, q.1, q.2⟩
  · rcases q with q | q
    · exact sl_list pins s σ H _ v vl vu lo hi sl Q I rx hs pl pu q
    · exact sl_tupA pins s σ H _ v vl vu lo hi sl Q I rx hs pl pu q
/-! calls of built-ins -/
abbrev RC : Type := List V → Hp → VK → Prop
def uLen (K : PySem.W.Frag) : RC := fun xs H Q => match xs with
  | [.str z] => z.length ≤ sizeLine ∧ Q (.int (z.length : Int)) H
  | [.ref a] => ∃ ys, (SqL K H a ys ∨ SqT K H a ys) ∧ Q (.int (ys.length : Int)) H
  | _ => False
theorem c_len : CallR X (.builtin "len") (uLen X.K) := by
  intro pins s σ H xs us Q I r h
  unfold uLen at h
  split at h
  · exact call_len_str pins s σ H _ us Q I r ⟨_, rfl, h.1, h.2⟩
  · obtain ⟨ys, h1, q⟩ := h
    exact call_len_seq pins s σ H _ us Q I r ⟨_, ys, rfl, h1, q⟩
  · exact h.elim
def uAbs : RC := fun xs H Q => match xs with
  | [.int i] => Q (.int (i.natAbs : Int)) H
  | _ => False
theorem abs_ite (i : Int) : (if i < 0 then -i else i) = (i.natAbs : Int) := by split <;> omega
theorem c_abs : CallR X (.builtin "abs") uAbs := by
  intro pins s σ H xs us Q I r h
  unfold uAbs at h
  split at h
  · exact call_abs pins s σ H _ us Q I r ⟨_, rfl, by rw [abs_ite]; exact h⟩
  · exact h.elim
def uInt : RC := fun xs H Q => match xs with
  | [.int i] => Q (.int i) H
  | [.bl k] => Q (.int (if k then 1 else 0)) H
  | [.str a] => a.length ≤ 640 ∧ ∃ n, PySem.intText? a = some n ∧ Q (.int n) H
  | _ => False
theorem c_int : CallR X (.type "int") uInt := by
  intro pins s σ H xs us Q I r h
  unfold uInt at h
  split at h
  · exact call_int1 pins s σ H _ us Q I r (.inl ⟨_, rfl, h⟩)
  · exact call_int1 pins s σ H _ us Q I r (.inr ⟨_, rfl, h⟩)
  · obtain ⟨h1, n, h2, q⟩ := h
    exact call_int_str pins s σ H _ us Q I r ⟨_, n, rfl, h2, h1, q⟩
  · exact h.elim
def uStr : RC := fun xs H Q => match xs with
  | [.int i] => i.natAbs.log2 < 1920 ∧ Q (.str (toString i)) H
  | _ => False
theorem c_str : CallR X (.type "str") uStr := by
  intro pins s σ H xs us Q I r h
  unfold uStr at h
  split at h
  · exact call_str_int pins s σ H _ us Q I r ⟨_, rfl, h.1, h.2⟩
  · exact h.elim
def uList (K : PySem.W.Frag) : RC := fun xs H Q => match xs with
  | [.ref p] => ∃ ys, (SqL K H p ys ∨ SqT K H p ys) ∧ ∀ l, H l = none → Q (.ref l) (upd H l (.lst ys))
  | _ => False
theorem c_list : CallR X (.type "list") (uList X.K) := by
  intro pins s σ H xs us Q I r h
  unfold uList at h
  split at h
  · obtain ⟨ys, h1, q⟩ := h
    exact call_list_of pins s σ H _ us Q I r ⟨_, ys, rfl, h1, q⟩
  · exact h.elim
def uTuple (K : PySem.W.Frag) : RC := fun xs H Q => match xs with
  | [.ref p] => ∃ ys, (SqL K H p ys ∧ ∀ l, H l = none → Q (.ref l) (upd H l (.tup ys))) ∨ (SqT K H p ys ∧ Q (.ref p) H)
  | _ => False
theorem c_tuple : CallR X (.type "tuple") (uTuple X.K) := by
  intro pins s σ H xs us Q I r h
  unfold uTuple at h
  split at h
  · obtain ⟨ys, h⟩ := h
    exact call_tuple_of pins s σ H _ us Q I r ⟨_, ys, rfl, h⟩
  · exact h.elim
def uAll (K : PySem.W.Frag) : RC := fun xs H Q => match xs with
  | [.ref a] => ∃ bs : List Bool, SqL K H a (bs.map V.bl) ∧ Q (.bl (bs.all id)) H
  | _ => False
theorem c_all (hc : X.calm = true) : CallR X (.builtin "all") (uAll X.K) := by
  intro pins s σ H xs us Q I r h
  unfold uAll at h
  split at h
  · obtain ⟨bs, h1, q⟩ := h
    exact cr_all hc pins s σ H _ us Q I r ⟨_, bs, rfl, h1, q⟩
  · exact h.elim
def uAny (K : PySem.W.Frag) : RC := fun xs H Q => match xs with
  | [.ref a] => ∃ bs : List Bool, SqL K H a (bs.map V.bl) ∧ Q (.bl (bs.any id)) H
  | _ => False
theorem c_any (hc : X.calm = true) : CallR X (.builtin "any") (uAny X.K) := by
  intro pins s σ H xs us Q I r h
  unfold uAny at h
  split at h
  · obtain ⟨bs, h1, q⟩ := h
    exact cr_any hc pins s σ H _ us Q I r ⟨_, bs, rfl, h1, q⟩
  · exact h.elim
def uSum (K : PySem.W.Frag) : RC := fun xs H Q => match xs with
  | [.ref a] => ∃ ns : List Int, SqL K H a (ns.map V.int) ∧ Q (.int ns.sum) H
  | _ => False
theorem c_sum (hc : X.calm = true) : CallR X (.builtin "sum") (uSum X.K) := by
  intro pins s σ H xs us Q I r h
  unfold uSum at h
  split at h
  · obtain ⟨bs, h1, q⟩ := h
    exact cr_sum hc pins s σ H _ us Q I r ⟨_, bs, rfl, h1, q⟩
  · exact h.elim
def uMax : RC := fun xs H Q => match xs with
  | [.int i, .int j] => Q (.int (max i j)) H
  | _ => False
theorem c_max (hc : X.calm = true) : CallR X (.builtin "max") uMax := by
  intro pins s σ H xs us Q I r h
  unfold uMax at h
  split at h
  · rename_i i j
    refine call_max2 hc pins s σ H _ us Q I r ⟨_, _, rfl, ?_⟩
    have e : (if j > i then j else i) = max i j := by
      rw [Int.max_def]; split <;> split <;> omega
    rw [e]; exact h
  · exact h.elim
def uMin : RC := fun xs H Q => match xs with
  | [.int i, .int j] => Q (.int (min i j)) H
  | _ => False
theorem c_min (hc : X.calm = true) : CallR X (.builtin "min") uMin := by
  intro pins s σ H xs us Q I r h
  unfold uMin at h
  split at h
  · rename_i i j
    refine call_min2 hc pins s σ H _ us Q I r ⟨_, _, rfl, ?_⟩
    have e : (if j < i then j else i) = min i j := by
      rw [Int.min_def]; split <;> split <;> omega
    rw [e]; exact h
  · exact h.elim
/-- isinstance(x, T), T a built-in type: by the value's shape; an object's type is told -/
def tyName : V → Option String
  | .non => some "NoneType"
  | .bl _ => some "bool"
  | .int _ => some "int"
  | .str _ => some "str"
  | _ => none
def uIsi (K : PySem.W.Frag) : RC := fun xs H Q => match xs with
  | [x, .ty T] => ∃ t b, (match tyName x with | some n => t = n | none => TyX K H x (.type t)) ∧ kitB t T = some b ∧ Q (.bl b) H
  | [x, .ref C] => ∃ t b, TyX K H x t ∧ PySem.W.kitOne K t (.ref C) = some b ∧ Q (.bl b) H
  | _ => False
theorem c_isi : CallR X (.builtin "isinstance") (uIsi X.K) := by
  intro pins s σ H xs us Q I r h
  unfold uIsi at h
  split at h
  · rename_i x T
    obtain ⟨t, b, h1, h2, q⟩ := h
    have ty : TyX X.K H x (.type t) := by
      cases x with
      | non => have e : t = "NoneType" := h1; subst e; exact .base .non
      | bl b => have e : t = "bool" := h1; subst e; exact .base (.bl b)
      | int i => have e : t = "int" := h1; subst e; exact .base (.int i)
      | str z => have e : t = "str" := h1; subst e; exact .base (.str z)
      | _ => exact h1
    exact call_isi pins s σ H _ us Q I r ⟨x, _, _, _, b, rfl, .ty T, ty, kit_ty h2, q⟩
  · obtain ⟨t, b, h1, h2, q⟩ := h
    exact call_isi pins s σ H _ us Q I r ⟨_, _, t, _, b, rfl, .own _, h1, h2, q⟩
  · exact h.elim
/-! methods of built-in types -/
abbrev RM : Type := V → List V → Hp → VK → Prop
def uStarts : RM := fun x xs H Q => match x, xs with
  | .str a, [.str b] => Q (.bl (Txt.startswith a b)) H
  | _, _ => False
theorem m_starts : MtR X "str.startswith" uStarts := by
  intro pins s σ H x xs v us Q I rx rs h
  unfold uStarts at h
  split at h
  · exact mt_startswith pins s σ H _ _ v us Q I rx rs ⟨_, _, rfl, rfl, h⟩
  · exact h.elim
def uJoin (K : PySem.W.Frag) : RM := fun x xs H Q => match x, xs with
  | .str a, [.ref p] => ∃ ys : List Str, (SqL K H p (ys.map V.str) ∨ SqT K H p (ys.map V.str)) ∧ (ys.map (·.length)).sum + ys.length * a.length ≤ 16777216 ∧ Q (.str (Txt.join a ys)) H
  | _, _ => False
theorem m_join : MtR X "str.join" (uJoin X.K) := by
  intro pins s σ H x xs v us Q I rx rs h
  unfold uJoin at h
  split at h
  · obtain ⟨ys, h1, h2, q⟩ := h
    exact mt_join pins s σ H _ _ v us Q I rx rs ⟨_, _, ys, rfl, rfl, h1, h2, q⟩
  · exact h.elim
def uAppend : RM := fun x vs H Q => match x, vs with
  | .ref l, [y] => ∃ xs, H l = some (.lst xs) ∧ xs.length < sizeLine ∧ Q .non (upd H l (.lst (xs ++ [y])))
  | _, _ => False
theorem m_append : MtM X "list.append" uAppend := by
  intro pins s σ H x xs v us Q I rx rs h
  unfold uAppend at h
  split at h
  · obtain ⟨ys, h1, h2, q⟩ := h
    exact mt_append pins s σ H _ _ v us Q I rx rs ⟨_, ys, _, rfl, rfl, h1, h2, q⟩
  · exact h.elim
end
end U
/-! R: the steps of a reading (each a row that holds by what its left side means). -/
namespace U
open PySem PySem.Spec L2
section
variable {σ : St} {H : Hp} {Q : VK} {D : Ends} {v x y : V} {ta tb tc te tv : TE} {K : PySem.W.Frag} {t u : TT} {QB : Bool → Hp → Prop}
theorem szl {n : Nat} (h : n ≤ 16777216) : n ≤ sizeLine := by rw [sizeLine_eq]; exact h
theorem szt {n : Nat} (h : n < 16777216) : n < sizeLine := by rw [sizeLine_eq]; exact h
/-! statements -/
theorem r_seq {s1 s2 : TS} (h : s1 { D with nx := s2 D } σ H) : tSeq s1 s2 D σ H := h
theorem r_next (h : D.nx σ H) : tNext D σ H := h
theorem r_brk (h : D.bk σ H) : tBreak D σ H := h
theorem r_cont (h : D.ct σ H) : tCont D σ H := h
theorem r_drop (h : te σ H fun _ H1 => D.nx σ H1) : tDrop te D σ H := h
theorem r_ret (h : te σ H D.rt) : tRet te D σ H := h
theorem r_retN (h : D.rt .non H) : tRetN D σ H := h
theorem r_ifS {c : TT} {s1 s2 : TS} (h : c σ H fun b H1 => if b = true then s1 D σ H1 else s2 D σ H1) : tIfS c s1 s2 D σ H := h
theorem r_asg {g : TG} (h : te σ H fun x H1 => g x σ H1 D.nx) : tAsg te g D σ H := h
theorem r_gname {i : Nat} {R : St → Hp → Prop} (h : R (σ.set i (some v)) H) : gName i v σ H R := h
theorem r_aug {i : Nat} {ti : TIp} (hx : σ[i]? = some (some x)) (h : te σ H fun y H1 => ti x y H1 fun z H2 => D.nx (σ.set i (some z)) H2) : tAug i te ti D σ H := ⟨x, hx, h⟩
theorem r_nx {a : St → Hp → Prop} {b : VK} {c d : St → Hp → Prop} (h : a σ H) : (Ends.mk a b c d).nx σ H := h
theorem r_rt {a : St → Hp → Prop} {b : VK} {c d : St → Hp → Prop} (h : b v H) : (Ends.mk a b c d).rt v H := h
/-! expressions -/
theorem r_var {i : Nat} (hx : σ[i]? = some (some v)) (h : Q v H) : tVar i σ H Q := ⟨v, hx, h⟩
theorem r_c (h : Q v H) : tC v σ H Q := h
theorem r_op {r : R2} (h : ta σ H fun x H1 => tb σ H1 fun y H2 => r x y H2 Q) : tOp r ta tb σ H Q := h
theorem r_un {r : V → Hp → VK → Prop} (h : ta σ H fun x H1 => r x H1 Q) : tUn r ta σ H Q := h
theorem r_cons {tr : TA} {QA : List V → Hp → Prop} (h : ta σ H fun x H1 => tr σ H1 fun xs H2 => QA (x :: xs) H2) : tCons ta tr σ H QA := h
theorem r_nil {QA : List V → Hp → Prop} (h : QA [] H) : tNil σ H QA := h
theorem r_cb {r : RC} {t : TA} (h : t σ H fun vs H1 => r vs H1 Q) : tCB r t σ H Q := h
theorem r_bm {T : String} {r : RM} {t : TA} (h : ta σ H fun x H1 => tyV K T x H1 ∧ t σ H1 fun xs H2 => r x xs H2 Q) : tBM K T r ta t σ H Q := h
theorem r_bm0 {T : String} {r : RM} (h : ta σ H fun x H1 => tyV K T x H1 ∧ r x [] H1 Q) : tBM0 K T r ta σ H Q := h
theorem r_sl {r : V → Option Int → Option Int → Hp → VK → Prop} {tl th : TO} (h : te σ H fun x H1 => tl σ H1 fun l H2 => th σ H2 fun u H3 => r x l u H3 Q) : tSl r te tl th σ H Q := h
theorem r_nop {QO : Option Int → Hp → Prop} (h : QO none H) : tNoPart σ H QO := h
theorem r_part {QO : Option Int → Hp → Prop} (h : te σ H fun x H1 => ∃ i, x = .int i ∧ QO (some i) H1) : tPart te σ H QO := h
theorem r_partI {i : Int} {P : Int → Prop} (h : P i) : ∃ j, V.int i = .int j ∧ P j := ⟨i, rfl, h⟩
theorem r_tup {ta : TA} (h : ta σ H fun xs H1 => xs.length ≤ sizeLine ∧ ∀ p, H1 p = none → Q (.ref p) (upd H1 p (.tup xs))) : tTup ta σ H Q := h
theorem r_lst {ta : TA} (h : ta σ H fun xs H1 => xs.length ≤ sizeLine ∧ ∀ p, H1 p = none → Q (.ref p) (upd H1 p (.lst xs))) : tLst ta σ H Q := h
theorem r_if {c : TT} (h : c σ H fun b H1 => if b = true then ta σ H1 Q else tb σ H1 Q) : tIf c ta tb σ H Q := h
theorem r_call {sp : Sp} {E : XK} {t : TA} (h : t σ H fun vs H1 => sp vs H1 Q E) : tCall sp [] E t σ H Q := by
  have e : (fun vs H1 => sp (vs ++ []) H1 Q E) = fun vs H1 => sp vs H1 Q E := by
    funext vs H1
    rw [List.append_nil]
  show t σ H fun vs H1 => sp (vs ++ []) H1 Q E
  rw [e]
  exact h
theorem r_andV (h : ta σ H fun x H1 => ∃ c, x = .bl c ∧ if c = true then tb σ H1 Q else Q (.bl false) H1) : tAndV ta tb σ H Q := h
theorem r_orV (h : ta σ H fun x H1 => ∃ c, x = .bl c ∧ if c = true then Q (.bl true) H1 else tb σ H1 Q) : tOrV ta tb σ H Q := h
theorem r_notV (h : ta σ H fun x H1 => ∃ c, x = .bl c ∧ Q (.bl (!c)) H1) : tNotV ta σ H Q := h
theorem r_bl {c : Bool} {P : Bool → Prop} (h : P c) : ∃ k, V.bl c = .bl k ∧ P k := ⟨c, rfl, h⟩
theorem r_chain {r r' : R2} (h : ta σ H fun x H1 => tb σ H1 fun y H2 => r x y H2 fun z H3 => ∃ k, z = .bl k ∧ (if k = true then tc σ H3 fun w' H4 => r' y w' H4 Q else Q (.bl false) H3)) : tChain r r' ta tb tc σ H Q := h
/-! tests -/
theorem r_test (h : te σ H fun x H' => ∃ k, x = .bl k ∧ QB k H') : tTest te σ H QB := h
theorem r_tb (h : te σ H fun x H' => ∃ k, x = .bl k ∧ QB k H') : tB te σ H QB := h
theorem r_and (h : t σ H fun c H1 => if c = true then u σ H1 QB else QB false H1) : tAnd t u σ H QB := h
theorem r_or (h : t σ H fun c H1 => if c = true then QB true H1 else u σ H1 QB) : tOr t u σ H QB := h
theorem r_not (h : t σ H fun c H1 => QB (!c) H1) : tNot t σ H QB := h
/-! truth of a value -/
def uTru (K : PySem.W.Frag) (te : TE) : TT := fun σ H Q => te σ H fun x H' => ∃ k, TruV K x H' k ∧ Q k H'
theorem pt_tru {X : Cx} {a : Expr} {ta : TE} (ha : PE X a ta) (he : ∀ whole, isTrue a X.env whole = (do let v ← whole; standAt a.pos; holding [v] (truthy v)) := by intro _; rfl) : PT X a (uTru X.K ta) := pt_truth ha he
theorem r_tru (h : te σ H fun x H' => ∃ k, TruV K x H' k ∧ QB k H') : uTru K te σ H QB := h
theorem r_truBl {c : Bool} {P : Bool → Prop} (h : P c) : ∃ k, TruV K (.bl c) H k ∧ P k := ⟨c, rfl, h⟩
theorem r_truInt {i : Int} {P : Bool → Prop} (h : P (decide (i ≠ 0))) : ∃ k, TruV K (.int i) H k ∧ P k := ⟨_, by simp [TruV, bne, Bool.beq_eq_decide_eq], h⟩
theorem r_truNon {P : Bool → Prop} (h : P false) : ∃ k, TruV K .non H k ∧ P k := ⟨_, rfl, h⟩
/-! operators -/
variable {i j : Int} {a b : Str}
theorem r_addI (h : Q (.int (i + j)) H) : uAdd K (.int i) (.int j) H Q := h
theorem r_addS (hl : a.length + b.length ≤ sizeLine) (h : Q (.str (a ++ b)) H) : uAdd K (.str a) (.str b) H Q := ⟨hl, h⟩
theorem r_sub (h : Q (.int (i - j)) H) : uSub (.int i) (.int j) H Q := h
theorem r_mul (hc : CMul i j ∨ CMulW i j) (h : Q (.int (i * j)) H) : uMul (.int i) (.int j) H Q := ⟨hc, h⟩
theorem r_fdiv (hc : CDivW i j) (h : Q (.int (i / j)) H) : uFdiv (.int i) (.int j) H Q := ⟨hc, h⟩
theorem r_mod (hc : 0 < j) (h : Q (.int (i % j)) H) : uMod (.int i) (.int j) H Q := ⟨hc, h⟩
theorem r_neg (h : Q (.int (-i)) H) : uNeg (.int i) H Q := h
theorem r_cmpI {p : Int → Int → Bool} (h : Q (.bl (p i j)) H) : uCmpI p (.int i) (.int j) H Q := h
theorem dec_int : decide (V.int i = .int j) = decide (i = j) := by simp
theorem dec_str : decide (V.str a = .str b) = decide (a = b) := by simp
theorem dec_bl {c d : Bool} : decide (V.bl c = .bl d) = decide (c = d) := by simp
theorem r_eqI (h : Q (.bl (decide (i = j))) H) : uEq K (.int i) (.int j) H Q := .inl ⟨rfl, by rw [dec_int]; exact h⟩
theorem r_eqS (h : Q (.bl (decide (a = b))) H) : uEq K (.str a) (.str b) H Q := .inl ⟨rfl, by rw [dec_str]; exact h⟩
theorem r_eqB {c d : Bool} (h : Q (.bl (decide (c = d))) H) : uEq K (.bl c) (.bl d) H Q := .inl ⟨rfl, by rw [dec_bl]; exact h⟩
theorem r_neI (h : Q (.bl (!decide (i = j))) H) : uNe K (.int i) (.int j) H Q := .inl ⟨rfl, by rw [dec_int]; exact h⟩
theorem r_neS (h : Q (.bl (!decide (a = b))) H) : uNe K (.str a) (.str b) H Q := .inl ⟨rfl, by rw [dec_str]; exact h⟩
theorem r_neB {c d : Bool} (h : Q (.bl (!decide (c = d))) H) : uNe K (.bl c) (.bl d) H Q := .inl ⟨rfl, by rw [dec_bl]; exact h⟩
theorem r_isNN (h : Q (.bl true) H) : uIsN id .non .non H Q := h
theorem r_isNI (h : Q (.bl false) H) : uIsN id (.int i) .non H Q := h
theorem r_isNB {c : Bool} (h : Q (.bl false) H) : uIsN id (.bl c) .non H Q := h
theorem r_isNS (h : Q (.bl false) H) : uIsN id (.str a) .non H Q := h
theorem r_isNR {p : Addr} (h : Q (.bl false) H) : uIsN id (.ref p) .non H Q := h
theorem r_notNN (h : Q (.bl false) H) : uIsN not .non .non H Q := h
theorem r_notNI (h : Q (.bl true) H) : uIsN not (.int i) .non H Q := h
theorem r_notNB {c : Bool} (h : Q (.bl true) H) : uIsN not (.bl c) .non H Q := h
theorem r_notNS (h : Q (.bl true) H) : uIsN not (.str a) .non H Q := h
theorem r_notNR {p : Addr} (h : Q (.bl true) H) : uIsN not (.ref p) .non H Q := h
theorem r_inC {c : Nat} (h : Q (.bl (decide (c ∈ a.cps.toList))) H) : uIn K id (.str ⟨#[c]⟩) (.str a) H Q := ⟨c, rfl, h⟩
theorem r_notInC {c : Nat} (h : Q (.bl (!decide (c ∈ a.cps.toList))) H) : uIn K not (.str ⟨#[c]⟩) (.str a) H Q := ⟨c, rfl, h⟩
theorem r_mulS {k : Int} (h1 : a.length * k.toNat ≤ 1000000) (h2 : k ≤ 1000000) (h3 : -(2 ^ 63) ≤ k) (h : Q (.str (Txt.mul a k)) H) : uMul (.str a) (.int k) H Q := ⟨h1, h2, h3, h⟩
theorem r_ixS {c : Nat} (h1 : a.length ≤ sizeLine) (h2 : atI a.cps.toList i = some c) (h : Q (.str ⟨#[c]⟩) H) : uIx K (.str a) (.int i) H Q := ⟨c, h1, h2, h⟩
theorem r_ixL {p : Addr} {xs : List V} (h1 : SqL K H p xs) (h2 : atI xs i = some v) (h : Q v H) : uIx K (.ref p) (.int i) H Q := ⟨xs, v, .inl h1, h2, h⟩
theorem r_ixT {p : Addr} {xs : List V} (h1 : SqT K H p xs) (h2 : atI xs i = some v) (h : Q v H) : uIx K (.ref p) (.int i) H Q := ⟨xs, v, .inr h1, h2, h⟩
theorem r_slS {lo hi : Option Int} (hl : a.length ≤ sizeLine) (h : Q (.str (cutS a lo hi)) H) : uSl K (.str a) lo hi H Q := ⟨hl, h⟩
theorem r_lenL {p : Addr} {xs : List V} (h1 : SqL K H p xs) (h : Q (.int (xs.length : Int)) H) : uLen K [.ref p] H Q := ⟨xs, .inl h1, h⟩
theorem r_lenT {p : Addr} {xs : List V} (h1 : SqT K H p xs) (h : Q (.int (xs.length : Int)) H) : uLen K [.ref p] H Q := ⟨xs, .inr h1, h⟩
theorem r_allL {p : Addr} {bs : List Bool} (h1 : SqL K H p (bs.map V.bl)) (h : Q (.bl (bs.all id)) H) : uAll K [.ref p] H Q := ⟨bs, h1, h⟩
theorem r_listL {p : Addr} {xs : List V} (h1 : SqL K H p xs) (h : ∀ l, H l = none → Q (.ref l) (upd H l (.lst xs))) : uList K [.ref p] H Q := ⟨xs, .inl h1, h⟩
theorem r_listT {p : Addr} {xs : List V} (h1 : SqT K H p xs) (h : ∀ l, H l = none → Q (.ref l) (upd H l (.lst xs))) : uList K [.ref p] H Q := ⟨xs, .inr h1, h⟩
theorem r_tupleL {p : Addr} {xs : List V} (h1 : SqL K H p xs) (h : ∀ l, H l = none → Q (.ref l) (upd H l (.tup xs))) : uTuple K [.ref p] H Q := ⟨xs, .inl ⟨h1, h⟩⟩
theorem r_append {p : Addr} {xs : List V} (h1 : H p = some (.lst xs)) (h2 : xs.length < sizeLine) (h : Q .non (upd H p (.lst (xs ++ [v])))) : uAppend (.ref p) [v] H Q := ⟨xs, h1, h2, h⟩
theorem r_tyStr {A : Prop} (h : A) : tyV K "str" (.str a) H ∧ A := ⟨rfl, h⟩
theorem r_tyLst {p : Addr} {xs : List V} {A : Prop} (h1 : H p = some (.lst xs)) (h : A) : tyV K "list" (.ref p) H ∧ A := ⟨.inl ⟨rfl, _, SqL.of h1⟩, h⟩
theorem r_lenS (hl : a.length ≤ sizeLine) (h : Q (.int (a.length : Int)) H) : uLen K [.str a] H Q := ⟨hl, h⟩
theorem r_abs (h : Q (.int (i.natAbs : Int)) H) : uAbs [.int i] H Q := h
theorem r_intI (h : Q (.int i) H) : uInt [.int i] H Q := h
theorem r_intB {c : Bool} (h : Q (.int (if c then 1 else 0)) H) : uInt [.bl c] H Q := h
theorem r_strI (hl : i.natAbs.log2 < 1920) (h : Q (.str (toString i)) H) : uStr [.int i] H Q := ⟨hl, h⟩
theorem r_maxI (h : Q (.int (max i j)) H) : uMax [.int i, .int j] H Q := h
theorem r_minI (h : Q (.int (min i j)) H) : uMin [.int i, .int j] H Q := h
theorem r_starts (h : Q (.bl (Txt.startswith a b)) H) : uStarts (.str a) [.str b] H Q := h
theorem r_iI_int (h : Q (.bl true) H) : uIsi K [(.int i), .ty "int"] H Q := ⟨"int", true, rfl, by decide +kernel, h⟩
theorem r_iI_bool (h : Q (.bl false) H) : uIsi K [(.int i), .ty "bool"] H Q := ⟨"int", false, rfl, by decide +kernel, h⟩
theorem r_iI_str (h : Q (.bl false) H) : uIsi K [(.int i), .ty "str"] H Q := ⟨"int", false, rfl, by decide +kernel, h⟩
theorem r_iI_tuple (h : Q (.bl false) H) : uIsi K [(.int i), .ty "tuple"] H Q := ⟨"int", false, rfl, by decide +kernel, h⟩
theorem r_iI_list (h : Q (.bl false) H) : uIsi K [(.int i), .ty "list"] H Q := ⟨"int", false, rfl, by decide +kernel, h⟩
theorem r_iB_int {d : Bool} (h : Q (.bl true) H) : uIsi K [(.bl d), .ty "int"] H Q := ⟨"bool", true, rfl, by decide +kernel, h⟩
theorem r_iB_bool {d : Bool} (h : Q (.bl true) H) : uIsi K [(.bl d), .ty "bool"] H Q := ⟨"bool", true, rfl, by decide +kernel, h⟩
theorem r_iB_str {d : Bool} (h : Q (.bl false) H) : uIsi K [(.bl d), .ty "str"] H Q := ⟨"bool", false, rfl, by decide +kernel, h⟩
theorem r_iB_tuple {d : Bool} (h : Q (.bl false) H) : uIsi K [(.bl d), .ty "tuple"] H Q := ⟨"bool", false, rfl, by decide +kernel, h⟩
theorem r_iB_list {d : Bool} (h : Q (.bl false) H) : uIsi K [(.bl d), .ty "list"] H Q := ⟨"bool", false, rfl, by decide +kernel, h⟩
theorem r_iS_int (h : Q (.bl false) H) : uIsi K [(.str a), .ty "int"] H Q := ⟨"str", false, rfl, by decide +kernel, h⟩
theorem r_iS_bool (h : Q (.bl false) H) : uIsi K [(.str a), .ty "bool"] H Q := ⟨"str", false, rfl, by decide +kernel, h⟩
theorem r_iS_str (h : Q (.bl true) H) : uIsi K [(.str a), .ty "str"] H Q := ⟨"str", true, rfl, by decide +kernel, h⟩
theorem r_iS_tuple (h : Q (.bl false) H) : uIsi K [(.str a), .ty "tuple"] H Q := ⟨"str", false, rfl, by decide +kernel, h⟩
theorem r_iS_list (h : Q (.bl false) H) : uIsi K [(.str a), .ty "list"] H Q := ⟨"str", false, rfl, by decide +kernel, h⟩
theorem r_iN_int (h : Q (.bl false) H) : uIsi K [.non, .ty "int"] H Q := ⟨"NoneType", false, rfl, by decide +kernel, h⟩
theorem r_iN_bool (h : Q (.bl false) H) : uIsi K [.non, .ty "bool"] H Q := ⟨"NoneType", false, rfl, by decide +kernel, h⟩
theorem r_iN_str (h : Q (.bl false) H) : uIsi K [.non, .ty "str"] H Q := ⟨"NoneType", false, rfl, by decide +kernel, h⟩
theorem r_iN_tuple (h : Q (.bl false) H) : uIsi K [.non, .ty "tuple"] H Q := ⟨"NoneType", false, rfl, by decide +kernel, h⟩
theorem r_iN_list (h : Q (.bl false) H) : uIsi K [.non, .ty "list"] H Q := ⟨"NoneType", false, rfl, by decide +kernel, h⟩
theorem r_iT_int {p : Addr} {xs : List V} (hp : H p = some (.tup xs)) (h : Q (.bl false) H) : uIsi K [.ref p, .ty "int"] H Q := ⟨"tuple", false, .base (.tup hp), by decide +kernel, h⟩
theorem r_iL_int {p : Addr} {xs : List V} (hp : H p = some (.lst xs)) (h : Q (.bl false) H) : uIsi K [.ref p, .ty "int"] H Q := ⟨"list", false, .base (.lst hp), by decide +kernel, h⟩
theorem r_iT_bool {p : Addr} {xs : List V} (hp : H p = some (.tup xs)) (h : Q (.bl false) H) : uIsi K [.ref p, .ty "bool"] H Q := ⟨"tuple", false, .base (.tup hp), by decide +kernel, h⟩
theorem r_iL_bool {p : Addr} {xs : List V} (hp : H p = some (.lst xs)) (h : Q (.bl false) H) : uIsi K [.ref p, .ty "bool"] H Q := ⟨"list", false, .base (.lst hp), by decide +kernel, h⟩
theorem r_iT_str {p : Addr} {xs : List V} (hp : H p = some (.tup xs)) (h : Q (.bl false) H) : uIsi K [.ref p, .ty "str"] H Q := ⟨"tuple", false, .base (.tup hp), by decide +kernel, h⟩
theorem r_iL_str {p : Addr} {xs : List V} (hp : H p = some (.lst xs)) (h : Q (.bl false) H) : uIsi K [.ref p, .ty "str"] H Q := ⟨"list", false, .base (.lst hp), by decide +kernel, h⟩
theorem r_iT_tuple {p : Addr} {xs : List V} (hp : H p = some (.tup xs)) (h : Q (.bl true) H) : uIsi K [.ref p, .ty "tuple"] H Q := ⟨"tuple", true, .base (.tup hp), by decide +kernel, h⟩
theorem r_iL_tuple {p : Addr} {xs : List V} (hp : H p = some (.lst xs)) (h : Q (.bl false) H) : uIsi K [.ref p, .ty "tuple"] H Q := ⟨"list", false, .base (.lst hp), by decide +kernel, h⟩
theorem r_iT_list {p : Addr} {xs : List V} (hp : H p = some (.tup xs)) (h : Q (.bl false) H) : uIsi K [.ref p, .ty "list"] H Q := ⟨"tuple", false, .base (.tup hp), by decide +kernel, h⟩
theorem r_iL_list {p : Addr} {xs : List V} (hp : H p = some (.lst xs)) (h : Q (.bl true) H) : uIsi K [.ref p, .ty "list"] H Q := ⟨"list", true, .base (.lst hp), by decide +kernel, h⟩
/-! branches -/
theorem br_t {A B : Prop} (h : A) : if true = true then A else B := by rw [if_pos rfl]; exact h
theorem br_f {A B : Prop} (h : B) : if false = true then A else B := by rw [if_neg Bool.false_ne_true]; exact h
theorem br {c : Bool} {A B : Prop} (h1 : c = true → A) (h2 : c = false → B) : if c = true then A else B := by
  cases c with
  | true => exact br_t (h1 rfl)
  | false => exact br_f (h2 rfl)
theorem br_y {p : Prop} [Decidable p] {A B : Prop} (hp : p) (h : A) : if decide p = true then A else B := by rw [decide_eq_true hp]; exact br_t h
theorem br_n {p : Prop} [Decidable p] {A B : Prop} (hp : ¬ p) (h : B) : if decide p = true then A else B := by rw [decide_eq_false hp]; exact br_f h
theorem br_ny {p : Prop} [Decidable p] {A B : Prop} (hp : p) (h : B) : if (!decide p) = true then A else B := by rw [decide_eq_true hp]; exact br_f h
theorem br_nn {p : Prop} [Decidable p] {A B : Prop} (hp : ¬ p) (h : A) : if (!decide p) = true then A else B := by rw [decide_eq_false hp]; exact br_t h
theorem br_nt {A B : Prop} (h : B) : if (!true) = true then A else B := br_f h
theorem br_nf {A B : Prop} (h : A) : if (!false) = true then A else B := br_t h
/-- a bool by its two ways (an open test) -/
theorem br_d {p : Prop} [Decidable p] {A B : Prop} (h1 : p → A) (h2 : ¬ p → B) : if decide p = true then A else B := by
  by_cases h : p
  · rw [decide_eq_true h]; exact br_t (h1 h)
  · rw [decide_eq_false h]; exact br_f (h2 h)
theorem br_nd {p : Prop} [Decidable p] {A B : Prop} (h1 : ¬ p → A) (h2 : p → B) : if (!decide p) = true then A else B := by
  by_cases h : p
  · rw [decide_eq_true h]; exact br_f (h2 h)
  · rw [decide_eq_false h]; exact br_t (h1 h)
end
end U
/-! U2: a def taken by name; constants; stores; loops and comprehensions over what yields one thing after another. -/
namespace U
open PySem PySem.Spec L2
section
variable {X : Cx} {x : Str} {p pos : Pos} {e : Expr} {es : List Expr} {t : TA}
/-- a def of the module's, by its name: where it stands, that it keeps its promise -/
structure OkF (P : Program) (w : World) (K : PySem.W.Frag) (mg : Str → Option Value) (base : Heap) (k : Nat) (x : Str) (ps : List Str) (sp : Sp) : Prop where
  ex : ∃ (f : Addr) (fd : FuncData), mg x = some (.ref f) ∧ FnOk P w K mg base CX0 k f fd ps sp ∧ Binds K fd ps [] ∧ PySem.W.keepIn K (.ref f) = true
theorem pe_fn {k : Nat} {ps : List Str} {sp : Sp} (O : OkF X.prog X.w X.K X.mg X.base k x ps sp) (hr : Room k X.A) (hg : Gl X x) (ha : PA X (e :: es) t) (hdb : (x == ("__debug__" : Str)) = false := by decide)
    (he : starEach (e :: es) X.env = (false, eval e X.env) :: starEach es X.env := by rfl) (hpl : (backTo pos (starEach es X.env)).any (·.1) = false := by rfl) : PE X (.Call (.Name x p) (e :: es) [] pos) (tCall sp [] E0 t) := by
  obtain ⟨f, fd, hm, F, hb, hk⟩ := O.ex
  exact pe_call F hr hg hm hk hb .nil pass0 ha hdb he hpl
theorem pe_fn0 {k : Nat} {ps : List Str} {sp : Sp} (O : OkF X.prog X.w X.K X.mg X.base k x ps sp) (hr : Room k X.A) (hg : Gl X x) (hdb : (x == ("__debug__" : Str)) = false := by decide) : PE X (.Call (.Name x p) [] [] pos) (tCall sp [] E0 tNil) := by
  obtain ⟨f, fd, hm, F, hb, hk⟩ := O.ex
  exact pe_call0 F hr hg hm hk hb .nil pass0 hdb
theorem pe_gint {i : Int} (hg : Gl X x) (h : ∃ t, X.mg x = some (.int i t)) (hd : (x == ("__debug__" : Str)) = false := by decide) : PE X (.Name x pos) (tC (.int i)) := by
  obtain ⟨t, h⟩ := h
  exact pe_glob hg h ⟨_, rfl⟩ hd
theorem pe_gstr {z : Str} (hg : Gl X x) (h : ∃ t, X.mg x = some (.str z t)) (hd : (x == ("__debug__" : Str)) = false := by decide) : PE X (.Name x pos) (tC (.str z)) := by
  obtain ⟨t, h⟩ := h
  exact pe_glob hg h ⟨_, rfl⟩ hd
theorem pe_gref {a : Addr} (hg : Gl X x) (h : X.mg x = some (.ref a)) (hd : (x == ("__debug__" : Str)) = false := by decide) : PE X (.Name x pos) (tC (.ref a)) := pe_glob hg h rfl hd
theorem pe_ty {T : String} (hg : Gl X x) (hm : X.mg x = none) (hv : bootBuiltins x = some (.type T)) (hn : x ≠ "__name__" := by decide) (hd : (x == ("__debug__" : Str)) = false := by decide) : PE X (.Name x pos) (tC (.ty T)) := pe_bltn hg hm hv rfl hn hd
/-- a block: what holds between its first statement and the rest -/
def tSq (t u : TS) : TS := fun D σ H => ∃ M : St → Hp → Prop, t { D with nx := M } σ H ∧ ∀ σ' H', M σ' H' → u D σ' H'
theorem pss_c {st : Stmt} {rest : List Stmt} {t u : TS} (h1 : PS X st t) (h2 : PSs X rest u) : PSs X (st :: rest) (tSq t u) := by
  refine ⟨fun pins s σ H D I h => ?_⟩
  obtain ⟨M, hm, hu⟩ := h
  refine wpAny_execs_cons (thn (h1.run pins s σ H { D with nx := M } I hm) fun f s1 q => ?_)
  cases f with
  | next =>
    obtain ⟨σ', H', I', q⟩ := q
    exact h2.run pins s1 σ' H' D I' (hu σ' H' q)
  | ret v => exact q
  | brk => exact q
  | cont => exact q
/-- what is walked: a list, a tuple, a text -/
def uIt (K : PySem.W.Frag) (te : TE) : TI := fun σ H R => iList K te σ H R ∨ iTup K te σ H R ∨ iStr te σ H R
theorem pi_any {tg : Expr} {te : TE} (he : PE X e te) : PI X tg e (uIt X.K te) := ⟨fun pins s σ H R I h => by
  rcases h with h | h | h
  · exact (pi_list he).run pins s σ H R I h
  · exact (pi_tup he).run pins s σ H R I h
  · exact (pi_str he).run pins s σ H R I h⟩
/-- isinstance(x, (T1, T2, ..)), built-in types -/
def kitL (t : String) : List String → Option Bool
  | [] => some false
  | T :: Ts => match kitB t T with
    | some true => some true
    | some false => kitL t Ts
    | none => none
theorem kitL_any {K : PySem.W.Frag} {t : String} : ∀ {Ts : List String} {b : Bool}, kitL t Ts = some b → PySem.W.kitAny K (.type t) (Ts.map Value.type) = some b
  | [], b, h => by cases h; rfl
  | T :: Ts, b, h => by
    unfold kitL at h
    cases e : kitB t T with
    | none => rw [e] at h; cases h
    | some c =>
      rw [e] at h
      cases c with
      | true => cases h; exact kitAny_cons (b := true) (kit_ty e) (fun z => by cases z) (fun _ => rfl)
      | false => exact kitAny_cons (b := false) (kit_ty e) (fun _ => kitL_any h) (fun z => by cases z)
theorem clsL : ∀ Ts : List String, Paired ClsV (Ts.map V.ty) (Ts.map Value.type)
  | [] => .nil
  | T :: Ts => .cons (.ty T) (clsL Ts)
def uIsiT (K : PySem.W.Frag) : RC := fun xs H Q => match xs with
  | [x, .ref p] => ∃ (t : String) (Ts : List String) (b : Bool), H p = some (.tup (Ts.map V.ty)) ∧ (match tyName x with | some n => t = n | none => TyX K H x (.type t)) ∧ kitL t Ts = some b ∧ Q (.bl b) H
  | _ => False
theorem c_isiT : CallR X (.builtin "isinstance") (uIsiT X.K) := by
  intro pins s σ H xs us Q I r h
  unfold uIsiT at h
  split at h
  · rename_i x p
    obtain ⟨t, Ts, b, h0, h1, h2, q⟩ := h
    have ty : TyX X.K H x (.type t) := by
      cases x with
      | non => have e : t = "NoneType" := h1; subst e; exact .base .non
      | bl b => have e : t = "bool" := h1; subst e; exact .base (.bl b)
      | int i => have e : t = "int" := h1; subst e; exact .base (.int i)
      | str z => have e : t = "str" := h1; subst e; exact .base (.str z)
      | _ => exact h1
    exact call_isiT pins s σ H _ us Q I r ⟨x, p, _, _, _, b, rfl, h0, clsL Ts, ty, kitL_any h2, q⟩
  · exact h.elim
/-! stores -/
def uGetL (K : PySem.W.Frag) (o i : V) (H : Hp) (Q : VK) : Prop := match o, i with
  | .ref a, .int k => ∃ xs v, SqL K H a xs ∧ 0 ≤ k ∧ xs[k.toNat]? = some v ∧ Q v H
  | _, _ => False
theorem g_list : PGet X (uGetL X.K) := by
  intro pins s σ H o i ov iv Q I r1 r2 h
  cases o <;> cases i <;> first | exact (show False from h).elim | skip
  obtain ⟨xs, v, h1, h2, h3, q⟩ := h
  cases r1
  obtain ⟨t, rfl⟩ := r2
  obtain ⟨its, r, pl, hz⟩ := I.list h1
  obtain ⟨w, ew, rw'⟩ := r.get h3
  have hl := line63
  have hj := (List.getElem?_eq_some_iff.mp h3).1
  exact wpAny_getItem_list pl.isList h2 (by omega) (by simpa using ew) ⟨v, H, I, rw', q⟩
def uSetL (o i v : V) (H : Hp) (Q : Hp → Prop) : Prop := match o, i with
  | .ref a, .int k => ∃ xs j, H a = some (.lst xs) ∧ ixN xs.length k = some j ∧ Q (upd H a (.lst (xs.set j v)))
  | _, _ => False
theorem p_list : PSet X uSetL := by
  intro pins s σ H o i v ov iv u Q I r1 r2 r3 h
  cases o <;> cases i <;> first | exact (show False from h).elim | skip
  obtain ⟨xs, j, h1, h2, q⟩ := h
  exact set_list pins s σ H _ _ v ov iv u Q I r1 r2 r3 ⟨_, xs, _, j, rfl, rfl, h1, h2, q⟩
def uIpI (f : Int → Int → Int) (x y : V) (H : Hp) (Q : VK) : Prop := match x, y with
  | .int i, .int j => Q (.int (f i j)) H
  | _, _ => False
theorem a_add : PIp X .Add (uIpI fun i j => i + j) := by
  intro pins s σ H x y v u Q I r1 r2 h
  cases x <;> cases y <;> first | exact (show False from h).elim | skip
  exact ip_add pins s σ H _ _ v u Q I r1 r2 ⟨_, _, rfl, rfl, h⟩
theorem a_sub : PIp X .Sub (uIpI fun i j => i - j) := by
  intro pins s σ H x y v u Q I r1 r2 h
  cases x <;> cases y <;> first | exact (show False from h).elim | skip
  exact ip_sub pins s σ H _ _ v u Q I r1 r2 ⟨_, _, rfl, rfl, h⟩
end
section
variable {σ : St} {H : Hp} {Q : VK} {D : Ends} {K : PySem.W.Frag} {i j : Int}
theorem r_sq {t u : TS} (h : t { D with nx := u D } σ H) : tSq t u D σ H := ⟨u D, h, fun _ _ x => x⟩
theorem r_cut {t u : TS} (M : St → Hp → Prop) (h : t { D with nx := M } σ H) (k : ∀ σ' H', M σ' H' → u D σ' H') : tSq t u D σ H := ⟨M, h, k⟩
theorem r_sqA {te : TE} {g : TG} {u : TS} (h : te σ H fun x H1 => g x σ H1 (u D)) : tSq (tAsg te g) u D σ H := r_sq h
theorem r_sqD {te : TE} {u : TS} (h : te σ H fun _ H1 => u D σ H1) : tSq (tDrop te) u D σ H := r_sq h
theorem r_sqG {x : V} {i : Nat} {te : TE} {ti : TIp} {u : TS} (hx : σ[i]? = some (some x)) (h : te σ H fun y H1 => ti x y H1 fun z H2 => u D (σ.set i (some z)) H2) : tSq (tAug i te ti) u D σ H := r_sq ⟨x, hx, h⟩
theorem r_sqS {to ti te : TE} {tg : V → V → Hp → VK → Prop} {tp : TIp} {ts : TSet} {u : TS} (h : to σ H fun o H1 => ti σ H1 fun k H2 => tg o k H2 fun x H3 => te σ H3 fun y H4 => tp x y H4 fun z H5 => ts o k z H5 fun H6 => u D σ H6) : tSq (tAugS to ti te tg tp ts) u D σ H := r_sq h
theorem r_yes {QB : Bool → Hp → Prop} (h : QB true H) : tYes σ H QB := h
theorem same_new {p : Addr} {o : HO} (h : H p = none) : Same H (upd H p o) := fun b x e => by
  rw [upd_ne (ne_of_none e h)]
  exact e
theorem same_mut {H' : Hp} {p : Addr} {o : HO} (e : Same H H') (h : H p = none) : Same H (upd H' p o) := fun b x eb => by
  rw [upd_ne (ne_of_none eb h)]
  exact e b x eb
theorem r_sub3 {to ti : TE} {ts : TSet} {v : V} {R : St → Hp → Prop} (h : to σ H fun o H1 => ti σ H1 fun k H2 => ts o k v H2 fun H3 => R σ H3) : gSub to ti ts v σ H R := h
theorem r_augS {to ti te : TE} {tg : V → V → Hp → VK → Prop} {tp : TIp} {ts : TSet} (h : to σ H fun o H1 => ti σ H1 fun k H2 => tg o k H2 fun x H3 => te σ H3 fun y H4 => tp x y H4 fun z H5 => ts o k z H5 fun H6 => D.nx σ H6) : tAugS to ti te tg tp ts D σ H := h
theorem r_ipI {f : Int → Int → Int} (h : Q (.int (f i j)) H) : uIpI f (.int i) (.int j) H Q := h
theorem r_getL {a : Addr} {k : Int} {xs : List V} {v : V} (h1 : SqL K H a xs) (h2 : 0 ≤ k) (h3 : xs[k.toNat]? = some v) (h : Q v H) : uGetL K (.ref a) (.int k) H Q := ⟨xs, v, h1, h2, h3, h⟩
theorem r_setL {a : Addr} {k : Int} {xs : List V} {m : Nat} {v : V} {R : Hp → Prop} (h1 : H a = some (.lst xs)) (h2 : ixN xs.length k = some m) (h : R (upd H a (.lst (xs.set m v)))) : uSetL (.ref a) (.int k) v H R := ⟨xs, m, h1, h2, h⟩
/-! loops -/
/-- a loop over n things: P holds ahead of each turn -/
theorem l_for {J : It} {n : Nat} {g : TG} {tb : TS} (P : Nat → St → Hp → Prop) (h0 : P 0 σ H) (go : ∀ i σ H, i < n → P i σ H → J.go i H) (stop : ∀ σ H, P n σ H → J.stop n H)
    (step : ∀ i σ H, i < n → P i σ H → ∀ x H', J.yld i H x H' → g x σ H' fun σ2 H2 => tb { D with nx := P (i + 1), ct := P (i + 1), bk := D.nx } σ2 H2) (done : ∀ σ H, P n σ H → D.nx σ H) :
    ∃ W : Nat → Nat → St → Hp → Prop, (∃ m, W 0 m σ H) ∧ ∀ i m σ H, W i m σ H →
      (J.stop i H ∧ D.nx σ H) ∨ (J.go i H ∧ ∃ N : St → Hp → Prop, (∀ σ' H', N σ' H' → ∃ m', m' < m ∧ W (i + 1) m' σ' H') ∧ ∀ x H', J.yld i H x H' → g x σ H' fun σ2 H2 => tb { D with nx := N, ct := N, bk := D.nx } σ2 H2) := by
  refine ⟨fun i m σ H => m = n - i ∧ i ≤ n ∧ P i σ H, ⟨n, by simp, Nat.zero_le _, h0⟩, ?_⟩
  rintro i m σ H ⟨rfl, hi, p⟩
  by_cases hlt : i < n
  · exact .inr ⟨go i σ H hlt p, P (i + 1), fun σ' H' p' => ⟨n - (i + 1), by omega, rfl, hlt, p'⟩, fun x H' y => step i σ H hlt p x H' y⟩
  · have e : i = n := by omega
    subst e
    exact .inl ⟨stop σ H p, done σ H p⟩
theorem r_for {wi : TI} {g : TG} {tb : TS} (h : wi σ H fun J H1 => ∃ W : Nat → Nat → St → Hp → Prop, (∃ m, W 0 m σ H1) ∧ ∀ i m σ H, W i m σ H →
  (J.stop i H ∧ D.nx σ H) ∨ (J.go i H ∧ ∃ N : St → Hp → Prop, (∀ σ' H', N σ' H' → ∃ m', m' < m ∧ W (i + 1) m' σ' H') ∧ ∀ x H', J.yld i H x H' → g x σ H' fun σ2 H2 => tb { D with nx := N, ct := N, bk := D.nx } σ2 H2)) : tFor wi g tb D σ H := h
theorem it_list {te : TE} {R : It → Hp → Prop} (h : te σ H fun x H1 => ∃ a, x = .ref a ∧ (∃ xs, SqL K H1 a xs) ∧ R (Itl K a) H1) : uIt K te σ H R := .inl h
theorem it_tup {te : TE} {R : It → Hp → Prop} (h : te σ H fun x H1 => ∃ a, x = .ref a ∧ (∃ xs, SqT K H1 a xs) ∧ R (Itt K a) H1) : uIt K te σ H R := .inr (.inl h)
theorem it_str {te : TE} {R : It → Hp → Prop} (h : te σ H fun v H1 => ∃ x, v = .str x ∧ R (Its x) H1) : uIt K te σ H R := .inr (.inr h)
theorem r_rng1 {ta : TA} {R : It → Hp → Prop} (h : ta σ H fun vs H1 => ∃ j : Int, vs = [.int j] ∧ -(2 ^ 62) ≤ j ∧ j < 2 ^ 62 ∧ R (Itr 0 j.toNat) H1) : iRng1 ta σ H R := h
theorem r_rng1v {k : Int} {P : Int → Prop} (h : P k) : ∃ j : Int, [V.int k] = [V.int j] ∧ P j := ⟨k, rfl, h⟩
theorem r_rng2 {ta : TA} {R : It → Hp → Prop} (h : ta σ H fun vs H1 => ∃ i j : Int, vs = [.int i, .int j] ∧ (-(2 ^ 62) ≤ i ∧ i < 2 ^ 62 ∧ -(2 ^ 62) ≤ j ∧ j < 2 ^ 62) ∧ R (Itr i (j - i).toNat) H1) : iRng2 ta σ H R := h
theorem r_rng2v {a b : Int} {P : Int → Int → Prop} (h : P a b) : ∃ i j : Int, [V.int a, V.int b] = [V.int i, V.int j] ∧ P i j := ⟨a, b, rfl, h⟩
/-- over a range that is told by its number of turns -/
theorem f_range {lo : Int} {n : Nat} {g : TG} {tb : TS} (P : Nat → St → Hp → Prop) (h0 : P 0 σ H)
    (step : ∀ i σ H, i < n → P i σ H → g (.int (lo + i)) σ H fun σ2 H2 => tb { D with nx := P (i + 1), ct := P (i + 1), bk := D.nx } σ2 H2) (done : ∀ σ H, P n σ H → D.nx σ H) :
    ∃ W : Nat → Nat → St → Hp → Prop, (∃ m, W 0 m σ H) ∧ ∀ i m σ H, W i m σ H →
      ((Itr lo n).stop i H ∧ D.nx σ H) ∨ ((Itr lo n).go i H ∧ ∃ N : St → Hp → Prop, (∀ σ' H', N σ' H' → ∃ m', m' < m ∧ W (i + 1) m' σ' H') ∧ ∀ x H', (Itr lo n).yld i H x H' → g x σ H' fun σ2 H2 => tb { D with nx := N, ct := N, bk := D.nx } σ2 H2) :=
  l_for P h0 (fun i σ H h _ => h) (fun _ _ _ => Nat.le_refl _) (fun i σ H h p x H' y => by
    obtain ⟨e1, e2⟩ := y
    subst e1 e2
    exact step i σ H' h p) done
/-- over a text, sign by sign -/
theorem f_str {z : Str} {g : TG} {tb : TS} (P : Nat → St → Hp → Prop) (h0 : P 0 σ H)
    (step : ∀ i (c : Nat) σ H, z.cps.toList[i]? = some c → P i σ H → g (.str ⟨#[c]⟩) σ H fun σ2 H2 => tb { D with nx := P (i + 1), ct := P (i + 1), bk := D.nx } σ2 H2) (done : ∀ σ H, P z.cps.toList.length σ H → D.nx σ H) :
    ∃ W : Nat → Nat → St → Hp → Prop, (∃ m, W 0 m σ H) ∧ ∀ i m σ H, W i m σ H →
      ((Its z).stop i H ∧ D.nx σ H) ∨ ((Its z).go i H ∧ ∃ N : St → Hp → Prop, (∀ σ' H', N σ' H' → ∃ m', m' < m ∧ W (i + 1) m' σ' H') ∧ ∀ x H', (Its z).yld i H x H' → g x σ H' fun σ2 H2 => tb { D with nx := N, ct := N, bk := D.nx } σ2 H2) :=
  l_for P h0 (fun i σ H h _ => by show i < z.cps.size; simpa using h) (fun _ _ _ => by show z.cps.size ≤ _; simp) (fun i σ H h p x H' y => by
    obtain ⟨e1, c, e, e2⟩ := y
    subst e1 e2
    exact step i c σ H' (by simpa using e) p) done
/-- over a list that stays -/
theorem f_list {a : Addr} {xs : List V} {g : TG} {tb : TS} (P : Nat → St → Hp → Prop) (h0 : P 0 σ H) (hl : ∀ i σ H, P i σ H → SqL K H a xs)
    (step : ∀ i x σ H, xs[i]? = some x → P i σ H → g x σ H fun σ2 H2 => tb { D with nx := P (i + 1), ct := P (i + 1), bk := D.nx } σ2 H2) (done : ∀ σ H, P xs.length σ H → D.nx σ H) :
    ∃ W : Nat → Nat → St → Hp → Prop, (∃ m, W 0 m σ H) ∧ ∀ i m σ H, W i m σ H →
      ((Itl K a).stop i H ∧ D.nx σ H) ∨ ((Itl K a).go i H ∧ ∃ N : St → Hp → Prop, (∀ σ' H', N σ' H' → ∃ m', m' < m ∧ W (i + 1) m' σ' H') ∧ ∀ x H', (Itl K a).yld i H x H' → g x σ H' fun σ2 H2 => tb { D with nx := N, ct := N, bk := D.nx } σ2 H2) :=
  for_list P h0 (fun i σ H _ p => hl i σ H p) step done
theorem f_tup {a : Addr} {xs : List V} {g : TG} {tb : TS} (P : Nat → St → Hp → Prop) (h0 : P 0 σ H) (hl : ∀ i σ H, P i σ H → SqT K H a xs)
    (step : ∀ i x σ H, xs[i]? = some x → P i σ H → g x σ H fun σ2 H2 => tb { D with nx := P (i + 1), ct := P (i + 1), bk := D.nx } σ2 H2) (done : ∀ σ H, P xs.length σ H → D.nx σ H) :
    ∃ W : Nat → Nat → St → Hp → Prop, (∃ m, W 0 m σ H) ∧ ∀ i m σ H, W i m σ H →
      ((Itt K a).stop i H ∧ D.nx σ H) ∨ ((Itt K a).go i H ∧ ∃ N : St → Hp → Prop, (∀ σ' H', N σ' H' → ∃ m', m' < m ∧ W (i + 1) m' σ' H') ∧ ∀ x H', (Itt K a).yld i H x H' → g x σ H' fun σ2 H2 => tb { D with nx := N, ct := N, bk := D.nx } σ2 H2) :=
  for_tup P h0 (fun i σ H _ p => hl i σ H p) step done
/-! comprehensions: P by the turn and what the new list holds so far -/
/-- what is wanted behind an element -/
abbrev LcEnd (D : Addr) (N : Hp → Prop) (y : V) (H4 : Hp) : Prop := ∃ acc, H4 D = some (.lst acc) ∧ acc.length < sizeLine ∧ N (upd H4 D (.lst (acc ++ [y])))
theorem l_lc {J : It} {n : Nat} {g : TG} {tt : TT} {te : TE} {vs : List Nat} {D : Addr} {H1 : Hp} {Qd : Hp → Prop} (P : Nat → Hp → Prop) (h0 : P 0 (upd H1 D (.lst [])))
    (go : ∀ i H, i < n → P i H → J.go i H) (stop : ∀ H, P n H → J.stop n H)
    (step : ∀ i H, i < n → P i H → ∀ x H', J.yld i H x H' → g x (wipe σ vs) H' fun σ2 H2 => wipe σ2 vs = wipe σ vs ∧ tt σ2 H2 fun b H3 => if b = true then te σ2 H3 (LcEnd D (P (i + 1))) else P (i + 1) H3) (done : ∀ H, P n H → Qd H) :
    ∃ W : Nat → Nat → Hp → Prop, (∃ m, W 0 m (upd H1 D (.lst []))) ∧ ∀ i m H, W i m H →
      (J.stop i H ∧ Qd H) ∨ (J.go i H ∧ ∃ Nx : Hp → Prop, (∀ H', Nx H' → ∃ m', m' < m ∧ W (i + 1) m' H') ∧ ∀ x H', J.yld i H x H' → g x (wipe σ vs) H' fun σ2 H2 => wipe σ2 vs = wipe σ vs ∧ tt σ2 H2 fun b H3 =>
        if b = true then te σ2 H3 fun y H4 => ∃ acc, H4 D = some (.lst acc) ∧ acc.length < sizeLine ∧ Nx (upd H4 D (.lst (acc ++ [y]))) else Nx H3) := by
  refine ⟨fun i m H => m = n - i ∧ i ≤ n ∧ P i H, ⟨n, by simp, Nat.zero_le _, h0⟩, ?_⟩
  rintro i m H ⟨rfl, hi, p⟩
  by_cases hlt : i < n
  · exact .inr ⟨go i H hlt p, P (i + 1), fun H' p' => ⟨n - (i + 1), by omega, rfl, hlt, p'⟩, fun x H' y => step i H hlt p x H' y⟩
  · have e : i = n := by omega
    subst e
    exact .inl ⟨stop H p, done H p⟩
theorem r_lc {wi : TI} {g : TG} {tt : TT} {te : TE} {vs : List Nat} (h : wi σ H fun J H1 => ∀ D, H1 D = none → ∃ W : Nat → Nat → Hp → Prop, (∃ m, W 0 m (upd H1 D (.lst []))) ∧ ∀ i m H, W i m H →
  (J.stop i H ∧ Q (.ref D) H) ∨ (J.go i H ∧ ∃ Nx : Hp → Prop, (∀ H', Nx H' → ∃ m', m' < m ∧ W (i + 1) m' H') ∧ ∀ x H', J.yld i H x H' → g x (wipe σ vs) H' fun σ2 H2 => wipe σ2 vs = wipe σ vs ∧ tt σ2 H2 fun b H3 =>
    if b = true then te σ2 H3 fun y H4 => ∃ acc, H4 D = some (.lst acc) ∧ acc.length < sizeLine ∧ Nx (upd H4 D (.lst (acc ++ [y]))) else Nx H3)) : tLc wi g tt te vs σ H Q := h
/-- a comprehension over a range of n turns -/
theorem c_range {lo : Int} {n : Nat} {g : TG} {tt : TT} {te : TE} {vs : List Nat} {D : Addr} {H1 : Hp} {Qd : Hp → Prop} (P : Nat → Hp → Prop) (h0 : P 0 (upd H1 D (.lst [])))
    (step : ∀ i H, i < n → P i H → g (.int (lo + i)) (wipe σ vs) H fun σ2 H2 => wipe σ2 vs = wipe σ vs ∧ tt σ2 H2 fun b H3 => if b = true then te σ2 H3 (LcEnd D (P (i + 1))) else P (i + 1) H3) (done : ∀ H, P n H → Qd H) :
    ∃ W : Nat → Nat → Hp → Prop, (∃ m, W 0 m (upd H1 D (.lst []))) ∧ ∀ i m H, W i m H →
      ((Itr lo n).stop i H ∧ Qd H) ∨ ((Itr lo n).go i H ∧ ∃ Nx : Hp → Prop, (∀ H', Nx H' → ∃ m', m' < m ∧ W (i + 1) m' H') ∧ ∀ x H', (Itr lo n).yld i H x H' → g x (wipe σ vs) H' fun σ2 H2 => wipe σ2 vs = wipe σ vs ∧ tt σ2 H2 fun b H3 =>
        if b = true then te σ2 H3 fun y H4 => ∃ acc, H4 D = some (.lst acc) ∧ acc.length < sizeLine ∧ Nx (upd H4 D (.lst (acc ++ [y]))) else Nx H3) :=
  l_lc P h0 (fun i H h _ => h) (fun _ _ => Nat.le_refl _) (fun i H h p x H' y => by
    obtain ⟨e1, e2⟩ := y
    subst e1 e2
    exact step i H' h p) done
theorem c_strs {z : Str} {g : TG} {tt : TT} {te : TE} {vs : List Nat} {D : Addr} {H1 : Hp} {Qd : Hp → Prop} (P : Nat → Hp → Prop) (h0 : P 0 (upd H1 D (.lst [])))
    (step : ∀ i (c : Nat) H, z.cps.toList[i]? = some c → P i H → g (.str ⟨#[c]⟩) (wipe σ vs) H fun σ2 H2 => wipe σ2 vs = wipe σ vs ∧ tt σ2 H2 fun b H3 => if b = true then te σ2 H3 (LcEnd D (P (i + 1))) else P (i + 1) H3) (done : ∀ H, P z.cps.toList.length H → Qd H) :
    ∃ W : Nat → Nat → Hp → Prop, (∃ m, W 0 m (upd H1 D (.lst []))) ∧ ∀ i m H, W i m H →
      ((Its z).stop i H ∧ Qd H) ∨ ((Its z).go i H ∧ ∃ Nx : Hp → Prop, (∀ H', Nx H' → ∃ m', m' < m ∧ W (i + 1) m' H') ∧ ∀ x H', (Its z).yld i H x H' → g x (wipe σ vs) H' fun σ2 H2 => wipe σ2 vs = wipe σ vs ∧ tt σ2 H2 fun b H3 =>
        if b = true then te σ2 H3 fun y H4 => ∃ acc, H4 D = some (.lst acc) ∧ acc.length < sizeLine ∧ Nx (upd H4 D (.lst (acc ++ [y]))) else Nx H3) :=
  l_lc P h0 (fun i H h _ => by show i < z.cps.size; simpa using h) (fun _ _ => by show z.cps.size ≤ _; simp) (fun i H h p x H' y => by
    obtain ⟨e1, c, e, e2⟩ := y
    subst e1 e2
    exact step i c H' (by simpa using e) p) done
theorem c_lists {a : Addr} {xs : List V} {g : TG} {tt : TT} {te : TE} {vs : List Nat} {D : Addr} {H1 : Hp} {Qd : Hp → Prop} (P : Nat → Hp → Prop) (h0 : P 0 (upd H1 D (.lst []))) (hl : ∀ i H, P i H → SqL K H a xs)
    (step : ∀ i x H, xs[i]? = some x → P i H → g x (wipe σ vs) H fun σ2 H2 => wipe σ2 vs = wipe σ vs ∧ tt σ2 H2 fun b H3 => if b = true then te σ2 H3 (LcEnd D (P (i + 1))) else P (i + 1) H3) (done : ∀ H, P xs.length H → Qd H) :
    ∃ W : Nat → Nat → Hp → Prop, (∃ m, W 0 m (upd H1 D (.lst []))) ∧ ∀ i m H, W i m H →
      ((Itl K a).stop i H ∧ Qd H) ∨ ((Itl K a).go i H ∧ ∃ Nx : Hp → Prop, (∀ H', Nx H' → ∃ m', m' < m ∧ W (i + 1) m' H') ∧ ∀ x H', (Itl K a).yld i H x H' → g x (wipe σ vs) H' fun σ2 H2 => wipe σ2 vs = wipe σ vs ∧ tt σ2 H2 fun b H3 =>
        if b = true then te σ2 H3 fun y H4 => ∃ acc, H4 D = some (.lst acc) ∧ acc.length < sizeLine ∧ Nx (upd H4 D (.lst (acc ++ [y]))) else Nx H3) :=
  l_lc P h0 (fun i H h p => ⟨xs, xs[i], hl i H p, by simp [h]⟩) (fun H p => ⟨xs, hl _ H p, Nat.le_refl _⟩) (fun i H h p x H' y => by
    obtain ⟨e1, e2⟩ := y
    subst e1
    exact step i x H' (e2 xs (hl i _ p)) p) done
theorem c_tups {a : Addr} {xs : List V} {g : TG} {tt : TT} {te : TE} {vs : List Nat} {D : Addr} {H1 : Hp} {Qd : Hp → Prop} (P : Nat → Hp → Prop) (h0 : P 0 (upd H1 D (.lst []))) (hl : ∀ i H, P i H → SqT K H a xs)
    (step : ∀ i x H, xs[i]? = some x → P i H → g x (wipe σ vs) H fun σ2 H2 => wipe σ2 vs = wipe σ vs ∧ tt σ2 H2 fun b H3 => if b = true then te σ2 H3 (LcEnd D (P (i + 1))) else P (i + 1) H3) (done : ∀ H, P xs.length H → Qd H) :
    ∃ W : Nat → Nat → Hp → Prop, (∃ m, W 0 m (upd H1 D (.lst []))) ∧ ∀ i m H, W i m H →
      ((Itt K a).stop i H ∧ Qd H) ∨ ((Itt K a).go i H ∧ ∃ Nx : Hp → Prop, (∀ H', Nx H' → ∃ m', m' < m ∧ W (i + 1) m' H') ∧ ∀ x H', (Itt K a).yld i H x H' → g x (wipe σ vs) H' fun σ2 H2 => wipe σ2 vs = wipe σ vs ∧ tt σ2 H2 fun b H3 =>
        if b = true then te σ2 H3 fun y H4 => ∃ acc, H4 D = some (.lst acc) ∧ acc.length < sizeLine ∧ Nx (upd H4 D (.lst (acc ++ [y]))) else Nx H3) :=
  l_lc P h0 (fun i H h p => ⟨xs, xs[i], hl i H p, by simp [h]⟩) (fun H p => ⟨xs, hl _ H p, Nat.le_refl _⟩) (fun i H h p x H' y => by
    obtain ⟨e1, e2⟩ := y
    subst e1
    exact step i x H' (e2 xs (hl i _ p)) p) done
end
end U
/-! U3: data of tuples, and how a heap bears them. -/
namespace U
open PySem PySem.Spec L2
/-- data of tuples -/
inductive D where
  | non | bl (b : Bool) | int (i : Int) | str (x : Str) | tup (ds : List D)
mutual
def D.py : D → PyData
  | .non => .none
  | .bl b => .bool b
  | .int i => .int i
  | .str x => .str x
  | .tup ds => .tuple (D.pyL ds)
def D.pyL : List D → List PyData
  | [] => []
  | d :: ds => D.py d :: D.pyL ds
end
theorem D.pyL_map : ∀ ds : List D, D.pyL ds = ds.map D.py
  | [] => rfl
  | d :: ds => by rw [D.pyL, D.pyL_map ds]; rfl
mutual
inductive Td (K : PySem.W.Frag) (H : Hp) : V → D → Prop
  | non : Td K H .non .non
  | bl (b : Bool) : Td K H (.bl b) (.bl b)
  | int (i : Int) : Td K H (.int i) (.int i)
  | str (x : Str) : Td K H (.str x) (.str x)
  | tup {a : Addr} {vs : List V} {ds : List D} : SqT K H a vs → TdL K H vs ds → Td K H (.ref a) (.tup ds)
inductive TdL (K : PySem.W.Frag) (H : Hp) : List V → List D → Prop
  | nil : TdL K H [] []
  | cons {v : V} {vs : List V} {d : D} {ds : List D} : Td K H v d → TdL K H vs ds → TdL K H (v :: vs) (d :: ds)
end
/-- the tuples stay -/
def Tk (K : PySem.W.Frag) (H H' : Hp) : Prop := ∀ a xs, SqT K H a xs → SqT K H' a xs
section
variable {K : PySem.W.Frag} {H H' H2 : Hp}
theorem Tk.refl : Tk K H H := fun _ _ h => h
theorem Tk.trans (a : Tk K H H') (b : Tk K H' H2) : Tk K H H2 := fun x xs h => b x xs (a x xs h)
theorem Same.tk (e : Same H H') : Tk K H H' := fun a xs h => by
  rcases h with (h | ⟨o, h⟩) | h
  · exact .inl (.inl (e _ _ h))
  · exact .inl (.inr ⟨o, e _ _ h⟩)
  · exact .inr h
/-- what is no tuple may change -/
theorem Tk.mut {p : Addr} {o : HO} (h1 : ∀ xs, H p ≠ some (.tup xs)) (h2 : ∀ ob xs, H p ≠ some (.frz ob (.tup xs))) : Tk K H (upd H p o) := fun a xs h => by
  rcases h with (h | ⟨ob, h⟩) | h
  · have n : a ≠ p := fun e => h1 xs (e ▸ h)
    exact .inl (.inl (by rw [upd_ne n]; exact h))
  · have n : a ≠ p := fun e => h2 ob xs (e ▸ h)
    exact .inl (.inr ⟨ob, by rw [upd_ne n]; exact h⟩)
  · exact .inr h
theorem Tk.new {p : Addr} {o : HO} (h : H p = none) : Tk K H (upd H p o) := Tk.mut (fun xs e => by rw [h] at e; cases e) (fun _ xs e => by rw [h] at e; cases e)
theorem Tk.lst {p : Addr} {xs : List V} {o : HO} (h : H p = some (.lst xs)) : Tk K H (upd H p o) := Tk.mut (fun ys e => by rw [h] at e; cases e) (fun _ ys e => by rw [h] at e; cases e)
theorem Tk.dK {p : Addr} {xs : List (Key × V)} {o : HO} (h : H p = some (.dK xs)) : Tk K H (upd H p o) := Tk.mut (fun ys e => by rw [h] at e; cases e) (fun _ ys e => by rw [h] at e; cases e)
theorem Tk.ins {p C dx : Addr} {fs : List (Str × V)} {o : HO} (h : H p = some (.ins C dx fs)) : Tk K H (upd H p o) := Tk.mut (fun ys e => by rw [h] at e; cases e) (fun _ ys e => by rw [h] at e; cases e)
mutual
theorem Td.mono (e : Tk K H H') : ∀ (d : D) (v : V), Td K H v d → Td K H' v d
  | .non, _, h => by cases h; exact .non
  | .bl _, _, h => by cases h; exact .bl _
  | .int _, _, h => by cases h; exact .int _
  | .str _, _, h => by cases h; exact .str _
  | .tup ds, _, h => by
    cases h with
    | tup h1 h2 => exact .tup (e _ _ h1) (TdL.mono e ds _ h2)
theorem TdL.mono (e : Tk K H H') : ∀ (ds : List D) (vs : List V), TdL K H vs ds → TdL K H' vs ds
  | [], _, h => by cases h; exact .nil
  | d :: ds, _, h => by
    cases h with
    | cons h1 h2 => exact .cons (Td.mono e d _ h1) (TdL.mono e ds _ h2)
end
theorem Td.k {d : D} {v : V} (h : Td K H v d) (e : Tk K H H') : Td K H' v d := Td.mono e d v h
theorem TdL.k {ds : List D} {vs : List V} (h : TdL K H vs ds) (e : Tk K H H') : TdL K H' vs ds := TdL.mono e ds vs h
mutual
theorem Td.dp : ∀ (d : D) (v : V), Td K H v d → Dp K H v d.py
  | .non, _, h => by cases h; exact .non
  | .bl _, _, h => by cases h; exact .bl _
  | .int _, _, h => by cases h; exact .int _
  | .str _, _, h => by cases h; exact .str _
  | .tup ds, _, h => by
    cases h with
    | tup h1 h2 => rw [D.py]; exact .tup h1 (TdL.dp ds _ h2)
theorem TdL.dp : ∀ (ds : List D) (vs : List V), TdL K H vs ds → DpAll K H vs (D.pyL ds)
  | [], _, h => by cases h; exact .nil
  | d :: ds, _, h => by
    cases h with
    | cons h1 h2 => rw [D.pyL]; exact .cons (Td.dp d _ h1) (TdL.dp ds _ h2)
end
theorem TdL.len : ∀ {vs : List V} {ds : List D}, TdL K H vs ds → vs.length = ds.length
  | _, _, .nil => rfl
  | _, _, .cons _ t => by rw [List.length_cons, List.length_cons, TdL.len t]
theorem TdL.get : ∀ {vs : List V} {ds : List D} {i : Nat} {d : D}, TdL K H vs ds → ds[i]? = some d → ∃ v, vs[i]? = some v ∧ Td K H v d
  | _, _, i, _, .nil, h => by simp at h
  | _, _, 0, _, .cons h t, e => by simp at e; subst e; exact ⟨_, rfl, h⟩
  | _, _, i + 1, _, .cons h t, e => by
    obtain ⟨v, h1, h2⟩ := TdL.get (i := i) t (by simpa using e)
    exact ⟨v, by simpa using h1, h2⟩
theorem TdL.append : ∀ {vs ws : List V} {ds es : List D}, TdL K H vs ds → TdL K H ws es → TdL K H (vs ++ ws) (ds ++ es)
  | _, _, _, _, .nil, s => s
  | _, _, _, _, .cons h t, s => .cons h (TdL.append t s)
theorem TdL.take : ∀ {vs : List V} {ds : List D} (n : Nat), TdL K H vs ds → TdL K H (vs.take n) (ds.take n)
  | _, _, 0, _ => .nil
  | _, _, _ + 1, .nil => .nil
  | _, _, n + 1, .cons h t => .cons h (TdL.take n t)
theorem TdL.drop : ∀ {vs : List V} {ds : List D} (n : Nat), TdL K H vs ds → TdL K H (vs.drop n) (ds.drop n)
  | _, _, 0, r => r
  | _, _, _ + 1, .nil => .nil
  | _, _, n + 1, .cons _ t => TdL.drop n t
theorem TdL.one {v : V} {d : D} (h : Td K H v d) : TdL K H [v] [d] := .cons h .nil
/-- a tuple that was just made -/
theorem Td.made {p : Addr} {vs : List V} {ds : List D} (h : TdL K H vs ds) (hp : H p = some (.tup vs)) : Td K H (.ref p) (.tup ds) := .tup (SqT.of hp) h
theorem Td.newT {p : Addr} {vs : List V} {ds : List D} (h : TdL K H vs ds) (hp : H p = none) : Td K (upd H p (.tup vs)) (.ref p) (.tup ds) := .tup (SqT.of upd_same) (h.k (Tk.new hp))
end
/-! equality -/
mutual
def D.eqb : D → D → Bool
  | .non, .non => true
  | .bl a, .bl b => a == b
  | .bl a, .int j => (if a then 1 else 0) == j
  | .int i, .bl b => i == (if b then 1 else 0)
  | .int i, .int j => i == j
  | .str x, .str y => x == y
  | .tup xs, .tup ys => D.eqL xs ys
  | _, _ => false
def D.eqL : List D → List D → Bool
  | [], [] => true
  | x :: xs, y :: ys => D.eqb x y && D.eqL xs ys
  | _, _ => false
end
mutual
theorem D.eqb_py : ∀ a b : D, PyData.eqv a.py b.py = D.eqb a b
  | .non, b => by cases b <;> simp [D.py, PyData.eqv, D.eqb]
  | .bl _, b => by cases b <;> simp [D.py, PyData.eqv, D.eqb]
  | .int _, b => by cases b <;> simp [D.py, PyData.eqv, D.eqb]
  | .str _, b => by cases b <;> simp [D.py, PyData.eqv, D.eqb]
  | .tup xs, b => by
    cases b with
    | tup ys => rw [D.py, D.py, PyData.eqv, D.eqb, D.eqL_py xs ys]
    | _ => simp [D.py, PyData.eqv, D.eqb]
theorem D.eqL_py : ∀ xs ys : List D, PyData.eqvAll (D.pyL xs) (D.pyL ys) = D.eqL xs ys
  | [], [] => by simp [D.pyL, PyData.eqvAll, D.eqL]
  | [], _ :: _ => by simp [D.pyL, PyData.eqvAll, D.eqL]
  | _ :: _, [] => by simp [D.pyL, PyData.eqvAll, D.eqL]
  | x :: xs, y :: ys => by rw [D.pyL, D.pyL, PyData.eqvAll, D.eqL, D.eqb_py x y, D.eqL_py xs ys]
end
/-! fit to be compared: sound texts, no deeper than n, no wider than 60000 -/
mutual
def D.fit : Nat → D → Bool
  | _, .str x => PyData.strOk x && decide (x.length ≤ 60000)
  | 0, .tup _ => false
  | n + 1, .tup ds => decide (ds.length ≤ 60000) && D.fitL n ds
  | _, _ => true
def D.fitL : Nat → List D → Bool
  | _, [] => true
  | n, d :: ds => D.fit n d && D.fitL n ds
end
theorem D.fitL_iff {n : Nat} : ∀ {ds : List D}, D.fitL n ds = true ↔ ∀ d ∈ ds, D.fit n d = true
  | [] => by simp [D.fitL]
  | d :: ds => by rw [D.fitL, Bool.and_eq_true, D.fitL_iff (ds := ds)]; simp
theorem D.fit_tup {n : Nat} {ds : List D} : D.fit (n + 1) (.tup ds) = true ↔ ds.length ≤ 60000 ∧ ∀ d ∈ ds, D.fit n d = true := by
  rw [D.fit, Bool.and_eq_true, decide_eq_true_eq, D.fitL_iff]
theorem D.fit_str {n : Nat} {x : Str} : D.fit n (.str x) = true ↔ PyData.strOk x = true ∧ x.length ≤ 60000 := by
  cases n <;> rw [D.fit, Bool.and_eq_true, decide_eq_true_eq]
theorem D.fit_int {n : Nat} {i : Int} : D.fit n (.int i) = true := by cases n <;> rfl
theorem D.fit_bl {n : Nat} {b : Bool} : D.fit n (.bl b) = true := by cases n <;> rfl
theorem D.fit_non {n : Nat} : D.fit n .non = true := by cases n <;> rfl
mutual
theorem D.fit_lay : ∀ (d : D) (n : Nat), D.fit n d = true → d.py.canLay0 = true ∧ d.py.depth ≤ n + 1
  | .non, n, _ => by simp [D.py, PyData.canLay0, PyData.depth]
  | .bl _, n, _ => by simp [D.py, PyData.canLay0, PyData.depth]
  | .int _, n, _ => by simp [D.py, PyData.canLay0, PyData.depth]
  | .str x, n, h => by
    have h' : PyData.strOk x = true := (D.fit_str.mp h).1
    simp [D.py, PyData.canLay0, PyData.depth, h']
  | .tup ds, 0, h => by simp [D.fit] at h
  | .tup ds, n + 1, h => by
    have h' : D.fitL n ds = true := by
      rw [D.fit, Bool.and_eq_true] at h
      exact h.2
    obtain ⟨h1, h2⟩ := D.fitL_lay ds n h'
    simp only [D.py, PyData.canLay0, PyData.depth]
    exact ⟨h1, by omega⟩
theorem D.fitL_lay : ∀ (ds : List D) (n : Nat), D.fitL n ds = true → PyData.canLayAll0 (D.pyL ds) = true ∧ PyData.depthAll (D.pyL ds) ≤ n + 1
  | [], n, _ => by simp [D.pyL, PyData.canLayAll0, PyData.depthAll]
  | d :: ds, n, h => by
    have h' : (D.fit n d && D.fitL n ds) = true := by simpa [D.fitL] using h
    obtain ⟨a, b⟩ := Bool.and_eq_true_iff.mp h'
    obtain ⟨a1, a2⟩ := D.fit_lay d n a
    obtain ⟨b1, b2⟩ := D.fitL_lay ds n b
    simp only [D.pyL, PyData.canLayAll0, PyData.depthAll, a1, b1]
    exact ⟨rfl, by omega⟩
end
theorem D.shaped {d : D} {n : Nat} (h : D.fit n d = true) (hn : n ≤ 63) : SeqAt.shaped d.py = true := by
  obtain ⟨a, b⟩ := D.fit_lay d n h
  exact Bool.and_eq_true_iff.mpr ⟨a, decide_eq_true (by omega)⟩
mutual
theorem D.fit_mono : ∀ (d : D) {n m : Nat}, n ≤ m → D.fit n d = true → D.fit m d = true
  | .non, _, _, _, _ => D.fit_non
  | .bl _, _, _, _, _ => D.fit_bl
  | .int _, _, _, _, _ => D.fit_int
  | .str x, _, _, _, h => D.fit_str.mpr (D.fit_str.mp h)
  | .tup ds, 0, _, _, h => by simp [D.fit] at h
  | .tup ds, n + 1, 0, l, h => by omega
  | .tup ds, n + 1, m + 1, l, h => by
    rw [D.fit, Bool.and_eq_true] at h ⊢
    exact ⟨h.1, D.fitL_mono ds (by omega) h.2⟩
theorem D.fitL_mono : ∀ (ds : List D) {n m : Nat}, n ≤ m → D.fitL n ds = true → D.fitL m ds = true
  | [], _, _, _, _ => by simp [D.fitL]
  | d :: ds, n, m, l, h => by
    rw [D.fitL, Bool.and_eq_true] at h ⊢
    exact ⟨D.fit_mono d l h.1, D.fitL_mono ds l h.2⟩
end
/-! kinds of data -/
def D.isI : D → Bool
  | .bl _ => true
  | .int _ => true
  | _ => false
def D.isB : D → Bool
  | .bl _ => true
  | _ => false
def D.isS : D → Bool
  | .str _ => true
  | _ => false
def D.isT : D → Bool
  | .tup _ => true
  | _ => false
def D.isN : D → Bool
  | .non => true
  | _ => false
theorem sqT_ty {K : PySem.W.Frag} {H : Hp} {a : Addr} {vs : List V} (h : SqT K H a vs) : TyX K H (.ref a) (.type "tuple") := by
  rcases h with (h | ⟨o, h⟩) | ⟨o, its, n, h1, h2, _⟩
  · exact .base (.tup h)
  · exact .fTuple h
  · exact .kTuple h1 h2
section
variable {K : PySem.W.Frag} {H : Hp} {Q : VK} {v w : V} {a b d : D}
theorem r_isD0_int (h : Td K H v d) (q : Q (.bl d.isI) H) : uIsi K [v, .ty "int"] H Q := by
  cases h with
  | tup h1 h2 => exact ⟨"tuple", false, sqT_ty h1, by decide +kernel, q⟩
  | non => exact ⟨"NoneType", false, rfl, by decide +kernel, q⟩
  | bl b => exact ⟨"bool", true, rfl, by decide +kernel, q⟩
  | int b => exact ⟨"int", true, rfl, by decide +kernel, q⟩
  | str b => exact ⟨"str", false, rfl, by decide +kernel, q⟩
theorem r_isD0_bool (h : Td K H v d) (q : Q (.bl d.isB) H) : uIsi K [v, .ty "bool"] H Q := by
  cases h with
  | tup h1 h2 => exact ⟨"tuple", false, sqT_ty h1, by decide +kernel, q⟩
  | non => exact ⟨"NoneType", false, rfl, by decide +kernel, q⟩
  | bl b => exact ⟨"bool", true, rfl, by decide +kernel, q⟩
  | int b => exact ⟨"int", false, rfl, by decide +kernel, q⟩
  | str b => exact ⟨"str", false, rfl, by decide +kernel, q⟩
theorem r_isD0_str (h : Td K H v d) (q : Q (.bl d.isS) H) : uIsi K [v, .ty "str"] H Q := by
  cases h with
  | tup h1 h2 => exact ⟨"tuple", false, sqT_ty h1, by decide +kernel, q⟩
  | non => exact ⟨"NoneType", false, rfl, by decide +kernel, q⟩
  | bl b => exact ⟨"bool", false, rfl, by decide +kernel, q⟩
  | int b => exact ⟨"int", false, rfl, by decide +kernel, q⟩
  | str b => exact ⟨"str", true, rfl, by decide +kernel, q⟩
theorem r_isD0_tuple (h : Td K H v d) (q : Q (.bl d.isT) H) : uIsi K [v, .ty "tuple"] H Q := by
  cases h with
  | tup h1 h2 => exact ⟨"tuple", true, sqT_ty h1, by decide +kernel, q⟩
  | non => exact ⟨"NoneType", false, rfl, by decide +kernel, q⟩
  | bl b => exact ⟨"bool", false, rfl, by decide +kernel, q⟩
  | int b => exact ⟨"int", false, rfl, by decide +kernel, q⟩
  | str b => exact ⟨"str", false, rfl, by decide +kernel, q⟩
theorem r_isD_list (h : Td K H v d) (q : Q (.bl false) H) : uIsi K [v, .ty "list"] H Q := by
  cases h with
  | tup h1 h2 => exact ⟨"tuple", false, sqT_ty h1, by decide +kernel, q⟩
  | non => exact ⟨"NoneType", false, rfl, by decide +kernel, q⟩
  | bl b => exact ⟨"bool", false, rfl, by decide +kernel, q⟩
  | int b => exact ⟨"int", false, rfl, by decide +kernel, q⟩
  | str b => exact ⟨"str", false, rfl, by decide +kernel, q⟩
theorem r_isD_int (b : Bool) (h : Td K H v d) (e : d.isI = b) (q : Q (.bl b) H) : uIsi K [v, .ty "int"] H Q := r_isD0_int h (e ▸ q)
theorem r_isD_bool (b : Bool) (h : Td K H v d) (e : d.isB = b) (q : Q (.bl b) H) : uIsi K [v, .ty "bool"] H Q := r_isD0_bool h (e ▸ q)
theorem r_isD_str (b : Bool) (h : Td K H v d) (e : d.isS = b) (q : Q (.bl b) H) : uIsi K [v, .ty "str"] H Q := r_isD0_str h (e ▸ q)
theorem r_isD_tuple (b : Bool) (h : Td K H v d) (e : d.isT = b) (q : Q (.bl b) H) : uIsi K [v, .ty "tuple"] H Q := r_isD0_tuple h (e ▸ q)
/-- isinstance(x, (int, str)) -/
theorem r_isD_intstr {p : Addr} (hp : H p = some (.tup [.ty "int", .ty "str"])) (h : Td K H v d) (q : Q (.bl (d.isI || d.isS)) H) : uIsiT K [v, .ref p] H Q := by
  cases h with
  | tup h1 h2 => exact ⟨"tuple", ["int", "str"], false, hp, sqT_ty h1, by decide +kernel, q⟩
  | non => exact ⟨"NoneType", ["int", "str"], false, hp, rfl, by decide +kernel, q⟩
  | bl b => exact ⟨"bool", ["int", "str"], true, hp, rfl, by decide +kernel, q⟩
  | int b => exact ⟨"int", ["int", "str"], true, hp, rfl, by decide +kernel, q⟩
  | str b => exact ⟨"str", ["int", "str"], true, hp, rfl, by decide +kernel, q⟩
theorem Td.inv {ds : List D} (h : Td K H v (.tup ds)) : ∃ a vs, v = .ref a ∧ SqT K H a vs ∧ TdL K H vs ds := by
  cases h with
  | tup h1 h2 => exact ⟨_, _, rfl, h1, h2⟩
theorem Td.invI {i : Int} (h : Td K H v (.int i)) : v = .int i := by cases h; rfl
theorem Td.invB {i : Bool} (h : Td K H v (.bl i)) : v = .bl i := by cases h; rfl
theorem Td.invS {i : Str} (h : Td K H v (.str i)) : v = .str i := by cases h; rfl
theorem Td.invN (h : Td K H v .non) : v = .non := by cases h; rfl
theorem r_ixD {ds : List D} {k : Nat} (h : Td K H v (.tup ds)) (e : ds[k]? = some d) (q : ∀ u, Td K H u d → Q u H) : uIx K v (.int (k : Int)) H Q := by
  obtain ⟨a, vs, rfl, h1, h2⟩ := h.inv
  obtain ⟨u, h3, h4⟩ := h2.get e
  exact ⟨vs, u, .inr h1, atI_nat h3, q u h4⟩
theorem r_lenD {ds : List D} (h : Td K H v (.tup ds)) (q : Q (.int (ds.length : Int)) H) : uLen K [v] H Q := by
  obtain ⟨a, vs, rfl, h1, h2⟩ := h.inv
  exact ⟨vs, .inr h1, by rw [h2.len]; exact q⟩
theorem r_eqD {n : Nat} (h1 : Td K H v a) (h2 : Td K H w b) (f1 : a.fit n = true) (f2 : b.fit n = true) (hn : n ≤ 63) (h : Q (.bl (D.eqb a b)) H) : uEq K v w H Q :=
  .inr ⟨_, _, Td.dp _ _ h1, Td.dp _ _ h2, D.shaped f1 hn, D.shaped f2 hn, by rw [D.eqb_py]; exact h⟩
theorem r_neD {n : Nat} (h1 : Td K H v a) (h2 : Td K H w b) (f1 : a.fit n = true) (f2 : b.fit n = true) (hn : n ≤ 63) (h : Q (.bl (!D.eqb a b)) H) : uNe K v w H Q :=
  .inr ⟨_, _, Td.dp _ _ h1, Td.dp _ _ h2, D.shaped f1 hn, D.shaped f2 hn, by rw [D.eqb_py]; exact h⟩
/-- a tuple laid: what stands stays -/
theorem r_tupA {vs : List V} {R : Addr → Hp → Prop} (q : ∀ p H', H p = none → Same H H' → H' p = some (.tup vs) → R p H') : ∀ p, H p = none → R p (upd H p (.tup vs)) :=
  fun p hp => q p _ hp (same_new hp) upd_same
theorem r_lstA {vs : List V} {R : Addr → Hp → Prop} (q : ∀ p H', H p = none → Same H H' → H' p = some (.lst vs) → R p H') : ∀ p, H p = none → R p (upd H p (.lst vs)) :=
  fun p hp => q p _ hp (same_new hp) upd_same
/-- a tuple of data laid -/
theorem r_tupD {vs : List V} {ds : List D} {R : V → Hp → Prop} (hd : TdL K H vs ds) (q : ∀ u H', Same H H' → Td K H' u (.tup ds) → R u H') : ∀ p, H p = none → R (.ref p) (upd H p (.tup vs)) :=
  fun p hp => q _ _ (same_new hp) (Td.newT hd hp)
theorem r_tupleD {p : Addr} {vs : List V} {ds : List D} (hp : SqL K H p vs) (hd : TdL K H vs ds) (q : ∀ u H', Same H H' → Td K H' u (.tup ds) → Q u H') : uTuple K [.ref p] H Q :=
  ⟨vs, .inl ⟨hp, fun l hl => q _ _ (same_new hl) (Td.newT hd hl)⟩⟩
theorem r_catD {ds es : List D} (h1 : Td K H v (.tup ds)) (h2 : Td K H w (.tup es)) (hl : ds.length + es.length ≤ sizeLine) (q : ∀ u H', Same H H' → Td K H' u (.tup (ds ++ es)) → Q u H') : uAdd K v w H Q := by
  obtain ⟨x, vs, rfl, s1, t1⟩ := h1.inv
  obtain ⟨y, ws, rfl, s2, t2⟩ := h2.inv
  have nil : ∀ {us : List V} {fs : List D}, TdL K H us fs → us = [] → fs = [] := fun t e => by
    have := t.len
    rw [e] at this
    exact List.eq_nil_of_length_eq_zero this.symm
  refine .inr ⟨x, y, vs, ws, rfl, rfl, s1, s2, by rw [t1.len, t2.len]; exact hl, fun e => ?_, fun _ e => ?_, fun _ _ p hp => ?_⟩
  · have := nil t1 e
    subst this
    exact q _ _ (Same.refl _) h2
  · have := nil t2 e
    subst this
    refine q _ _ (Same.refl _) ?_
    rw [List.append_nil]
    exact h1
  · exact q _ _ (same_new hp) (Td.newT (t1.append t2) hp)
def cutD (ds : List D) (lo hi : Option Int) : List D := (ds.drop (HT.sIx ds.length 0 lo)).take (HT.sIx ds.length ds.length hi - HT.sIx ds.length 0 lo)
theorem r_slD {ds : List D} {lo hi : Option Int} (h1 : Td K H v (.tup ds)) (q : ∀ u H', Same H H' → Td K H' u (.tup (cutD ds lo hi)) → Q u H') : uSl K v lo hi H Q := by
  obtain ⟨x, vs, rfl, s1, t1⟩ := h1.inv
  refine .inr ⟨x, vs, rfl, s1, fun e => ?_, fun _ p hp => ?_⟩
  · have e2 : cutD ds lo hi = ds := by
      unfold cutD
      rw [← t1.len, e.1, e.2, List.drop_zero, Nat.sub_zero, t1.len, List.take_length]
    refine q _ _ (Same.refl _) ?_
    rw [e2]
    exact h1
  · refine q _ _ (same_new hp) (Td.newT ?_ hp)
    unfold cutD cutV
    rw [← t1.len]
    exact (t1.drop _).take _
/-- a text in a written tuple of texts -/
theorem inV_str {z : Str} : ∀ {ss : List Str}, inV (.str z) (ss.map V.str) = decide (z ∈ ss)
  | [] => rfl
  | s :: ss => by
    have ih := inV_str (z := z) (ss := ss)
    unfold inV at ih ⊢
    rw [List.map_cons, List.any_cons, ih]
    show ((s == z) || decide (z ∈ ss)) = _
    by_cases e : z = s
    · subst e
      rw [decide_eq_true (List.mem_cons_self ..)]
      rw [show (z == z) = true from beq_self_eq_true z]
      rfl
    · rw [show (s == z) = false from beq_eq_false_iff_ne.mpr (fun c => e c.symm), Bool.false_or]
      exact decide_eq_decide.mpr ⟨fun h => List.mem_cons_of_mem _ h, fun h => (List.mem_cons.mp h).resolve_left e⟩
theorem flat_strs {ss : List Str} : (ss.map V.str).all flatV = true := by
  induction ss with
  | nil => rfl
  | cons s r ih => rw [List.map_cons, List.all_cons, ih]; rfl
theorem r_inS {p : Addr} {z : Str} {ss : List Str} (hp : SqT K H p (ss.map V.str)) (q : Q (.bl (decide (z ∈ ss))) H) : uIn K id (.str z) (.ref p) H Q := ⟨_, .inr hp, rfl, flat_strs, by rw [inV_str]; exact q⟩
theorem r_niS {p : Addr} {z : Str} {ss : List Str} (hp : SqT K H p (ss.map V.str)) (q : Q (.bl (!decide (z ∈ ss))) H) : uIn K not (.str z) (.ref p) H Q := ⟨_, .inr hp, rfl, flat_strs, by rw [inV_str]; exact q⟩
end
end U
/-! U4: what stays around one cell; texts; data built up in a comprehension; the state of the draws. -/
namespace U
open PySem PySem.Spec L2
/-- all but p stays -/
def Fr (p : Addr) (H H' : Hp) : Prop := ∀ b x, b ≠ p → H b = some x → H' b = some x
section
variable {K : PySem.W.Frag} {H H' H2 : Hp} {p l x : Addr} {o : HO}
theorem Fr.refl : Fr p H H := fun _ _ _ h => h
theorem Fr.trans (a : Fr p H H') (b : Fr p H' H2) : Fr p H H2 := fun c o h e => b c o h (a c o h e)
theorem Fr.of (h : ∀ b, b ≠ p → H' b = H b) : Fr p H H' := fun b x hb e => by rw [h b hb]; exact e
theorem Fr.same (h : Same H H') : Fr p H H' := fun b x _ e => h b x e
theorem Fr.new (h : H x = none) : Fr p H (upd H x o) := .same (same_new h)
theorem Fr.mut (f : Fr p H H') (h : H x = none) : Fr p H (upd H' x o) := fun b y hb e => by
  rw [upd_ne (ne_of_none e h)]
  exact f b y hb e
theorem Fr.self (f : Fr p H H') : Fr p H (upd H' p o) := fun b y hb e => by
  rw [upd_ne hb]
  exact f b y hb e
theorem Fr.tk {xs : List V} (f : Fr p H H') (hp : H p = some (.lst xs)) : Tk K H H' := fun a ys h => by
  rcases h with (h | ⟨ob, h⟩) | h
  · exact .inl (.inl (f _ _ (fun e => by rw [e, hp] at h; cases h) h))
  · exact .inl (.inr ⟨ob, f _ _ (fun e => by rw [e, hp] at h; cases h) h⟩)
  · exact .inr h
theorem Fr.tkD {xs : List (Key × V)} (f : Fr p H H') (hp : H p = some (.dK xs)) : Tk K H H' := fun a ys h => by
  rcases h with (h | ⟨ob, h⟩) | h
  · exact .inl (.inl (f _ _ (fun e => by rw [e, hp] at h; cases h) h))
  · exact .inl (.inr ⟨ob, f _ _ (fun e => by rw [e, hp] at h; cases h) h⟩)
  · exact .inr h
end
/-! texts -/
theorem str_len (w : Str) : w.length = w.cps.toList.length := Array.length_toList.symm
theorem str_eq {a b : Str} : a = b ↔ a.cps.toList = b.cps.toList := by
  constructor
  · intro e; rw [e]
  · intro e
    cases a; cases b
    simp only at e
    congr 1
    exact Array.toList_inj.mp e
theorem str_cat (a b : Str) : (a ++ b).length = a.length + b.length := by
  show (a.cps ++ b.cps).size = _
  rw [Array.size_append]; rfl
theorem str_catL (a b : Str) : (a ++ b).cps.toList = a.cps.toList ++ b.cps.toList := by
  show (a.cps ++ b.cps).toList = _
  rw [Array.toList_append]
theorem str_num_len {i : Int} (h : i.natAbs < 10 ^ 11) : 0 < (Str.ofString (toString i)).length ∧ (Str.ofString (toString i)).length ≤ 12 := by
  have nat : ∀ n : Nat, n < 10 ^ 11 → 0 < (Str.ofString (toString (n : Int))).length ∧ (Str.ofString (toString (n : Int))).length ≤ 11 := fun n hn => by
    refine ⟨?_, PyProof.Rows.toString_length_le (by omega) (by decide) (by omega)⟩
    rw [str_len]
    show 0 < (TL.tl (Str.ofString (toString (n : Int)))).length
    rw [TL.tl_num]
    exact Nat.pos_of_ne_zero (fun e => TL.numL_ne n (List.eq_nil_of_length_eq_zero e))
  cases i with
  | ofNat n =>
    have := nat n (by simpa using h)
    exact ⟨this.1, by have := this.2; show (Str.ofString (toString (n : Int))).length ≤ 12; omega⟩
  | negSucc n =>
    have h1 := nat (n + 1) (by simpa using h)
    have e : toString (Int.negSucc n) = "-" ++ toString ((n + 1 : Nat) : Int) := rfl
    rw [e]
    have e2 : (Str.ofString ("-" ++ toString ((n + 1 : Nat) : Int))).length = 1 + (Str.ofString (toString ((n + 1 : Nat) : Int))).length := by
      rw [PyProof.Rows.ofString_length, PyProof.Rows.ofString_length]
      simp [Nat.add_comm]
    rw [e2]
    omega
theorem log_ok {i : Int} (h : i.natAbs < 10 ^ 11) : i.natAbs.log2 < 1920 := Nat.lt_of_lt_of_le (PySem.Flt.log2_lt_of (k := 64) (by decide) (by omega)) (by decide)
/-! the state of the draws as a list: at p, its script at l -/
def Dr (H : Hp) (p l : Addr) : Prop := ∃ (ns : List Int) (cur seed : Int) (at_ : Nat), H p = some (.lst [.ref l, .int cur, .int at_, .int seed]) ∧ H l = some (.lst (ns.map V.int)) ∧ l ≠ p ∧ 0 ≤ cur
section
variable {K : PySem.W.Frag} {H H' : Hp} {p l x : Addr} {o : HO}
theorem Dr.upd (h : Dr H p l) (h1 : x ≠ p) (h2 : x ≠ l) : Dr (upd H x o) p l := by
  obtain ⟨ns, cur, seed, at_, hp, hl, hne, h0⟩ := h
  exact ⟨ns, cur, seed, at_, by rw [upd_ne h1.symm]; exact hp, by rw [upd_ne h2.symm]; exact hl, hne, h0⟩
theorem Dr.nep (h : Dr H p l) (hx : H x = none) : x ≠ p := by
  obtain ⟨ns, cur, seed, at_, hp, hl, hne, h0⟩ := h
  exact (ne_of_none hp hx).symm
theorem Dr.nel (h : Dr H p l) (hx : H x = none) : x ≠ l := by
  obtain ⟨ns, cur, seed, at_, hp, hl, hne, h0⟩ := h
  exact (ne_of_none hl hx).symm
theorem Dr.new (h : Dr H p l) (hx : H x = none) : Dr (L2.upd H x o) p l := h.upd (h.nep hx) (h.nel hx)
theorem Dr.same (h : Dr H p l) (s : Same H H') : Dr H' p l := by
  obtain ⟨ns, cur, seed, at_, hp, hl, hne, h0⟩ := h
  exact ⟨ns, cur, seed, at_, s _ _ hp, s _ _ hl, hne, h0⟩
theorem Dr.tk (h : Dr H p l) (f : Fr p H H') : Tk K H H' := by
  obtain ⟨ns, cur, seed, at_, hp, hl, hne, h0⟩ := h
  exact f.tk hp
end
abbrev spStartL (K : PySem.W.Frag) : Sp := fun vs H Q _ => ∃ (a : Addr) (ns : List Int), vs = [.ref a] ∧ SqL K H a (ns.map V.int) ∧ ns.length ≤ 63 ∧ ∀ p l H', Same H H' → H p = none → Dr H' p l → Q (.ref p) H'
abbrev spDrawL (K : PySem.W.Frag) : Sp := fun vs H Q _ => ∃ (p l : Addr) (m : Int), vs = [.ref p, .int m] ∧ 0 < m ∧ m < 2 ^ 64 ∧ Dr H p l ∧ ∀ (n : Int) H', 0 ≤ n → n < m → Dr H' p l → (∀ b, b ≠ p → H' b = H b) → Q (.int n) H'
abbrev spLaw (K : PySem.W.Frag) : Sp := fun vs H Q _ => ∃ (a : Addr) (ns : List Int), vs = [.ref a] ∧ SqL K H a (ns.map V.int) ∧ ns.length ≤ 63 ∧ ∀ H', Q (.bl true) H'
/-! data built up in a comprehension at A, beside a state S at p -/
def CD (K : PySem.W.Frag) (S : Hp → Prop) (p A : Addr) (H0 : Hp) (G : D → Prop) (i : Nat) (H : Hp) : Prop :=
  S H ∧ Fr p H0 H ∧ ∃ vs ds, H A = some (.lst vs) ∧ TdL K H vs ds ∧ ds.length = i ∧ ∀ d ∈ ds, G d
theorem CD.start {K : PySem.W.Frag} {S : Hp → Prop} {p A : Addr} {H0 : Hp} {G : D → Prop} (s : S (upd H0 A (.lst []))) (h : H0 A = none) : CD K S p A H0 G 0 (upd H0 A (.lst [])) :=
  ⟨s, Fr.new h, [], [], upd_same, .nil, rfl, fun _ h => nomatch h⟩
theorem CD.step {K : PySem.W.Frag} {S : Hp → Prop} {p A : Addr} {H0 H H' : Hp} {G : D → Prop} {i : Nat} {y : V} {d : D} (c : CD K S p A H0 G i H) (h0 : H0 A = none) (hA : A ≠ p) (hi : i < 60000)
    (s : S (upd H' A (.lst ((H' A).elim [] (fun o => match o with | .lst vs => vs ++ [y] | _ => []))))) (f : Fr p H H') (tk : Tk K H H') (t : Td K H' y d) (g : G d) : LcEnd A (CD K S p A H0 G (i + 1)) y H' := by
  obtain ⟨s0, f0, vs, ds, e, td, l, gs⟩ := c
  have e' : H' A = some (.lst vs) := f _ _ hA e
  rw [e'] at s
  refine ⟨vs, e', szt (by rw [td.len]; omega), s, Fr.mut (f0.trans f) h0, vs ++ [y], ds ++ [d], upd_same, ?_, by simp [l], ?_⟩
  · exact ((td.k tk).append (.one t)).k (Tk.lst e')
  · intro x hx
    rcases List.mem_append.mp hx with h | h
    · exact gs x h
    · rw [List.mem_singleton.mp h]; exact g
/-- the same with the draws' list -/
theorem CD.stepL {K : PySem.W.Frag} {l p A : Addr} {H0 H H' : Hp} {G : D → Prop} {i : Nat} {y : V} {d : D} (c : CD K (fun H => Dr H p l) p A H0 G i H) (h0 : H0 A = none) (hA : A ≠ p) (hl : A ≠ l) (hi : i < 60000)
    (s : Dr H' p l) (f : Fr p H H') (t : Td K H' y d) (g : G d) : LcEnd A (CD K (fun H => Dr H p l) p A H0 G (i + 1)) y H' :=
  c.step h0 hA hi (s.upd hA hl) f (c.1.tk f) t g
/-! the list of given things, built up at A, all else stays -/
def CF (A : Addr) (H0 : Hp) (ys : List V) (i : Nat) (H : Hp) : Prop := Same H0 H ∧ H A = some (.lst (ys.take i))
theorem CF.start {A : Addr} {H0 : Hp} {ys : List V} (h : H0 A = none) : CF A H0 ys 0 (upd H0 A (.lst [])) := ⟨same_new h, upd_same⟩
theorem CF.step {A : Addr} {H0 H H' : Hp} {ys : List V} {i : Nat} {y : V} (c : CF A H0 ys i H) (h0 : H0 A = none) (s : Same H H') (hy : ys[i]? = some y) (hi : i < 16000000) : LcEnd A (CF A H0 ys (i + 1)) y H' := by
  obtain ⟨s0, e⟩ := c
  refine ⟨_, s _ _ e, szt (by rw [List.length_take]; omega), same_mut (s0.trans s) h0, ?_⟩
  rw [upd_same, List.take_add_one, hy]
  rfl
theorem CF.done {A : Addr} {H0 H : Hp} {ys : List V} (c : CF A H0 ys ys.length H) : H A = some (.lst ys) := by
  have := c.2
  rw [List.take_length] at this
  exact this
theorem TdL.getV {K : PySem.W.Frag} {H : Hp} : ∀ {vs : List V} {ds : List D} {i : Nat} {v : V}, TdL K H vs ds → vs[i]? = some v → ∃ d, ds[i]? = some d ∧ Td K H v d
  | _, _, i, _, .nil, h => by simp at h
  | _, _, 0, _, .cons h t, e => by simp at e; subst e; exact ⟨_, rfl, h⟩
  | _, _, i + 1, _, .cons h t, e => by
    obtain ⟨d, h1, h2⟩ := TdL.getV (i := i) t (by simpa using e)
    exact ⟨d, by simpa using h1, h2⟩
/-- a new cell, its heap under one name -/
theorem Td.lay {K : PySem.W.Frag} {H : Hp} {a : Addr} {vs : List V} {ds : List D} (ha : H a = none) (hd : TdL K H vs ds) : ∃ H', upd H a (.tup vs) = H' ∧ Same H H' ∧ Td K H' (.ref a) (.tup ds) := ⟨_, rfl, same_new ha, Td.newT hd ha⟩
theorem lay_new {H : Hp} {a : Addr} {o : HO} (ha : H a = none) : ∃ H', upd H a o = H' ∧ Same H H' ∧ H' a = some o := ⟨_, rfl, same_new ha, upd_same⟩
/-! unpacking data -/
section
variable {K : PySem.W.Frag} {H : Hp} {σ : St} {v : V} {a b c : D} {i j k : Nat} {R : St → Hp → Prop}
theorem r_gT3 (h : Td K H v (.tup [a, b, c])) (q : ∀ x y z, Td K H x a → Td K H y b → Td K H z c → R (((σ.set i (some x)).set j (some y)).set k (some z)) H) :
    gTup K 3 (gCons (gName i) (gCons (gName j) (gCons (gName k) gNil))) v σ H R := by
  obtain ⟨p, vs, rfl, s, t⟩ := h.inv
  cases t with
  | cons h1 t => cases t with
    | cons h2 t => cases t with
      | cons h3 t => cases t; exact ⟨p, _, rfl, s, rfl, _, _, rfl, _, _, rfl, _, _, rfl, rfl, q _ _ _ h1 h2 h3⟩
theorem r_gT2 (h : Td K H v (.tup [a, b])) (q : ∀ x y, Td K H x a → Td K H y b → R ((σ.set i (some x)).set j (some y)) H) :
    gTup K 2 (gCons (gName i) (gCons (gName j) gNil)) v σ H R := by
  obtain ⟨p, vs, rfl, s, t⟩ := h.inv
  cases t with
  | cons h1 t => cases t with
    | cons h2 t => cases t; exact ⟨p, _, rfl, s, rfl, _, _, rfl, _, _, rfl, rfl, q _ _ h1 h2⟩
end
end U
/-! U5: sorted, slices of lists, dicts as sets of numbers, dicts locked while walked, the state of the draws as a dict. -/
namespace U
open PySem PySem.Spec L2
def uSortI (K : PySem.W.Frag) : RC := rSortedI K
theorem c_sortI {X : Cx} : CallR X (.builtin "sorted") (uSortI X.K) := cr_sortedI
section
variable {K : PySem.W.Frag} {H H' : Hp} {Q : VK} {p a d : Addr}
theorem r_sortI {ns : List Int} (h : SqL K H a (ns.map V.int)) (q : ∀ (ns' : List Int) (p : Addr), ns'.Perm ns → ns'.Pairwise (· ≤ ·) → H p = none → Q (.ref p) (upd H p (.lst (ns'.map V.int)))) : uSortI K [.ref a] H Q := ⟨a, ns, rfl, h, q⟩
theorem r_slL {xs : List V} {lo hi : Option Int} (h : SqL K H a xs) (q : ∀ p, H p = none → Q (.ref p) (upd H p (.lst (cutV xs lo hi)))) : uSl K (.ref a) lo hi H Q := .inl ⟨a, xs, rfl, h, q⟩
theorem cutV_all {xs : List V} {k : Nat} (h : xs.length ≤ k) : cutV xs none (some (k : Int)) = xs := by
  unfold cutV
  rw [HT.sIx_none, HT.sIx_nat, List.drop_zero, Nat.sub_zero, List.take_of_length_le (by omega)]
theorem cutV_63 {xs : List V} (h : xs.length ≤ 63) : cutV xs none (some 63) = xs := cutV_all (k := 63) h
theorem lock_put {u : HO} {od : Obj} (h : H d = some u) : upd (upd H d (.frz od u)) d u = H := by
  funext b
  by_cases e : b = d
  · subst e; rw [upd_same, h]
  · rw [upd_ne e, upd_ne e]
end
/-! steps for dicts -/
section
variable {σ : St} {H : Hp} {Q : VK} {D : Ends} {K : PySem.W.Frag} {td ty tv : TE}
theorem r_dget (h : td σ H fun x H1 => ty σ H1 fun y H2 => ∃ a v, x = .ref a ∧ DGet H2 a y (some v) ∧ Q v H2) : tDGet td ty σ H Q := h
theorem r_din (h : ty σ H fun y H1 => td σ H1 fun x H2 => ∃ a o, x = .ref a ∧ DGet H2 a y o ∧ Q (.bl o.isSome) H2) : tDIn ty td σ H Q := h
theorem r_dnotin (h : ty σ H fun y H1 => td σ H1 fun x H2 => ∃ a o, x = .ref a ∧ DGet H2 a y o ∧ Q (.bl (!o.isSome)) H2) : tDNotIn ty td σ H Q := h
theorem r_dput (h : tv σ H fun v H1 => td σ H1 fun x H2 => ty σ H2 fun y H3 => ∃ a H4, x = .ref a ∧ DPut H3 a y v H4 ∧ D.nx σ H4) : sDPut td ty tv D σ H := h
theorem r_sqP {u : TS} (h : tv σ H fun v H1 => td σ H1 fun x H2 => ty σ H2 fun y H3 => ∃ a H4, x = .ref a ∧ DPut H3 a y v H4 ∧ u D σ H4) : tSq (sDPut td ty tv) u D σ H := r_sq h
theorem r_keys {R : It → Hp → Prop} (h : td σ H fun x H1 => ∃ d o, x = .ref d ∧ ((∃ kvs, H1 d = some (.frz o (.dK kvs)) ∧ R (Itk d o kvs) H1) ∨ ∃ kvs, H1 d = some (.frz o (.dT kvs)) ∧ R (Itkt d o kvs) H1)) : iKeys td σ H R := h
theorem r_dnew (h : ∀ p, H p = none → Q (.ref p) (upd H p (.dK []))) : tDNewK σ H Q := h
end
theorem r_ifCI {σ : St} {H : Hp} {Q : VK} {p : Prop} [Decidable p] {a b : Int} (h : Q (.int (if p then a else b)) H) : if decide p = true then tC (.int a) σ H Q else tC (.int b) σ H Q := by
  by_cases e : p
  · rw [if_pos (decide_eq_true e)]; rw [if_pos e] at h; exact h
  · rw [if_neg (by simp [e])]; rw [if_neg e] at h; exact h
theorem SqL.k {K : PySem.W.Frag} {H H' : Hp} {a : Addr} {xs : List V} (h : SqL K H a xs) (s : Same H H') : SqL K H' a xs := by
  rcases h with (h | ⟨o, h⟩) | h
  · exact .inl (.inl (s _ _ h))
  · exact .inl (.inr ⟨o, s _ _ h⟩)
  · exact .inr h
/-! a dict whose keys are numbers and whose values are True -/
def dkS (us : List Int) : List (Key × V) := us.map fun i => (.inl i, .bl true)
theorem dkS_len (us : List Int) : (dkS us).length = us.length := List.length_map ..
theorem dkS_val (us : List Int) (i : Int) : valV (dkS us) (.inl i) = if i ∈ us then some (.bl true) else none := by
  induction us with
  | nil => rfl
  | cons u r ih =>
    show valV ((.inl u, .bl true) :: dkS r) (.inl i) = _
    by_cases e : i = u
    · subst e
      rw [valV_pos rfl, if_pos (List.mem_cons_self ..)]
    · rw [valV_neg (fun c => e (by cases c; rfl)), ih]
      by_cases h : i ∈ r
      · rw [if_pos h, if_pos (List.mem_cons_of_mem _ h)]
      · rw [if_neg h, if_neg (fun c => (List.mem_cons.mp c).elim e h)]
def insS (us : List Int) (i : Int) : List Int := if i ∈ us then us else us ++ [i]
theorem dkS_put (us : List Int) (i : Int) : putK (dkS us) (.inl i) (.bl true) = dkS (insS us i) := by
  have any : (dkS us).any (fun kv => decide (kv.1 = .inl i)) = decide (i ∈ us) := by
    rw [valV_any, dkS_val]
    by_cases h : i ∈ us
    · rw [if_pos h, decide_eq_true h]; rfl
    · rw [if_neg h, decide_eq_false h]; rfl
  unfold putK insS
  rw [any]
  by_cases h : i ∈ us
  · rw [if_pos (decide_eq_true h), if_pos h]
    refine (List.map_congr_left (g := id) fun x hx => ?_).trans (List.map_id _)
    obtain ⟨k, hk, rfl⟩ := List.mem_map.mp hx
    by_cases e : (Sum.inl k : Key) = .inl i
    · rw [if_pos e]; rfl
    · rw [if_neg e]; rfl
  · rw [if_neg (by rw [decide_eq_false h]; exact Bool.false_ne_true), if_neg h]
    unfold dkS
    rw [List.map_append]; rfl
theorem insS_mem {us : List Int} {i x : Int} : x ∈ insS us i ↔ x ∈ us ∨ x = i := by
  unfold insS
  by_cases h : i ∈ us
  · rw [if_pos h]
    exact ⟨.inl, fun c => c.elim id fun e => e ▸ h⟩
  · rw [if_neg h, List.mem_append, List.mem_singleton]
theorem insS_nodup {us : List Int} {i : Int} (h : us.Nodup) : (insS us i).Nodup := by
  unfold insS
  by_cases e : i ∈ us
  · rw [if_pos e]; exact h
  · rw [if_neg e]
    exact List.nodup_append.mpr ⟨h, by simp, fun a ha b hb c => e (by rw [List.mem_singleton.mp hb] at c; exact c ▸ ha)⟩
theorem nodup_small : ∀ {n : Nat} {us : List Int}, us.Nodup → (∀ x ∈ us, 0 ≤ x ∧ x < n) → us.length ≤ n
  | 0, us, _, hb => by
    cases us with
    | nil => exact Nat.le_refl _
    | cons a r => have := hb a (List.mem_cons_self ..); omega
  | n + 1, us, h, hb => by
    have := nodup_small (n := n) (us := us.erase (n : Int)) (h.erase _) (fun x hx => by
      obtain ⟨h1, h2⟩ := h.mem_erase_iff.mp hx
      have := hb x h2
      omega)
    have e := List.length_erase (a := (n : Int)) (l := us)
    split at e <;> omega
/-! the state of the draws as a dict at m, its numbers at l -/
def Dm (H : Hp) (m l : Addr) : Prop := ∃ (xs : List Int) (at_ : Nat), H m = some (.dK [(.inr "draws", .ref l), (.inr "at", .int at_)]) ∧ H l = some (.lst (xs.map V.int))
section
variable {K : PySem.W.Frag} {H H' : Hp} {m l x : Addr} {o : HO}
theorem Dm.ne (h : Dm H m l) : l ≠ m := by
  obtain ⟨xs, at_, hm, hl⟩ := h
  intro e
  rw [e, hm] at hl
  cases hl
theorem Dm.upd (h : Dm H m l) (h1 : x ≠ m) (h2 : x ≠ l) : Dm (upd H x o) m l := by
  obtain ⟨xs, at_, hm, hl⟩ := h
  exact ⟨xs, at_, by rw [upd_ne h1.symm]; exact hm, by rw [upd_ne h2.symm]; exact hl⟩
theorem Dm.nep (h : Dm H m l) (hx : H x = none) : x ≠ m := by
  obtain ⟨xs, at_, hm, hl⟩ := h
  exact (ne_of_none hm hx).symm
theorem Dm.nel (h : Dm H m l) (hx : H x = none) : x ≠ l := by
  obtain ⟨xs, at_, hm, hl⟩ := h
  exact (ne_of_none hl hx).symm
theorem Dm.new (h : Dm H m l) (hx : H x = none) : Dm (L2.upd H x o) m l := h.upd (h.nep hx) (h.nel hx)
theorem Dm.same (h : Dm H m l) (s : Same H H') : Dm H' m l := by
  obtain ⟨xs, at_, hm, hl⟩ := h
  exact ⟨xs, at_, s _ _ hm, s _ _ hl⟩
theorem Dm.tk (h : Dm H m l) (f : Fr m H H') : Tk K H H' := by
  obtain ⟨xs, at_, hm, hl⟩ := h
  exact f.tkD hm
theorem CD.stepM {A : Addr} {H0 H H' : Hp} {G : D → Prop} {i : Nat} {y : V} {d : D} (c : CD K (fun H => Dm H m l) m A H0 G i H) (h0 : H0 A = none) (hA : A ≠ m) (hl : A ≠ l) (hi : i < 60000)
    (s : Dm H' m l) (f : Fr m H H') (t : Td K H' y d) (g : G d) : LcEnd A (CD K (fun H => Dm H m l) m A H0 G (i + 1)) y H' :=
  c.step h0 hA hi (s.upd hA hl) f (c.1.tk f) t g
end
theorem CD.appM {K : PySem.W.Frag} {m l A : Addr} {H0 H H' : Hp} {G : D → Prop} {i : Nat} {y : V} {d : D} {Q : VK} (c : CD K (fun H => Dm H m l) m A H0 G i H) (h0 : H0 A = none) (hA : A ≠ m) (hl : A ≠ l) (hi : i < 60000)
    (s : Dm H' m l) (f : Fr m H H') (t : Td K H' y d) (g : G d) (q : ∀ H'', CD K (fun H => Dm H m l) m A H0 G (i + 1) H'' → Q .non H'') : uAppend (.ref A) [y] H' Q := by
  obtain ⟨acc, h1, h2, h3⟩ := c.stepM h0 hA hl hi s f t g
  exact ⟨acc, h1, h2, q _ h3⟩
theorem ints_of {P : Int → Prop} : ∀ {ds : List D}, (∀ d ∈ ds, ∃ i, d = .int i ∧ P i) → ∃ is : List Int, ds = is.map D.int ∧ ∀ i ∈ is, P i
  | [], _ => ⟨[], rfl, fun _ h => nomatch h⟩
  | d :: r, h => by
    obtain ⟨i, e, p⟩ := h d (List.mem_cons_self ..)
    obtain ⟨is, e2, p2⟩ := ints_of (ds := r) (fun x hx => h x (List.mem_cons_of_mem _ hx))
    refine ⟨i :: is, by rw [e, e2]; rfl, fun x hx => ?_⟩
    rcases List.mem_cons.mp hx with rfl | hx
    · exact p
    · exact p2 x hx
theorem TdL.ints {K : PySem.W.Frag} {H : Hp} : ∀ {is : List Int}, TdL K H (is.map V.int) (is.map D.int)
  | [] => .nil
  | i :: r => .cons (.int i) TdL.ints
theorem TdL.ints_inv {K : PySem.W.Frag} {H : Hp} : ∀ {is : List Int} {vs : List V}, TdL K H vs (is.map D.int) → vs = is.map V.int
  | [], _, h => by cases h; rfl
  | i :: r, _, h => by
    cases h with
    | cons h1 h2 => cases h1; rw [TdL.ints_inv h2]; rfl
theorem inV_int {z : Int} : ∀ {ss : List Int}, inV (.int z) (ss.map V.int) = decide (z ∈ ss)
  | [] => rfl
  | s :: ss => by
    have ih := inV_int (z := z) (ss := ss)
    unfold inV at ih ⊢
    rw [List.map_cons, List.any_cons, ih]
    show ((s == z) || decide (z ∈ ss)) = _
    by_cases e : z = s
    · subst e
      rw [decide_eq_true (List.mem_cons_self ..)]
      rw [show (z == z) = true from beq_self_eq_true z]
      rfl
    · rw [show (s == z) = false from beq_eq_false_iff_ne.mpr (fun c => e c.symm), Bool.false_or]
      exact decide_eq_decide.mpr ⟨fun h => List.mem_cons_of_mem _ h, fun h => (List.mem_cons.mp h).resolve_left e⟩
theorem flat_ints {ss : List Int} : (ss.map V.int).all flatV = true := by
  induction ss with
  | nil => rfl
  | cons s r ih => rw [List.map_cons, List.all_cons, ih]; rfl
theorem r_inI {K : PySem.W.Frag} {H : Hp} {Q : VK} {p : Addr} {z : Int} {ss : List Int} (hp : SqL K H p (ss.map V.int)) (q : Q (.bl (decide (z ∈ ss))) H) : uIn K id (.int z) (.ref p) H Q := ⟨_, .inl hp, rfl, flat_ints, by rw [inV_int]; exact q⟩
theorem r_niI {K : PySem.W.Frag} {H : Hp} {Q : VK} {p : Addr} {z : Int} {ss : List Int} (hp : SqL K H p (ss.map V.int)) (q : Q (.bl (!decide (z ∈ ss))) H) : uIn K not (.int z) (.ref p) H Q := ⟨_, .inl hp, rfl, flat_ints, by rw [inV_int]; exact q⟩
/-- two rising lists with the same members -/
theorem rise_eq : ∀ {xs ys : List Int}, xs.Pairwise (· < ·) → ys.Pairwise (· < ·) → (∀ x, x ∈ xs ↔ x ∈ ys) → xs = ys
  | [], [], _, _, _ => rfl
  | [], y :: ys, _, _, h => by have := (h y).mpr (List.mem_cons_self ..); cases this
  | x :: xs, [], _, _, h => by have := (h x).mp (List.mem_cons_self ..); cases this
  | x :: xs, y :: ys, h1, h2, h => by
    obtain ⟨a1, a2⟩ := List.pairwise_cons.mp h1
    obtain ⟨b1, b2⟩ := List.pairwise_cons.mp h2
    have e : x = y := by
      rcases List.mem_cons.mp ((h x).mp (List.mem_cons_self ..)) with e | e
      · exact e
      rcases List.mem_cons.mp ((h y).mpr (List.mem_cons_self ..)) with e2 | e2
      · exact e2.symm
      have := b1 x e
      have := a1 y e2
      omega
    subst e
    rw [rise_eq (xs := xs) (ys := ys) a2 b2 fun z => ⟨fun hz => ?_, fun hz => ?_⟩]
    · rcases List.mem_cons.mp ((h z).mp (List.mem_cons_of_mem _ hz)) with e | e
      · have := a1 z hz; omega
      · exact e
    · rcases List.mem_cons.mp ((h z).mpr (List.mem_cons_of_mem _ hz)) with e | e
      · have := b1 z hz; omega
      · exact e
theorem rise_of {xs : List Int} (h1 : xs.Pairwise (· ≤ ·)) (h2 : xs.Nodup) : xs.Pairwise (· < ·) := by
  refine List.Pairwise.imp₂ (R := (· ≤ ·)) (S := (· ≠ ·)) (T := (· < ·)) (fun a b h h' => ?_) h1 h2
  omega
/-- all but two cells stays -/
def Fr2 (u b : Addr) (H H' : Hp) : Prop := ∀ c x, c ≠ u → c ≠ b → H c = some x → H' c = some x
/-- no tuple -/
def Nt (H : Hp) (u : Addr) : Prop := (∀ xs, H u ≠ some (.tup xs)) ∧ ∀ ob xs, H u ≠ some (.frz ob (.tup xs))
section
variable {K : PySem.W.Frag} {H H' H2 : Hp} {u b x : Addr} {o : HO}
theorem Fr2.refl : Fr2 u b H H := fun _ _ _ _ h => h
theorem Fr2.trans (f : Fr2 u b H H') (g : Fr2 u b H' H2) : Fr2 u b H H2 := fun c x h1 h2 e => g c x h1 h2 (f c x h1 h2 e)
theorem Fr2.same (s : Same H H') : Fr2 u b H H' := fun c x _ _ e => s c x e
theorem Fr2.mu (f : Fr2 u b H H') : Fr2 u b H (upd H' u o) := fun c x h1 h2 e => by rw [upd_ne h1]; exact f c x h1 h2 e
theorem Fr2.mb (f : Fr2 u b H H') : Fr2 u b H (upd H' b o) := fun c x h1 h2 e => by rw [upd_ne h2]; exact f c x h1 h2 e
theorem Nt.lst {xs : List V} (h : H u = some (.lst xs)) : Nt H u := ⟨fun xs e => by rw [h] at e; (cases e), fun ob xs e => by rw [h] at e; (cases e)⟩
theorem Nt.dK {xs : List (Key × V)} (h : H u = some (.dK xs)) : Nt H u := ⟨fun xs e => by rw [h] at e; (cases e), fun ob xs e => by rw [h] at e; (cases e)⟩
theorem Fr2.tk (f : Fr2 u b H H') (h1 : Nt H u) (h2 : Nt H b) : Tk K H H' := fun a ys h => by
  rcases h with (h | ⟨ob, h⟩) | h
  · exact .inl (.inl (f _ _ (fun e => h1.1 _ (e ▸ h)) (fun e => h2.1 _ (e ▸ h)) h))
  · exact .inl (.inr ⟨ob, f _ _ (fun e => h1.2 _ _ (e ▸ h)) (fun e => h2.2 _ _ (e ▸ h)) h⟩)
  · exact .inr h
end
abbrev spDraws (K : PySem.W.Frag) : Sp := fun vs H Q _ => ∃ (a : Addr) (ns : List Int), vs = [.ref a] ∧ SqL K H a (ns.map V.int) ∧ ns.length ≤ 63 ∧ ∀ l (xs : List Int) H', Same H H' → H l = none → H' l = some (.lst (xs.map V.int)) → Q (.ref l) H'
abbrev spTakeM (K : PySem.W.Frag) : Sp := fun vs H Q _ => ∃ (m l : Addr) (k : Int), vs = [.ref m, .int k] ∧ 0 < k ∧ Dm H m l ∧ ∀ (n : Int) H', 0 ≤ n → n < k → Dm H' m l → (∀ b, b ≠ m → H' b = H b) → Q (.int n) H'
end U
/-! U6: more of texts, bits, sorted(dict), is of bools. -/
namespace U
open PySem PySem.Spec L2
def uSplit : RM := fun x xs H Q => match x, xs with
  | .str a, [.str b] => (b.length == 0) = false ∧ a.length + 2 ≤ sizeLine ∧ rNewStrs (Txt.split a b) H Q
  | _, _ => False
theorem m_split {X : Cx} : MtR X "str.split" uSplit := by
  intro pins s σ H x xs v us Q I rx rs h
  unfold uSplit at h
  split at h
  · exact mt_split pins s σ H _ _ v us Q I rx rs ⟨_, _, rfl, rfl, h⟩
  · exact h.elim
def uUpper : RM := fun x xs H Q => match x, xs with
  | .str a, [] => a.length ≤ 5592405 ∧ Q (.str (Txt.upper a)) H
  | _, _ => False
theorem m_upper {X : Cx} : MtR X "str.upper" uUpper := by
  intro pins s σ H x xs v us Q I rx rs h
  unfold uUpper at h
  split at h
  · exact mt_upper pins s σ H _ _ v us Q I rx rs ⟨_, rfl, rfl, h⟩
  · exact h.elim
def uLower : RM := fun x xs H Q => match x, xs with
  | .str a, [] => a.length ≤ 5592405 ∧ Q (.str (Txt.lower a)) H
  | _, _ => False
theorem m_lower {X : Cx} : MtR X "str.lower" uLower := by
  intro pins s σ H x xs v us Q I rx rs h
  unfold uLower at h
  split at h
  · exact mt_lower pins s σ H _ _ v us Q I rx rs ⟨_, rfl, rfl, h⟩
  · exact h.elim
def uXor : R2 := fun x y H Q => match x, y with
  | .int i, .int j => Q (.int (Builtin.bitXor i j)) H
  | _, _ => False
theorem o_xor {X : Cx} : OpR X (binaryOp .BitXor) uXor := by
  intro pins s σ H x y v u Q I rx ry h
  cases x <;> cases y <;> first | exact (show False from h).elim | skip
  exact op_xor pins s σ H _ _ v u Q I rx ry ⟨_, _, rfl, rfl, h⟩
abbrev uIsB : R2 := rIsB
abbrev uNotB : R2 := rNotB
def uSortD (K : PySem.W.Frag) : RC := fun xs H Q => ∃ (a : Addr) (kvs : List (Key × V)) (ks : List Str), xs = [.ref a] ∧ Rd H a (.dK kvs) ∧ kvs.map (·.1) = ks.map Sum.inr ∧ ks.length < 64 ∧
    ∀ ys p, ys.Perm ks → PyProof.Rows.sortedS ys = true → H p = none → Q (.ref p) (upd H p (.lst (ys.map V.str)))
theorem c_sortD {X : Cx} (hc : X.calm = true) : CallR X (.builtin "sorted") (uSortD X.K) := call_sortedD hc
section
variable {K : PySem.W.Frag} {H : Hp} {Q : VK} {a b : Bool} {x y : Str} {i j : Int}
theorem r_isB (h : Q (.bl (decide (a = b))) H) : uIsB (.bl a) (.bl b) H Q := ⟨a, b, rfl, rfl, h⟩
theorem r_notB (h : Q (.bl (!decide (a = b))) H) : uNotB (.bl a) (.bl b) H Q := ⟨a, b, rfl, rfl, h⟩
theorem r_xor (h : Q (.int (Builtin.bitXor i j)) H) : uXor (.int i) (.int j) H Q := h
theorem r_upper (hl : x.length ≤ 5592405) (h : Q (.str (Txt.upper x)) H) : uUpper (.str x) [] H Q := ⟨hl, h⟩
theorem r_split (h1 : (y.length == 0) = false) (h2 : x.length + 2 ≤ sizeLine) (h : ∀ p, H p = none → Q (.ref p) (upd H p (.lst ((Txt.split x y).map V.str)))) : uSplit (.str x) [.str y] H Q := ⟨h1, h2, h⟩
/-- a text in a list of texts -/
theorem r_inSL {p : Addr} {z : Str} {ss : List Str} (hp : SqL K H p (ss.map V.str)) (q : Q (.bl (decide (z ∈ ss))) H) : uIn K id (.str z) (.ref p) H Q := ⟨_, .inl hp, rfl, flat_strs, by rw [inV_str]; exact q⟩
theorem r_niSL {p : Addr} {z : Str} {ss : List Str} (hp : SqL K H p (ss.map V.str)) (q : Q (.bl (!decide (z ∈ ss))) H) : uIn K not (.str z) (.ref p) H Q := ⟨_, .inl hp, rfl, flat_strs, by rw [inV_str]; exact q⟩
end
end U
/-! U7: a dict display of more than 16 pairs of constants. -/
namespace U
open PySem PySem.Spec L2
open Sem (wp)
section
variable {prog : Program} {w : World} {K : Type} [DecidableEq K] {knd : KeyKind prog w K} {A : Around} {E : Value → Shared → Prop} {s : Shared}
theorem wp_dictPut {d : Addr} {kvs : List (K × Value)} {k : K} {key v : Value} {Q : Unit → Shared → Prop} (hkey : knd.is k key = true) (hm : s.heap.DictOf knd d kvs)
    (hQ : ∀ h', h'.DictOf knd d (stored kvs k v) → Heap.SameBut d s.heap h' → Q () { s with heap := h' })
    (hsz : kvs.length ≤ sizeLine) :
    wpAny (model prog w) A (dictPut d (knd.hash k) key v) Q E s := by
  obtain ⟨o, es, ep, ho, hc, hd, hk, hp, hn⟩ := hm
  have hes : es.size ≤ sizeLine := by
    have e1 := hp.length
    have e2 : es.toList.length = es.size := by simp
    omega
  unfold dictPut
  refine wpAny_bind (wpAny_dictFind_of hkey ho hd hk ?_)
  have hidx : (es.findIdx? fun e => knd.is k e.key) = kvs.findIdx? fun kv => decide (kv.1 = k) := by
    rw [← hp.findIdx k]; obtain ⟨l⟩ := es; simp
  cases hi : es.findIdx? fun e => knd.is k e.key with
  | some i =>
    refine wpAny_updateDict ho hd (hQ _ ⟨_, _, ep, Heap.get?_update_self _ ho (Obj.isFreed_of_dict (Obj.data_mapDict hd _)),
      hc.mapDict _, Obj.data_mapDict hd _, hk.modify _ _, ?_, ?_⟩ (Heap.SameBut.update ..))
    · rw [stored, if_pos (any_of_findIdx_some (hidx ▸ hi))]
      have hl : (es.toList.findIdx? fun e => knd.is k e.key) = some i := by rw [← hi]; obtain ⟨l⟩ := es; simp
      have := hp.modify hn hl v
      obtain ⟨l⟩ := es
      simpa using this
    · rw [stored, if_pos (any_of_findIdx_some (hidx ▸ hi)), keys_map_store]; exact hn
  | none =>
    have hnot : k ∉ kvs.map (·.1) := not_mem_of_findIdx_none (hidx ▸ hi)
    have hany : ¬ (kvs.any fun kv => decide (kv.1 = k)) = true := by
      rw [List.any_eq_true]; rintro ⟨kv, hkv, he⟩
      exact hnot (List.mem_map.mpr ⟨kv, hkv, of_decide_eq_true he⟩)
    refine wpAny_updateDictKeys (hz := hes) ho hd (hQ _ ⟨_, _, ep + 1, Heap.get?_update_self _ ho (Obj.isFreed_of_dict (Obj.data_mapDictKeys hd _)),
      hc.mapDictKeys _, Obj.data_mapDictKeys hd _, hk.push hkey _, ?_, ?_⟩ (Heap.SameBut.update ..))
    · rw [stored, if_neg hany]
      have := hp.append hkey (knd.hash k) v
      obtain ⟨l⟩ := es
      simpa using this
    · rw [stored, if_neg hany, List.map_append, List.nodup_append]
      refine ⟨hn, by simp, ?_⟩
      intro a ha b hb
      simp only [List.map_cons, List.map_nil, List.mem_singleton] at hb
      subst hb
      exact fun e => hnot (e ▸ ha)
theorem wp_merge {d o : Addr} {kvs more : List (K × Value)} {Q : Unit → Shared → Prop} (hdo : d ≠ o) (hoS : (o == sysModules) = false)
    (hd : s.heap.DictOf knd d kvs) (ho : s.heap.DictOf knd o more) (h0 : kvs ≠ [])
    (hQ : ∀ h', h'.DictOf knd d (merged kvs more) → h'.DictOf knd o more → Heap.SameBut d s.heap h' → Q () { s with heap := h' })
    (hsz : kvs.length + more.length ≤ sizeLine) :
    wpAny (model prog w) A (mergeMapping d (.ref o) false) Q E s := by
  have hty := ho.typeIs
  obtain ⟨od, esd, epd, hod, hcd, hdd, hkd, hpd, hnd⟩ := id hd
  obtain ⟨oo, eso, epo, hoo, hco, hdo', hko, hpo, hno⟩ := id ho
  have hlen : more.length = eso.size := by rw [← hpo.length]; simp
  have hne : esd.isEmpty = false := by
    cases he : esd.isEmpty with
    | false => rfl
    | true =>
      have h1 : esd = #[] := Array.isEmpty_iff.mp he
      have := hpd.length
      rw [h1] at this
      exact absurd (List.length_eq_zero_iff.mp (by simpa using this.symm)) h0
  unfold mergeMapping
  refine wpAny_bind (wpAny_isInstance hty isSubtype_dict_dict ?_)
  dsimp only
  rw [if_pos rfl]
  refine wpAny_bind (wpAny_specialOf hty F.slot_dict_iter.lookup ?_)
  refine wpAny_bind (wpAny_pure ?_)
  have e1 : ((some (Value.builtin "dict.__iter__")) == some (Value.builtin "dict.__iter__")) = true := by rfl
  rw [e1]
  dsimp only
  rw [if_neg (by rw [hoS]; exact Bool.false_ne_true)]
  refine wpAny_bind (wpAny_dictEntries hod hdd ?_)
  rw [if_neg (by rw [hne]; exact Bool.false_ne_true)]
  refine wpAny_bind (wpAny_dictEntries hoo hdo' ?_)
  refine wpAny_bind (wpAny_dictEpoch hoo hdo' ?_)
  refine wpAny_bind ?_
  refine wpAny_forIn_list _
      (fun rest _ s' => ∃ h' i, s' = { s with heap := h' } ∧ rest = List.range' i (eso.size - i) ∧ i ≤ eso.size ∧ h'.DictOf knd d (merged kvs (more.take i)) ∧ h'.get? o = some oo ∧ Heap.SameBut d s.heap h')
      _ ?_ ?_ _ _ ⟨s.heap, 0, rfl, by simp [List.range_eq_range'], Nat.zero_le _, by simpa [merged] using hd, hoo, Heap.SameBut.refl _ _⟩
  · rintro x rest b s' ⟨h', i, rfl, hr, hi, hd', hoo', hs'⟩
    have hlt : i < eso.size := by
      rcases Nat.lt_or_ge i eso.size with h | h
      · exact h
      · rw [Nat.sub_eq_zero_of_le h] at hr; simp at hr
    obtain ⟨rfl, hrest⟩ : x = i ∧ rest = List.range' (i + 1) (eso.size - (i + 1)) := by
      have e : eso.size - i = (eso.size - (i + 1)) + 1 := by omega
      rw [e, List.range'_succ] at hr
      injection hr with h1 h2
      exact ⟨h1, h2⟩
    refine wpAny_bind (wpAny_dictEntries hoo' hdo' ?_)
    rw [Array.getElem?_eq_getElem hlt]
    obtain ⟨kv, hkv⟩ : ∃ kv, more[x]? = some kv := ⟨more[x]'(by rw [hlen]; exact hlt), List.getElem?_eq_getElem _⟩
    obtain ⟨k, v⟩ := kv
    obtain ⟨hkey, hval⟩ := hpo.get? (e := eso[x]) (by simp [hlt]) hkv
    obtain ⟨k', hkey', hhash⟩ := hko eso[x] (Array.getElem_mem hlt)
    obtain rfl : k' = k := knd.inj _ _ _ hkey' hkey
    have hmx : (merged kvs (more.take x)).length ≤ sizeLine := by
      have e1 := merged_length_le kvs (more.take x)
      have e2 : (more.take x).length ≤ more.length := by rw [List.length_take]; omega
      omega
    dsimp only
    rw [if_neg Bool.false_ne_true, hhash, hval]
    refine wpAny_bind (wpAny_holding (wp_dictPut (hsz := hmx) hkey hd' fun h'' hd'' hs'' => ?_))
    have hoo'' : h''.get? o = some oo := (hs''.2 o (Ne.symm hdo)).trans hoo'
    refine wpAny_bind (wpAny_dictEpoch hoo'' hdo' ?_)
    rw [if_neg (by simp)]
    exact wpAny_pure ⟨h'', x + 1, rfl, hrest, hlt, by rw [merged_take_succ kvs more x (k', v) hkv]; exact hd'', hoo'', hs'.trans hs''⟩
  · rintro b s' ⟨h', i, rfl, hr, hi, hd', hoo', hs'⟩
    have hin : i = eso.size := by
      rcases Nat.lt_or_ge i eso.size with h | h
      · have e : eso.size - i = (eso.size - (i + 1)) + 1 := by omega
        rw [e, List.range'_succ] at hr; exact nomatch hr
      · exact Nat.le_antisymm hi h
    refine wpAny_pure (hQ h' ?_ ⟨oo, eso, epo, hoo', hco, hdo', hko, hpo, hno⟩ hs')
    rw [hin, ← hlen, List.take_length] at hd'; exact hd'
end
/-- one pair of a display: two constants -/
structure CE where
  k : Expr
  v : Expr
  key : Key
  val : V
def CE.pair (env : Env) (pos : Pos) (e : CE) : Sem Value × Sem Value := (eval e.k env, do let x ← eval e.v env; standAt pos; pure x)
def CE.kv (e : CE) : Key × V := (e.key, e.val)
structure CeOk (X : Cx) (e : CE) : Prop where
  k : PE X e.k (tC (kV e.key))
  v : PE X e.v (tC e.val)
theorem upd_id {H : Hp} {p : Addr} {o : HO} (h : H p = some o) : upd H p o = H := by
  funext b
  by_cases e : b = p
  · subst e; rw [upd_same, h]
  · rw [upd_ne e]
theorem upd_upd {H : Hp} {p : Addr} {o o' : HO} : upd (upd H p o) p o' = upd H p o' := by
  funext b
  by_cases e : b = p
  · subst e; rw [upd_same, upd_same]
  · rw [upd_ne e, upd_ne e, upd_ne e]
section
variable {X : Cx} {pins : List (Addr × Obj)} {σ : St} {H : Hp} {s : Shared} {p : Addr} {pos : Pos}
theorem ce_vals {e : CE} {s : Shared} {Q : Value → Shared → Prop} (ok : CeOk X e) (I : Inv X pins σ H s) (q : ∀ v s', Inv X pins σ H s' → RelV e.val v → Q v s') : wpAny (model X.prog X.w) X.A (CE.pair X.env pos e).2 Q X.xe s :=
  wpAny_bind (thn (ok.v.run pins s σ H (fun x H' => x = e.val ∧ H' = H) I ⟨rfl, rfl⟩) fun v s1 ⟨x, H1, I1, r, ex, eH⟩ => wpAny_bind (wpAny_standAt (wpAny_pure (by
    subst ex eH
    exact q v s1 I1 r))))
theorem ce_keys {e : CE} {s : Shared} {Q : Value → Shared → Prop} (ok : CeOk X e) (I : Inv X pins σ H s) (q : ∀ v s', Inv X pins σ H s' → RelV (kV e.key) v → Q v s') : wpAny (model X.prog X.w) X.A (CE.pair X.env pos e).1 Q X.xe s :=
  thn (ok.k.run pins s σ H (fun x H' => x = kV e.key ∧ H' = H) I ⟨rfl, rfl⟩) fun v s1 ⟨x, H1, I1, r, ex, eH⟩ => by
    subst ex eH
    exact q v s1 I1 r
theorem dk_set {acc : List (Key × V)} {k : Key} {v : V} {kv vv : Value} {Q : Unit → Shared → Prop} (I : Inv X pins σ H s) (e : H p = some (.dK acc)) (hl : acc.length < sizeLine) (rk : RelV (kV k) kv) (rv : RelV v vv) (q : ∀ s', Inv X pins σ (upd H p (.dK (putK acc k v))) s' → Q () s') :
    wpAny (model X.prog X.w) X.A (dictSet p kv vv) Q X.xe s := by
  obtain ⟨z, hd, vs0, r0, dd⟩ := dk_of I.hok e
  have hv : vs0.length ≤ sizeLine := by
    have : acc.length = vs0.length := Paired.length r0
    omega
  refine wpAny_dictSet_pairs (knd := mixKind X.prog X.w) (kV_is rk) dd (fun h' dd' hs => q _ ?_) hv
  have he : ∃ o, h'.get? p = some o := let ⟨o, _, _, hq, _⟩ := dd'; ⟨o, hq⟩
  have hz := length_putK acc k v
  exact d_write I (by rw [e]; exact True.intro) hs he (dk_new (by omega) hd (r0.put k rv) dd')
theorem loop_set : ∀ (es : List CE) (acc : List (Key × V)) (s : Shared) (H : Hp) (Q : PUnit → Shared → Prop), (∀ e ∈ es, CeOk X e) → Inv X pins σ H s → H p = some (.dK acc) → acc.length + es.length ≤ 1000 → (∀ s', Inv X pins σ (upd H p (.dK (mergeK acc (es.map CE.kv)))) s' → Q PUnit.unit s') →
    wpAny (model X.prog X.w) X.A (forIn (es.map (CE.pair X.env pos)) PUnit.unit fun (x : Sem Value × Sem Value) (_ : PUnit) => (do
      let kv ← x.1
      let vv ← holding [kv] x.2
      holding [kv, vv] (dictSet p kv vv)
      pure (ForInStep.yield PUnit.unit) : Sem (ForInStep PUnit))) Q X.xe s
  | [], acc, s, H, Q, _, I, e, _, q => by
    rw [List.map_nil, List.forIn_nil]
    refine wpAny_pure (q s ?_)
    show Inv X pins σ (upd H p (.dK acc)) s
    rw [upd_id e]
    exact I
  | c :: es, acc, s, H, Q, ok, I, e, hl, q => by
    rw [List.map_cons, List.forIn_cons]
    rw [List.length_cons] at hl
    have z : (1000 : Nat) < sizeLine := by rw [sizeLine_eq]; decide
    have hp := length_putK acc c.key c.val
    refine wpAny_bind (wpAny_bind (ce_keys (ok c (List.mem_cons_self ..)) I fun kv s1 I1 rk => wpAny_bind (wpAny_holding (ce_vals (ok c (List.mem_cons_self ..)) I1 fun vv s2 I2 rv => wpAny_bind (wpAny_holding (dk_set I2 e (by omega) rk rv fun s3 I3 => wpAny_pure ?_))))))
    refine loop_set es (putK acc c.key c.val) s3 _ Q (fun x hx => ok x (List.mem_cons_of_mem _ hx)) I3 upd_same (by omega) fun s4 I4 => q s4 ?_
    rw [upd_upd] at I4
    exact I4
theorem sub_long {es : List CE} {Q : Addr → Shared → Prop} (ok : ∀ e ∈ es, CeOk X e) (I : Inv X pins σ H s) (h1 : 15 < es.length) (h2 : es.length ≤ 1000) (q : ∀ d s', H d = none → Inv X pins σ (upd H d (.dK (mergeK [] (es.map CE.kv)))) s' → Q d s') :
    wpAny (model X.prog X.w) X.A (subDict (es.map (CE.pair X.env pos))) Q X.xe s := by
  have hn := I.hok.fresh (Nat.le_refl s.heap.objs.size)
  have I1 := I.laid (a := s.heap.objs.size) (o := .dK []) (h' := s.heap.push { cls := .type "dict", data := .dict #[] }) (t' := s.toks) (fun _ _ q => Heap.get?_push_of_some _ q) (Nat.le_refl _) (dk_empty s.heap I.big)
  unfold subDict
  refine wpAny_bind (wpAny_alloc ?_)
  refine wpAny_bind (wpAny_holding ?_)
  rw [if_neg (by rw [List.length_map]; omega)]
  refine wpAny_bind (wpAny_rule ?_)
  refine wpAny_bind (loop_set es [] _ _ _ ok I1 upd_same (by simpa using h2) fun s' I' => wpAny_pure (wpAny_pure (q _ _ hn ?_)))
  rw [upd_upd] at I'
  exact I'
theorem pairs_run : ∀ (es : List CE) (s : Shared) (Q : List (Value × Value) → Shared → Prop), (∀ e ∈ es, CeOk X e) → Inv X pins σ H s → (∀ vs s', Inv X pins σ H s' → VV (es.map fun e => (kV e.key, e.val)) vs → Q vs s') →
    wpAny (model X.prog X.w) X.A (evalPairs (es.map (CE.pair X.env pos))) Q X.xe s
  | [], s, Q, _, I, q => evalPairs_nil (q [] s I .nil)
  | c :: es, s, Q, ok, I, q => evalPairs_cons (ce_keys (pos := pos) (ok c (List.mem_cons_self ..)) I fun kv s1 I1 rk => ce_vals (ok c (List.mem_cons_self ..)) I1 fun vv s2 I2 rv =>
      pairs_run es s2 _ (fun x hx => ok x (List.mem_cons_of_mem _ hx)) I2 fun vs s3 I3 r => q _ s3 I3 (.cons ⟨rk, rv⟩ r))
theorem sub_short {es : List CE} {Q : Addr → Shared → Prop} (ok : ∀ e ∈ es, CeOk X e) (I : Inv X pins σ H s) (h1 : es.length ≤ 15) (q : ∀ d s', H d = none → Inv X pins σ (upd H d (.dK (mergeK [] (es.map CE.kv)))) s' → Q d s') :
    wpAny (model X.prog X.w) X.A (subDict (es.map (CE.pair X.env pos))) Q X.xe s := by
  have hn := I.hok.fresh (Nat.le_refl s.heap.objs.size)
  have I1 := I.laid (a := s.heap.objs.size) (o := .dK []) (h' := s.heap.push { cls := .type "dict", data := .dict #[] }) (t' := s.toks) (fun _ _ q => Heap.get?_push_of_some _ q) (Nat.le_refl _) (dk_empty s.heap I.big)
  refine wpAny_subDict (knd := mixKind X.prog X.w) (by rw [List.length_map]; exact h1) (pairs_run es _ _ ok I1 fun vs s2 I2 r => ?_)
  have r' : VV ((es.map CE.kv).map fun kv => (kV kv.1, kv.2)) vs := by
    rw [List.map_map]
    exact r
  obtain ⟨rs, c, rk⟩ := carries_of (P := X.prog) (w := X.w) r'
  obtain ⟨z, hd, vs0, r0, dd⟩ := dk_of I2.hok upd_same
  cases r0
  refine ⟨rs, c, dd, fun h' dd' hs => q _ _ hn ?_⟩
  have hz : (mergeK [] (es.map CE.kv)).length ≤ sizeLine := by
    have h1 := length_mergeK (es.map CE.kv) []
    rw [List.length_nil, List.length_map] at h1
    rw [sizeLine_eq]; omega
  have he : ∃ q, h'.get? s.heap.objs.size = some q := let ⟨q, _, _, hq, _⟩ := dd'; ⟨q, hq⟩
  have I3 := d_write (t' := s2.toks + vs.length) I2 (ob := .dK (mergeK [] (es.map CE.kv))) (by rw [upd_same]; exact True.intro) hs he (dk_new hz hd (rk.merge .nil) dd')
  rw [upd_upd] at I3
  exact I3
theorem dk_merge {d o : Addr} {m1 m2 : List (Key × V)} {Q : Unit → Shared → Prop} {E : Value → Shared → Prop} (I : Inv X pins σ H s) (hne : d ≠ o) (e1 : H d = some (.dK m1)) (e2 : H o = some (.dK m2)) (h0 : m1 ≠ []) (hl : m1.length + m2.length ≤ 1000) (q : ∀ s', Inv X pins σ (upd H d (.dK (mergeK m1 m2))) s' → Q () s') :
    wpAny (model X.prog X.w) X.A (mergeMapping d (.ref o) false) Q E s := by
  obtain ⟨z1, hd1, vs1, r1, dd1⟩ := dk_of I.hok e1
  obtain ⟨z2, hd2, vs2, r2, dd2⟩ := dk_of I.hok e2
  have l1 : m1.length = vs1.length := Paired.length r1
  have l2 : m2.length = vs2.length := Paired.length r2
  have z : (1000 : Nat) < sizeLine := by rw [sizeLine_eq]; decide
  refine wp_merge (knd := mixKind X.prog X.w) hne hd2 dd1 dd2 (fun c => h0 (List.eq_nil_of_length_eq_zero (by rw [l1, c]; rfl))) (fun h' dd' _ hs => q _ ?_) (by omega)
  have he : ∃ o, h'.get? d = some o := let ⟨o, _, _, hq, _⟩ := dd'; ⟨o, hq⟩
  have hz := length_mergeK m2 m1
  exact d_write I (by rw [e1]; exact True.intro) hs he (dk_new (by omega) hd1 (r2.merge r1) dd')
theorem display_long {es1 es2 : List CE} {Q : Value → Shared → Prop} (ok1 : ∀ e ∈ es1, CeOk X e) (ok2 : ∀ e ∈ es2, CeOk X e) (I : Inv X pins σ H s) (h1 : es1.length = 17) (h2 : es2.length ≤ 15) (h0 : es2 ≠ [])
    (q : ∀ d s' H', H d = none → Same H H' → H' d = some (.dK (mergeK (mergeK [] (es1.map CE.kv)) (mergeK [] (es2.map CE.kv)))) → Inv X pins σ H' s' → Q (.ref d) s') :
    wpAny (model X.prog X.w) X.A (dictDisplay ((es1 ++ es2).map fun e => (some (CE.pair X.env pos e).1, (CE.pair X.env pos e).2))) Q X.xe s := by
  unfold dictDisplay
  dsimp only
  refine wpAny_bind (wpAny_forIn_list _
    (fun rest st s' => ∃ done left : List CE, es1 ++ es2 = done ++ left ∧ rest = left.map (fun e => (some (CE.pair X.env pos e).1, (CE.pair X.env pos e).2)) ∧
      ((done.length < 17 ∧ st = (none, done.map (CE.pair X.env pos)) ∧ s' = s) ∨ (17 ≤ done.length ∧ ∃ d, st = (some d, (done.drop 17).map (CE.pair X.env pos)) ∧ H d = none ∧ Inv X pins σ (upd H d (.dK (mergeK [] (es1.map CE.kv)))) s')))
    _ ?_ ?_ _ _ ⟨[], es1 ++ es2, rfl, rfl, .inl ⟨by simp, rfl, rfl⟩⟩)
  · rintro x rest st s' ⟨done, left, e, er, h⟩
    cases left with
    | nil => cases er
    | cons c left =>
      rw [List.map_cons] at er
      cases er
      have e' : es1 ++ es2 = (done ++ [c]) ++ left := by rw [e]; simp
      have lall := congrArg List.length e
      rw [List.length_append, List.length_append, List.length_cons, h1] at lall
      rcases h with ⟨hd, rfl, rfl⟩ | ⟨hd, d, rfl, hn, I'⟩
      · dsimp only
        have el : (done.map (CE.pair X.env pos) ++ [((CE.pair X.env pos c).1, (CE.pair X.env pos c).2)]) = (done ++ [c]).map (CE.pair X.env pos) := by rw [List.map_append]; rfl
        rw [el]
        by_cases h17 : done.length + 1 = 17
        · have hb : (((done ++ [c]).map (CE.pair X.env pos)).length == 17) = true := by simp [h17]
          rw [if_pos hb]
          have e1 : done ++ [c] = es1 := by
            have := congrArg (List.take 17) e'
            rw [List.take_append_of_le_length (by omega), List.take_append_of_le_length (by simp; omega), List.take_of_length_le (by omega), List.take_of_length_le (by simp; omega)] at this
            exact this.symm
          have hemp : ((done ++ [c]).map (CE.pair X.env pos)).isEmpty = false := by simp
          rw [if_neg (by rw [hemp]; exact Bool.false_ne_true), e1]
          refine wpAny_bind (wpAny_bind (sub_long ok1 I (by omega) (by omega) fun d s2 hn I2 => wpAny_pure (wpAny_pure ?_)))
          refine ⟨done ++ [c], left, e', rfl, .inr ⟨by simp; omega, d, ?_, hn, I2⟩⟩
          rw [List.drop_of_length_le (by simp; omega)]
          rfl
        · have hb : (((done ++ [c]).map (CE.pair X.env pos)).length == 17) = false := by simp; omega
          rw [if_neg (by rw [hb]; exact Bool.false_ne_true)]
          exact wpAny_pure ⟨done ++ [c], left, e', rfl, .inl ⟨by simp; omega, rfl, rfl⟩⟩
      · dsimp only
        have el : ((done.drop 17).map (CE.pair X.env pos) ++ [((CE.pair X.env pos c).1, (CE.pair X.env pos c).2)]) = ((done ++ [c]).drop 17).map (CE.pair X.env pos) := by
          rw [List.drop_append_of_le_length hd, List.map_append]; rfl
        rw [el]
        have hb : ((((done ++ [c]).drop 17).map (CE.pair X.env pos)).length == 17) = false := by simp; omega
        rw [if_neg (by rw [hb]; exact Bool.false_ne_true)]
        exact wpAny_pure ⟨done ++ [c], left, e', rfl, .inr ⟨by simp; omega, d, rfl, hn, I'⟩⟩
  · rintro st s' ⟨done, left, e, er, h⟩
    have el : left = [] := by
      cases left with
      | nil => rfl
      | cons c l => cases er
    subst el
    rw [List.append_nil] at e
    have ld := congrArg List.length e
    rw [List.length_append, h1] at ld
    rcases h with ⟨hd, _⟩ | ⟨hd, d, rfl, hn, I'⟩
    · omega
    · have e2 : done.drop 17 = es2 := by
        rw [← e, List.drop_append_of_le_length (by omega), List.drop_of_length_le (by omega), List.nil_append]
      rw [e2]
      dsimp only
      have hemp : (es2.map (CE.pair X.env pos)).isEmpty = false := by
        cases es2 with
        | nil => exact absurd rfl h0
        | cons c r => rfl
      rw [if_neg (by rw [hemp]; exact Bool.false_ne_true)]
      have m10 : mergeK [] (es1.map CE.kv) ≠ [] := by
        cases es1 with
        | nil => simp at h1
        | cons c r =>
          intro z
          have : ∀ (more kvs : List (Key × V)), kvs ≠ [] → mergeK kvs more ≠ [] := by
            intro more
            induction more with
            | nil => intro kvs h; exact h
            | cons x xs ih =>
              intro kvs h
              refine ih (putK kvs x.1 x.2) ?_
              unfold putK
              split
              · intro c2; exact h (List.map_eq_nil_iff.mp c2)
              · simp
          refine this (r.map CE.kv) (putK [] c.key c.val) ?_ z
          show (if _ then _ else _) ≠ _
          simp
      refine wpAny_bind (wpAny_bind (wpAny_holding (sub_short ok2 I' h2 fun d2 s2 hn2 I2 => ?_)))
      have ned : d ≠ d2 := fun c => by rw [← c, upd_same] at hn2; cases hn2
      have ed : upd (upd H d (.dK (mergeK [] (es1.map CE.kv)))) d2 (.dK (mergeK [] (es2.map CE.kv))) d = some (.dK (mergeK [] (es1.map CE.kv))) := by rw [upd_ne ned, upd_same]
      have l1 := length_mergeK (es1.map CE.kv) []
      have l2 := length_mergeK (es2.map CE.kv) []
      rw [List.length_map, List.length_nil] at l1 l2
      refine wpAny_bind (wpAny_onRaise (wpAny_holding (dk_merge I2 ned ed upd_same m10 (by omega) fun s3 I3 => wpAny_pure (wpAny_pure (q d s3 _ hn ?_ upd_same I3)))))
      have hn2' : H d2 = none := by rw [upd_ne ned.symm] at hn2; exact hn2
      exact same_mut (same_mut (same_new hn) hn2') hn
/-- a display of more than 16 pairs of constants: what it makes is told, the rest stays -/
def tDispL (kvs : List (Key × V)) : TE := fun _ H Q => ∀ p H', H p = none → Same H H' → H' p = some (.dK (mergeK (mergeK [] (kvs.take 17)) (mergeK [] (kvs.drop 17)))) → Q (.ref p) H'
inductive CPs (X : Cx) : List (Option Expr) → List Expr → List (Key × V) → Prop
  | nil : CPs X [] [] []
  | cons {k v : Expr} {key : Key} {val : V} {ks : List (Option Expr)} {vs : List Expr} {kvs : List (Key × V)} : PE X k (tC (kV key)) → PE X v (tC val) → CPs X ks vs kvs → CPs X (some k :: ks) (v :: vs) ((key, val) :: kvs)
theorem CPs.es {ks : List (Option Expr)} {vs : List Expr} {kvs : List (Key × V)} (c : CPs X ks vs kvs) : ∃ es : List CE, (∀ e ∈ es, CeOk X e) ∧ ks = es.map (fun e => some e.k) ∧ vs = es.map (·.v) ∧ kvs = es.map CE.kv := by
  induction c with
  | nil => exact ⟨[], (fun _ h => nomatch h), rfl, rfl, rfl⟩
  | @cons k v key val ks vs kvs hk hv _ ih =>
    obtain ⟨es, ok, e1, e2, e3⟩ := ih
    refine ⟨⟨k, v, key, val⟩ :: es, fun e he => ?_, by rw [e1]; rfl, by rw [e2]; rfl, by rw [e3]; rfl⟩
    rcases List.mem_cons.mp he with rfl | he
    · exact ⟨hk, hv⟩
    · exact ok e he
theorem zip_es {env : Env} : ∀ es : List CE, (evalEachOpt (es.map fun e => some e.k) env).zip ((evalEach (es.map (·.v)) env).map fun v => do let x ← v; standAt pos; pure x) = es.map fun e => (some (CE.pair env pos e).1, (CE.pair env pos e).2)
  | [] => rfl
  | e :: es => by
    have := zip_es (env := env) es
    show (some (eval e.k env), (do let x ← eval e.v env; standAt pos; pure x)) :: _ = _
    rw [List.map_cons]
    exact congrArg _ this
theorem pe_dispL {keys : List (Option Expr)} {values : List Expr} {kvs : List (Key × V)} (c : CPs X keys values kvs) (hl : 18 ≤ kvs.length ∧ kvs.length ≤ 32) : PE X (.Dict keys values pos) (tDispL kvs) := by
  obtain ⟨es, ok, rfl, rfl, rfl⟩ := c.es
  rw [List.length_map] at hl
  refine ⟨fun pins s σ H Q I h => ?_⟩
  rw [arm_eval_Dict, zip_es]
  refine wpAny_bind (wpAny_standAt ?_)
  rw [← List.take_append_drop 17 es]
  refine display_long (fun e he => ok e (List.mem_of_mem_take he)) (fun e he => ok e (List.mem_of_mem_drop he)) I (by rw [List.length_take]; omega) (by rw [List.length_drop]; omega) (fun c => by have := congrArg List.length c; rw [List.length_drop] at this; simp at this; omega) fun d s' H' hn hs hd I' => ⟨.ref d, H', I', rfl, h d H' hn hs ?_⟩
  rw [← List.map_take, ← List.map_drop]
  exact hd
end
end U
/-! U8: instances of the program's classes: attributes, methods, making; the class is told by the text, its facts are the derivation's. -/
namespace U
open PySem PySem.Spec L2
/-- e.f, e an instance of C -/
def tFldC (C : Addr) (ta : TE) (f : Str) : TE := fun σ H Q => ta σ H fun x H1 => ∃ a dx fs v, x = .ref a ∧ H1 a = some (.ins C dx fs) ∧ fs.lookup f = some v ∧ Q v H1
def sFldC (C : Addr) (ta tv : TE) (f : Str) : TS := fun D σ H => tv σ H fun y H1 => ta σ H1 fun x H2 => ∃ a dx fs, x = .ref a ∧ H2 a = some (.ins C dx fs) ∧ fs.length < 1000 ∧ D.nx σ (upd H2 a (.ins C dx (putF f y fs)))
def sFldAugC (C : Addr) (ta tv : TE) (rd : V → V → Hp → VK → Prop) (f : Str) : TS := fun D σ H => ta σ H fun x H1 => ∃ a dx fs v, x = .ref a ∧ H1 a = some (.ins C dx fs) ∧ fs.lookup f = some v ∧
  tv σ H1 fun y H2 => rd v y H2 fun z H3 => ∃ dx' fs', H3 a = some (.ins C dx' fs') ∧ fs'.length < 1000 ∧ D.nx σ (upd H3 a (.ins C dx' (putF f z fs')))
section
variable {X : Cx} {o e value : Expr} {f : Str} {pos pos' tpos : Pos} {ta tv : TE} {C : Addr}
theorem pe_fldC (c : Cls X.K C) (n : NoAttr X.K C f) (he : PE X e ta) (hb : attributeBase e f X.env (eval e X.env) = eval e X.env) : PE X (.Attribute e f pos) (tFldC C ta f) := by
  refine ⟨fun pins s σ H Q I h => ?_⟩
  refine attr_of hb (thn (he.run pins s σ H _ I h) fun u s1 ⟨x, H1, I1, rx, a, dx, fs, v, ex, ea, l, q⟩ => ?_)
  subst ex
  obtain rfl : u = Value.ref a := rx
  exact getattr_ok I1 ea c n l fun u' s2 I2 ru => ⟨v, H1, I2, ru, q⟩
theorem ps_fldC (c : Cls X.K C) (n : NoAttr X.K C f) (ha : PE X o ta) (hv : PE X value tv) (hs : swapsWith value (some (.Attribute o f pos')) pos.line X.env = pure false) : PS X (.Assign [.Attribute o f pos'] value pos) (sFldC C ta tv f) := by
  refine ⟨fun pins s σ H D I h => ?_⟩
  refine plainObj_wpAny_Assign_Attribute (thn (hv.run pins s σ H _ I h) fun u s1 ⟨y, H1, I1, ry, q⟩ => thn (ha.run pins s1 σ H1 _ I1 q) fun ov s2 ⟨x, H2, I2, rx, a, dx, fs, ex, ea, l, q2⟩ => ?_) hs
  subst ex
  obtain rfl : ov = Value.ref a := rx
  exact setattr_ok I2 ea c n l ry fun s3 I3 => ⟨σ, _, I3, q2⟩
theorem ps_fldaugC {op : Operator} {rd : V → V → Hp → VK → Prop} (c : Cls X.K C) (n : NoAttr X.K C f) (ha : PE X o ta) (hv : PE X value tv) (hop : PIp X op rd) : PS X (.AugAssign (.Attribute o f tpos) op value pos) (sFldAugC C ta tv rd f) := by
  refine ⟨fun pins s σ H D I h => ?_⟩
  refine wpAny_AugAssign_AttributeAny (thn (ha.run pins s σ H _ I h) fun ov s1 ⟨x, H1, I1, rx, a, dx, fs, v, ex, ea, l, q⟩ => ?_)
  subst ex
  obtain rfl : ov = Value.ref a := rx
  refine getattr_ok I1 ea c n l fun u s2 I2 ru => thn (hv.run pins s2 σ H1 _ I2 q) fun w3 s3 ⟨y, H2, I3, ry, q3⟩ => thn (hop pins s3 σ H2 v y u w3 _ I3 ru ry q3) fun w4 s4 ⟨z, H3, I4, rz, dx', fs', ea', l', q4⟩ => ?_
  exact setattr_ok I4 ea' c n l' rz fun s5 I5 => ⟨σ, _, I5, q4⟩
end
/-- a method of a class of the program, by its name: that it keeps its promise -/
structure OkM (P : Program) (w : World) (K : PySem.W.Frag) (mg : Str → Option Value) (base : Heap) (k : Nat) (C : Addr) (m : Str) (ps : List Str) (sp : Sp) : Prop where
  ex : ∃ (f : Addr) (fd : FuncData), Cls K C ∧ Meth K C m f ∧ FnOk P w K mg base CX0 k f fd ps sp ∧ Binds K fd ps []
/-- a class of the program, by its name: it is made by __init__, which keeps its promise -/
structure OkC (P : Program) (w : World) (K : PySem.W.Frag) (mg : Str → Option Value) (base : Heap) (k : Nat) (x : Str) (C : Addr) (ps : List Str) (sp : Sp) : Prop where
  ex : ∃ (f : Addr) (fd : FuncData), mg x = some (.ref C) ∧ Mk K C f ∧ FnOk P w K mg base CX0 k f fd ps sp ∧ Binds K fd ps []
section
variable {X : Cx} {k : Nat} {C : Addr} {x m : Str} {ps : List Str} {sp : Sp} {p pos apos : Pos} {e o : Expr} {es : List Expr} {ta : TE} {t : TA}
theorem pe_mth {pl : Sem Bool} (O : OkM X.prog X.w X.K X.mg X.base k C m ps sp) (he : PE X o ta) (hr : Room k X.A) (ha : PA X (e :: es) t)
    (hst : starEach (e :: es) X.env = (false, eval e X.env) :: starEach es X.env := by rfl) (hpl : (backTo pos (starEach es X.env)).any (·.1) = false := by rfl)
    (ht : eval (.Call (.Attribute o m apos) (e :: es) [] pos) X.env = (do
      let ov ← eval o X.env
      standAt apos.atName
      let (f, first) ← holding [ov] (getMethod ov m pl)
      callWith pos f first (backTo pos (starEach (e :: es) X.env)) (backToKw pos (keywordEach [] X.env))) := by rfl) :
    PE X (.Call (.Attribute o m apos) (e :: es) [] pos) (tMeth C m sp [] E0 ta t) := by
  obtain ⟨f, fd, c, hm, F, hb⟩ := O.ex
  exact pe_meth he c hm F hr hb .nil pass0 ha hst hpl ht
theorem pe_mth0 {pl : Sem Bool} (O : OkM X.prog X.w X.K X.mg X.base k C m ps sp) (he : PE X o ta) (hr : Room k X.A)
    (ht : eval (.Call (.Attribute o m apos) [] [] pos) X.env = (do
      let ov ← eval o X.env
      standAt apos.atName
      let (f, first) ← holding [ov] (getMethod ov m pl)
      callWith pos f first (backTo pos (starEach [] X.env)) (backToKw pos (keywordEach [] X.env))) := by rfl) :
    PE X (.Call (.Attribute o m apos) [] [] pos) (tMeth C m sp [] E0 ta tNil) := by
  obtain ⟨f, fd, c, hm, F, hb⟩ := O.ex
  exact pe_meth0 he c hm F hr hb .nil pass0 ht
theorem pe_mk (O : OkC X.prog X.w X.K X.mg X.base k x C ps sp) (hr : Room (k + 1) X.A) (hg : Gl X x) (ha : PA X (e :: es) t) (hdb : (x == ("__debug__" : Str)) = false := by decide)
    (he : starEach (e :: es) X.env = (false, eval e X.env) :: starEach es X.env := by rfl) (hpl : (backTo pos (starEach es X.env)).any (·.1) = false := by rfl) : PE X (.Call (.Name x p) (e :: es) [] pos) (tMake C sp [] E0 t) := by
  obtain ⟨f, fd, hm, M, F, hb⟩ := O.ex
  exact pe_make M F hr hg hm hb .nil pass0 ha hdb he hpl
theorem pe_mk0 (O : OkC X.prog X.w X.K X.mg X.base k x C ps sp) (hr : Room (k + 1) X.A) (hg : Gl X x) (hdb : (x == ("__debug__" : Str)) = false := by decide) : PE X (.Call (.Name x p) [] [] pos) (tMake C sp [] E0 tNil) := by
  obtain ⟨f, fd, hm, M, F, hb⟩ := O.ex
  exact pe_make0 M F hr hg hm hb .nil pass0 hdb
end
/-! steps -/
section
variable {σ : St} {H : Hp} {Q : VK} {D : Ends} {ta tv : TE} {t : TA} {C : Addr} {f m : Str} {sp : Sp} {rd : V → V → Hp → VK → Prop} {u : TS}
theorem r_fldC (h : ta σ H fun x H1 => ∃ a dx fs v, x = .ref a ∧ H1 a = some (.ins C dx fs) ∧ fs.lookup f = some v ∧ Q v H1) : tFldC C ta f σ H Q := h
theorem r_sfldC (h : tv σ H fun y H1 => ta σ H1 fun x H2 => ∃ a dx fs, x = .ref a ∧ H2 a = some (.ins C dx fs) ∧ fs.length < 1000 ∧ D.nx σ (upd H2 a (.ins C dx (putF f y fs)))) : sFldC C ta tv f D σ H := h
theorem r_sqF (h : tv σ H fun y H1 => ta σ H1 fun x H2 => ∃ a dx fs, x = .ref a ∧ H2 a = some (.ins C dx fs) ∧ fs.length < 1000 ∧ u D σ (upd H2 a (.ins C dx (putF f y fs)))) : tSq (sFldC C ta tv f) u D σ H := r_sq h
theorem r_meth (h : ta σ H fun x H1 => ∃ a dx fs, x = .ref a ∧ H1 a = some (.ins C dx fs) ∧ fs.lookup m = none ∧ t σ H1 fun vs H2 => sp (x :: vs) H2 Q E0) : tMeth C m sp [] E0 ta t σ H Q := by
  have e : (fun (x : V) (H1 : Hp) => ∃ a dx fs, x = .ref a ∧ H1 a = some (.ins C dx fs) ∧ fs.lookup m = none ∧ t σ H1 fun vs H2 => sp (x :: (vs ++ [])) H2 Q E0) = fun x H1 => ∃ a dx fs, x = .ref a ∧ H1 a = some (.ins C dx fs) ∧ fs.lookup m = none ∧ t σ H1 fun vs H2 => sp (x :: vs) H2 Q E0 := by
    funext x H1
    simp only [List.append_nil]
  show ta σ H _
  rw [e]
  exact h
theorem r_make (h : t σ H fun vs H1 => ∀ x dx, H1 x = none → H1 dx = none → dx ≠ x → sp (.ref x :: vs) (upd (upd H1 dx (.own x)) x (.ins C dx [])) (fun v H2 => v = .non ∧ Q (.ref x) H2) E0) : tMake C sp [] E0 t σ H Q := by
  have e : (fun (vs : List V) (H1 : Hp) => ∀ x dx, H1 x = none → H1 dx = none → dx ≠ x → sp (.ref x :: (vs ++ [])) (upd (upd H1 dx (.own x)) x (.ins C dx [])) (fun v H2 => v = .non ∧ Q (.ref x) H2) E0) = fun vs H1 => ∀ x dx, H1 x = none → H1 dx = none → dx ≠ x → sp (.ref x :: vs) (upd (upd H1 dx (.own x)) x (.ins C dx [])) (fun v H2 => v = .non ∧ Q (.ref x) H2) E0 := by
    funext vs H1
    simp only [List.append_nil]
  show t σ H _
  rw [e]
  exact h
end
end U
/-! U9: exceptions of the program's own whose __init__ calls super().__init__ first; defs that raise; the head's Hook with such __init__s and further tests. -/
namespace U
open PySem PySem.Spec PyProof.Rows L2
open NdefX (NF ncx envF NScope CellsAt startF inv_startN)
/-! ### __init__ of such a class -/
/-- what the written part says of it: D the class that the cell names -/
structure SupF (P : Program) (K : PySem.W.Frag) (D : Addr) (F : NF) (f cc : Addr) (fd : FuncData) : Prop where
  ex : ∃ (oc : Value) (od : Option Addr) (kV doc pm : Value) (an : Option Addr) (ct : Value) (osl : Array (Option Value)),
    fd = PySem.W.ksFn F.name F.qual F.params F.body F.scope .none kV doc pm an (.ref F.c) ct cc ∧ K.lookup f = some ⟨oc, od, .func fd, osl⟩ ∧ PySem.W.codeIn K (.ref F.c) F.qual = true
  cl : F.cl = [(("__class__" : Str), cc)]
  code : ∃ (ccl : Value) (cdd : Option Addr) (vs : Array Value) (ccs : Array (Option Value)) (file : Str) (tf : Tok), K.lookup F.c = some ⟨ccl, cdd, .fields vs, ccs⟩ ∧ vs[2]? = some (.str file tf) ∧ ((P.main.file : Str) == file) = true
  cell : ∃ (cl : Value) (cld : Option Addr) (csl : Array (Option Value)), K.lookup cc = some ⟨cl, cld, .cell (some (.ref D)), csl⟩
  cls : ∃ cdD, PySem.W.clsIn K D = some cdD
  top : (P.main.scope.names.lookup ("super" : Str)).isSome = false
/-- the class C: its super() within D gives ValueError's __init__ -/
structure SupC (K : PySem.W.Frag) (C D : Addr) : Prop where
  oex : OexC K C
  sub : PySem.W.mroIn K C (.ref D) = some true
  nx : PySem.W.ks_superIn K C D "__init__" = some (some (.builtin "ValueError.__init__"))
  ve : PySem.W.subIn K (.ref C) (.type "ValueError") = some true
  op : PySem.W.nsIn K PySem.cStatics "thirdparty.any" = some none
theorem call_bwV {prog : Program} {w : World} {A : Around} {E : Value → Shared → Prop} {h : Heap} {g : Array GenState} {d : Drawn} {t : Nat} {os : OsState} {nm q : Str} {C N : Addr} {bs bm : List Value} {hdct : Bool} {sn : List Str} {sub : List Value} {ab : Bool} {col : Option Bool} {dd : Option Addr} {k0 k1 k2 k3 k5 : Option Value}
    {u e t0 : Addr} {rest : List Value} {Q : Value → Shared → Prop}
    (hC : h.get? C = some (excClassObj nm q C N bs bm hdct sn sub ab col dd k0 k1 k2 k3 k5 "ValueError.__new__")) (he : h.get? e = some (HandSPX.excO C t0)) (hu : h.get? u = some (PySem.W.kxs_mw "ValueError.__init__" e)) (hrest : rest.length ≤ sizeLine)
    (hq : ∀ h' t1, (∀ b o, b ≠ e → h.get? b = some o → h'.get? b = some o) → h'.get? e = some (HandSPX.excO C t1) → Q .none ⟨h', g, d, t, os⟩) :
    wpAny (model prog w) A (call (.ref u) rest) Q E ⟨h, g, d, t, os⟩ := by
  refine wpAny_call (codeAny_of_tree ?_)
  show wpAny _ A.in1 (callAny (.ref u) ⟨rest, []⟩) _ _ _
  simp only [callAny]
  refine wpAny_bind (wpAny_load hu ?_)
  simp only [PySem.W.kxs_mw, show (Value.type "method-wrapper" == Value.type "method" || Value.type "method-wrapper" == Value.type "builtin_function_or_method" || Value.type "method-wrapper" == Value.type "method-wrapper") = true by decide, if_true]
  refine W.KFB.if_so (by decide) ?_
  refine wpAny_bind (ESX.check_bound F.excBase_ValueError hC he rfl ?_)
  refine wpAny_bind (wpAny_pure (wpAny_pure ?_))
  refine ⟨Code.quiet_builtin _ (by decide +kernel), codeAny_builtin F.excBase_ValueError.initEntry ?_⟩
  rw [Around.under_plainId F.excBase_ValueError.init.plain _]
  wp_walk
  refine hq _ h.objs.size (fun b o hb ho => ?_) ?_
  · rw [Heap.get?_update_other _ _ (Ne.symm hb)]
    exact Heap.get?_push_of_some _ ho
  · rw [Heap.get?_update_self _ (Heap.get?_push_of_some _ he) rfl]
    rfl
section
variable {P : Program} {w : World} {K : PySem.W.Frag} {mg : Str → Option Value} {base : Heap} {N ps : List Str} {F : NF} {f cc D : Addr} {fd : FuncData} {A : Around} {outer : List Env} {s0 : Shared} {H0 : Hp} {E : XK}
/-- super().__init__('..'): nothing of it is told -/
theorem sup_run (SF : SupF P K D F f cc fd) (S : NScope N ps ["__class__"] F.scope) {ar : Arg} (hp : (F.params.posonlyargs ++ F.params.args).head? = some ar) (hn0 : N[0]? = some ar.arg) (ha0 : F.scope.names.lookup ar.arg = some .local)
    (hks : F.scope.names.lookup ("super" : Str) = some .globalImplicit) (hms : mg "super" = none) {s : Shared} {σ : L2.St} {H : Hp} {a C : Addr} {p0 p1 p2 p3 p4 p5 : Pos} {z : Str} {j : Nat} {pl : Sem Bool} (he : ∀ env : Env, eval (.Call (.Attribute (.Call (.Name "super" p0) [] [] p1) "__init__" p2) [.Constant (.str z) j p3] [] p4) env = (do
      let ov ← attributeBase (.Call (.Name "super" p0) [] [] p1) "__init__" env (eval (.Call (.Name "super" p0) [] [] p1) env)
      standAt p2.atName
      let (f, first) ← holding [ov] (getMethod ov "__init__" pl)
      callWith p4 f first (backTo p4 (starEach [.Constant (.str z) j p3] env)) []))
    {body : List Stmt} {Q : Flow → Shared → Prop} {E' : Value → Shared → Prop}
    (I : Inv (ncx CX0 P w K mg base N F f A outer s0 H0 E) [] σ H s) (h0 : σ[0]? = some (some (.ref a))) (e : H a = some (exo a C none)) (T : SupC K C D) (h : ∀ s', Inv (ncx CX0 P w K mg base N F f A outer s0 H0 E) [] σ H s' → Q .next s') :
    PySem.wpAt (model P w) (A.deeper (envF F f s0.heap.objs.size)) (.func body (envF F f s0.heap.objs.size)) (exec (.Expr (.Call (.Attribute (.Call (.Name "super" p0) [] [] p1) "__init__" p2) [.Constant (.str z) j p3] [] p4) p5) (envF F f s0.heap.objs.size)) Q E' s := by
  obtain ⟨oc, od, kV, doc, pm, an, ct, osl, rfl, lk, hcd⟩ := SF.ex
  obtain ⟨ccl, cdd, vs, ccs, file, tf, lkc, hvs, hfile⟩ := SF.code
  obtain ⟨clv, cld, csl, lkx⟩ := SF.cell
  obtain ⟨cdD, hD⟩ := SF.cls
  have X : K.In s.heap := I.kIn
  obtain ⟨oD, hD1, hD2⟩ : ∃ oD, s.heap.get? D = some oD ∧ oD.data = .cls cdD := by
    unfold PySem.W.clsIn at hD
    split at hD
    · rename_i c d cd' sl ho
      cases hD
      exact ⟨_, X _ _ ho, rfl⟩
    · cases hD
  obtain ⟨t1, hx⟩ := exo_at I.hok e
  obtain ⟨m, hns, hloc⟩ := id I.loc
  have hself : m ar.arg = some (.ref a) := by
    obtain ⟨u, ru, lu⟩ := hloc 0 ar.arg (.ref a) hn0 h0 (.inl ha0)
    cases (show u = Value.ref a from ru)
    rcases lu with ⟨_, q⟩ | ⟨q, _⟩
    · exact q
    · have q : F.scope.names.lookup ar.arg = some .cell ∨ F.scope.names.lookup ar.arg = some .free := q
      rw [ha0] at q
      rcases q with q | q <;> cases q
  have hkc : F.scope.names.lookup ("__class__" : Str) = some .free := S.frk _ (by simp)
  obtain ⟨mb, hb1, hb2⟩ := I.mod.blt
  refine ks_wpAt_Expr_any (hi := by show (F.scope.kind == ScopeKind.module && _) = false; rw [S.kind]; rfl) (ks_wpAt_MethodCall ?_ (he _))
  refine ks_wpAt_super_base (attr := "__init__") (f := f) (env := envF F f s0.heap.objs.size) hks hkc (by decide) rfl (X _ _ lk) rfl hp rfl (X _ _ lkc) rfl hvs hfile SF.top ?_
  refine PySem.W.ks_loadName_global S.kind hks (Calls.loadGlobal_builtin (env := envF F f s0.heap.objs.size) (I.mod.glob.keeps I.bk) hms (hb1.keeps I.bk) (v := .type "super") ((hb2 _ (by decide)).trans (by decide +kernel)) ⟨rfl, ?_⟩)
  refine wpAny_loadName_free (c := cc) S.kind hkc (by show F.cl.lookup _ = _; rw [SF.cl]; rfl) ⟨_, X _ _ lkx, rfl⟩ ?_
  refine wpAny_loadName_local S.kind ha0 hns hself ?_
  obtain ⟨hp0, g, d, t, os⟩ := s
  refine ks_wpAny_isType_cls hD1 hD2 ⟨rfl, ?_⟩
  refine ks_wpAny_call_super hD1 hD2 hx rfl (fun c z => by cases z) (PySem.W.looks_mroIn X T.sub) (fun h' e' k => ?_)
  -- the super object stands
  have I1 : Inv (ncx CX0 P w K mg base N F f A outer s0 H0 E) [] σ H ⟨h', g, d, t, os⟩ := I.kept (t' := t) k
  have X1 : K.In h' := X.keeps k
  obtain ⟨nm, q, NC, bs, bm, sn, sub, ab, col, dd, k0, k1, k2, k3, k5, hC, hbm⟩ := T.oex.cls
  have hcl : PySem.W.clsIn K C = some { name := nm, bases := bs, mro := .ref C :: bm, ns := NC, qualname := q, hasDict := true, slotNames := sn, subclasses := sub, abstract := ab, collection := col, hasDel := false } := by unfold PySem.W.clsIn; rw [hC] <;> rfl
  have hxC : a ≠ C := fun z => by
    have e1 := X _ _ hC
    rw [← z, hx] at e1
    cases e1
  have hal : PySem.W.alongIn K "__init__" (((Value.ref C :: bm).dropWhile (· != .ref D)).drop 1) = some (some (.builtin "ValueError.__init__")) := by
    have n := T.nx
    unfold PySem.W.ks_superIn at n
    rw [hcl] at n
    exact n
  have hI : PySem.W.Looks (model P w) h' (isInstance (.ref a) (.type "ValueError")) true := (PySem.W.InstAt.type (ox := ({ cls := .ref C, dict := none, data := .fields #[.ref t1, .none, .none, .none, .bool false, .none] } : Obj)) (od := none) ⟨k _ _ hx, rfl, rfl, trivial⟩).andThen (PySem.W.looks_subIn X1 T.ve)
  refine PySem.W.kxs_getMethod PySem.W.kxs_ValueError e' (PySem.W.looks_opaque X1 T.op) (l₀ := .ref C :: bm) (fun A Q E s k q => wpAny_bind ((PySem.W.looks_clsIn X1 hcl) A _ E s k (wpAny_pure q))) rfl X1 hal hI hxC (by decide) ?_
  -- the method-wrapper stands
  have k2 : ∀ b o, h'.get? b = some o → (h'.push (PySem.W.kxs_mw "ValueError.__init__" a)).get? b = some o := fun b o z => Heap.get?_push_of_some _ z
  have hu : (h'.push (PySem.W.kxs_mw "ValueError.__init__" a)).get? h'.objs.size = some (PySem.W.kxs_mw "ValueError.__init__" a) := Heap.get?_push_at rfl rfl
  have I2 : Inv (ncx CX0 P w K mg base N F f A outer s0 H0 E) [] σ H ⟨h'.push (PySem.W.kxs_mw "ValueError.__init__" a), g, d, t + 1, os⟩ := I1.kept (t' := t + 1) k2
  have hun : H h'.objs.size = none := I1.hok.fresh (Nat.le_refl _)
  have hfr : h'.objs.size ∉ (ncx CX0 P w K mg base N F f A outer s0 H0 E).fs := I1.nofs (Nat.le_refl _)
  have hlo : h'.objs.size ≠ s0.heap.objs.size := fun z => by
    have q := I1.lt
    have q : s0.heap.objs.size < h'.objs.size := q
    omega
  have I3 : Inv (ncx CX0 P w K mg base N F f A outer s0 H0 E) [(h'.objs.size, PySem.W.kxs_mw "ValueError.__init__" a)] σ H ⟨h'.push (PySem.W.kxs_mw "ValueError.__init__" a), g, d, t + 1, os⟩ :=
    ⟨I2.ok, I2.os, I2.bare, I2.base, I2.loc, I2.cell, I2.free, I2.freeC, fun p hp => by
      have hp : p ∈ ([] : List (Addr × Obj)) ++ [(h'.objs.size, PySem.W.kxs_mw "ValueError.__init__" a)] := hp
      rw [List.nil_append, List.mem_singleton] at hp
      subst hp
      exact ⟨hu, hun, hlo, hfr, fun v z => by cases z⟩, I2.hok, I2.len⟩
  have ha : PA (ncx CX0 P w K mg base N F f A outer s0 H0 E) [.Constant (.str z) j p3] (tCons (tC (.str z)) tNil) := pa_cons pe_str pa_nil
  refine PySem.W.kxs_callWith (i := "ValueError.__init__") (u := h'.objs.size) (x := a) (by rfl) ?_
  refine Calls.evalArgs_plain (thn (ha.run p4 _ _ σ H (fun vs H1 => vs = [V.str z] ∧ H1 = H) I3 ⟨rfl, rfl⟩) fun us s3 ⟨vs1, H1, I4, r1, ev, eH⟩ => ?_)
  subst ev
  rw [eH] at I4
  have u3 := (I4.pin (h'.objs.size, PySem.W.kxs_mw "ValueError.__init__" a) (List.mem_append_right _ (List.mem_singleton_self _))).1
  refine ⟨u3, ?_⟩
  obtain ⟨t3, hx3⟩ := exo_at I4.hok e
  have X3 := I4.kIn
  obtain ⟨h3, g3, d3, tk3, os3⟩ := s3
  have hl : us.length ≤ sizeLine := by
    rw [← Paired.length r1, sizeLine_eq]
    show 1 ≤ 16777216
    omega
  refine call_bwV (X3 _ _ hC) hx3 u3 hl fun h4 t4 k4 hx4 => ?_
  have J := I4.write (t' := tk3) (x := a) (e := a) (o := exo a C none) (by rw [e]; exact True.intro) (.inl rfl) k4 ⟨_, hx4⟩ (exo_ok hx4)
  have eu : upd H a (exo a C none) = H := by
    funext b
    by_cases hb : b = a
    · rw [hb, upd_same, e]
    · rw [upd_ne hb]
  rw [eu] at J
  exact h _ ⟨J.ok, J.os, J.bare, J.base, J.loc, J.cell, J.free, J.freeC, fun p hp => absurd (show p ∈ ([] : List (Addr × Obj)) from hp) (by simp), J.hok, J.len⟩
/-- THE RULE for such an __init__: its first statement, then the rest by its reading -/
theorem fn_ofS {k : Nat} {sp : Sp} {rest : List Stmt} (SF : SupF P K D F f cc fd) (S : NScope N ps ["__class__"] F.scope) {ar : Arg} (hp : (F.params.posonlyargs ++ F.params.args).head? = some ar) (hn0 : N[0]? = some ar.arg) (ha0 : F.scope.names.lookup ar.arg = some .local)
    (hks : F.scope.names.lookup ("super" : Str) = some .globalImplicit) (hms : mg "super" = none) {p0 p1 p2 p3 p4 p5 : Pos} {z : Str} {j : Nat} {pl : Sem Bool} (he : ∀ env : Env, eval (.Call (.Attribute (.Call (.Name "super" p0) [] [] p1) "__init__" p2) [.Constant (.str z) j p3] [] p4) env = (do
      let ov ← attributeBase (.Call (.Name "super" p0) [] [] p1) "__init__" env (eval (.Call (.Name "super" p0) [] [] p1) env)
      standAt p2.atName
      let (f, first) ← holding [ov] (getMethod ov "__init__" pl)
      callWith p4 f first (backTo p4 (starEach [.Constant (.str z) j p3] env)) []))
    (hb : F.body = .Expr (.Call (.Attribute (.Call (.Name "super" p0) [] [] p1) "__init__" p2) [.Constant (.str z) j p3] [] p4) p5 :: rest)
    (len : ∀ vs H Q E, sp vs H Q E → vs.length = ps.length)
    (hbody : ∀ (A : Around) (outer : List Env) (s : Shared) (H : Hp) (vs : List V) (Q : VK) (E : XK), Room k (A.deeper (envF F f s.heap.objs.size)) → sp vs H Q E → (∃ a C, vs[0]? = some (.ref a) ∧ H a = some (exo a C none) ∧ SupC K C D) ∧
      ∃ t, PSs (ncx CX0 P w K mg base N F f A outer s H E) rest t ∧ t { nx := fun _ H' => Q .non H', rt := Q } (startF N vs [none]) H) : FnOk P w K mg base CX0 (k + 1) f fd ps sp := by
  refine ⟨len, fun A outer s H args us vs Q E hr e0 hbi r hsp => ?_⟩
  have hl := len _ _ _ _ hsp
  have KX : K.In s.heap := e0.mod.kin.keeps fun b o e => (e0.bs b o e).1
  have lim : s.heap.NoLimit := e0.mod.nolimit.keeps fun b o e => (e0.bs b o e).1
  obtain ⟨oc, od, kV, doc, pm, an, ct, osl, hfd, lk, hcd⟩ := id SF.ex
  obtain ⟨clv, cld, csl, lkx⟩ := id SF.cell
  obtain ⟨nm, qn, par, bod, sc, cl, c⟩ := F
  have hcl : cl = [(("__class__" : Str), cc)] := SF.cl
  subst hcl
  have hb : bod = _ := hb
  subst hb
  subst hfd
  refine ks_codeAny_call_defAt (o := ⟨oc, od, .func (PySem.W.ksFn nm qn par _ sc .none kV doc pm an (.ref c) ct cc), osl⟩) (fd := PySem.W.ksFn nm qn par _ sc .none kV doc pm an (.ref c) ct cc) (binds := ps.zip us) hr.depth (KX _ _ lk) rfl lim (PySem.W.codeRec_of KX hcd) rfl hbi S.nocell (fun ⟨n, _⟩ hy => S.par n (List.of_mem_zip hy).1) (fun h₁ hns kp => ?_) S.co S.gen S.kind
  have CA : CellsAt [(("__class__" : Str), cc)] ["__class__"] [none] s.heap H := by
    have one : ∀ {y : Str} {c2 : Addr}, List.lookup y [(("__class__" : Str), cc)] = some c2 → y = "__class__" ∧ c2 = cc := fun {y c2} q => by
      have hm := PySem.mem_of_lookup q
      rw [List.mem_singleton] at hm
      injection hm with h1 h2
      exact ⟨h1, h2⟩
    refine ⟨rfl, fun y c2 q => ?_, fun x y c2 q1 q2 => (one q1).1.trans (one q2).1.symm, fun i y hi => ?_⟩
    · obtain ⟨_, rfl⟩ := one q
      have z := e0.bs _ _ (e0.mod.kin _ _ lkx)
      exact ⟨z.2, _, _, z.1, rfl⟩
    · cases i with
      | zero =>
        have e : "__class__" = y := by simpa using hi
        subst e
        exact ⟨cc, rfl, fun v hv => by simp at hv⟩
      | succ i => simp at hi
  obtain ⟨⟨a, C0, hv0, ha, T⟩, t, ht, hq⟩ := hbody A outer s H vs Q E (hr.deeper _) hsp
  have I := inv_startN (CX := CX0) (mg := mg) (f := f) (E := E) (tk := s.toks + (ps.zip us).length) S hr.hd e0 hl r CA hns kp
  have h0 : (startF N vs [none])[0]? = some (some (.ref a)) := by
    unfold startF
    cases vs with
    | nil => simp at hv0
    | cons v vs =>
      have e : v = .ref a := by simpa using hv0
      subst e
      rfl
  refine ks_wpAt_execs_cons (sup_run (E := E) SF S hp hn0 ha0 hks hms he I h0 ha T fun s' J => ?_)
  refine wpAt_of_wpAny (wpAny_mono (ht.run [] s' _ H _ J hq) (fun fl s2 hs => ?_) fun e s2 hs => hs)
  cases fl with
  | ret u =>
    obtain ⟨v, σ', H', J, rv, q⟩ := hs
    exact ⟨v, H', J.os, J.bare, J.base, J.hok, rv, q⟩
  | next =>
    obtain ⟨σ', H', J, q⟩ := hs
    exact ⟨V.non, H', J.os, J.bare, J.base, J.hok, rfl, q⟩
  | brk =>
    obtain ⟨_, _, _, q⟩ := hs
    exact False.elim q
  | cont =>
    obtain ⟨_, _, _, q⟩ := hs
    exact False.elim q
end
end U
/-! U10: the head's Hook with own error classes and further tests. -/
namespace U
open PySem PySem.Spec PyProof.Rows L2
open He (AlD FnW DefD Fa obsD valD SaysD fnW ga ma fAd eqO frG frG_in asD ba)
/-! ### an own error class: __init__ of its own, which calls super().__init__ first -/
abbrev FnS : Type := Option (Str × Str × Arguments × FuncBody × Scope × Addr × List Str × Addr)
def fnS (K : PySem.W.Frag) (p : Str × Option Str) : FnS := match K.lookup (fAd K p) with
  | some ⟨_, _, .func fd, _⟩ => some (fd.name, fd.qualname, fd.params, fd.body, fd.scope, fd.globals, fd.closure.map (·.1), fd.builtins)
  | _ => none
/-- one such class: its name, __init__'s words, its fields -/
structure ErrD where
  x : Str
  params : Arguments
  body : List Stmt
  scope : Scope
  fs : List Str
def ErrD.qual (d : ErrD) : Str := d.x ++ ".__init__"
def ErrD.val (d : ErrD) : FnS := some ("__init__", d.qual, d.params, .stmts d.body, d.scope, mainGlobals, ["__class__"], builtinsNs)
/-- the class' object has the form of an own exception's over ValueError -/
def excObjB (K : PySem.W.Frag) (C : Addr) : Bool := match K.lookup C with
  | some ⟨.type "type", _, .cls cd, sl⟩ => (match cd.mro, sl.toList with
    | .ref C' :: bm, [_, _, _, _, some (.builtin n), _] => C' == C && n == "ValueError.__new__" && !cd.hasDel && HandSPX.refsVE bm && cd.hasDict
    | _, _ => false)
  | _ => false
def supB (file : Str) (K : PySem.W.Frag) (D : Addr) (f : Addr) (q : Str) : Bool := (match K.lookup f with
  | some ⟨_, _, .func fd, _⟩ => (PySem.W.codeIn K fd.code q && (match fd.defaults with
    | .none => true
    | _ => false)) && ((match fd.code with
    | .ref c => (match K.lookup c with
      | some ⟨_, _, .fields vs, _⟩ => (match (vs[2]? : Option Value) with
        | some (.str fi _) => file == fi
        | _ => false)
      | _ => false)
    | _ => false) && (match fd.closure with
    | [(_, cc)] => (match K.lookup cc with
      | some ⟨_, _, .cell (some (.ref D')), _⟩ => D' == D
      | _ => false)
    | _ => false))
  | _ => false) && (PySem.W.clsIn K D).isSome
def errB (file : Str) (K : PySem.W.Frag) (d : ErrD) : Bool :=
  let C := ga K d.x
  let f := ma K C "__init__"
  (eqO (PySem.W.nsIn K mainGlobals d.x) (some (some (.ref C))) && (excObjB K C && (supB file K C f d.qual && eqO (PySem.W.findIn K (.ref C) "__init__") (some (some (.ref f)))))) &&
  ((eqO (PySem.W.findIn K (.ref C) "__setattr__") (some (some (.builtin "object.__setattr__"))) && (decide (PySem.W.subIn K (.ref C) (.type "BaseException") = some true) && (decide (PySem.W.typeIn K (.ref C) = some (.type "type")) && PySem.W.keepIn K (.ref C)))) &&
  ((decide (PySem.W.mroIn K C (.ref C) = some true) && (eqO (PySem.W.ks_superIn K C C "__init__") (some (some (.builtin "ValueError.__init__"))) && (decide (PySem.W.subIn K (.ref C) (.type "ValueError") = some true) && eqO (PySem.W.nsIn K PySem.cStatics "thirdparty.any") (some none)))) &&
  ((xfB K C && (decide (PySem.W.typeIn K (.ref f) = some (.type "function")) && d.fs.all fun x => eqO (PySem.W.findIn K (.ref C) x) (some none))) &&
  (eqO (PySem.W.findIn K (.ref C) "__class__") (some (some (.builtin "object.__class__"))) && (eqO (PySem.W.specialIn K (.builtin "object.__class__") "__get__") (some (some (.builtin "getset_descriptor.__get__"))) && (decide (PySem.W.takesIn K (.builtin "object.__class__") = some true) && decide (PySem.W.mroIn K C (.type "object") = some true)))))))
structure ErrF (P : Program) (K : PySem.W.Frag) (mg : Str → Option Value) (d : ErrD) (C f : Addr) (fd : FuncData) : Prop where
  g : mg d.x = some (.ref C)
  sc : SupC K C C
  sf : ∃ (c cc : Addr), SupF P K C ⟨"__init__", d.qual, d.params, d.body, d.scope, [(("__class__" : Str), cc)], c⟩ f cc fd
  ini : PySem.W.findIn K (.ref C) "__init__" = some (some (.ref f))
  fty : PySem.W.typeIn K (.ref f) = some (.type "function")
  xf : XfC K C
  no : ∀ x ∈ d.fs, PySem.W.findIn K (.ref C) x = some none
  ec : ExcC K C
theorem excObjB_ok {K : PySem.W.Frag} {C : Addr} (q : excObjB K C = true) : ∃ nm q N bs bm sn sub ab col dd k0 k1 k2 k3 k5, K.lookup C = some (excClassObj nm q C N bs bm true sn sub ab col dd k0 k1 k2 k3 k5 "ValueError.__new__") ∧ HandSPX.refsVE bm = true := by
  unfold excObjB at q
  split at q
  · rename_i dd cd sl ho
    split at q
    · rename_i C' bm k0 k1 k2 k3 n k5 hm hs
      simp only [Bool.and_eq_true, beq_iff_eq, Bool.not_eq_true'] at q
      obtain ⟨⟨⟨⟨rfl, rfl⟩, hdel⟩, ht⟩, hd⟩ := q
      obtain ⟨nm, bs, mro, ns, qn, hdd, sn, sub, ab, col, del⟩ := cd
      dsimp only at hm hdel hd
      subst hm hdel hd
      have hsl : sl = #[k0, k1, k2, k3, some (.builtin "ValueError.__new__"), k5] := by
        obtain ⟨l⟩ := sl
        simp only at hs
        rw [hs]
      subst hsl
      exact ⟨nm, qn, ns, bs, bm, sn, sub, ab, col, dd, k0, k1, k2, k3, k5, ho, ht⟩
    · cases q
  · cases q
theorem errB_ok {P : Program} {K : PySem.W.Frag} {h : Heap} {mg : Str → Option Value} (X : K.In h) (G : h.Ns mainGlobals mg) {d : ErrD} (ht : (P.main.scope.names.lookup ("super" : Str)).isSome = false) (q : errB P.main.file K d = true) (e : fnS K (d.x, some "__init__") = d.val) :
    ∃ fd, ErrF P K mg d (ga K d.x) (ma K (ga K d.x) "__init__") fd := by
  unfold errB at q
  simp only [Bool.and_eq_true] at q
  obtain ⟨⟨a1, a2, a3, a4⟩, ⟨b1, b2, b3, b4⟩, ⟨c1, c2, c3, c4⟩, ⟨d1, d2, d3⟩, ⟨e1, e2, e3, e4⟩⟩ := q
  have ox : OexC K (ga K d.x) := ⟨excObjB_ok a2, He.eqO_ok b1, of_decide_eq_true b2, of_decide_eq_true b3, b4⟩
  have hxf := xfB_ok d1
  unfold supB at a3
  obtain ⟨a3, a5⟩ := ba a3
  unfold fnS at e
  have e : (match K.lookup (ma K (ga K d.x) "__init__") with
    | some ⟨_, _, .func fd, _⟩ => some (fd.name, fd.qualname, fd.params, fd.body, fd.scope, fd.globals, fd.closure.map (·.1), fd.builtins)
    | _ => none) = d.val := e
  cases lk : K.lookup (ma K (ga K d.x) "__init__") with
  | none => rw [lk] at a3; cases a3
  | some o =>
    obtain ⟨oc, od, dt, osl⟩ := o
    rw [lk] at a3 e
    cases dt with
    | func fd =>
      obtain ⟨n1, n2, n3, n4, n5, n6, n7, n8, n9, n10, n11, n12, n13, n14, n15⟩ := fd
      have e : (some (n1, n2, n3, n4, n5, n6, n7.map (·.1), n15) : FnS) = (some (("__init__" : Str), d.qual, d.params, FuncBody.stmts d.body, d.scope, mainGlobals, [("__class__" : Str)], builtinsNs) : FnS) := e
      simp only [Option.some.injEq, Prod.mk.injEq] at e
      obtain ⟨h1, h2, h3, h4, h5, h6, h7, h8⟩ := e
      subst h1 h2 h3 h4 h5 h6 h8
      dsimp only at a3
      obtain ⟨rr, r2⟩ := ba a3
      obtain ⟨r1, r0⟩ := ba rr
      clear rr
      have hdv : n8 = .none := by
        cases n8 <;> first | rfl | cases r0
      subst hdv
      obtain ⟨r2, r3⟩ := ba r2
      have key : ∃ (fd : FuncData) (c cc : Addr), SupF P K (ga K d.x) ⟨"__init__", d.qual, d.params, d.body, d.scope, [(("__class__" : Str), cc)], c⟩ (ma K (ga K d.x) "__init__") cc fd := by
        split at r2
        · rename_i c0 c
          split at r2
          · rename_i u1 u2 vs u3 hc
            split at r2
            · rename_i fi tf hv
              split at r3
              · rename_i nm cc
                split at r3
                · rename_i v1 v2 D' v3 hcc
                  have hD : D' = ga K d.x := beq_iff_eq.mp r3
                  subst hD
                  have hn : nm = "__class__" := by simpa using h7
                  subst hn
                  exact ⟨_, _, cc, ⟨⟨oc, od, n9, n10, n11, n12, n14, osl, rfl, lk, r1⟩, rfl, ⟨u1, u2, vs, u3, fi, tf, hc, hv, r2⟩, ⟨v1, v2, v3, hcc⟩, Option.isSome_iff_exists.mp a5, ht⟩⟩
                · cases r3
              · cases r3
            · cases r2
          · cases r2
        · cases r2
      obtain ⟨fd, c, cc, sf⟩ := key
      exact ⟨fd, ⟨PySem.W.mg_of X G (He.eqO_ok a1), ⟨ox, of_decide_eq_true c1, He.eqO_ok c2, of_decide_eq_true c3, He.eqO_ok c4⟩, ⟨c, cc, sf⟩, He.eqO_ok a4, of_decide_eq_true d2, hxf, fun x hx => He.eqO_ok (List.all_eq_true.mp d3 x hx), ⟨hxf.ga, hxf.gg, hxf.exC, hxf.hdC, He.eqO_ok e1, He.eqO_ok e2, of_decide_eq_true e3, of_decide_eq_true e4⟩⟩⟩
    | _ => cases a3
/-! ### the Hook -/
abbrev AlU : Type := AlD × (Bool × List FnS)
def obsU (file : Str) (fa : List Fa) (fn : List DefD) (en : List ErrD) (t : PySem.W.Frag → Bool) (K : PySem.W.Frag) : AlU := (obsD fa fn K, (en.all (fun d => errB file K d) && t K, en.map fun d => fnS K (d.x, some "__init__")))
def valU (fn : List DefD) (en : List ErrD) : AlU := (valD fn, (true, en.map ErrD.val))
def SaysU (file : Str) (fa : List Fa) (fn : List DefD) (en : List ErrD) (t : PySem.W.Frag → Bool) (K : PySem.W.Frag) : Prop := obsU file fa fn en t K = valU fn en
def asU (g : Addr → Option Obj) (n : Nat) : List Addr := PySem.cStatics :: asD g n
def obsUG (file : Str) (n : Nat) (fa : List Fa) (fn : List DefD) (en : List ErrD) (t : PySem.W.Frag → Bool) (g : Addr → Option Obj) : AlU := obsU file fa fn en t (frG g (asU g n))
def hookU (file : Str) (n : Nat) (fa : List Fa) (fn : List DefD) (en : List ErrD) (t : PySem.W.Frag → Bool) : PySem.W.Hook where
  α := AlU
  obs := fun s => obsUG file n fa fn en t s.heap.get?
  val := fun _ => valU fn en
  says := fun _ h => ∃ K : PySem.W.Frag, K.In h ∧ SaysU file fa fn en t K
  of := fun _ _ e => ⟨_, frG_in, e⟩
  keeps := fun _ _ _ ⟨K, hK, c⟩ k => ⟨K, PySem.W.Frag.In.keeps hK k, c⟩
theorem obsUG_eq {file : Str} {n : Nat} {fa : List Fa} {fn : List DefD} {en : List ErrD} {t : PySem.W.Frag → Bool} {g : Addr → Option Obj} {s : Shared} (h : ∀ a, g a = s.heap.get? a) : obsUG file n fa fn en t g = (hookU file n fa fn en t).obs s := by
  have e : g = s.heap.get? := funext h
  rw [e] <;> rfl
section
variable {file : Str} {fa : List Fa} {fn : List DefD} {en : List ErrD} {t : PySem.W.Frag → Bool} {K : PySem.W.Frag}
theorem SaysU.d (c : SaysU file fa fn en t K) : SaysD fa fn K := congrArg (fun z : AlU => z.1) c
theorem SaysU.tst (c : SaysU file fa fn en t K) : t K = true := (ba (show (en.all (fun d => errB file K d) && t K) = true from congrArg (fun z : AlU => z.2.1) c)).2
theorem SaysU.err {P : Program} {h : Heap} {mg : Str → Option Value} (c : SaysU P.main.file fa fn en t K) (X : K.In h) (G : h.Ns mainGlobals mg) (ht : (P.main.scope.names.lookup ("super" : Str)).isSome = false) (i : Nat) {d : ErrD} (hd : en[i]? = some d := by rfl) :
    ∃ fd, ErrF P K mg d (ga K d.x) (ma K (ga K d.x) "__init__") fd := by
  have c1 := (ba (show (en.all (fun d => errB P.main.file K d) && t K) = true from congrArg (fun z : AlU => z.2.1) c)).1
  have e : en.map (fun d => fnS K (d.x, some "__init__")) = en.map ErrD.val := congrArg (fun z : AlU => z.2.2) c
  have e2 : (en.map fun d => fnS K (d.x, some "__init__"))[i]? = (en.map ErrD.val)[i]? := by rw [e]
  rw [List.getElem?_map, List.getElem?_map, hd] at e2
  exact errB_ok X G ht (List.all_eq_true.mp c1 d (List.mem_of_getElem? hd)) (Option.some.inj e2)
end
end U
/-! U11: own errors made, raised, caught, asked; defs that raise; defs called where an error is handled. -/
namespace U
open PySem PySem.Spec PyProof.Rows L2
open NdefX (NF ncx envF NScope CellsAt startF inv_startN)
/-! ### making -/
/-- __init__'s promise: the fields' own dict -/
def spErr (C : Addr) (fs : List Str) : Sp := fun vs H Q _ => ∃ (a : Addr) (us : List V), vs = .ref a :: us ∧ us.length = fs.length ∧ H a = some (exo a C none) ∧ ∀ d, H d = none → d ≠ a → ∀ H', H' = upd (upd H d (exd d (fs.zip us).reverse)) a (exo a C (some d)) → Q .non H'
structure ErrOk (P : Program) (w : World) (K : PySem.W.Frag) (mg : Str → Option Value) (base : Heap) (x : Str) (C : Addr) (fs : List Str) : Prop where
  ex : ∃ (fI : Addr) (fd : FuncData), mg x = some (.ref C) ∧ OexC K C ∧ PySem.W.findIn K (.ref C) "__init__" = some (some (.ref fI)) ∧ PySem.W.typeIn K (.ref fI) = some (.type "function") ∧ FnOk P w K mg base CX0 2 fI fd ("self" :: fs) (spErr C fs) ∧ Binds K fd ("self" :: fs) []
  xf : XfC K C
  no : ∀ f ∈ fs, PySem.W.findIn K (.ref C) f = some none
  ec : ExcC K C
section
variable {P : Program} {w : World} {K : PySem.W.Frag} {mg : Str → Option Value} {base : Heap} {d : ErrD} {C fI : Addr} {fd : FuncData}
/-- one field -/
theorem err1 (T : ErrF P K mg d C fI fd) {f : Str} (hfs : d.fs = [f]) (S : NScope ["self", f, "__class__"] ["self", f] ["__class__"] d.scope) {ar : Arg} (hp : (d.params.posonlyargs ++ d.params.args).head? = some ar) (har : ar.arg = "self")
    (hks : d.scope.names.lookup ("super" : Str) = some .globalImplicit) (hms : mg "super" = none) {p0 p1 p2 p3 p4 p5 : Pos} {z : Str} {j : Nat} {rest : List Stmt}
    (hb : d.body = .Expr (.Call (.Attribute (.Call (.Name "super" p0) [] [] p1) "__init__" p2) [.Constant (.str z) j p3] [] p4) p5 :: rest)
    {pl : Sem Bool} (he : ∀ env : Env, eval (.Call (.Attribute (.Call (.Name "super" p0) [] [] p1) "__init__" p2) [.Constant (.str z) j p3] [] p4) env = (do
      let ov ← attributeBase (.Call (.Name "super" p0) [] [] p1) "__init__" env (eval (.Call (.Name "super" p0) [] [] p1) env)
      standAt p2.atName
      let (f, first) ← holding [ov] (getMethod ov "__init__" pl)
      callWith p4 f first (backTo p4 (starEach [.Constant (.str z) j p3] env)) []))
    (hbn : ∀ (kV doc pm : Value) (an : Option Addr) (c ct : Value) (cc : Addr) (u v : Value), bindArgs { name := "__init__", qualname := d.qual, params := d.params, body := .stmts d.body, scope := d.scope, globals := mainGlobals, closure := [(("__class__" : Str), cc)], defaults := .none, kwdefaults := kV, doc := doc, pyModule := pm, annotations := an, code := c, closureTuple := ct, builtins := builtinsNs } ⟨[u, v], []⟩ = pure [(("self" : Str), u), (f, v)])
    (hps : ∀ {A outer s H E cc c}, PSs (ncx CX0 P w K mg base ["self", f, "__class__"] ⟨"__init__", d.qual, d.params, d.body, d.scope, [(("__class__" : Str), cc)], c⟩ fI A outer s H E) rest (tOst K f (tVar 0) (tVar 1))) :
    ErrOk P w K mg base d.x C [f] := by
  obtain ⟨c, cc, sf⟩ := T.sf
  refine ⟨⟨fI, fd, T.g, T.sc.oex, T.ini, T.fty, ?_, ?_⟩, T.xf, fun g hg => T.no g (by rw [hfs]; exact hg), T.ec⟩
  · refine fn_ofS (k := 1) (rest := rest) sf S hp (by rw [har]; rfl) (by rw [har]; exact S.par _ (by simp)) hks hms he hb (fun vs H Q E h => ?_) (fun A outer s H vs Q E hr h => ?_)
    · obtain ⟨a, us, rfl, hl, _⟩ := h
      rw [List.length_cons, hl]; rfl
    · obtain ⟨a, us, rfl, hl, ha, q⟩ := h
      refine ⟨⟨a, C, rfl, ha, T.sc⟩, _, hps, ?_⟩
      match us, hl with
      | [u], _ =>
        refine ⟨u, rfl, .ref a, rfl, a, C, rfl, T.sc.oex, T.no f (by rw [hfs]; exact List.mem_singleton_self _), .inl ⟨ha, fun dx hd hn => ?_⟩⟩
        exact q dx hd hn _ rfl
  · obtain ⟨oc, od, kV, doc, pm, an, ct, osl, rfl, _, _⟩ := sf.ex
    exact .all fun us hl => match us, hl with
      | [u, v], _ => hbn kV doc pm an _ ct cc u v
/-- two fields -/
theorem err2 (T : ErrF P K mg d C fI fd) {f g : Str} (hfs : d.fs = [f, g]) (S : NScope ["self", f, g, "__class__"] ["self", f, g] ["__class__"] d.scope) {ar : Arg} (hp : (d.params.posonlyargs ++ d.params.args).head? = some ar) (har : ar.arg = "self")
    (hks : d.scope.names.lookup ("super" : Str) = some .globalImplicit) (hms : mg "super" = none) {p0 p1 p2 p3 p4 p5 : Pos} {z : Str} {j : Nat} {rest : List Stmt}
    (hb : d.body = .Expr (.Call (.Attribute (.Call (.Name "super" p0) [] [] p1) "__init__" p2) [.Constant (.str z) j p3] [] p4) p5 :: rest)
    {pl : Sem Bool} (he : ∀ env : Env, eval (.Call (.Attribute (.Call (.Name "super" p0) [] [] p1) "__init__" p2) [.Constant (.str z) j p3] [] p4) env = (do
      let ov ← attributeBase (.Call (.Name "super" p0) [] [] p1) "__init__" env (eval (.Call (.Name "super" p0) [] [] p1) env)
      standAt p2.atName
      let (f, first) ← holding [ov] (getMethod ov "__init__" pl)
      callWith p4 f first (backTo p4 (starEach [.Constant (.str z) j p3] env)) []))
    (hbn : ∀ (kV doc pm : Value) (an : Option Addr) (c ct : Value) (cc : Addr) (u v w : Value), bindArgs { name := "__init__", qualname := d.qual, params := d.params, body := .stmts d.body, scope := d.scope, globals := mainGlobals, closure := [(("__class__" : Str), cc)], defaults := .none, kwdefaults := kV, doc := doc, pyModule := pm, annotations := an, code := c, closureTuple := ct, builtins := builtinsNs } ⟨[u, v, w], []⟩ = pure [(("self" : Str), u), (f, v), (g, w)])
    (hps : ∀ {A outer s H E cc c}, PSs (ncx CX0 P w K mg base ["self", f, g, "__class__"] ⟨"__init__", d.qual, d.params, d.body, d.scope, [(("__class__" : Str), cc)], c⟩ fI A outer s H E) rest (tSeq (tOst K f (tVar 0) (tVar 1)) (tOst K g (tVar 0) (tVar 2)))) :
    ErrOk P w K mg base d.x C [f, g] := by
  obtain ⟨c, cc, sf⟩ := T.sf
  refine ⟨⟨fI, fd, T.g, T.sc.oex, T.ini, T.fty, ?_, ?_⟩, T.xf, fun g hg => T.no g (by rw [hfs]; exact hg), T.ec⟩
  · refine fn_ofS (k := 1) (rest := rest) sf S hp (by rw [har]; rfl) (by rw [har]; exact S.par _ (by simp)) hks hms he hb (fun vs H Q E h => ?_) (fun A outer s H vs Q E hr h => ?_)
    · obtain ⟨a, us, rfl, hl, _⟩ := h
      rw [List.length_cons, hl]; rfl
    · obtain ⟨a, us, rfl, hl, ha, q⟩ := h
      refine ⟨⟨a, C, rfl, ha, T.sc⟩, _, hps, ?_⟩
      match us, hl with
      | [u, v], _ =>
        refine ⟨u, rfl, .ref a, rfl, a, C, rfl, T.sc.oex, T.no f (by rw [hfs]; simp), .inl ⟨ha, fun dx hd hn => ?_⟩⟩
        refine ⟨v, rfl, .ref a, rfl, a, C, rfl, T.sc.oex, T.no g (by rw [hfs]; simp), .inr ⟨dx, [(f, u)], upd_same, by rw [upd_ne hn, upd_same], by show 1 ≤ 900; omega, ?_⟩⟩
        refine q dx hd hn _ ?_
        funext b
        by_cases h1 : b = dx
        · subst h1; rw [upd_same, upd_ne hn, upd_same]; rfl
        · rw [upd_ne h1]
          by_cases h2 : b = a
          · subst h2; rw [upd_same, upd_same]
          · rw [upd_ne h2, upd_ne h2, upd_ne h1, upd_ne h1]
  · obtain ⟨oc, od, kV, doc, pm, an, ct, osl, rfl, _, _⟩ := sf.ex
    exact .all fun us hl => match us, hl with
      | [u, v, w], _ => hbn kV doc pm an _ ct cc u v w
end
/-- C(e, ..) -/
abbrev tMkE (C : Addr) (fs : List Str) (ta : TA) : L2.St → Hp → XK → Prop := tMkO C (spErr C fs) [] ta
section
variable {X : Cx} {x : Str} {C : Addr} {fs : List Str} {p pos : Pos} {e : Expr} {es : List Expr} {ta : TA}
theorem pmk_err (O : ErrOk X.prog X.w X.K X.mg X.base x C fs) (hr : Room 3 X.A) (hg : Gl X x) (ha : PA X (e :: es) ta)
    (hdb : (x == ("__debug__" : Str)) = false := by decide) (he : starEach (e :: es) X.env = (false, eval e X.env) :: starEach es X.env := by rfl) (hpl : (backTo pos (starEach es X.env)).any (·.1) = false := by rfl) : PMk X (.Call (.Name x p) (e :: es) [] pos) (tMkE C fs ta) := by
  obtain ⟨fI, fd, hm, T, ini, fty, F, hb⟩ := O.ex
  exact pmk_oex T ini fty F hr hb .nil (fun _ _ _ _ _ _ _ h => h.elim) hg hm ha hdb he hpl
/-- raise C(e, ..) -/
def tRaise (W : WX) (t : L2.St → Hp → XK → Prop) : TS := fun _ σ H => t σ H fun cls d H' => W cls d σ H'
theorem ps_raiseT {W : WX} {e : Expr} {t : L2.St → Hp → XK → Prop} {pos : Pos} (hc : X.calm = true) (tk : Takes X W) (he : PMk X e t) : PS X (.Raise (some e) none pos) (tRaise W t) := ps_raise hc tk he
end
section
variable {σ : L2.St} {H : Hp} {D : Ends} {ta : TA} {C : Addr} {fs : List Str} {Q : XK} {W : WX}
/-- what is asked behind the arguments of a raised error -/
def RaiseE (C : Addr) (fs : List Str) (W : WX) (σ : L2.St) (vs : List V) (H1 : Hp) : Prop := vs.length ≤ 1000 ∧ ∀ a, H1 a = none → spErr C fs (.ref a :: (vs ++ [])) (upd H1 a (exo a C none))
  (fun v H2 => v = .non ∧ ∃ (d : Addr) (fs : List (Str × V)), H2 a = some (exo a C (some d)) ∧ H2 d = some (exd d fs) ∧ H1 d = none ∧ W (.ref C) (some d) σ (upd (del H2 a) d (.xd fs))) (fun _ _ _ => False)
theorem r_raise (h : ta σ H fun vs H1 => RaiseE C fs W σ vs H1) : tRaise W (tMkE C fs ta) D σ H := h
theorem r_mkE {vs : List V} (hl : vs.length = fs.length) (hn : fs.length ≤ 1000) (h : ∀ d, H d = none → W (.ref C) (some d) σ (upd H d (.xd (fs.zip vs).reverse))) : RaiseE C fs W σ vs H := by
  refine ⟨by omega, fun a ha => ⟨a, vs, by rw [List.append_nil], hl, upd_same, fun d hd hn H' e => ⟨rfl, d, (fs.zip vs).reverse, by rw [e, upd_same], by rw [e, upd_ne hn, upd_same], by rw [← hd, upd_ne hn], ?_⟩⟩⟩
  have hd' : H d = none := by rw [← hd, upd_ne hn]
  have e2 : upd (del H' a) d (.xd (fs.zip vs).reverse) = upd H d (.xd (fs.zip vs).reverse) := by
    funext b
    by_cases h1 : b = d
    · subst h1; rw [upd_same, upd_same]
    · rw [upd_ne h1, upd_ne h1]
      by_cases h2 : b = a
      · subst h2; rw [del_same, ha]
      · rw [del_ne h2, e, upd_ne h2, upd_ne h1, upd_ne h2]
  rw [e2]
  exact h d hd'
end
/-! ### defs that raise -/
structure OkX (P : Program) (w : World) (K : PySem.W.Frag) (mg : Str → Option Value) (base : Heap) (k : Nat) (x : Str) (ps : List Str) (sp : Sp) : Prop where
  ex : ∃ (f : Addr) (fd : FuncData), mg x = some (.ref f) ∧ FnOk P w K mg base (L2.CX P w) k f fd ps sp ∧ Binds K fd ps [] ∧ PySem.W.keepIn K (.ref f) = true
structure OkMX (P : Program) (w : World) (K : PySem.W.Frag) (mg : Str → Option Value) (base : Heap) (k : Nat) (C : Addr) (m : Str) (ps : List Str) (sp : Sp) : Prop where
  ex : ∃ (f : Addr) (fd : FuncData), Cls K C ∧ Meth K C m f ∧ FnOk P w K mg base (L2.CX P w) k f fd ps sp ∧ Binds K fd ps []
def tMethS (C : Addr) (m : Str) (sp : Sp) (E : L2.St → XK) (ta : TE) (t : TA) : TE := fun σ H Q => ta σ H fun x H1 => ∃ a dx fs, x = .ref a ∧ H1 a = some (.ins C dx fs) ∧ fs.lookup m = none ∧ t σ H1 fun vs H2 => sp (x :: vs) H2 Q (E σ)
section
variable {X : Cx} {W : WX} {k : Nat} {C : Addr} {x m : Str} {ps : List Str} {sp : Sp} {p pos apos : Pos} {e o : Expr} {es : List Expr} {ta : TE} {t : TA}
theorem pe_fnX (O : OkX X.prog X.w X.K X.mg X.base k x ps sp) (tk : Takes X W) (hr : Room k X.A) (hg : Gl X x) (ha : PA X (e :: es) t) (hdb : (x == ("__debug__" : Str)) = false := by decide)
    (he : starEach (e :: es) X.env = (false, eval e X.env) :: starEach es X.env := by rfl) (hpl : (backTo pos (starEach es X.env)).any (·.1) = false := by rfl) : PE X (.Call (.Name x p) (e :: es) [] pos) (tCallS sp (WE W) t) := by
  obtain ⟨f, fd, hm, F, hb, hk⟩ := O.ex
  exact pe_callS F hr hg hm hk hb (fun σ => passAt tk σ) ha hdb he hpl
theorem pe_mthX {pl : Sem Bool} (O : OkMX X.prog X.w X.K X.mg X.base k C m ps sp) (tk : Takes X W) (he : PE X o ta) (hr : Room k X.A) (ha : PA X (e :: es) t)
    (hst : starEach (e :: es) X.env = (false, eval e X.env) :: starEach es X.env := by rfl) (hpl : (backTo pos (starEach es X.env)).any (·.1) = false := by rfl)
    (ht : eval (.Call (.Attribute o m apos) (e :: es) [] pos) X.env = (do
      let ov ← eval o X.env
      standAt apos.atName
      let (f, first) ← holding [ov] (getMethod ov m pl)
      callWith pos f first (backTo pos (starEach (e :: es) X.env)) (backToKw pos (keywordEach [] X.env))) := by rfl) :
    PE X (.Call (.Attribute o m apos) (e :: es) [] pos) (tMethS C m sp (WE W) ta t) := by
  obtain ⟨f, fd, c, hm, F, hb⟩ := O.ex
  refine ⟨fun pins s σ H Q I h => ?_⟩
  refine PySem.W.methodCall_KW (pl := pl) (thn (he.run pins s σ H _ I h) fun u s1 ⟨x, H1, I1, rx, a, dx, fs, ex, ea, l, q⟩ => ?_) ht
  subst ex
  obtain rfl : u = Value.ref a := rx
  refine getmeth_ok I1 ea c hm l ?_
  refine PySem.W.callWith_K (first := [.ref a]) (h₀ := X.base) I.ok.mod.kin hm.kp (thn (ha.run pos pins s1 σ H1 _ I1 q) fun us s2 ⟨vs, H2, I2, r, q2⟩ => ⟨I2.kIn, ?_⟩) hst hpl
  exact run_fnS (us := .ref a :: us) (vs := .ref a :: vs) F hr hb (passAt tk σ) I2 (.cons rfl r) q2
end
section
variable {σ : L2.St} {H : Hp} {Q : VK} {ta : TE} {t : TA} {sp : Sp} {W : WX} {C : Addr} {m : Str}
theorem r_callS (h : t σ H fun vs H1 => sp vs H1 Q (fun cls d H' => W cls d σ H')) : tCallS sp (WE W) t σ H Q := h
theorem r_methS (h : ta σ H fun x H1 => ∃ a dx fs, x = .ref a ∧ H1 a = some (.ins C dx fs) ∧ fs.lookup m = none ∧ t σ H1 fun vs H2 => sp (x :: vs) H2 Q (fun cls d H' => W cls d σ H')) : tMethS C m sp (WE W) ta t σ H Q := h
end
/-! ### isinstance of the caught error, which has an own dict -/
def rIsX (K : PySem.W.Frag) (C a : Addr) (cls : Value) (d : Option Addr) : List V → Hp → VK → Prop := fun xs H Q => ∃ (c : V) (cv : Value) (b : Bool) (dd : Addr) (fs : List (Str × V)), xs = [.ref a, c] ∧ cls = .ref C ∧ d = some dd ∧ H dd = some (.xd fs) ∧ (∀ u, RelV c u → u = cv) ∧ PySem.W.kitOne K (.ref C) cv = some b ∧ Q (.bl b) H
end U
namespace PySem.W
open PySem PySem.Spec PySem.Calls PyProof.Rows
section
variable {prog : Program} {w : World} {A : Around} {E : Value → Shared → Prop} {s : Shared} {K : Frag} {x D : Addr} {ox od : Obj}
theorem kin_classD {Q : Option Value → Shared → Prop} (C : L2.ExcC K D) (ic : isClsIn K D = true)
    (X : K.In s.heap) (I : InstAt s.heap x ox D (some od)) (h : Q (some (.ref D)) { s with toks := s.toks + 1 }) : wpAny (model prog w) A (getAttr? (.ref x) "__class__") Q E s := by
  have hf : findObj K D (some od) "__class__" = some (.bind (.builtin "getset_descriptor.__get__") (.builtin "object.__class__")) := findObj_data ic C.ha C.hn C.ht
  obtain ⟨hp, g, d, t, os⟩ := s
  have L0 := I.type (M := model prog w)
  have L1 := looks_findIn (M := model prog w) X C.hg
  have L2 := looks_findIn (M := model prog w) X C.hk
  have L3 := looks_find (M := model prog w) X I hf
  have sub : Looks (model prog w) hp (isInstance (.ref x) (.type "BaseException")) true := L0.andThen (looks_subIn X C.hs)
  have hx0 : (false && onTheHeap (Value.builtin "BaseException.__getattribute__")) = false := rfl
  have hx2 : (Value.builtin "BaseException.__getattribute__" == Value.builtin "object.__getattribute__") = false := by decide +kernel
  have hx1 : (onTheHeap (Value.ref D) && Value.builtin "BaseException.__getattribute__" == Value.builtin "object.__getattribute__") = false := by rw [hx2]; rfl
  unfold getAttr? getAttrBy? getAttrBy
  refine wpAny_bind (wpAny_mkText (wpAny_bind (wpAny_attempt (wpAny_holding (wpAny_bind (L0.at (wpAny_bind (L1.at ?_))))))))
  show wpAny _ _ (if (onTheHeap (Value.ref D) && Value.builtin "BaseException.__getattribute__" == Value.builtin "object.__getattribute__") = true then _ else _) _ _ _
  rw [hx1, if_neg Bool.false_ne_true]
  unfold getAttrByItsOwn hookBefore
  refine wpAny_bind ?_
  rw [if_pos (show onTheHeap (Value.ref D) = true from rfl)]
  refine L2.at ?_
  refine wpAny_bind (wpAny_attempt (wpAny_holding ?_))
  unfold callGetattribute
  rw [hx0, if_neg Bool.false_ne_true]
  unfold boundAndCalled
  rw [PySem.F.excAttr_ValueError.ga.bind (.ref x)]
  refine wpAny_bind (wpAny_pure ?_)
  show wpAny _ _ (call (.builtin "BaseException.__getattribute__") [.ref x, .str "__class__" t]) _ _ _
  refine wpAny_call (codeAny_call_builtin PySem.F.excAttr_ValueError.ga.plain PySem.F.entry_bexc_ga ?_)
  refine @check_slot (model prog w) _ _ ⟨hp, g, d, t + 1, os⟩ "BaseException.__getattribute__" "BaseException" "__getattribute__" (.ref x) [.str "__class__" t] [] _ (by decide +kernel) (by decide +kernel) sub (PySem.F.args_bexc_ga (.ref x) (.str "__class__" t)) ?_
  unfold Builtin.«object.__getattribute__»
  refine wpAny_bind (wpAny_of_eq (a := ((Value.ref x : Value), [Value.str "__class__" t])) (by first | rfl | (simp only [slotArgs]; rfl)) ?_)
  refine wpAny_bind (wpAny_pure (wpAny_bind (L0.at (wpAny_bind (L3.at ?_)))))
  show wpAny _ _ (holding [Value.builtin "object.__class__"] (call (.builtin "getset_descriptor.__get__") [.builtin "object.__class__", .ref x, .ref D]) >>= ret) _ _ _
  refine wpAny_bind (wpAny_holding (wpAny_call (class_get (s := ⟨hp, g, d, t + 1, os⟩) (ox := ox) (od := some od) X I C.hm ?_)))
  refine wpAny_pure ?_
  show wpAny _ _ (handedOut (.ref D)) _ _ _
  rw [handedOut_of (v := .ref D) rfl]
  first
    | exact wpAny_pure (wpAny_pure h)
    | exact wpAny_pure h
    | exact wpAny_pure (wpAny_bind (wpAny_pure (wpAny_pure h)))
theorem kitx_excD (C : L2.ExcC K D) : KitX K (.ref x) (.ref D) (fun h => ∃ od, InstAt h x ox D (some od)) where
  ty := fun _ _ _ ⟨_, I⟩ => I.type
  it := fun _ _ X _ => by
    obtain ⟨cdD, hcD, _⟩ := any_some C.hd
    unfold clsIn at hcD
    split at hcD
    · rename_i c' d' cd' sl' ho
      intro A' Q' E' s' k q
      unfold isType loadHead
      exact wpAny_bind (wpAny_loadPart (k _ _ (X _ _ ho)) (wpAny_pure q))
    · cases hcD
  ne := fun h tp dd its n sl X htp => by
    obtain ⟨cdD, hcD, _⟩ := any_some C.hd
    refine Bool.eq_false_iff.mpr fun q => ?_
    have e : D = tp := Value.ref.inj (beq_iff_eq.mp q)
    subst e
    unfold clsIn at hcD
    split at hcD
    · rename_i c' d' cd' sl' ho
      have z := (X _ _ ho).symm.trans htp
      cases z
    · cases hcD
  ca := fun X ⟨_, I⟩ k => kin_classD C (by unfold isClsIn; obtain ⟨cd, hc, _⟩ := any_some C.hd; rw [hc]; rfl) X I k
end
end PySem.W
namespace U
open PySem PySem.Spec PyProof.Rows L2
theorem call_isX {X : Cx} {a C : Addr} {cls : Value} {d : Option Addr} {oe : Obj} {pn : List (Addr × Obj)} (T : ExcC X.K C) (hz : Zc cls d oe) (hf : ∃ vs, oe.data = .fields vs) : CallR (X.suite a ((a, oe) :: pn)) (.builtin "isinstance") (rIsX X.K C a cls d) := by
  intro pins s σ H xs us Q I r h
  obtain ⟨c, cv, b, dd, fs, rfl, rfl, rfl, ea, hcv, e, q⟩ := h
  cases r with
  | cons rx rr =>
    cases rr with
    | cons rt rr =>
      cases rr
      cases rx
      have ec := hcv _ rt
      subst ec
      obtain ⟨hget, _⟩ := I.pin (a, oe) (List.mem_append.mpr (.inl List.mem_cons_self))
      obtain ⟨vs, hv⟩ := hf
      have hx : ObjOk X.prog X.w H s.heap dd (.xd fs) := I.hok dd _ ea
      obtain ⟨mA, hns, hr⟩ := hx
      obtain ⟨od, ho, hl⟩ := lookIn_ns hns
      have J : PySem.W.InstAt s.heap a oe C (some od) := ⟨hget, hz.1, by unfold PySem.W.notCls; rw [hv] <;> rfl, by rw [hz.2]; exact ho⟩
      exact PySem.W.kia_one (PySem.W.kitx_excD (ox := oe) T) I.kIn ⟨od, J⟩ e (fun z => nomatch z) fun tk => ⟨.bl b, H, I.kept (t' := tk) fun _ _ z => z, rfl, q⟩
/-! ### defs called where an error is handled: no loops in them, nothing raised -/
def cxQ (P : Program) (w : World) (K : PySem.W.Frag) (mg : Str → Option Value) (base : Heap) (N : List Str) (qual : Str) (scope : Scope) (f : Addr) (cd : Value) (A : Around) (outer : List Env) (s : Shared) (H : Hp) (E : XK) : Cx :=
  { cxOf CX0 P w K mg base N qual scope f cd A outer s H E with calm := false }
structure FnQ (P : Program) (w : World) (K : PySem.W.Frag) (mg : Str → Option Value) (base : Heap) (k : Nat) (f : Addr) (fd : FuncData) (ps : List Str) (sp : Sp) : Prop where
  len : ∀ vs H Q E, sp vs H Q E → vs.length = ps.length
  run : ∀ (A : Around) (outer : List Env) (s : Shared) (H : Hp) (args : Args) (us : List Value) (vs : List V) (Q : VK) (E : XK), L2H.RoomH k A → Env0 P w K mg base A outer s H → BindsTo s fd args (ps.zip us) → Vals vs us → sp vs H Q E →
    codeAny (model P w) A (.call (.ref f) args) (CR CX0 outer P w H s Q E) s
theorem inv_startQ {P : Program} {w : World} {K : PySem.W.Frag} {mg : Str → Option Value} {base : Heap} {N ps : List Str} {qual : Str} {scope : Scope} {f : Addr} {cd : Value} {A : Around} {outer : List Env} {s s1 : Shared} {H : Hp} {E : XK} {us : List Value} {vs : List V}
    (S : FnScope N ps scope) (e0 : Env0 P w K mg base A outer s H) (hl : vs.length = ps.length) (r : Vals vs us)
    (x : InCallC s s.heap.objs.size (bindL (envOfC qual scope s.heap.objs.size f cd).kindOf (ps.zip us) fun _ => none) (cellsFrom (s.heap.objs.size + 1) scope.names []) (bindC (envOfC qual scope s.heap.objs.size f cd).kindOf (ps.zip us) fun _ => none) s1) :
    Inv (cxQ P w K mg base N qual scope f cd A outer s H E) [] (L2.start N vs) H s1 := by
  have hpl : ps.length ≤ N.length := by have := congrArg List.length S.pre; rw [List.length_take] at this; omega
  obtain ⟨h1, tk, rfl, hk⟩ := x.done
  have noA : ∀ b : Addr, b ∉ (cxQ P w K mg base N qual scope f cd A outer s H E).ex := fun b z => absurd (show b ∈ ([] : List Addr) from z) (by simp)
  refine ⟨⟨e0.mod, S.kind, rfl, rfl, Nat.le_refl _, fun y z c h1 h2 => ?_, fun y hy => ?_, fun y c _ h => ?_, (fun z => Bool.noConfusion (show false = true from z)), Around.frames_deeper e0.frames, .inr ⟨rfl, rfl⟩, fun b z => absurd z (noA b), e0.bs, e0.bsz, fun b _ _ => noA b, fun b z => absurd z (noA b), e0.funs, e0.frf⟩,
    rfl, e0.bare, Un.kept hk, ⟨_, x.toInCall.ns, fun i y v h1 h2 h3 => ?_⟩, fun y c h => ⟨_, x.cell y c h⟩, e0.hok.fresh (Nat.le_refl _), fun y c h => ?_, fun p hp => absurd (show p ∈ ([] : List (Addr × Obj)) from hp) (by simp), e0.hok.kept hk, ?_⟩
  · exact name_of_addr x.apart (PySem.mem_of_lookup h1) (PySem.mem_of_lookup h2)
  · have hy : scope.names.lookup y = some .cell ∨ scope.names.lookup y = some .free := hy
    rcases hy with hy | hy
    · exact cell_has hy
    · exact absurd rfl (S.nofree _ (PySem.mem_of_lookup hy))
  · exact Nat.le_of_lt (x.above y c (PySem.mem_of_lookup h))
  · have hi : i < vs.length := by
      unfold L2.start at h2
      by_cases hi : i < vs.length
      · exact hi
      · rw [List.getElem?_append_right (by simpa using hi)] at h2
        rw [List.getElem?_replicate] at h2
        split at h2 <;> cases h2
    have ha : vs[i]? = some v := by
      unfold L2.start at h2
      rw [List.getElem?_append_left (by simpa using hi), List.getElem?_map] at h2
      cases e : vs[i]? with
      | none => rw [e] at h2; cases h2
      | some a => rw [e] at h2; cases h2; rfl
    obtain ⟨u, hu, rv⟩ := r.get ha
    have hp : ps[i]? = some y := by
      rw [← S.pre, List.getElem?_take_of_lt (by omega)]; exact h1
    have ndP : ps.Nodup := by rw [← S.pre]; exact S.nd.sublist (List.take_sublist _ _)
    refine ⟨u, rv, ?_⟩
    rcases S.par y (List.mem_of_getElem? hp) with k | k
    · exact .inl ⟨k, bindL_get ndP hp hu k⟩
    · obtain ⟨c, e⟩ := cell_has (n := s.heap.objs.size + 1) k
      refine .inr ⟨.inl k, c, e, ?_⟩
      have q := x.cell y c e
      rw [bindC_get ndP hp hu (by show scope.names.lookup y ≠ _; rw [k]; decide)] at q
      exact q
  · exact e0.hok.fresh (Nat.le_of_lt (x.above y c (PySem.mem_of_lookup h)))
  · unfold L2.start
    show _ = N.length
    rw [List.length_append, List.length_map, List.length_replicate]
    omega
theorem fn_ofQ {P : Program} {w : World} {K : PySem.W.Frag} {mg : Str → Option Value} {base : Heap} {k : Nat} {f : Addr} {name qual : Str} {params : Arguments} {body : List Stmt} {scope : Scope} {dvs : List V} {kws : List (Str × V)} {fd : FuncData}
    {N ps : List Str} {sp : Sp} (F : FunD K name qual params body scope dvs kws f fd) (S : FnScope N ps scope)
    (len : ∀ vs H Q E, sp vs H Q E → vs.length = ps.length)
    (hbody : ∀ (cdv : Value) (A : Around) (outer : List Env) (s : Shared) (H : Hp) (vs : List V) (Q : VK) (E : XK), L2H.RoomH k (A.deeper (envOfC qual scope s.heap.objs.size f cdv)) → sp vs H Q E →
      ∃ t, PSs (cxQ P w K mg base N qual scope f cdv A outer s H E) body t ∧ t { nx := fun _ H' => Q .non H', rt := Q } (L2.start N vs) H) :
    FnQ P w K mg base (k + 1) f fd ps sp := by
  obtain ⟨oc, od, dV, kV, doc, pm, an, cdv, ct, osl, rfl, lk, hcd, _, _⟩ := F.ex
  refine ⟨len, fun A outer s H args us vs Q E hr e0 hb r hsp => ?_⟩
  have hl := len _ _ _ _ hsp
  have KX : K.In s.heap := e0.mod.kin.keeps fun b o e => (e0.bs b o e).1
  have lim : s.heap.NoLimit := e0.mod.nolimit.keeps fun b o e => (e0.bs b o e).1
  have hkind : ∀ y ∈ ps.zip us, scope.names.lookup y.1 = some .local ∨ (scope.names.lookup y.1 = some .cell ∧ ((cellsFrom (s.heap.objs.size + 1) scope.names []).lookup y.1).isSome = true) := fun ⟨n, v⟩ hy => by
    rcases S.par n (List.of_mem_zip hy).1 with q | q
    · exact .inl q
    · exact .inr ⟨q, PySem.W.cellsFrom_some _ _ _ (.inl q)⟩
  refine codeAny_call_function hr.depth (KX _ _ lk) rfl S.co S.gen rfl (PySem.W.codeRec_of KX hcd) (hb _ _ _ _ ?_)
  refine wpAny_newFunctionEnv_cells S.kind hkind fun env he s1 x => ?_
  subst he
  refine ⟨lim.keeps x.toInCall.keep, codeAny_func ?_⟩
  obtain ⟨t, ht, hq⟩ := hbody cdv A outer s H vs Q E (hr.deeper _) hsp
  have I : Inv (cxQ P w K mg base N qual scope f cdv A outer s H E) [] (L2.start N vs) H s1 := inv_startQ S e0 hl r x
  refine wpAny_mono (ht.run [] s1 (L2.start N vs) H _ I hq) (fun fl s' hs => ?_) fun e s' hs => hs
  cases fl with
  | ret u =>
    obtain ⟨v, σ', H', J, rv, q⟩ := hs
    exact ⟨v, H', J.os, J.bare, J.base, J.hok, rv, q⟩
  | next =>
    obtain ⟨σ', H', J, q⟩ := hs
    exact ⟨V.non, H', J.os, J.bare, J.base, J.hok, rfl, q⟩
  | brk =>
    obtain ⟨_, _, _, q⟩ := hs
    exact False.elim q
  | cont =>
    obtain ⟨_, _, _, q⟩ := hs
    exact False.elim q
structure OkQ (P : Program) (w : World) (K : PySem.W.Frag) (mg : Str → Option Value) (base : Heap) (k : Nat) (x : Str) (ps : List Str) (sp : Sp) : Prop where
  ex : ∃ (f : Addr) (fd : FuncData), mg x = some (.ref f) ∧ FnQ P w K mg base k f fd ps sp ∧ Binds K fd ps [] ∧ PySem.W.keepIn K (.ref f) = true
theorem pe_fnQ {X : Cx} {k : Nat} {x : Str} {ps : List Str} {sp : Sp} {p pos : Pos} {e : Expr} {es : List Expr} {t : TA} (O : OkQ X.prog X.w X.K X.mg X.base k x ps sp) (hr : L2H.RoomH k X.A) (hg : Gl X x) (ha : PA X (e :: es) t) (hdb : (x == ("__debug__" : Str)) = false := by decide)
    (he : starEach (e :: es) X.env = (false, eval e X.env) :: starEach es X.env := by rfl) (hpl : (backTo pos (starEach es X.env)).any (·.1) = false := by rfl) : PE X (.Call (.Name x p) (e :: es) [] pos) (tCall sp [] E0 t) := by
  obtain ⟨f, fd, hm, F, hb, hk⟩ := O.ex
  refine ⟨fun pins s σ H Q I h => ?_⟩
  refine wpAny_Call_Name_kw (ld_glob I hg hm ?_ hdb)
  refine PySem.W.callWith_K (h₀ := X.base) I.ok.mod.kin hk (thn (ha.run pos pins s σ H _ I h) fun us s1 ⟨vs, H1, I1, r, q⟩ => ⟨I1.kIn, ?_⟩) he hpl
  have q : sp vs H1 Q E0 := by
    have q : sp (vs ++ []) H1 Q E0 := q
    rw [List.append_nil] at q
    exact q
  have hl : us.length = ps.length := by rw [← r.length]; exact F.len _ _ _ _ q
  have b := hb s1 us I1.kIn (by rw [List.append_nil]; exact hl)
  rw [List.append_nil] at b
  refine wpAny_call (codeAny_mono (F.run X.A X.stack s1 H1 ⟨us, []⟩ us vs Q E0 hr I1.env0 b r q) fun r s' hq => ?_)
  cases r with
  | error e => exact False.elim hq
  | ok fl =>
    cases fl with
    | ret u => exact I1.after hq
    | next => exact False.elim hq
    | brk => exact False.elim hq
    | cont => exact False.elim hq
/-- try: .. except x as n: .. -/
def tTryAs (K : PySem.W.Frag) (c : Value) (i : Nat) (tb : WX → TS) (ts : Addr → Value → Option Addr → TS) (Wout : WX) : TS := fun D σ H => tb (wAs K c i ts Wout D) D σ H
def tTryOnly (K : PySem.W.Frag) (c : Value) (tb : WX → TS) (ts : Addr → Value → Option Addr → TS) (Wout : WX) : TS := fun D σ H => tb (wOnly K c ts Wout D) D σ H
theorem _root_.L2H.RoomH.units {k : Nat} {A : Around} (r : L2H.RoomH k A) : A.units + 64 < cLine := by have := r.un; omega
theorem roomQ {k j : Nat} {A : Around} {e : Option Value} (r : Room k A) (h : j ≤ k) : L2H.RoomH j (A.mark e) := ⟨by have := r.dp; show A.depth + 3 * j + 5 < _; omega, by have := r.un; show A.units + 16 * j + 200 < _; omega⟩
theorem SaysU.tfact {file : Str} {fa : List He.Fa} {fn : List He.DefD} {en : List ErrD} {ts : List (PySem.W.Frag → Bool)} {K : PySem.W.Frag} (c : SaysU file fa fn en (fun K => ts.all fun f => f K) K) (i : Nat) {f : PySem.W.Frag → Bool} (h : ts[i]? = some f := by rfl) : f K = true :=
  List.all_eq_true.mp c.tst f (List.mem_of_getElem? h)
section
variable {X : Cx} {x n : Str} {c : Value} {i : Nat} {body suite : List Stmt} {b₀ : Stmt} {np pos pos' : Pos} {tb : WX → TS} {ts : Addr → Value → Option Addr → TS} {Wout : WX}
theorem ps_tryAs (hs : X.stack = X.env :: X.outer) (hf : X.env.frame = some X.env.locals) (hN : X.N.Nodup) (hi : X.N[i]? = some n) (hln : X.env.kindOf n = some .local) (hc : Names X x c) (tk : Takes X Wout)
    (hb : ∀ (W : WX) (pn : List (Addr × Obj)) (xe : Value → Shared → Prop), Takes (X.tr pn xe) W → PassesOwn (model X.prog X.w) X.A X.env xe → PSs (X.tr pn xe) body (tb W))
    (hsu : ∀ (a : Addr) (oe : Obj) (cls : Value) (d : Option Addr) (pn : List (Addr × Obj)), Zc cls d oe → (∃ vs, oe.data = .fields vs) → PSs (X.suite a ((a, oe) :: pn)) (b₀ :: suite) (ts a cls d)) :
    PS X (.Try body [.ExceptHandler (some (.Name x np)) (some n) (b₀ :: suite) pos'] [] [] pos) (tTryAs X.K c i tb ts Wout) := ps_try_as hs hf hN hi hln hc tk hb hsu
theorem ps_tryOnly (hs : X.stack = X.env :: X.outer) (hf : X.env.frame = some X.env.locals) (hc : Names X x c) (tk : Takes X Wout)
    (hb : ∀ (W : WX) (pn : List (Addr × Obj)) (xe : Value → Shared → Prop), Takes (X.tr pn xe) W → PassesOwn (model X.prog X.w) X.A X.env xe → PSs (X.tr pn xe) body (tb W))
    (hsu : ∀ (a : Addr) (oe : Obj) (cls : Value) (d : Option Addr) (pn : List (Addr × Obj)), Zc cls d oe → (∃ vs, oe.data = .fields vs) → PSs (X.suite a ((a, oe) :: pn)) (b₀ :: suite) (ts a cls d)) :
    PS X (.Try body [.ExceptHandler (some (.Name x np)) none (b₀ :: suite) pos'] [] [] pos) (tTryOnly X.K c tb ts Wout) := ps_try_only hs hf hc tk hb hsu
end
end U
/-! U12: ord; more methods of lists; own operators. -/
namespace U
open PySem PySem.Spec PyProof.Rows L2
def uOrd : RC := fun xs H Q => match xs with
  | [.str x] => x.length = 1 ∧ Q (.int (x.cps.getD 0 0 : Nat)) H
  | _ => False
theorem c_ord {X : Cx} : CallR X (.builtin "ord") uOrd := by
  intro pins s σ H xs us Q I r h
  unfold uOrd at h
  split at h
  · exact call_ord pins s σ H _ us Q I r ⟨_, rfl, h⟩
  · exact h.elim
theorem r_ord {H : Hp} {Q : VK} {c : Nat} (h : Q (.int c) H) : uOrd [.str ⟨#[c]⟩] H Q := ⟨rfl, h⟩
def uPop0 : RM := fun x vs H Q => match x, vs with
  | .ref l, [] => ∃ xs y, H l = some (.lst xs) ∧ xs[xs.length - 1]? = some y ∧ Q y (upd H l (.lst xs.dropLast))
  | _, _ => False
theorem m_pop0 {X : Cx} : MtM X "list.pop" uPop0 := by
  intro pins s σ H x xs v us Q I rx rs h
  unfold uPop0 at h
  split at h
  · obtain ⟨xs, y, h1, h2, q⟩ := h
    exact mt_pop pins s σ H _ _ v us Q I rx rs ⟨_, xs, y, rfl, rfl, h1, h2, q⟩
  · exact h.elim
def uPopAt : RM := fun x vs H Q => match x, vs with
  | .ref l, [.int i] => ∃ xs k y, H l = some (.lst xs) ∧ -(2 ^ 63) ≤ i ∧ i < 2 ^ 63 ∧ seqIndex? i xs.length = some k ∧ xs[k]? = some y ∧ Q y (upd H l (.lst (xs.eraseIdx k)))
  | _, _ => False
theorem m_popAt {X : Cx} : MtM X "list.pop" uPopAt := by
  intro pins s σ H x xs v us Q I rx rs h
  unfold uPopAt at h
  split at h
  · obtain ⟨xs, k, y, h1, h2, h3, h4, h5, q⟩ := h
    exact mt_popAt pins s σ H _ _ v us Q I rx rs ⟨_, xs, _, k, y, rfl, rfl, h1, h2, h3, h4, h5, q⟩
  · exact h.elim
def uExtend : RM := fun x vs H Q => match x, vs with
  | .ref l, [.ref b] => ∃ xs zs, H l = some (.lst xs) ∧ H b = some (.lst zs) ∧ xs.length + zs.length ≤ sizeLine ∧ Q .non (upd H l (.lst (xs ++ zs)))
  | _, _ => False
theorem m_extend {X : Cx} : MtM X "list.extend" uExtend := by
  intro pins s σ H x xs v us Q I rx rs h
  unfold uExtend at h
  split at h
  · obtain ⟨xs, zs, h1, h2, h3, q⟩ := h
    exact mt_extend pins s σ H _ _ v us Q I rx rs ⟨_, _, xs, zs, rfl, rfl, h1, h2, h3, q⟩
  · exact h.elim
def uInsert : RM := fun x vs H Q => match x, vs with
  | .ref l, [.int i, y] => ∃ xs, H l = some (.lst xs) ∧ xs.length < sizeLine ∧ 0 ≤ i ∧ i < 2 ^ 63 ∧ Q .non (upd H l (.lst (xs.take i.toNat ++ [y] ++ xs.drop i.toNat)))
  | _, _ => False
theorem m_insert {X : Cx} : MtR X "list.insert" uInsert := by
  intro pins s σ H x xs v us Q I rx rs h
  unfold uInsert at h
  split at h
  · obtain ⟨xs, h1, h2, h3, h4, q⟩ := h
    exact mt_insert pins s σ H _ _ v us Q I rx rs ⟨_, xs, _, _, rfl, rfl, h1, h2, h3, h4, q⟩
  · exact h.elim
/-! ### x + y by the class' own __add__ -/
/-- a class of the program with an own method for an operator -/
structure OkOp (P : Program) (w : World) (K : PySem.W.Frag) (mg : Str → Option Value) (base : Heap) (k : Nat) (C : Addr) (m : Str) (ps : List Str) (sp : Sp) : Prop where
  ex : ∃ (f : Addr) (fd : FuncData), PySem.W.findIn K (.ref C) m = some (some (.ref f)) ∧ PySem.W.isFn K (.ref f) = true ∧ FnOk P w K mg base CX0 k f fd ps sp ∧ Binds K fd ps []
theorem OkM.op {P : Program} {w : World} {K : PySem.W.Frag} {mg : Str → Option Value} {base : Heap} {k : Nat} {C : Addr} {m : Str} {ps : List Str} {sp : Sp} (O : OkM P w K mg base k C m ps sp) : OkOp P w K mg base k C m ps sp := by
  obtain ⟨f, fd, c, hm, F, hb⟩ := O.ex
  exact ⟨f, fd, hm.at_, hm.fn, F, hb⟩
def rOwn2 (C : Addr) (sp : Sp) : R2 := fun x y H Q => ∃ a dx fs b dy gs, x = .ref a ∧ y = .ref b ∧ H a = some (.ins C dx fs) ∧ H b = some (.ins C dy gs) ∧ sp [x, y] H Q E0
theorem op_own2 {X : Cx} {op : Operator} {k : Nat} {C : Addr} {ps : List Str} {sp : Sp} (O : OkOp X.prog X.w X.K X.mg X.base k C (PySem.dunder op.info.2) ps sp) (hc : PySem.W.selfFirst X.K C = true) (hr : Room k X.A) : OpR X (binaryOp op) (rOwn2 C sp) := by
  obtain ⟨f, fd, hs, hf, F, hb⟩ := O.ex
  intro pins s σ H x y v u Q I rx ry h
  obtain ⟨a, dx, fs, b, dy, gs, rfl, rfl, ha, hbb, q⟩ := h
  cases (show v = Value.ref a from rx)
  cases (show u = Value.ref b from ry)
  obtain ⟨mA, J, _⟩ := ins_get I.hok ha
  obtain ⟨mB, J', _⟩ := ins_get I.hok hbb
  obtain ⟨od, J, _⟩ := J.look
  obtain ⟨od', J', _⟩ := J'.look
  obtain ⟨m, hF⟩ := I.fr
  refine PySem.W.binop_K (op := op) hF I.ok.mod.kin J J'.type hc hs hf ?_
  refine wpAny_mono (run_fnS (CX := CX0) (E := fun _ => E0) (us := [.ref a, .ref b]) (vs := [.ref a, .ref b]) F hr hb (fun _ _ _ _ _ _ h => h.elim) I (.cons rfl (.cons rfl .nil)) q) (fun w s' z => ?_) fun _ _ x => x
  obtain ⟨z', H', I', rz, qz⟩ := z
  exact SlX.cmpback rz ⟨z', H', I', rz, qz⟩
end U
/-! U13: enumerate(text). -/
namespace U
open PySem PySem.Spec L2
/-- the signs of a text with their places, in new pairs -/
def Ites (x : Str) : It := ⟨fun i _ => i < x.cps.size, fun i H v H' => ∃ T c, v = .ref T ∧ H T = none ∧ H' = upd H T (.tup [.int (i : Nat), .str ⟨#[c]⟩]) ∧ x.cps[i]? = some c, fun i _ => x.cps.size ≤ i⟩
theorem turn_enumS {P : Program} {w : World} {K : PySem.W.Frag} {elts : List Expr} {kk : Nat} {tpos : Pos} (x : Str) (t : Tok) (e it : Addr) :
    Turn P w K (.Tuple elts kk tpos) (Ites x) [e, it] e (fun i h => (∃ old, IsEnum h e it ((i : Nat) : Int) old) ∧ h.IsStrIter it (strIterType x) x t i ∧ e ≠ it) where
  mem := by simp
  obj := fun i h st b hb => by
    obtain ⟨⟨old, he⟩, ⟨o, ho, hc, hd⟩, _⟩ := st
    have e' : b = e ∨ b = it := by simpa using hb
    rcases e' with z | z
    · rw [z]; exact ⟨_, he, fun v q => nomatch q⟩
    · rw [z]; exact ⟨o, ho, fun v q => by rw [hd] at q; cases q⟩
  keep := fun i h h' st k => let ⟨⟨old, he⟩, ⟨o, ho, r⟩, hne⟩ := st; ⟨⟨old, k e (by simp) _ he⟩, ⟨o, k it (by simp) o ho, r⟩, hne⟩
  item := by
    intro X hP hw hK hc i pins s σ H E I hf st hg
    subst hP hw hK
    obtain ⟨⟨old, he⟩, hit, hne⟩ := st
    have hlt : i < x.cps.size := hg
    have hel : e < s.heap.objs.size := Heap.lt_size he
    have hil : it < s.heap.objs.size := by obtain ⟨_, q, _⟩ := hit; exact Heap.lt_size q
    refine wpAny_pyNext_enum_itemC (Draws.text (A := X.A.in1) (I.ok.hd hc) it x t) he hit hlt hne (by simpa using hne) fun y h' tk hP ho hit' hT hsz hk => ?_
    obtain ⟨c, u, hcx, rfl⟩ := hP
    refine ⟨_, rfl, wpAny_letOwnedTupleGo_enum (s := { s with heap := h', toks := tk + 1 }) ho fun h'' he' sb => ?_⟩
    have hT2 : h''.get? s.heap.objs.size = some { cls := .type "tuple", data := .seq #[.int i tk, .str ⟨#[c]⟩ u] } := (sb.2 _ (Nat.ne_of_gt hel)).trans hT
    have new : ObjOk X.prog X.w (upd H s.heap.objs.size (.tup [.int (i : Nat), .str ⟨#[c]⟩])) h'' s.heap.objs.size (.tup [.int (i : Nat), .str ⟨#[c]⟩]) :=
      ⟨by show 2 ≤ sizeLine; decide, [.int i tk, .str ⟨#[c]⟩ u], .cons ⟨_, rfl⟩ (.cons ⟨_, rfl⟩ .nil), ⟨_, hT2, rfl, _, rfl⟩⟩
    have I1 : Inv X pins σ (upd H s.heap.objs.size (.tup [.int (i : Nat), .str ⟨#[c]⟩])) { s with heap := h'', toks := tk + 1 } :=
      I.turnedNew (ch := [e, it]) (fun b ob hb q => (sb.2 b (fun z => hb (by simp [z]))).trans (hk b ob (fun z => hb (by simp [z])) (fun z => hb (by simp [z])) q)) hf (Nat.le_refl _) new
    refine ⟨.ref s.heap.objs.size, _, I1, rfl, ⟨_, c, rfl, I.hok.fresh (Nat.le_refl _), rfl, hcx⟩, ⟨⟨.str ⟨#[c]⟩ u, ?_⟩, ?_, hne⟩, fun b hb => ?_⟩
    · have e1 : ((i + 1 : Nat) : Int) = (i : Int) + 1 := by omega
      rw [e1]; exact he'
    · obtain ⟨o, q, r⟩ := hit'
      exact ⟨o, (sb.2 it (Ne.symm hne)).trans q, r⟩
    · have hb' : b < s.heap.objs.size := by
        have e' : b = e ∨ b = it := by simpa using hb
        rcases e' with z | z
        · rw [z]; exact hel
        · rw [z]; exact hil
      rw [upd_ne (Nat.ne_of_lt hb')]
      exact (hf b hb).1
  done := by
    intro X hP hw hK hc i pins s σ H E I hf st hg
    subst hP hw hK
    obtain ⟨⟨old, he⟩, hit, hne⟩ := st
    obtain ⟨f0, f1, f2, f3, f4, f5⟩ := hf it (by simp)
    have hle : x.cps.size ≤ i := hg
    by_cases hi : i = x.cps.size
    · subst hi
      exact wpAny_pyNext_enum_endD (Draws.text (A := X.A.in1) (I.ok.hd hc) it x t) he hit fun h' eb => ⟨rfl, I.turned (t' := s.toks) (fun b o hb q => eb b o hb q) f0 f1 f3 f4 f5⟩
    · have D : Draws X.prog X.w X.A.in1 it [it] i (fun _ _ => False) (fun j h => j = i ∧ h.IsStrIter it (strIterType x) x t i) := by
        refine ⟨fun j h st => let ⟨_, o, ho, _⟩ := st; ⟨o, ho⟩, fun j h h' st hk => let ⟨e, o, ho, r⟩ := st; ⟨e, o, hk it (by simp) o ho, r⟩, fun j s Q E hj st _ => absurd st.1 (by omega), fun s Q E st hE => ?_⟩
        obtain ⟨_, st⟩ := st
        have hx : x.cps[i]? = none := Array.getElem?_eq_none hle
        cases ha : x.cps.all (· < 128)
        · have e : strIterType x = "str_iterator" := by simp [strIterType, ha]
          rw [e] at st
          exact wpAny_nextOf_wide_end (I.ok.hd hc) st hx hE
        · have e : strIterType x = "str_ascii_iterator" := by simp [strIterType, ha]
          rw [e] at st
          exact wpAny_nextOf_ascii_end (I.ok.hd hc) st hx hE
      exact wpAny_pyNext_enum_endD D he ⟨rfl, hit⟩ fun h' eb => ⟨rfl, I.turned (t' := s.toks) (fun b o hb q => eb b o hb q) f0 f1 f3 f4 f5⟩
  self := fun A i s Q E st h => let ⟨⟨_, he⟩, _⟩ := st; wpAny_pyIter_enum he h
def iEnumS (ta : TA) : TI := fun σ H R => ta σ H fun vs H1 => ∃ x, vs = [.str x] ∧ R (Ites x) H1
theorem pi_enumS {X : Cx} {e : Expr} {ta : TA} {p pos tpos : Pos} {elts : List Expr} {kk : Nat} (hg : Gl X "enumerate") (hm : X.mg "enumerate" = none) (ha : PA X [e] ta) (hs : starEach [e] X.env = [(false, eval e X.env)] := by rfl) :
    PI X (.Tuple elts kk tpos) (.Call (.Name "enumerate" p) [e] [] pos) (iEnumS ta) := by
  refine ⟨fun pins s σ H R I h => ?_⟩
  refine PyProof.Rows.Call_ (ld_blt I hg hm PyProof.Rows.boot_enumerate (PyProof.Rows.callWith_type1 (thn (ha.run pos pins s σ H _ I h) fun us s1 ⟨vs, H1, I1, r1, q1⟩ => ?_) hs rfl))
  obtain ⟨x, ex, q⟩ := q1
  subst ex
  cases r1 with
  | cons r rr =>
    cases rr
    obtain ⟨t, rfl⟩ := r
    refine call_enumerate_str fun h' he hit hsz hk => wpAny_pyIter_enum he ?_
    have I2 : Inv X pins σ H1 { s1 with heap := h' } := I1.kept (t' := s1.toks) hk
    refine ⟨s1.heap.objs.size + 1, [s1.heap.objs.size + 1, s1.heap.objs.size], _, _, H1, rfl, I2, turn_enumS x t (s1.heap.objs.size + 1) s1.heap.objs.size, ⟨⟨.none, he⟩, hit, Nat.succ_ne_self _⟩, fun b hb => ?_, q⟩
    have e' : b = s1.heap.objs.size + 1 ∨ b = s1.heap.objs.size := by simpa using hb
    have hle : s1.heap.objs.size ≤ b := by
      rcases e' with z | z
      · rw [z]; exact Nat.le_add_right _ _
      · rw [z]; exact Nat.le_refl _
    exact I1.fpOk hle (I1.hok.fresh hle)
section
variable {σ : L2.St} {H : Hp} {D : Ends} {ta : TA} {R : It → Hp → Prop}
theorem r_enumS (h : ta σ H fun vs H1 => ∃ x, vs = [.str x] ∧ R (Ites x) H1) : iEnumS ta σ H R := h
theorem r_enumSv {z : Str} {P : Str → Prop} (h : P z) : ∃ x, [V.str z] = [V.str x] ∧ P x := ⟨z, rfl, h⟩
/-- over enumerate(text) -/
theorem f_enumS {z : Str} {g : TG} {tb : TS} (P : Nat → L2.St → Hp → Prop) (h0 : P 0 σ H)
    (step : ∀ i (c : Nat) σ H T H', z.cps.toList[i]? = some c → P i σ H → H T = none → H' = upd H T (.tup [.int (i : Nat), .str ⟨#[c]⟩]) → g (.ref T) σ H' fun σ2 H2 => tb { D with nx := P (i + 1), ct := P (i + 1), bk := D.nx } σ2 H2) (done : ∀ σ H, P z.cps.toList.length σ H → D.nx σ H) :
    ∃ W : Nat → Nat → L2.St → Hp → Prop, (∃ m, W 0 m σ H) ∧ ∀ i m σ H, W i m σ H →
      ((Ites z).stop i H ∧ D.nx σ H) ∨ ((Ites z).go i H ∧ ∃ N : L2.St → Hp → Prop, (∀ σ' H', N σ' H' → ∃ m', m' < m ∧ W (i + 1) m' σ' H') ∧ ∀ x H', (Ites z).yld i H x H' → g x σ H' fun σ2 H2 => tb { D with nx := N, ct := N, bk := D.nx } σ2 H2) :=
  l_for P h0 (fun i σ H h p => by show i < z.cps.size; simpa using h) (fun _ _ _ => by show z.cps.size ≤ _; simp) (fun i σ H h p x H' y => by
    obtain ⟨T, c, rfl, hT, e, hc⟩ := y
    exact step i c σ H T H' (by simpa using hc) p hT e) done
end
section
variable {K : PySem.W.Frag} {σ : L2.St} {H : Hp} {Q : VK} {D : Ends} {c : Value} {i : Nat} {tb : WX → TS} {ts : Addr → Value → Option Addr → TS} {Wout : WX} {cls : Value} {d : Option Addr} {a C : Addr} {te : TE} {f : Str}
theorem r_tryAs (h : tb (wAs K c i ts Wout D) D σ H) : tTryAs K c i tb ts Wout D σ H := h
theorem r_tryOnly (h : tb (wOnly K c ts Wout D) D σ H) : tTryOnly K c tb ts Wout D σ H := h
theorem r_wAs (hx : PySem.W.exmOne K cls c = some true) (h : ∀ a, H a = none → ts a cls d { nx := fun σ' H' => D.nx (σ'.set i none) H', rt := D.rt, bk := fun σ' H' => D.bk (σ'.set i none) H', ct := fun σ' H' => D.ct (σ'.set i none) H' } (σ.set i (some (.ref a))) H) : wAs K c i ts Wout D cls d σ H :=
  ⟨true, hx, fun _ => h, fun z => by cases z⟩
theorem r_wAsN (hx : PySem.W.exmOne K cls c = some false) (h : Wout cls d σ H) : wAs K c i ts Wout D cls d σ H := ⟨false, hx, (fun z => by cases z), fun _ => h⟩
theorem r_wOnly (hx : PySem.W.exmOne K cls c = some true) (h : ∀ a, H a = none → ts a cls d D σ H) : wOnly K c ts Wout D cls d σ H := ⟨true, hx, fun _ => h, fun z => by cases z⟩
/-- the field of the caught error: its class, its dict are known -/
theorem r_xf {dd : Addr} {fs : List (Str × V)} {v : V} (h : te σ H fun x H1 => x = .ref a ∧ cls = .ref C ∧ ∃ (dd : Addr) (fs : List (Str × V)) (v : V), d = some dd ∧ H1 dd = some (.xd fs) ∧ fs.lookup f = some v ∧ Q v H1) : tXf a cls d C f te σ H Q := h
theorem r_isX {b : Bool} {cv : Value} {x : V} {dd : Addr} {fs : List (Str × V)} (hd : H dd = some (.xd fs)) (hr : ∀ u, RelV x u → u = cv) (hk : PySem.W.kitOne K (.ref C) cv = some b) (h : Q (.bl b) H) : rIsX K C a (.ref C) (some dd) [.ref a, x] H Q :=
  ⟨x, cv, b, dd, fs, rfl, rfl, rfl, hd, hr, hk, h⟩
theorem relRef {p : Addr} : ∀ u, RelV (.ref p) u → u = .ref p := fun u h => h
theorem relTy {n : String} : ∀ u, RelV (.ty n) u → u = .type n := fun u h => h
end
theorem r_gT2v {K : PySem.W.Frag} {H : Hp} {σ : L2.St} {p : Addr} {x y : V} {i j : Nat} {R : L2.St → Hp → Prop} (h : SqT K H p [x, y]) (q : R ((σ.set i (some x)).set j (some y)) H) :
    gTup K 2 (gCons (gName i) (gCons (gName j) gNil)) (.ref p) σ H R := ⟨p, _, rfl, h, rfl, _, _, rfl, _, _, rfl, rfl, q⟩
theorem r_gT3v {K : PySem.W.Frag} {H : Hp} {σ : L2.St} {p : Addr} {x y z : V} {i j k : Nat} {R : L2.St → Hp → Prop} (h : SqT K H p [x, y, z]) (q : R (((σ.set i (some x)).set j (some y)).set k (some z)) H) :
    gTup K 3 (gCons (gName i) (gCons (gName j) (gCons (gName k) gNil))) (.ref p) σ H R := ⟨p, _, rfl, h, rfl, _, _, rfl, _, _, rfl, _, _, rfl, rfl, q⟩
/-! lists of data compared -/
mutual
theorem D.eqb_refl : ∀ d : D, D.eqb d d = true
  | .non => by rw [D.eqb]
  | .bl b => by rw [D.eqb]; simp
  | .int i => by rw [D.eqb]; simp
  | .str x => by rw [D.eqb]; exact beq_self_eq_true x
  | .tup ds => by rw [D.eqb]; exact D.eqL_refl ds
theorem D.eqL_refl : ∀ ds : List D, D.eqL ds ds = true
  | [] => by rw [D.eqL]
  | d :: ds => by rw [D.eqL, D.eqb_refl d, D.eqL_refl ds]; rfl
end
theorem dp_lst {K : PySem.W.Frag} {H : Hp} {p : Addr} {vs : List V} {ds : List D} (hp : SqL K H p vs) (t : TdL K H vs ds) : Dp K H (.ref p) (.list (D.pyL ds)) := .lst hp (TdL.dp ds vs t)
theorem shaped_lst {ds : List D} {n : Nat} (h : ∀ d ∈ ds, D.fit n d = true) (hn : n ≤ 62) : SeqAt.shaped (.list (D.pyL ds)) = true := by
  obtain ⟨a, b⟩ := D.fitL_lay ds n (D.fitL_iff.mpr h)
  refine Bool.and_eq_true_iff.mpr ⟨?_, decide_eq_true ?_⟩
  · simp only [PyData.canLay0]
    exact a
  · simp only [PyData.depth]
    omega
theorem r_eqLD {K : PySem.W.Frag} {H : Hp} {Q : VK} {p q : Addr} {vs ws : List V} {ds es : List D} {n : Nat} (hp : SqL K H p vs) (hq : SqL K H q ws) (t1 : TdL K H vs ds) (t2 : TdL K H ws es) (f1 : ∀ d ∈ ds, D.fit n d = true) (f2 : ∀ d ∈ es, D.fit n d = true) (hn : n ≤ 62) (h : Q (.bl (D.eqL ds es)) H) : uEq K (.ref p) (.ref q) H Q :=
  .inr ⟨_, _, dp_lst hp t1, dp_lst hq t2, shaped_lst f1 hn, shaped_lst f2 hn, by rw [PyData.eqv, D.eqL_py]; exact h⟩
theorem r_neLD {K : PySem.W.Frag} {H : Hp} {Q : VK} {p q : Addr} {vs ws : List V} {ds es : List D} {n : Nat} (hp : SqL K H p vs) (hq : SqL K H q ws) (t1 : TdL K H vs ds) (t2 : TdL K H ws es) (f1 : ∀ d ∈ ds, D.fit n d = true) (f2 : ∀ d ∈ es, D.fit n d = true) (hn : n ≤ 62) (h : Q (.bl (!D.eqL ds es)) H) : uNe K (.ref p) (.ref q) H Q :=
  .inr ⟨_, _, dp_lst hp t1, dp_lst hq t2, shaped_lst f1 hn, shaped_lst f2 hn, by rw [PyData.eqv, D.eqL_py]; exact h⟩
end U
/-! U14: a def whose arguments never arrive: nothing behind it is reached. -/
namespace U
open PySem PySem.Spec PyProof.Rows L2
def tNevE (ta : TA) : TE := fun σ H _ => ta σ H fun _ _ => False
def tOnly (t : TS) : TS := fun D σ H => t { D with nx := fun _ _ => False } σ H
section
variable {X : Cx} {x : Str} {f : Addr} {e : Expr} {es : List Expr} {t : TA} {p pos : Pos}
theorem pe_nev (hm : X.mg x = some (.ref f)) (hk : PySem.W.keepIn X.K (.ref f) = true) (hg : Gl X x) (ha : PA X (e :: es) t) (hdb : (x == ("__debug__" : Str)) = false := by decide)
    (he : starEach (e :: es) X.env = (false, eval e X.env) :: starEach es X.env := by rfl) (hpl : (backTo pos (starEach es X.env)).any (·.1) = false := by rfl) : PE X (.Call (.Name x p) (e :: es) [] pos) (tNevE t) := by
  refine ⟨fun pins s σ H Q I h => ?_⟩
  refine wpAny_Call_Name_kw (ld_glob I hg hm ?_ hdb)
  exact PySem.W.callWith_K (h₀ := X.base) I.ok.mod.kin hk (thn (ha.run pos pins s σ H _ I h) fun us s1 ⟨vs, H1, I1, r, q⟩ => q.elim) he hpl
theorem pss_only {st : Stmt} {rest : List Stmt} {t : TS} (h1 : PS X st t) : PSs X (st :: rest) (tOnly t) := by
  refine ⟨fun pins s σ H D I h => ?_⟩
  refine wpAny_execs_cons (thn (h1.run pins s σ H _ I h) fun f s1 q => ?_)
  cases f with
  | next =>
    obtain ⟨σ', H', I', q⟩ := q
    exact q.elim
  | ret v => exact q
  | brk => exact q
  | cont => exact q
end
section
variable {σ : L2.St} {H : Hp} {Q : VK} {D : Ends} {ta : TA} {t : TS}
theorem r_nevE (h : ta σ H fun _ _ => False) : tNevE ta σ H Q := h
theorem r_only (h : t { D with nx := fun _ _ => False } σ H) : tOnly t D σ H := h
end
end U
/-! U15: list(zip(x, y)) of two tuples. -/
namespace U
open PySem PySem.Spec PyProof.Rows L2
theorem zip_nolen : typeLookup (.type "zip") "__len__" = pure none := by rw [typeLookup_type, builtinLookup_eq_fast]; kernel_rfl
theorem zip_nohint : typeLookup (.type "zip") "__length_hint__" = pure none := by rw [typeLookup_type, builtinLookup_eq_fast]; kernel_rfl
section
variable {prog : Program} {w : World} {A : Around} {E : Value → Shared → Prop} {s : Shared}
/-- the next pair while the last one given is still there -/
theorem zt_item {z TI TO T i1 i2 l1 l2 : Addr} {f : Bool} {oT : Obj} {k1 k2 : Nat} {xs ys : Array Value} {x y : Value} {Q : Option Value → Shared → Prop} (D : ZipApart z TI TO i1 i2 l1 l2)
    (hz : IsZipHeld s.heap z TI TO T f) (hT : s.heap.get? T = some oT) (hTI : IsPair s.heap TI (.ref i1) (.ref i2))
    (g1 : s.heap.IsTupleIter i1 l1 k1) (g2 : s.heap.IsTupleIter i2 l2 k2) (p1 : s.heap.IsTuple l1 xs) (p2 : s.heap.IsTuple l2 ys) (ex : xs[k1]? = some x) (ey : ys[k2]? = some y)
    (hQ : ∀ h', IsZipHeld h' z TI TO T true → h'.IsTupleIter i1 l1 (k1 + 1) → h'.IsTupleIter i2 l2 (k2 + 1) → IsPair h' s.heap.objs.size x y → h'.objs.size = s.heap.objs.size + 1 →
      (∀ c o, c ∉ [z, TI, TO, i1, i2] → s.heap.get? c = some o → h'.get? c = some o) → (h'.get? TI = s.heap.get? TI) → Q (some (.ref s.heap.objs.size)) { s with heap := h' }) :
    wpAny (model prog w) A (pyNext (.ref z)) Q E s := by
  have ty : s.TypeIs (.ref z) "zip" := ⟨_, hz, rfl⟩
  unfold pyNext
  refine wpAny_bind (wpAny_attempt (wpAny_callSpecial?_slot (name := Str.ofString "__next__") ty F.slot_zip_next (wpAny_call_entry F.slot_zip_next ty F.entry_zip_next ?_ (F.args_zip_next_1 _))))
  show wpAny _ _ (field (.ref z) 2 >>= _) _ _ _
  refine wpAny_bind (wpAny_field hz rfl (x := .bool false) rfl ?_)
  show wpAny _ _ (field (.ref z) 3 >>= _) _ _ _
  refine wpAny_bind (wpAny_field hz rfl (x := .ref TI) rfl ?_)
  refine wpAny_bind (wpAny_seqItems hTI rfl ?_)
  show wpAny _ _ (Builtin.SmallTypes.ownedTupleIsFree (.ref z) >>= _) _ _ _
  refine wpAny_bind (wpAny_tupleHeld_zip hz hT fun m1 z1 b1 => ?_)
  simp only [Bool.false_eq_true, if_false]
  refine wpAny_bind ?_
  rw [← Array.forIn_toList]
  simp only [List.forIn_cons, List.forIn_nil]
  refine wpAny_bind (wpAny_bind (wpAny_holding ?_))
  show wpAny _ _ (Builtin.SmallTypes.nextOf (.ref i1) >>= _) _ _ _
  refine wpAny_bind (RZ.nextOf_tuple_item (s := { s with heap := m1 }) (g1.extBut b1.extBut D.i1z) (p1.extBut b1.extBut D.l1z) ex fun m2 q2 b2 => wpAny_pure ?_)
  refine wpAny_pure ?_
  refine wpAny_bind (wpAny_bind (wpAny_holding ?_))
  show wpAny _ _ (Builtin.SmallTypes.nextOf (.ref i2) >>= _) _ _ _
  refine wpAny_bind (RZ.nextOf_tuple_item (s := { s with heap := m2 }) ((g2.extBut b1.extBut D.i2z).extBut b2.extBut D.i12.symm) ((p2.extBut b1.extBut D.l2z).extBut b2.extBut D.l2i1) ey fun m3 q3 b3 => wpAny_pure ?_)
  refine wpAny_pure (wpAny_pure ?_)
  show wpAny _ _ (newTuple [x, y] >>= _) _ _ _
  refine wpAny_bind (wpAny_newTuple ?_)
  have es : m3.objs.size = s.heap.objs.size := by rw [b3.1, b2.1, b1.1]
  have z3 : IsZipHeld m3 z TI TO T true := b3.extBut _ _ D.i2z.symm (b2.extBut _ _ D.i1z.symm z1)
  have kp : ∀ c o, c ≠ z → c ≠ i1 → c ≠ i2 → s.heap.get? c = some o → m3.get? c = some o := fun c o c1 c2 c3 e => b3.extBut _ _ c3 (b2.extBut _ _ c2 (b1.extBut _ _ c1 e))
  have r1 : m3.IsTupleIter i1 l1 (k1 + 1) := q2.extBut b3.extBut D.i12
  refine wpAny_pure ⟨_, rfl, ?_⟩
  refine wpAny_pure ?_
  show Q (some (.ref m3.objs.size)) _
  have pr : IsPair (m3.push { cls := .type "tuple", data := .seq #[x, y] }) m3.objs.size x y := Heap.get?_push_size _ rfl
  have sz : (m3.push { cls := .type "tuple", data := .seq #[x, y] }).objs.size = m3.objs.size + 1 := Heap.size_push ..
  rw [es] at pr sz ⊢
  refine hQ _ (Heap.get?_push_of_some _ z3) (r1.at fun o e => Heap.get?_push_of_some _ e) (q3.at fun o e => Heap.get?_push_of_some _ e) pr sz (fun c o hc e => ?_) ?_
  · simp only [List.mem_cons, List.not_mem_nil, or_false, not_or] at hc
    exact Heap.get?_push_of_some _ (kp c o hc.1 hc.2.2.2.1 hc.2.2.2.2 e)
  · rw [hTI]
    exact Heap.get?_push_of_some _ (kp TI _ D.TIz D.TIi1 D.TIi2 hTI)
/-- no more pairs -/
theorem zt_end {z TI TO T i1 i2 l1 l2 : Addr} {f : Bool} {oT : Obj} {k1 k2 : Nat} {xs ys : Array Value} {Q : Option Value → Shared → Prop} (hh : A.handled = none) (D : ZipApart z TI TO i1 i2 l1 l2)
    (hz : IsZipHeld s.heap z TI TO T f) (hT : s.heap.get? T = some oT) (hTI : IsPair s.heap TI (.ref i1) (.ref i2))
    (g1 : s.heap.IsTupleIter i1 l1 k1) (g2 : s.heap.IsTupleIter i2 l2 k2) (p1 : s.heap.IsTuple l1 xs) (p2 : s.heap.IsTuple l2 ys) (ex : xs[k1]? = none)
    (hQ : ∀ h', (∀ c o, c ∉ [z, TI, TO, i1, i2] → s.heap.get? c = some o → h'.get? c = some o) → Q none { s with heap := h' }) :
    wpAny (model prog w) A (pyNext (.ref z)) Q E s := by
  have ty : s.TypeIs (.ref z) "zip" := ⟨_, hz, rfl⟩
  unfold pyNext
  refine wpAny_bind (wpAny_attempt (wpAny_callSpecial?_slot (name := Str.ofString "__next__") ty F.slot_zip_next (wpAny_call_entry F.slot_zip_next ty F.entry_zip_next ?_ (F.args_zip_next_1 _))))
  show wpAny _ _ (field (.ref z) 2 >>= _) _ _ _
  refine wpAny_bind (wpAny_field hz rfl (x := .bool false) rfl ?_)
  show wpAny _ _ (field (.ref z) 3 >>= _) _ _ _
  refine wpAny_bind (wpAny_field hz rfl (x := .ref TI) rfl ?_)
  refine wpAny_bind (wpAny_seqItems hTI rfl ?_)
  show wpAny _ _ (Builtin.SmallTypes.ownedTupleIsFree (.ref z) >>= _) _ _ _
  refine wpAny_bind (wpAny_tupleHeld_zip hz hT fun m1 z1 b1 => ?_)
  simp only [Bool.false_eq_true, if_false]
  refine wpAny_bind ?_
  rw [← Array.forIn_toList]
  simp only [List.forIn_cons, List.forIn_nil]
  refine wpAny_bind (wpAny_bind (wpAny_holding ?_))
  show wpAny _ _ (Builtin.SmallTypes.nextOf (.ref i1) >>= _) _ _ _
  refine wpAny_bind (RZ.nextOf_tuple_end (s := { s with heap := m1 }) hh (g1.extBut b1.extBut D.i1z) (p1.extBut b1.extBut D.l1z) ex fun m2 e b2 he => ?_)
  obtain ⟨o, ho, hc⟩ := he
  refine wpAny_bind (wpAny_isInstance (T := "StopIteration") (b := true) ⟨o, ho, hc⟩ isSubtype_stop ?_)
  refine wpAny_pure (hQ _ fun c o hc e => ?_)
  simp only [List.mem_cons, List.not_mem_nil, or_false, not_or] at hc
  exact b2 _ _ hc.2.2.2.1 (b1.extBut _ _ hc.1 e)
end
/-- the zip ahead of its i-th pair -/
def ZSt (h : Heap) (z TI TO i1 i2 a b : Addr) (i : Nat) : Prop := IsPair h TI (.ref i1) (.ref i2) ∧ h.IsTupleIter i1 a i ∧ h.IsTupleIter i2 b i ∧
  ((IsZip h z TI TO .none ∧ ∃ x y, IsPair h TO x y) ∨ ∃ (T : Addr) (f : Bool) (oT : Obj), IsZipHeld h z TI TO T f ∧ h.get? T = some oT ∧ T ∉ [z, TI, TO, i1, i2])
theorem ZSt.keep {h h' : Heap} {z TI TO i1 i2 a b S : Addr} {i : Nat} (st : ZSt h z TI TO i1 i2 a b i) (k : ∀ c o, c ≠ S → h.get? c = some o → h'.get? c = some o) (hS : S ∉ [z, TI, TO, i1, i2]) (hS2 : ∃ o, h'.get? S = some o) : ZSt h' z TI TO i1 i2 a b i := by
  simp only [List.mem_cons, List.not_mem_nil, or_false, not_or] at hS
  obtain ⟨h1, h2, h3, h4⟩ := st
  refine ⟨k _ _ (Ne.symm hS.2.1) h1, h2.at fun o e => k _ _ (Ne.symm hS.2.2.2.1) e, h3.at fun o e => k _ _ (Ne.symm hS.2.2.2.2) e, ?_⟩
  rcases h4 with ⟨z1, x, y, t1⟩ | ⟨T, f, oT, z1, t1, n⟩
  · exact .inl ⟨k _ _ (Ne.symm hS.1) z1, x, y, k _ _ (Ne.symm hS.2.2.1) t1⟩
  · by_cases e : T = S
    · obtain ⟨o, ho⟩ := hS2
      exact .inr ⟨T, f, o, k _ _ (Ne.symm hS.1) z1, by rw [e]; exact ho, n⟩
    · exact .inr ⟨T, f, oT, k _ _ (Ne.symm hS.1) z1, k _ _ e t1, n⟩
/-- the pairs made so far -/
def ZPairs (H : Hp) (ts : List Addr) (xs ys : List V) : Prop := ∀ (j : Nat) (t : Addr) (x y : V), ts[j]? = some t → xs[j]? = some x → ys[j]? = some y → H t = some (.tup [x, y])
section
variable {X : Cx} {pins : List (Addr × Obj)} {σ : L2.St} {z TI TO i1 i2 a b S : Addr} {xs ys : List V} {A : Around} {H0 : Hp} {R : Result → Shared → Prop}
theorem zl_loop (hc : A.handled = none) (D : ZipApart z TI TO i1 i2 a b) (hl : xs.length = ys.length) (hn : xs.length ≤ 1000) (hS : S ∉ [z, TI, TO, i1, i2]) (h0S : H0 S = none) (hqx : SqT X.K H0 a xs) (hqy : SqT X.K H0 b ys) (res : Value)
    (hR : ∀ H s ts, Inv X pins σ H s → Same H0 H → H S = some (.lst (ts.map V.ref)) → ts.length = xs.length → ZPairs H ts xs ys → R (.ok (.ret res)) s) :
    ∀ (k i : Nat) (H : Hp) (s : Shared) (ts : List Addr), xs.length - i = k → i ≤ xs.length → Inv X pins σ H s → ZSt s.heap z TI TO i1 i2 a b i → (∀ c ∈ [z, TI, TO, i1, i2], FpOk X pins H c ∧ c < s.heap.objs.size) → Same H0 H → H S = some (.lst (ts.map V.ref)) → ts.length = i → ZPairs H ts xs ys →
      codeAny (model X.prog X.w) A (.builtin "list.extend.loop" ⟨[.ref S, .ref z, res], []⟩) R s := by
  intro k
  induction k with
  | zero =>
    intro i H s ts hk hi I st hf sm hSl hts hp
    have ei : i = xs.length := by omega
    refine codeAny_builtin PySem.F.entry_extend_loop ?_
    rw [Around.under_plainId PySem.F.plain_extend_loop _]
    show wpAny _ A.in1 (pyNext (.ref z) >>= _) _ _ _
    obtain ⟨its, rv, p1, _⟩ := I.tuple (Same.tk sm a xs hqx)
    obtain ⟨its2, rv2, p2, _⟩ := I.tuple (Same.tk sm b ys hqy)
    have l1 := rv.length
    have ex : its.toArray[i]? = none := by simp; omega
    obtain ⟨t1, t2, t3, t4⟩ := st
    have fin : ∀ h', (∀ c o, c ∉ [z, TI, TO, i1, i2] → s.heap.get? c = some o → h'.get? c = some o) → R (.ok (.ret res)) { s with heap := h' } := fun h' hk =>
      hR H _ ts (I.turnedL (t' := s.toks) (ch := [z, TI, TO, i1, i2]) hk fun c hc => (hf c hc).1) sm hSl (by omega) hp
    rcases t4 with ⟨z1, u, v, to⟩ | ⟨T, f, oT, z1, to, nT⟩
    · refine wpAny_bind (RZ.pyNext_zipT_end (A := A.in1) hc D z1 t1 to t2 t3 p1 p2 (.inl ex) fun h' hk => wpAny_pure (fin h' fun c o hcm => ?_))
      simp only [List.mem_cons, List.not_mem_nil, or_false, not_or] at hcm
      exact hk c o hcm.1 hcm.2.2.1 hcm.2.2.2.1 hcm.2.2.2.2
    · exact wpAny_bind (zt_end (A := A.in1) hc D z1 to t1 t2 t3 p1 p2 ex fun h' hk => wpAny_pure (fin h' hk))
  | succ k ih =>
    intro i H s ts hk hi I st hf sm hSl hts hp
    have hlt : i < xs.length := by omega
    refine codeAny_builtin PySem.F.entry_extend_loop ?_
    rw [Around.under_plainId PySem.F.plain_extend_loop _]
    show wpAny _ A.in1 (pyNext (.ref z) >>= _) _ _ _
    obtain ⟨its, rv, p1, _⟩ := I.tuple (Same.tk sm a xs hqx)
    obtain ⟨its2, rv2, p2, _⟩ := I.tuple (Same.tk sm b ys hqy)
    have hx : xs[i]? = some xs[i] := List.getElem?_eq_getElem hlt
    have hy : ys[i]? = some ys[i] := List.getElem?_eq_getElem (by omega)
    obtain ⟨u, hu, ru⟩ := rv.get hx
    obtain ⟨u2, hu2, ru2⟩ := rv2.get hy
    have hu : its.toArray[i]? = some u := by simpa using hu
    have hu2 : its2.toArray[i]? = some u2 := by simpa using hu2
    generalize xs[i] = x at hx ru
    generalize ys[i] = y at hy ru2
    obtain ⟨t1, t2, t3, t4⟩ := st
    have hTn : H s.heap.objs.size = none := I.hok.fresh (Nat.le_refl _)
    have hST : S ≠ s.heap.objs.size := fun e => by rw [e, hTn] at hSl; cases hSl
    have step : ∀ h' : Heap, ZSt h' z TI TO i1 i2 a b (i + 1) → IsPair h' s.heap.objs.size u u2 → h'.objs.size = s.heap.objs.size + 1 → (∀ c o, c ∉ [z, TI, TO, i1, i2] → s.heap.get? c = some o → h'.get? c = some o) →
        wpAny (model X.prog X.w) A.in1 (updateSeq S (·.push (Value.ref s.heap.objs.size)) >>= fun _ => again (.builtin "list.extend.loop" ⟨[.ref S, .ref z, res], []⟩))
          (fun fin s' => match fin with | .done f => R (.ok f) s' | .again c' => c'.quiet = true ∧ codeAny (model X.prog X.w) A c' R s') (fun e s' => R (.error e) s') { s with heap := h' } := by
      intro h' st' hT sz kp
      have new : ObjOk X.prog X.w (upd H s.heap.objs.size (.tup [x, y])) h' s.heap.objs.size (.tup [x, y]) :=
        ⟨by show 2 ≤ sizeLine; decide, [u, u2], .cons ru (.cons ru2 .nil), ⟨_, hT, rfl, _, rfl⟩⟩
      have I1 : Inv X pins σ (upd H s.heap.objs.size (.tup [x, y])) { s with heap := h' } := I.turnedNew (t' := s.toks) (ch := [z, TI, TO, i1, i2]) kp (fun c hc => (hf c hc).1) (Nat.le_refl _) new
      have eS : upd H s.heap.objs.size (.tup [x, y]) S = some (.lst (ts.map V.ref)) := by rw [upd_ne hST]; exact hSl
      obtain ⟨zz, lst, n, r, ll, e⟩ := I1.lstM eS
      have hle : lst.length = i := by rw [← ll, List.length_map, hts]
      refine wpAny_bind ?_
      refine wpAny_updateSeq e rfl (wpAny_pure ⟨plainId_quiet PySem.F.plain_extend_loop _, ?_⟩) (by rw [List.size_toArray, hle, sizeLine_eq]; omega) (by rw [Array.size_push, List.size_toArray, hle, sizeLine_eq]; omega)
      have I2 := I1.lset (t' := s.toks) (f := (·.push (Value.ref s.heap.objs.size))) (its' := lst ++ [Value.ref s.heap.objs.size]) (ys := ts.map V.ref ++ [V.ref s.heap.objs.size]) eS e (by simp) (r.append (.cons rfl .nil)) (by rw [List.length_append, List.length_map, hts, sizeLine_eq]; show i + 1 ≤ _; omega)
      have up : ∀ c o, c ≠ S → h'.get? c = some o → (h'.update S (Obj.mapSeq (·.push (Value.ref s.heap.objs.size)))).get? c = some o := fun c o hc e => (Heap.get?_update_other _ _ (Ne.symm hc)).trans e
      have sm2 : Same H0 (upd (upd H s.heap.objs.size (.tup [x, y])) S (.lst (ts.map V.ref ++ [V.ref s.heap.objs.size]))) := fun c o e => by
        have c1 : c ≠ S := fun q => by rw [q, h0S] at e; cases e
        have c2 : c ≠ s.heap.objs.size := fun q => by
          have := sm c o e
          rw [q, hTn] at this
          cases this
        rw [upd_ne c1, upd_ne c2]
        exact sm c o e
      refine ih (i + 1) _ _ (ts ++ [s.heap.objs.size]) (by omega) hlt I2 (st'.keep up hS ⟨_, Heap.get?_update_self _ e rfl⟩) (fun c hcm => ?_) sm2 (by rw [List.map_append]; exact upd_same) (by rw [List.length_append, hts]; rfl) (fun j t x' y' e1 e2 e3 => ?_)
      · obtain ⟨⟨f1, f2⟩, f3⟩ := hf c hcm
        have c1 : c ≠ S := fun q => hS (q ▸ hcm)
        refine ⟨⟨by rw [upd_ne c1, upd_ne (Nat.ne_of_lt f3)]; exact f1, f2⟩, ?_⟩
        show c < (h'.update S _).objs.size
        rw [Heap.size_update, sz]
        exact Nat.lt_succ_of_lt f3
      · by_cases hj : j < ts.length
        · rw [List.getElem?_append_left hj] at e1
          have q := hp j t x' y' e1 e2 e3
          have c1 : t ≠ S := fun z => by rw [z, hSl] at q; cases q
          have c2 : t ≠ s.heap.objs.size := fun z => by rw [z, hTn] at q; cases q
          rw [upd_ne c1, upd_ne c2]
          exact q
        · have hj2 : j = ts.length := by
            have := (List.getElem?_eq_some_iff.mp e1).1
            rw [List.length_append] at this
            have : j < ts.length + 1 := this
            omega
          subst hj2
          have e4 : t = s.heap.objs.size := by simpa using e1.symm
          rw [hts] at e2 e3
          rw [hx] at e2
          rw [hy] at e3
          cases e2
          cases e3
          rw [e4, upd_ne (Ne.symm hST)]
          exact upd_same
    rcases t4 with ⟨z1, v1, v2, to⟩ | ⟨T, f, oT, z1, to, nT⟩
    · refine wpAny_bind (RZ.pyNext_zipT_item D z1 t1 to t2 t3 p1 p2 hu hu2 fun h' z' TO' g1 g2 hT sz kp => step h' ⟨kp _ _ D.TIz D.TITO D.TIi1 D.TIi2 t1, g1, g2, .inr ⟨_, false, _, z', hT, fun hm => ?_⟩⟩ hT sz fun c o hcm => ?_)
      · exact Nat.lt_irrefl _ (hf _ hm).2
      · simp only [List.mem_cons, List.not_mem_nil, or_false, not_or] at hcm
        exact kp c o hcm.1 hcm.2.2.1 hcm.2.2.2.1 hcm.2.2.2.2
    · refine wpAny_bind (zt_item D z1 to t1 t2 t3 p1 p2 hu hu2 fun h' z' g1 g2 hT sz kp kTI => step h' ⟨kTI.trans t1, g1, g2, .inr ⟨T, true, oT, z', kp T oT nT to, nT⟩⟩ hT sz kp)
/-- list(zip(x, y)), two tuples of one length -/
def tLZip (K : PySem.W.Frag) (ta : TA) : TE := fun σ H Q => ta σ H fun vs H1 => ∃ a b xs ys, vs = [.ref a, .ref b] ∧ SqT K H1 a xs ∧ SqT K H1 b ys ∧ xs.length = ys.length ∧ xs.length ≤ 1000 ∧
  ∀ S H2 ts, Same H1 H2 → H1 S = none → H2 S = some (.lst (ts.map V.ref)) → ts.length = xs.length → ZPairs H2 ts xs ys → Q (.ref S) H2
theorem pe_lzip {e e2 : Expr} {ta : TA} {p p2 q pos : Pos} (hgl : Gl X "list") (hml : X.mg "list" = none) (hg : Gl X "zip") (hm : X.mg "zip" = none) (ha : PA X [e, e2] ta) (hcalm : X.calm = true)
    (hs : starEach [e, e2] X.env = (false, eval e X.env) :: starEach [e2] X.env := by rfl) (hpl : (backTo q (starEach [e2] X.env)).any (·.1) = false := by rfl)
    (na : starEach [Expr.Call (.Name "zip" p2) [e, e2] [] q] X.env = (false, eval (.Call (.Name "zip" p2) [e, e2] [] q) X.env) :: starEach [] X.env := by rfl) :
    PE X (.Call (.Name "list" p) [.Call (.Name "zip" p2) [e, e2] [] q] [] pos) (tLZip X.K ta) := by
  refine ⟨fun pins s σ H Q I h => ?_⟩
  have hc : X.A.handled = none := I.ok.hd hcalm
  refine Call_ (ld_blt I hgl hml boot_list ?_)
  refine PyProof.Rows.callWith_type1 (PyProof.Rows.args_cons ?_ na) na rfl
  refine Call_ (ld_blt I hg hm PyProof.Rows.boot_zip (PyProof.Rows.callWith_type1 (thn (ha.run q pins s σ H _ I h) fun us s1 ⟨vs, H1, I1, r1, q1⟩ => ?_) hs hpl))
  obtain ⟨a, b, xs, ys, ex, hqx, hqy, hl, hn, q1⟩ := q1
  subst ex
  cases r1 with
  | cons r rr =>
    cases rr with
    | cons r' rr =>
      cases rr
      cases r
      cases r'
      obtain ⟨its, rv, p1, _⟩ := I1.tuple hqx
      obtain ⟨its2, rv2, p2, _⟩ := I1.tuple hqy
      obtain ⟨o1, ho1, _⟩ := id p1
      obtain ⟨o2, ho2, _⟩ := id p2
      refine RZ.call_zipT (show s1.heap.IsTuple a its.toArray from p1) (show s1.heap.IsTuple b its2.toArray from p2) fun h' hz hTI hTO g1 g2 hsz hk => ?_
      have I2 : Inv X pins σ H1 { s1 with heap := h' } := I1.kept (t' := s1.toks) hk
      have D := PySem.W.ktu_apart s1.heap.objs.size a b (Heap.lt_size ho1) (Heap.lt_size ho2)
      have hf5 : ∀ c ∈ [s1.heap.objs.size + 4, s1.heap.objs.size + 2, s1.heap.objs.size + 3, s1.heap.objs.size, s1.heap.objs.size + 1], FpOk X pins H1 c ∧ s1.heap.objs.size ≤ c ∧ c < s1.heap.objs.size + 5 := fun c hcm => by
        have e' : c = s1.heap.objs.size + 4 ∨ c = s1.heap.objs.size + 2 ∨ c = s1.heap.objs.size + 3 ∨ c = s1.heap.objs.size ∨ c = s1.heap.objs.size + 1 := by simpa using hcm
        have hle : s1.heap.objs.size ≤ c := by
          rcases e' with z | z | z | z | z
          · rw [z]; exact Nat.le_add_right _ _
          · rw [z]; exact Nat.le_add_right _ _
          · rw [z]; exact Nat.le_add_right _ _
          · rw [z]; exact Nat.le_refl _
          · rw [z]; exact Nat.le_add_right _ _
        have hgt : c < s1.heap.objs.size + 5 := by
          rcases e' with z | z | z | z | z
          · rw [z]; exact Nat.add_lt_add_left (by decide) _
          · rw [z]; exact Nat.add_lt_add_left (by decide) _
          · rw [z]; exact Nat.add_lt_add_left (by decide) _
          · rw [z]; exact Nat.lt_add_of_pos_right (by decide)
          · rw [z]; exact Nat.add_lt_add_left (by decide) _
        exact ⟨I1.fpOk hle (I1.hok.fresh hle), hle, hgt⟩
      generalize s1.heap.objs.size + 4 = z at *
      generalize s1.heap.objs.size + 2 = TI at *
      generalize s1.heap.objs.size + 3 = TO at *
      generalize s1.heap.objs.size + 1 = i2 at *
      refine PyProof.Rows.args_nil ?_
      have hSn : H1 h'.objs.size = none := I2.hok.fresh (Nat.le_refl _)
      have hsS : ∀ c ∈ [z, TI, TO, s1.heap.objs.size, i2], c ≠ h'.objs.size := fun c hcm => Nat.ne_of_lt (by rw [hsz]; exact (hf5 c hcm).2.2)
      have hS : (h'.push { cls := .type "list", data := .seq #[] }).get? h'.objs.size = some { cls := .type "list", data := .seq #[] } := Heap.get?_push_size _ rfl
      refine callType_codes (Q₁ := fun obj s₁ => obj = .ref h'.objs.size ∧ s₁ = { s1 with heap := h'.push { cls := .type "list", data := .seq #[] } }) PySem.F.called_list (PySem.F.typeCall_list_1 _) PySem.F.entry_list_init
        (code_list_new _ ⟨rfl, rfl⟩) fun obj s₁ h₁ => ?_
      obtain ⟨rfl, rfl⟩ := h₁
      refine ⟨⟨_, hS, rfl⟩, PySem.F.args_list_init_2 _ _, ?_⟩
      have I3 : Inv X pins σ (upd H1 h'.objs.size (.lst [])) { s1 with heap := h'.push { cls := .type "list", data := .seq #[] } } := I2.lnew (its := []) (ys := []) (t' := s1.toks) .nil (Nat.zero_le _)
      have st0 : ZSt h' z TI TO s1.heap.objs.size i2 a b 0 := ⟨hTI, g1, g2, .inl ⟨hz, _, _, hTO⟩⟩
      have nS : h'.objs.size ∉ [z, TI, TO, s1.heap.objs.size, i2] := fun hm => hsS _ hm rfl
      have st1 := st0.keep (h' := h'.push { cls := .type "list", data := .seq #[] }) (fun c o _ e => Heap.get?_push_of_some _ e) nS ⟨_, hS⟩
      have hzp : (h'.push { cls := .type "list", data := .seq #[] }).objs.size = h'.objs.size + 1 := Heap.size_push ..
      have zz1 : IsZip (h'.push { cls := .type "list", data := .seq #[] }) z TI TO .none := Heap.get?_push_of_some _ hz
      generalize hS0 : h'.objs.size = S at *
      generalize h'.push { cls := .type "list", data := .seq #[] } = h2 at *
      show wpAny _ _ (do let old ← Builtin.List.listItems (.ref S); Builtin.List.listUpdate (.ref S) (fun _ => #[]); letGo old.toList.reverse; Builtin.List.listExtendWith (.ref S) (.ref z) .none) _ _ _
      refine wpAny_bind ?_
      unfold Builtin.List.listItems
      refine wpAny_bind (wpAny_seqItems hS rfl (wpAny_pure ?_))
      show wpAny _ _ (updateSeq S (fun _ => #[]) >>= fun _ => letGo (#[] : Array Value).toList.reverse >>= fun _ => Builtin.List.listExtendWith (.ref S) (.ref z) .none) _ _ _
      refine wpAny_bind (wpAny_updateSeq hS rfl ?_)
      refine wpAny_bind (wpAny_letGo ?_)
      have oth : ∀ (h : Heap) (f : Array Value → Array Value) c o, c ≠ S → h.get? c = some o → (h.update S (Obj.mapSeq f)).get? c = some o := fun h f c o hc e => (Heap.get?_update_other _ _ (Ne.symm hc)).trans e
      have I4 := I3.lset (t' := s1.toks) (f := fun _ => (#[] : Array Value)) (its := []) (its' := []) (ys := []) upd_same hS rfl .nil (Nat.zero_le _)
      have hS4 := Heap.get?_update_self (Obj.mapSeq (fun _ => (#[] : Array Value))) hS rfl
      have st4 := st1.keep (oth h2 _) nS ⟨_, hS4⟩
      have hz4 : (h2.update S (Obj.mapSeq (fun _ => (#[] : Array Value)))).objs.size = S + 1 := by rw [Heap.size_update]; exact hzp
      have zz : IsZip (h2.update S (Obj.mapSeq (fun _ => (#[] : Array Value)))) z TI TO .none := oth h2 _ _ _ (hsS z (by simp)) zz1
      generalize h2.update S (Obj.mapSeq (fun _ => (#[] : Array Value))) = h4 at *
      have hS4 : h4.get? S = some { cls := .type "list", data := .seq #[] 0 } ∨ True := .inr trivial
      have eS4 : upd (upd H1 S (.lst [])) S (.lst []) S = some (.lst []) := upd_same
      obtain ⟨_, l4, n4, r4, _, e4⟩ := I4.lstM eS4
      cases r4
      unfold Builtin.List.listExtendWith
      refine wpAny_bind (wpAny_typeOf (T := "zip") ⟨_, zz, rfl⟩ ?_)
      have hSz : S ≠ z := (hsS z (by simp)).symm
      have d1 : Builtin.List.listSameRef (.ref S) (.ref z) = false := by simp [Builtin.List.listSameRef, hSz]
      have d2 : (Value.type "zip" == Value.type "list") = false := by decide
      have d3 : (Value.type "zip" == Value.type "tuple") = false := by decide
      simp only [d1, d2, d3, Bool.or_false, Bool.false_eq_true, if_false]
      refine wpAny_bind (wpAny_pyIter_zip zz ?_)
      refine wpAny_bind (wpAny_holding ?_)
      unfold Builtin.List.listLengthHint
      refine wpAny_bind (wpAny_specialOf (T := "zip") ⟨_, zz, rfl⟩ zip_nolen ?_)
      show wpAny _ _ (specialOf (Value.ref z) (Str.ofString "__length_hint__") >>= _) _ _ _
      refine wpAny_bind (wpAny_specialOf (T := "zip") ⟨_, zz, rfl⟩ zip_nohint ?_)
      refine wpAny_pure ?_
      show wpAny _ _ (rule "list.extend.makes-room" >>= fun _ => Builtin.List.listTouch (.ref S) >>= fun _ => again (.builtin "list.extend.loop" ⟨[.ref S, .ref z, .none], []⟩)) _ _ _
      refine wpAny_bind (wpAny_rule ?_)
      refine wpAny_bind ?_
      show wpAny _ _ (updateSeq S (·.push .none) >>= fun _ => updateSeq S (·.pop)) _ _ _
      refine wpAny_bind (wpAny_updateSeq e4 rfl ?_)
      have I5 := I4.lset (t' := s1.toks) (f := (·.push Value.none)) (its := []) (its' := [Value.none]) (ys := [V.non]) eS4 e4 rfl (.cons rfl .nil) (by rw [sizeLine_eq]; decide)
      have e5 := Heap.get?_update_self (Obj.mapSeq (·.push Value.none)) e4 rfl
      have st5 := st4.keep (oth h4 (·.push Value.none)) nS ⟨_, e5⟩
      have hz5 : (h4.update S (Obj.mapSeq (·.push Value.none))).objs.size = S + 1 := by rw [Heap.size_update]; exact hz4
      generalize h4.update S (Obj.mapSeq (·.push Value.none)) = h5 at *
      have eS5 : upd (upd (upd H1 S (.lst [])) S (.lst [])) S (.lst [V.non]) S = some (.lst [V.non]) := upd_same
      obtain ⟨_, l5, n5, r5, _, e5'⟩ := I5.lstM eS5
      obtain ⟨v5, rfl, rv5⟩ := r5.one
      refine wpAny_updateSeq (hz := by seq_fits) e5' rfl ?_
      have I6 := I5.lset (t' := s1.toks) (f := (·.pop)) (its := [v5]) (its' := []) (ys := []) eS5 e5' rfl .nil (Nat.zero_le _)
      have e6 := Heap.get?_update_self (Obj.mapSeq (·.pop)) e5' rfl
      have st6 := st5.keep (oth h5 (·.pop)) nS ⟨_, e6⟩
      have hz6 : (h5.update S (Obj.mapSeq (·.pop))).objs.size = S + 1 := by rw [Heap.size_update]; exact hz5
      have ne6 : ∀ c, c ≠ S → upd (upd (upd (upd H1 S (.lst [])) S (.lst [])) S (.lst [V.non])) S (.lst []) c = H1 c := fun c hc => by rw [upd_ne hc, upd_ne hc, upd_ne hc, upd_ne hc]
      refine wpAny_pure ⟨plainId_quiet PySem.F.plain_extend_loop _, zl_loop (A := X.A.in1) (H0 := H1) hc D hl hn nS hSn hqx hqy .none (fun H' s' ts I' sm' hl' hts' hp' => ⟨rfl, .ref S, H', I', rfl, q1 S H' ts sm' hSn hl' hts' hp'⟩) xs.length 0 _ _ [] (Nat.sub_zero _) (Nat.zero_le _) I6 st6 (fun c hcm => ?_) (fun c o e => ?_) upd_same rfl (fun j t x y e => by simp at e)⟩
      · obtain ⟨⟨f1, f2⟩, f3, f4⟩ := hf5 c hcm
        refine ⟨⟨by rw [ne6 c (hsS c hcm)]; exact f1, f2⟩, ?_⟩
        show c < (h5.update S (Obj.mapSeq (·.pop))).objs.size
        rw [hz6]
        exact Nat.lt_succ_of_lt (by rw [← hsz] at f4; exact f4)
      · have hcS : c ≠ S := fun q => by rw [q, hSn] at e; cases e
        rw [ne6 c hcS]
        exact e
end
section
variable {K : PySem.W.Frag} {σ : L2.St} {H : Hp} {Q : VK} {ta : TA} {R : It → Hp → Prop}
theorem r_lzip (h : ta σ H fun vs H1 => ∃ a b xs ys, vs = [.ref a, .ref b] ∧ SqT K H1 a xs ∧ SqT K H1 b ys ∧ xs.length = ys.length ∧ xs.length ≤ 1000 ∧
  ∀ S H2 ts, Same H1 H2 → H1 S = none → H2 S = some (.lst (ts.map V.ref)) → ts.length = xs.length → ZPairs H2 ts xs ys → Q (.ref S) H2) : tLZip K ta σ H Q := h
theorem r_zip (h : ta σ H fun vs H1 => ∃ a b xs ys, vs = [.ref a, .ref b] ∧ ((SqL K H1 a xs ∧ SqL K H1 b ys ∧ R (Itz K a b) H1) ∨ (SqT K H1 a xs ∧ SqT K H1 b ys ∧ R (RZ.ItzT K a b) H1))) : RZ.iZipA K ta σ H R := h
end
end U
/-! U16: a dict of the module's top with constant keys, read by its keys; a local name that holds one of several defs. -/
namespace U
open PySem PySem.Spec PyProof.Rows L2 He
/-! a tuple of the module's top with tuples in it -/
mutual
def tdB (K : PySem.W.Frag) : D → Value → Bool
  | .tup ds, .ref a => match K.lookup a with
    | some ⟨.type c, _, .seq its _, _⟩ => decide (c = "tuple") && (decide (its.size ≤ sizeLine) && tdBL K ds its.toList)
    | _ => false
  | .str z, .str w _ => decide (z = w)
  | .int i, .int j _ => decide (i = j)
  | .non, .none => true
  | .bl b, .bool c => b == c
  | _, _ => false
def tdBL (K : PySem.W.Frag) : List D → List Value → Bool
  | [], [] => true
  | d :: ds, v :: vs => tdB K d v && tdBL K ds vs
  | _, _ => false
end
mutual
theorem tdB_rel {K : PySem.W.Frag} (H : Hp) : ∀ (d : D) (v : Value), tdB K d v = true → ∃ x, RelV x v ∧ Td K H x d
  | .tup ds, v, h => by
    cases v with
    | ref a =>
      rw [tdB] at h
      cases q : K.lookup a with
      | none => rw [q] at h; cases h
      | some o =>
        obtain ⟨oc, od, dt, osl⟩ := o
        rw [q] at h
        cases oc with
        | type c =>
          cases dt with
          | seq its n =>
            obtain ⟨h1, h2⟩ := He.ba (show (decide (c = "tuple") && (decide (its.size ≤ sizeLine) && tdBL K ds its.toList)) = true from h)
            obtain ⟨h3, h4⟩ := He.ba h2
            obtain ⟨xs, r, t⟩ := tdBL_rel H ds its.toList h4
            exact ⟨.ref a, rfl, .tup (.inr ⟨_, its, n, q, congrArg Value.type (of_decide_eq_true h1), rfl, of_decide_eq_true h3, r⟩) t⟩
          | _ => cases h
        | _ => cases dt <;> cases h
    | _ => simp [tdB] at h
  | .str z, v, h => by
    cases v with
    | str w t => rw [tdB] at h; exact ⟨.str z, ⟨t, by rw [of_decide_eq_true h]⟩, .str z⟩
    | _ => simp [tdB] at h
  | .int i, v, h => by
    cases v with
    | int w t => rw [tdB] at h; exact ⟨.int i, ⟨t, by rw [of_decide_eq_true h]⟩, .int i⟩
    | _ => simp [tdB] at h
  | .non, v, h => by
    cases v with
    | none => exact ⟨.non, rfl, .non⟩
    | _ => simp [tdB] at h
  | .bl b, v, h => by
    cases v with
    | bool c => rw [tdB] at h; exact ⟨.bl b, by rw [eq_of_beq h]; rfl, .bl b⟩
    | _ => simp [tdB] at h
theorem tdBL_rel {K : PySem.W.Frag} (H : Hp) : ∀ (ds : List D) (vs : List Value), tdBL K ds vs = true → ∃ xs, Vals xs vs ∧ TdL K H xs ds
  | [], vs, h => by
    cases vs with
    | nil => exact ⟨[], .nil, .nil⟩
    | cons v vs => simp [tdBL] at h
  | d :: ds, vs, h => by
    cases vs with
    | nil => simp [tdBL] at h
    | cons v vs =>
      rw [tdBL] at h
      obtain ⟨h1, h2⟩ := He.ba h
      obtain ⟨x, r, t⟩ := tdB_rel H d v h1
      obtain ⟨xs, rs, ts⟩ := tdBL_rel H ds vs h2
      exact ⟨x :: xs, .cons r rs, .cons t ts⟩
end
theorem tdB_ok {K : PySem.W.Frag} {x : Str} {d : D} (h : tdB K d (.ref (He.ga K x)) = true) (H : Hp) : Td K H (.ref (He.ga K x)) d := by
  obtain ⟨y, r, t⟩ := tdB_rel H d _ h
  cases y with
  | ref a => cases (show Value.ref (He.ga K x) = Value.ref a from r); exact t
  | int i => obtain ⟨_, r⟩ := r; cases r
  | str i => obtain ⟨_, r⟩ := r; cases r
  | byt i => obtain ⟨_, r⟩ := r; cases r
  | flt i => obtain ⟨_, r⟩ := r; cases r
  | non => cases (show Value.ref (He.ga K x) = Value.none from r)
  | bl b => cases (show Value.ref (He.ga K x) = Value.bool b from r)
  | _ => cases t
/-- a value of such a dict: an int, a text, a def, data of tuples -/
inductive DVal where
  | int (i : Int) | str (z : Str) | fn (f : Str) | dat (d : D)
structure DicD where
  x : Str
  kvs : List (Key × DVal)
/-- where the dict at x keeps the data of the key k -/
def dAd (K : PySem.W.Frag) (x : Str) (k : Key) : Addr := match K.lookup (ga K x) with
  | some o => (match o.data with
    | .dict es _ => (match es.toList.find? (fun e => keyIs k e.key) with
      | some e => (match e.val with
        | .ref a => a
        | _ => 0)
      | none => 0)
    | _ => 0)
  | none => 0
def DVal.v (K : PySem.W.Frag) (x : Str) (k : Key) : DVal → V
  | .int i => .int i
  | .str z => .str z
  | .fn f => .ref (ga K f)
  | .dat _ => .ref (dAd K x k)
def DicD.kv (K : PySem.W.Frag) (d : DicD) : List (Key × V) := d.kvs.map fun p => (p.1, p.2.v K d.x p.1)
def DVal.is (K : PySem.W.Frag) (x : Str) (k : Key) (d : DVal) (v : Value) : Bool := match d, v with
  | .int i, .int j _ => decide (j = i)
  | .str z, .str y _ => decide (y = z)
  | .fn f, .ref a => a == ga K f
  | .dat d, .ref a => a == dAd K x k && tdB K d (.ref a)
  | _, _ => false
theorem DVal.is_ok {K : PySem.W.Frag} {x : Str} {k : Key} {d : DVal} {v : Value} (h : d.is K x k v = true) : RelV (d.v K x k) v := by
  cases d <;> cases v <;> first
    | (cases h; done)
    | (exact ⟨_, by rw [of_decide_eq_true h]⟩)
    | (have e := beq_iff_eq.mp (show (_ == _) = true from h); subst e; rfl)
    | (have e := beq_iff_eq.mp (ba (show (_ && _) = true from h)).1; subst e; rfl)
theorem tdB_at {K : PySem.W.Frag} {a : Addr} {d : D} (h : tdB K d (.ref a) = true) (H : Hp) : Td K H (.ref a) d := by
  obtain ⟨y, r, t⟩ := tdB_rel H d _ h
  cases y with
  | ref b => cases (show Value.ref a = Value.ref b from r); exact t
  | int i => obtain ⟨_, r⟩ := r; cases r
  | str i => obtain ⟨_, r⟩ := r; cases r
  | byt i => obtain ⟨_, r⟩ := r; cases r
  | flt i => obtain ⟨_, r⟩ := r; cases r
  | non => cases (show Value.ref a = Value.none from r)
  | bl b => cases (show Value.ref a = Value.bool b from r)
  | _ => cases t
def entB (K : PySem.W.Frag) (x : Str) : List (Key × DVal) → List DictEntry → List (Int × Bool)
  | p :: ps, e :: es => (e.hash, keyIs p.1 e.key && p.2.is K x p.1 e.val) :: entB K x ps es
  | _, _ => []
/-- the entries, as far as the names go; both as long -/
def dicS (K : PySem.W.Frag) (d : DicD) : Bool × List (Int × Bool) := match K.lookup (ga K d.x) with
  | some o => (match o.data with
    | .dict es _ => (decide (es.toList.length = d.kvs.length) && (!(ga K d.x == sysModules) && (decide (o.cls = .type "dict") && (o.dict.isNone && o.slots.isEmpty))), entB K d.x d.kvs es.toList)
    | _ => (false, []))
  | none => (false, [])
def DicD.val (w : World) (d : DicD) : Bool × List (Int × Bool) := (true, d.kvs.map fun p => (keyH w p.1, true))
/-- what is known of such a dict -/
def DicF (w : World) (K : PySem.W.Frag) (d : DicD) : Prop := (∀ p ∈ d.kvs, ∀ e, p.2 = .dat e → ∀ H : Hp, Td K H (.ref (dAd K d.x p.1)) e) ∧
  ∃ o es ep, K.lookup (ga K d.x) = some o ∧ o.ExactDict ∧ o.data = .dict es ep ∧ (ga K d.x == sysModules) = false ∧
    ∃ vs, KV (d.kv K) vs ∧ (∀ (P : Program), KeysOf (mixKind P w) es ∧ Pairs (mixKind P w) es.toList vs) ∧ (vs.map (·.1)).Nodup
theorem entB_ok {w : World} {K : PySem.W.Frag} {x : Str} : ∀ (ps : List (Key × DVal)) (es : List DictEntry), es.length = ps.length → entB K x ps es = ps.map (fun p => (keyH w p.1, true)) →
    ∃ vs : List (Key × Value), KV (ps.map fun p => (p.1, p.2.v K x p.1)) vs ∧ vs.map (·.1) = ps.map (·.1) ∧ ∀ P : Program, (∀ e ∈ es, ∃ k, (mixKind P w).is k e.key = true ∧ e.hash = (mixKind P w).hash k) ∧ Pairs (mixKind P w) es vs
  | [], [], _, _ => ⟨[], .nil, rfl, fun P => ⟨(fun _ h => nomatch h), .nil⟩⟩
  | [], _ :: _, h, _ => by simp at h
  | _ :: _, [], h, _ => by simp at h
  | p :: ps, e :: es, hl, h => by
    have h : (e.hash, keyIs p.1 e.key && p.2.is K x p.1 e.val) :: entB K x ps es = (keyH w p.1, true) :: ps.map (fun p => (keyH w p.1, true)) := h
    injection h with h1 h2
    injection h1 with h3 h4
    obtain ⟨h5, h6⟩ := Bool.and_eq_true_iff.mp h4
    obtain ⟨vs, k, n, q⟩ := entB_ok ps es (by simpa using hl) h2
    refine ⟨(p.1, e.val) :: vs, .cons ⟨rfl, DVal.is_ok h6⟩ k, by simp [n], fun P => ⟨?_, .cons h5 rfl (q P).2⟩⟩
    intro y hx
    rcases List.mem_cons.mp hx with rfl | hx
    · exact ⟨p.1, h5, h3⟩
    · exact (q P).1 y hx
theorem entB_dat {w : World} {K : PySem.W.Frag} {x : Str} : ∀ (ps : List (Key × DVal)) (es : List DictEntry), entB K x ps es = ps.map (fun p => (keyH w p.1, true)) → ∀ p ∈ ps, ∀ e, p.2 = .dat e → ∀ H : Hp, Td K H (.ref (dAd K x p.1)) e
  | [], _, _, _, h, _, _, _ => by cases h
  | p :: ps, [], h, _, _, _, _, _ => by
    have h : ([] : List (Int × Bool)) = _ := h
    cases h
  | p :: ps, e :: es, h, q, hq, d, hd, H => by
    have h : (e.hash, keyIs p.1 e.key && p.2.is K x p.1 e.val) :: entB K x ps es = (keyH w p.1, true) :: ps.map (fun p => (keyH w p.1, true)) := h
    injection h with h1 h2
    injection h1 with h3 h4
    obtain ⟨h5, h6⟩ := Bool.and_eq_true_iff.mp h4
    rcases List.mem_cons.mp hq with rfl | hq
    · rw [hd] at h6
      cases hv : e.val with
      | ref a =>
        rw [hv] at h6
        obtain ⟨h7, h8⟩ := Bool.and_eq_true_iff.mp (show (a == dAd K x q.1 && tdB K d (.ref a)) = true from h6)
        have e := beq_iff_eq.mp h7
        subst e
        exact tdB_at h8 H
      | _ => rw [hv] at h6; cases h6
    · exact entB_dat ps es h2 q hq d hd H
theorem dicS_ok {w : World} {K : PySem.W.Frag} {d : DicD} (h : dicS K d = d.val w) (nd : (d.kvs.map (·.1)).Nodup) : DicF w K d := by
  unfold dicS DicD.val at h
  cases hk : K.lookup (ga K d.x) with
  | none =>
    rw [hk] at h
    injection h with h1 h2
    cases h1
  | some o =>
    rw [hk] at h
    obtain ⟨oc, od, dt, os⟩ := o
    cases dt with
    | dict es ep =>
      injection h with h1 h2
      obtain ⟨h3, h4⟩ := Bool.and_eq_true_iff.mp h1
      obtain ⟨h4, h45⟩ := Bool.and_eq_true_iff.mp h4
      obtain ⟨h5, h56⟩ := Bool.and_eq_true_iff.mp h45
      obtain ⟨h6, h7⟩ := Bool.and_eq_true_iff.mp h56
      have g5 : oc = .type "dict" := of_decide_eq_true h5
      have g6 : od = none := Option.isNone_iff_eq_none.mp h6
      have g7 : os = #[] := Array.isEmpty_iff.mp h7
      clear h5 h6 h7 h45 h56
      subst g5 g6 g7
      obtain ⟨vs, k, n, q⟩ := entB_ok d.kvs es.toList (of_decide_eq_true h3) h2
      exact ⟨entB_dat d.kvs es.toList h2, _, es, ep, hk, ⟨rfl, rfl, rfl⟩, rfl, by simpa using h4, vs, k, fun P => ⟨fun e he => (q P).1 e (Array.mem_toList_iff.mpr he), (q P).2⟩, by rw [n]; exact nd⟩
    | _ =>
      injection h with h1 h2
      cases h1
section
variable {X : Cx} {pins : List (Addr × Obj)} {σ : L2.St} {H : Hp} {s : Shared} {d : DicD} {y v : V} {u : Value} {A : Around} {E : Value → Shared → Prop}
theorem DicF.of (F : DicF X.w X.K d) (I : Inv X pins σ H s) : ∃ vs, KV (d.kv X.K) vs ∧ s.heap.DictOf (mixKind X.prog X.w) (ga X.K d.x) vs := by
  obtain ⟨_, o, es, ep, hk, hx, hd, _, vs, k, q, n⟩ := F
  exact ⟨vs, k, o, es, ep, I.kIn _ _ hk, hx, hd, (q X.prog).1, (q X.prog).2, n⟩
theorem DicF.nm (F : DicF X.w X.K d) : (ga X.K d.x == sysModules) = false := by
  obtain ⟨_, o, es, ep, hk, hx, hd, h, _⟩ := F
  exact h
/-- d[y] -/
def tKGet (D : List (Key × V)) (ti : TE) : TE := fun σ H Q => ti σ H fun y H1 => ∃ k v, y = kV k ∧ valV D k = some v ∧ Q v H1
/-- y in d -/
def tKIn (D : List (Key × V)) (ti : TE) : TE := fun σ H Q => ti σ H fun y H1 => ∃ k, y = kV k ∧ Q (.bl (valV D k).isSome) H1
variable {o i : Expr} {pos : Pos} {ty : TE}
theorem pe_kget (F : DicF X.w X.K d) (ho : PE X o (tC (.ref (ga X.K d.x)))) (hi : PE X i ty) (hs : NoSl i) : PE X (.Subscript o i pos) (tKGet (d.kv X.K) ty) := by
  refine ⟨fun pins s σ H Q I h => ?_⟩
  refine subD_of PySem.F.slot_dict_getitem.lookup hs (thn (ho.run pins s σ H (fun x H1 => x = .ref (ga X.K d.x) ∧ H1 = H) I ⟨rfl, rfl⟩) fun u s1 ⟨x, H1, I1, rx, q1⟩ => ?_)
  obtain ⟨rfl, rfl⟩ := q1
  obtain rfl : u = Value.ref (ga X.K d.x) := rx
  refine thn (hi.run pins s1 σ _ _ I1 h) fun iv s2 ⟨y, H2, I2, ry, k, v, ey, l, q2⟩ => ?_
  subst ey
  obtain ⟨vs, rel, dd⟩ := F.of I2
  obtain ⟨w', hw, rw'⟩ := RelO.some_of (v := v) (o := valueAt vs k) (by rw [← l]; exact rel.val k)
  exact ⟨dd.typeIs, wpAny_getItem_of (kV_is ry) dd.mapOf hw ⟨v, H2, I2.tok _, rw', q2⟩⟩
theorem pc_kin (F : DicF X.w X.K d) (hi : PE X i ty) (ho : PE X o (tC (.ref (ga X.K d.x)))) : PC X .In i o (tKIn (d.kv X.K) ty) := by
  refine ⟨fun pins s σ H Q I h => ?_⟩
  refine thn (hi.run pins s σ H _ I h) fun iv s1 ⟨y, H1, I1, ry, k, ey, q1⟩ => thn (ho.run pins s1 σ H1 (fun x H2 => x = .ref (ga X.K d.x) ∧ H2 = H1) I1 ⟨rfl, rfl⟩) fun u s2 ⟨x, H2, I2, rx, q2⟩ => ?_
  obtain ⟨rfl, rfl⟩ := q2
  obtain rfl : u = Value.ref (ga X.K d.x) := rx
  subst ey
  obtain ⟨vs, rel, dd⟩ := F.of I2
  refine wpAny_in_of (kV_is ry) F.nm dd.mapOf ?_
  rw [← (rel.val k).isSome_eq]
  exact ⟨.bl (valV (d.kv X.K) k).isSome, _, I2.tok _, rfl, q1⟩
end
section
variable {X : Cx} {d : DicD} {o i f : Expr} {apos cpos : Pos} {ty tx : TE}
/-- d.get(y), d.get(y, z) -/
def tKGet1 (D : List (Key × V)) (ti : TE) : TE := fun σ H Q => ti σ H fun y H1 => ∃ k, y = kV k ∧ Q ((valV D k).getD .non) H1
def tKGet2 (D : List (Key × V)) (ti tx : TE) : TE := fun σ H Q => ti σ H fun y H1 => tx σ H1 fun z H2 => ∃ k, y = kV k ∧ Q ((valV D k).getD z) H2
theorem pe_kget1 (F : DicF X.w X.K d) (ho : PE X o (tC (.ref (ga X.K d.x)))) (hi : PE X i ty) (m : M1 X o "get" apos i cpos) : PE X (.Call (.Attribute o "get" apos) [i] [] cpos) (tKGet1 (d.kv X.K) ty) := by
  refine ⟨fun pins s σ H Q I h => ?_⟩
  refine wpAny_Call_method m.base m.few m.line PySem.F.plainAttrs_dict PySem.F.slot_dict_get PySem.F.type_dict_get (thn (ho.run pins s σ H (fun x H1 => x = .ref (ga X.K d.x) ∧ H1 = H) I ⟨rfl, rfl⟩) fun u s1 ⟨x, H1, I1, rx, q1⟩ => ?_)
  obtain ⟨rfl, rfl⟩ := q1
  obtain rfl : u = Value.ref (ga X.K d.x) := rx
  obtain ⟨vs, rel, dd⟩ := F.of I1
  refine ⟨dd.typeIs, fun a e => (by cases e; obtain ⟨o, es, ep, h1, h2, _⟩ := dd; exact ⟨o, h1, h2.2.1⟩), ?_⟩
  rw [m.trees]
  refine Calls.callWith_builtin rfl (Calls.evalArgs_plain (Calls.spliced_cons (thn (hi.run pins s1 σ _ _ I1 h) fun iv s2 ⟨y, H2, I2, ry, k, ey, q2⟩ => Calls.spliced_nil ?_)))
  subst ey
  obtain ⟨vs, rel, dd⟩ := F.of I2
  exact call_meetsIn PySem.F.slot_dict_get dd.typeIs PySem.F.entry_dict_get (PySem.F.args_dict_get_2 _ _) (meets_dict_get (mixKind X.prog X.w) _ (kV_is ry) F.nm) ⟨_, dd.mapOf, ⟨_, H2, I2.tok _, (rel.val k).getD (show RelV V.non Value.none from rfl), q2⟩⟩
theorem pe_kget2 (F : DicF X.w X.K d) (ho : PE X o (tC (.ref (ga X.K d.x)))) (hi : PE X i ty) (hf : PE X f tx) (m : M2 X o "get" apos i f cpos) : PE X (.Call (.Attribute o "get" apos) [i, f] [] cpos) (tKGet2 (d.kv X.K) ty tx) := by
  refine ⟨fun pins s σ H Q I h => ?_⟩
  refine wpAny_Call_method m.base m.few m.line PySem.F.plainAttrs_dict PySem.F.slot_dict_get PySem.F.type_dict_get (thn (ho.run pins s σ H (fun x H1 => x = .ref (ga X.K d.x) ∧ H1 = H) I ⟨rfl, rfl⟩) fun u s1 ⟨x, H1, I1, rx, q1⟩ => ?_)
  obtain ⟨rfl, rfl⟩ := q1
  obtain rfl : u = Value.ref (ga X.K d.x) := rx
  obtain ⟨vs, rel, dd⟩ := F.of I1
  refine ⟨dd.typeIs, fun a e => (by cases e; obtain ⟨o, es, ep, h1, h2, _⟩ := dd; exact ⟨o, h1, h2.2.1⟩), ?_⟩
  rw [m.trees]
  refine Calls.callWith_builtin rfl (Calls.evalArgs_plain (Calls.spliced_cons (thn (hi.run pins s1 σ _ _ I1 h) fun iv s2 ⟨y, H2, I2, ry, q2⟩ => Calls.spliced_cons (thn (hf.run pins s2 σ _ _ I2 q2) fun fv s3 ⟨z, H3, I3, rz, k, ey, q3⟩ => Calls.spliced_nil ?_))))
  subst ey
  obtain ⟨vs, rel, dd⟩ := F.of I3
  exact call_meetsIn PySem.F.slot_dict_get dd.typeIs PySem.F.entry_dict_get (PySem.F.args_dict_get_3 _ _ _) (meets_dict_get_default (mixKind X.prog X.w) _ (kV_is ry) F.nm fv) ⟨_, dd.mapOf, ⟨_, H3, I3.tok _, (rel.val k).getD rz, q3⟩⟩
end
/-! the readings' steps -/
section
variable {σ : L2.St} {H : Hp} {Q : VK} {D : List (Key × V)} {ti tx : TE}
theorem r_kget1 (h : ti σ H fun y H1 => ∃ k, y = kV k ∧ Q ((valV D k).getD .non) H1) : tKGet1 D ti σ H Q := h
theorem r_kget2 (h : ti σ H fun y H1 => tx σ H1 fun z H2 => ∃ k, y = kV k ∧ Q ((valV D k).getD z) H2) : tKGet2 D ti tx σ H Q := h
end
section
variable {σ : L2.St} {H : Hp} {Q : VK} {D : List (Key × V)} {ti : TE}
theorem r_kget (h : ti σ H fun y H1 => ∃ k v, y = kV k ∧ valV D k = some v ∧ Q v H1) : tKGet D ti σ H Q := h
theorem r_kin (h : ti σ H fun y H1 => ∃ k, y = kV k ∧ Q (.bl (valV D k).isSome) H1) : tKIn D ti σ H Q := h
end
/-! a call of one of several defs -/
/-- a def that may be held -/
def HeldU (P : Program) (w : World) (K : PySem.W.Frag) (mg : Str → Option Value) (base : Heap) (A : Around) (f : Addr) (sp : Sp) : Prop :=
  ∃ k' fd ps, Room k' A ∧ FnOk P w K mg base CX0 k' f fd ps sp ∧ PySem.W.keepIn K (.ref f) = true ∧ Binds K fd ps []
theorem heldU {P : Program} {w : World} {K : PySem.W.Frag} {mg : Str → Option Value} {base : Heap} {A : Around} {k' : Nat} {x : Str} {f : Addr} {ps : List Str} {sp : Sp} (O : OkF P w K mg base k' x ps sp) (g : mg x = some (.ref f)) (hk : Room k' A) : HeldU P w K mg base A f sp := by
  obtain ⟨f', fd, hm, F, hb, kp⟩ := O.ex
  have e : f' = f := by
    rw [g] at hm
    injection hm with hm
    injection hm with hm
    exact hm.symm
  subst e
  exact ⟨k', fd, ps, hk, F, kp, hb⟩
def tCallM (i : Nat) (L : List (Addr × Sp)) (t : TA) : TE := fun σ H Q => ∃ f sp, σ[i]? = some (some (.ref f)) ∧ (f, sp) ∈ L ∧ t σ H fun vs H1 => sp vs H1 Q E0
inductive Helds (P : Program) (w : World) (K : PySem.W.Frag) (mg : Str → Option Value) (base : Heap) (A : Around) : List (Addr × Sp) → Prop
  | nil : Helds P w K mg base A []
  | cons {f : Addr} {sp : Sp} {L : List (Addr × Sp)} : HeldU P w K mg base A f sp → Helds P w K mg base A L → Helds P w K mg base A ((f, sp) :: L)
theorem Helds.at_ {P : Program} {w : World} {K : PySem.W.Frag} {mg : Str → Option Value} {base : Heap} {A : Around} {L : List (Addr × Sp)} (h : Helds P w K mg base A L) : ∀ {f : Addr} {sp : Sp}, (f, sp) ∈ L → HeldU P w K mg base A f sp := by
  induction h with
  | nil => intro f sp hm; cases hm
  | cons a _ ih =>
    intro f sp hm
    rcases List.mem_cons.mp hm with e | hm
    · injection e with e1 e2
      subst e1 e2
      exact a
    · exact ih hm
section
variable {X : Cx} {i : Nat} {L : List (Addr × Sp)} {x : Str} {p pos : Pos} {e : Expr} {es : List Expr} {t : TA}
theorem pe_callM (A : Helds X.prog X.w X.K X.mg X.base X.A L) (ha : PA X (e :: es) t) (hN : X.N[i]? = some x := by rfl) (hv : Vis X.env.scope x := by first | exact Or.inl rfl | exact Or.inr (Or.inl rfl) | exact Or.inr (Or.inr rfl))
    (hdb : (x == ("__debug__" : Str)) = false := by decide) (hcd : (x == ("__classdict__" : Str)) = false := by decide)
    (he : starEach (e :: es) X.env = (false, eval e X.env) :: starEach es X.env := by rfl) (hpl : (backTo pos (starEach es X.env)).any (·.1) = false := by rfl) : PE X (.Call (.Name x p) (e :: es) [] pos) (tCallM i L t) := by
  refine ⟨fun pins s σ H Q I h => ?_⟩
  obtain ⟨f, sp, hs, hm, ht⟩ := h
  obtain ⟨k', fd, ps, hk, F, kp, hb⟩ := A.at_ hm
  refine (pe_callL (i := i) (f := f) (sp := sp) (dvs := []) (E := E0) F hk hN hv kp hb .nil pass0 ha hdb hcd he hpl).run pins s σ H Q I ⟨hs, ?_⟩
  simpa using ht
end
section
variable {σ : L2.St} {H : Hp} {Q : VK} {L : List (Addr × Sp)} {t : TA} {i : Nat} {f : Addr} {sp : Sp}
theorem r_callM (h0 : σ[i]? = some (some (.ref f))) (hm : (f, sp) ∈ L) (h : t σ H fun vs H1 => sp vs H1 Q E0) : tCallM i L t σ H Q := ⟨f, sp, h0, hm, h⟩
end
end U
/-! U17: the Hook with the dicts of the module's top. -/
namespace U
open PySem PySem.Spec PyProof.Rows L2
open He (AlD FnW DefD Fa obsD valD SaysD fnW ga ma fAd eqO frG frG_in asD ba)
abbrev AlV : Type := AlU × List (Bool × List (Int × Bool))
def obsV (file : Str) (fa : List Fa) (fn : List DefD) (en : List ErrD) (ds : List DicD) (t : PySem.W.Frag → Bool) (K : PySem.W.Frag) : AlV := (obsU file fa fn en t K, ds.map (dicS K))
def valW (fn : List DefD) (en : List ErrD) (ds : List DicD) (w : World) : AlV := (valU fn en, ds.map (DicD.val w))
def SaysV (file : Str) (fa : List Fa) (fn : List DefD) (en : List ErrD) (ds : List DicD) (t : PySem.W.Frag → Bool) (w : World) (K : PySem.W.Frag) : Prop := obsV file fa fn en ds t K = valW fn en ds w
def obsVG (file : Str) (n : Nat) (fa : List Fa) (fn : List DefD) (en : List ErrD) (ds : List DicD) (t : PySem.W.Frag → Bool) (g : Addr → Option Obj) : AlV := obsV file fa fn en ds t (frG g (asU g n))
def hookV (file : Str) (n : Nat) (fa : List Fa) (fn : List DefD) (en : List ErrD) (ds : List DicD) (t : PySem.W.Frag → Bool) : PySem.W.Hook where
  α := AlV
  obs := fun s => obsVG file n fa fn en ds t s.heap.get?
  val := fun w => valW fn en ds w
  says := fun w h => ∃ K : PySem.W.Frag, K.In h ∧ SaysV file fa fn en ds t w K
  of := fun _ _ e => ⟨_, frG_in, e⟩
  keeps := fun _ _ _ ⟨K, hK, c⟩ k => ⟨K, PySem.W.Frag.In.keeps hK k, c⟩
theorem obsVG_eq {file : Str} {n : Nat} {fa : List Fa} {fn : List DefD} {en : List ErrD} {ds : List DicD} {t : PySem.W.Frag → Bool} {g : Addr → Option Obj} {s : Shared} (h : ∀ a, g a = s.heap.get? a) : obsVG file n fa fn en ds t g = (hookV file n fa fn en ds t).obs s := by
  have e : g = s.heap.get? := funext h
  rw [e] <;> rfl
section
variable {file : Str} {fa : List Fa} {fn : List DefD} {en : List ErrD} {ds : List DicD} {t : PySem.W.Frag → Bool} {w : World} {K : PySem.W.Frag}
theorem SaysV.u (c : SaysV file fa fn en ds t w K) : SaysU file fa fn en t K := congrArg (fun z : AlV => z.1) c
theorem SaysV.dic (c : SaysV file fa fn en ds t w K) (i : Nat) {d : DicD} (hd : ds[i]? = some d) (nd : (d.kvs.map (·.1)).Nodup) : DicF w K d := by
  have e : ds.map (dicS K) = ds.map (DicD.val w) := congrArg (fun z : AlV => z.2) c
  have e2 : (ds.map (dicS K))[i]? = (ds.map (DicD.val w))[i]? := by rw [e]
  rw [List.getElem?_map, List.getElem?_map, hd] at e2
  exact dicS_ok (Option.some.inj e2) nd
end
end U
/-! U18: del xs[k:] of a list, reversed of a list or a tuple, keyword-only parameters with defaults. -/
namespace U
open PySem PySem.Spec PyProof.Rows L2
section
variable {prog : Program} {w : World} {A : Around} {E : Value → Shared → Prop} {s : Shared}
theorem take_kept (its : List Value) (k : Nat) (f : Nat → Bool) (h1 : ∀ i, i < k → f i = false) (h2 : ∀ i, k ≤ i → i < its.length → f i = true) : its.zipIdx.filterMap (fun p : Value × Nat => if f p.2 = true then none else some p.1) = its.take k := by
  have gen : ∀ (its : List Value) (j : Nat), (∀ i, i < k → f i = false) → (∀ i, k ≤ i → i < j + its.length → f i = true) → (its.zipIdx j).filterMap (fun p : Value × Nat => if f p.2 = true then none else some p.1) = its.take (k - j) := by
    intro its
    induction its with
    | nil => intro j _ _; simp
    | cons a r ih =>
      intro j g1 g2
      rw [List.zipIdx_cons, List.filterMap_cons]
      have ih := ih (j + 1) g1 (fun i h3 h4 => g2 i h3 (by simp only [List.length_cons]; omega))
      by_cases hj : j < k
      · have e := g1 j hj
        simp only [e, Bool.false_eq_true, if_false]
        rw [ih, show k - j = (k - (j + 1)) + 1 by omega, List.take_succ_cons]
      · have e := g2 j (by omega) (by simp only [List.length_cons]; omega)
        simp only [e, if_true]
        rw [ih, show k - (j + 1) = 0 by omega, show k - j = 0 by omega, List.take_zero, List.take_zero]
  simpa using gen its 0 h1 (by simpa using h2)
theorem bounds_end {k n : Nat} (hk : k ≤ n) : sliceBounds (some (k : Int)) none none n = ((k : Int), (n : Int), 1) := by
  simp only [sliceBounds, Option.getD_none]
  have h1 : ¬ ((k : Int) < 0) := by omega
  simp only [h1, if_false, show (1 : Int) > 0 by decide, if_true]
  congr 1
  omega
set_option maxRecDepth 100000 in
/-- list.__delitem__ with a slice k: -/
theorem delItem_tail {l sl : Addr} {items : Array Value} {n : Nat} {vl : Value} {k : Nat} {Q : Unit → Shared → Prop}
    (e : s.heap.get? l = some { cls := .type "list", data := .seq items n }) (hs : s.heap.IsSliceOf sl vl .none .none) (pl : IsPart vl (some (k : Int))) (hk : k ≤ items.size) (hsz : items.size ≤ sizeLine)
    (h : ∀ f : Array Value → Array Value, f items = (items.toList.take k).toArray → Q () { s with heap := s.heap.update l (Obj.mapSeq f) }) :
    wpAny (model prog w) A (delItem (.ref l) (.ref sl)) Q E s := by
  have hl : s.heap.IsList l items := PySem.IsL.isList e
  obtain ⟨os, gob, gcl, gda⟩ := id hs
  have gty : s.TypeIs (.ref sl) "slice" := ⟨os, gob, gcl⟩
  have gst : ¬ ((rawPart none == rawInt 0) = true) := Bool.false_ne_true
  refine wpAny_delItem_slot hl.typeIs (by decide) PySem.F.slot_list_delitem ?_
  refine wpAny_call_entry PySem.F.slot_list_delitem hl.typeIs PySem.F.entry_list_delitem ?_ (PySem.F.args_list_delitem_2 _ _)
  show wpAny _ _ (Builtin.List.listSubscript? (.ref sl) >>= _) _ _ s
  refine wpAny_bind ?_
  unfold Builtin.List.listSubscript?
  refine wpAny_bind (wpAny_specialOf gty slice_no_index ?_)
  simp only [Option.isNone_none, if_true]
  refine wpAny_pure ?_
  show wpAny _ _ (typeOf (.ref sl) >>= _) _ _ s
  refine wpAny_bind (wpAny_typeOf gty ?_)
  first
    | rw [if_neg (by decide)]
    | refine PySem.W.KFB.if_not (by decide) ?_
  rw [listSliceParts_eq]
  refine wpAny_bind (wpAny_bind (wpAny_field gob gda (x := .none) rfl (wpAny_bind (wpAny_listPart .none ?_))))
  rw [if_neg gst]
  refine wpAny_bind (wpAny_field gob gda (x := vl) rfl (wpAny_bind (wpAny_listPart pl ?_)))
  refine wpAny_bind (wpAny_field gob gda (x := .none) rfl (wpAny_bind (wpAny_listPart .none (wpAny_pure ?_))))
  unfold Builtin.List.listItems
  refine wpAny_bind (wpAny_bind (wpAny_seqItems e rfl (wpAny_pure ?_)))
  refine wpAny_bind (wpAny_of_eq ((sliceIndices_raw (some (k : Int)) none none items.size (by simp)).trans (congrArg (pure : Int × Int × Int → Sem (Int × Int × Int)) (bounds_end hk))) ?_)
  refine wpAny_bind (wpAny_rule ?_)
  have key : ∀ f : Nat → Bool, (∀ i : Nat, f i = (if (1 : Int) > 0 then (decide ((k : Int) ≤ (i : Int)) && decide ((i : Int) < (items.size : Int)) && (((i : Int) - (k : Int)) % 1 == 0)) else (decide ((items.size : Int) < (i : Int)) && decide ((i : Int) ≤ (k : Int)) && (((k : Int) - (i : Int)) % (-1) == 0)))) →
      (List.filterMap (fun x : Value × Nat => if f x.2 = true then none else some x.1) items.toList.zipIdx).toArray = (items.toList.take k).toArray := fun f hf => by
    refine congrArg List.toArray (take_kept items.toList k f (fun i hi => ?_) (fun i h1 h2 => ?_))
    · rw [hf, if_pos (by decide)]
      have : ¬ ((k : Int) ≤ (i : Int)) := by omega
      rw [decide_eq_false this]
      rfl
    · rw [hf, if_pos (by decide)]
      have h2 : i < items.size := by simpa using h2
      rw [decide_eq_true (show (k : Int) ≤ (i : Int) by omega), decide_eq_true (show (i : Int) < (items.size : Int) by omega), Int.emod_one]
      rfl
  refine wpAny_bind (m := Builtin.List.listUpdate (.ref l) _) ?_
  show wpAny _ _ (updateSeq l _) _ _ s
  have ek := key _ (fun i => rfl)
  refine wpAny_updateSeq (hz := hsz) (_hz' := Nat.le_trans (Nat.le_of_eq (congrArg Array.size ek)) (by rw [List.size_toArray, List.length_take]; omega)) e rfl ?_
  refine wpAny_bind (wpAny_letGo ?_)
  exact wpAny_pure ⟨.none, rfl, h _ ek⟩
end
/-- del xs[k:] of a list -/
def tDelK (to ti : TE) : TS := fun D σ H => to σ H fun x H1 => ti σ H1 fun y H2 => ∃ (l : Addr) (xs : List V) (k : Nat), x = .ref l ∧ y = .int k ∧ H2 l = some (.lst xs) ∧ k ≤ xs.length ∧ D.nx σ (upd H2 l (.lst (xs.take k)))
section
variable {X : Cx} {o i : Expr} {to ti : TE} {pos tpos spos : Pos}
theorem ps_delK (ho : PE X o to) (hi : PE X i ti) : PS X (.Delete [.Subscript o (.Slice (some i) none none spos) tpos] pos) (tDelK to ti) := by
  refine ⟨fun pins s σ H D I h => ?_⟩
  refine wpAny_Delete (wpAny_deleteEach_cons (wpAny_delete_Subscript (thn (ho.run pins s σ H _ I h) fun u s1 ⟨x, H1, I1, rx, q1⟩ => ?_)))
  refine wpAny_Slice (thn (hi.run pins s1 σ H1 _ I1 q1) fun vl s2 ⟨y, H2, I2, ry, l, xs, k, ex, ey, hH, hk, q2⟩ => ?_)
  subst ex ey
  cases (show u = Value.ref l from rx)
  rw [evalPart_none]
  refine wpAny_pure ?_
  refine wpAny_pure ?_
  obtain ⟨t, rfl⟩ := ry
  have I4 : Inv X pins σ H2 { s2 with heap := s2.heap.push { cls := .type "slice", data := .fields #[.int k t, .none, .none] } } := I2.kept (t' := s2.toks) fun b ob q => Heap.get?_push_of_some _ q
  obtain ⟨z, its, n, r, hl, e⟩ := I4.lstM hH
  refine delItem_tail (k := k) e (Heap.IsSliceOf.new ..) (.int _ _) (by rw [List.size_toArray, ← hl]; exact hk) (by rw [List.size_toArray]; omega) fun f hf => ?_
  refine wpAny_deleteEach_nil ⟨σ, _, I4.lset (its' := its.take k) (t' := s2.toks) hH e ?_ (r.take k) ?_, q2⟩
  · rw [hf]
  · rw [List.length_take]
    omega
end
theorem r_delK {σ : L2.St} {H : Hp} {D : Ends} {to ti : TE} (h : to σ H fun x H1 => ti σ H1 fun y H2 => ∃ (l : Addr) (xs : List V) (k : Nat), x = .ref l ∧ y = .int k ∧ H2 l = some (.lst xs) ∧ k ≤ xs.length ∧ D.nx σ (upd H2 l (.lst (xs.take k)))) : tDelK to ti D σ H := h
/-! a loop over a tuple from its end -/
theorem r_revA {K : PySem.W.Frag} {σ : L2.St} {H : Hp} {te : TE} {R : It → Hp → Prop} (h : te σ H fun v H1 => ∃ (a : Addr) (xs : List V), v = .ref a ∧ ((SqL K H1 a xs ∧ R (Itv K a xs.length) H1) ∨ (SqT K H1 a xs ∧ R (RT.ItvT K a xs.length) H1))) : RT.iRevA K te σ H R := h
section
variable {K : PySem.W.Frag} {σ : L2.St} {H : Hp} {D : Ends}
theorem f_revT {a : Addr} {xs : List V} {g : TG} {tb : TS} (P : Nat → L2.St → Hp → Prop) (h0 : P 0 σ H) (hl : ∀ i σ H, P i σ H → SqT K H a xs)
    (step : ∀ i x σ H, i < xs.length → xs[xs.length - 1 - i]? = some x → P i σ H → g x σ H fun σ2 H2 => tb { D with nx := P (i + 1), ct := P (i + 1), bk := D.nx } σ2 H2) (done : ∀ σ H, P xs.length σ H → D.nx σ H) :
    ∃ W : Nat → Nat → L2.St → Hp → Prop, (∃ m, W 0 m σ H) ∧ ∀ i m σ H, W i m σ H →
      ((RT.ItvT K a xs.length).stop i H ∧ D.nx σ H) ∨ ((RT.ItvT K a xs.length).go i H ∧ ∃ N : L2.St → Hp → Prop, (∀ σ' H', N σ' H' → ∃ m', m' < m ∧ W (i + 1) m' σ' H') ∧ ∀ x H', (RT.ItvT K a xs.length).yld i H x H' → g x σ H' fun σ2 H2 => tb { D with nx := N, ct := N, bk := D.nx } σ2 H2) :=
  l_for P h0 (fun i σ H h p => ⟨h, xs, xs[xs.length - 1 - i], hl i σ H p, List.getElem?_eq_getElem _⟩) (fun _ _ _ => Nat.le_refl _) (fun i σ H h p x H' y => by
    obtain ⟨e1, e2⟩ := y
    subst e1
    exact step i x σ H' h (e2 xs (hl i σ H' p)) p) done
end
/-! a def with keyword-only parameters, all with defaults -/
structure OkK (P : Program) (w : World) (K : PySem.W.Frag) (mg : Str → Option Value) (base : Heap) (k : Nat) (x : Str) (ps ks : List Str) (dvs : List V) (n : Nat) (sp : Sp) : Prop where
  ex : ∃ (f : Addr) (fd : FuncData), mg x = some (.ref f) ∧ FnOk P w K mg base CX0 k f fd ps sp ∧ (∃ ds, Vals dvs ds ∧ Binds K fd ps ds) ∧ KBn K fd ps n ks (fun us ws => us ++ ws) (fun vs zs => vs ++ zs) ∧ PySem.W.keepIn K (.ref f) = true
section
variable {X : Cx} {k n : Nat} {ps ks : List Str} {dvs : List V} {sp : Sp} {x : Str} {p pos : Pos} {e : Expr} {es : List Expr} {kws : List Keyword} {t tk : TA}
theorem pe_fnK (O : OkK X.prog X.w X.K X.mg X.base k x ps ks dvs n sp) (hr : Room k X.A) (hg : Gl X x) (ha : PA X (e :: es) t) (hdb : (x == ("__debug__" : Str)) = false := by decide)
    (he : starEach (e :: es) X.env = (false, eval e X.env) :: starEach es X.env := by rfl) (hpl : (backTo pos (starEach es X.env)).any (·.1) = false := by rfl) : PE X (.Call (.Name x p) (e :: es) [] pos) (tCall sp dvs E0 t) := by
  obtain ⟨f, fd, hm, F, ⟨ds, hd, hb⟩, _, hk⟩ := O.ex
  exact pe_call F hr hg hm hk hb hd pass0 ha hdb he hpl
theorem pe_fnKw {m : Nat} (O : OkK X.prog X.w X.K X.mg X.base k x ps ks dvs n sp) (hr : Room k X.A) (hg : Gl X x) (ha : PA X (e :: es) t) (hkw : PK X kws tk)
    (hall : (backToKw pos (keywordEach kws X.env)).all (·.1.isSome) = true := by rfl) (hks : (backToKw pos (keywordEach kws X.env)).filterMap (·.1) = ks := by rfl)
    (hdb : (x == ("__debug__" : Str)) = false := by decide) (he : starEach (e :: es) X.env = (false, eval e X.env) :: starEach es X.env := by rfl)
    (hpl : ((backTo pos (starEach (e :: es) X.env)).any (·.1) || (backToKw pos (keywordEach kws X.env)).any (·.1.isNone)) = false := by rfl) (hm : ks.length = m := by rfl) :
    PE X (.Call (.Name x p) (e :: es) kws pos) (tCallN n m sp (fun vs zs => vs ++ zs) E0 t tk) := by
  subst hm
  obtain ⟨f, fd, hg2, F, _, hb, hk⟩ := O.ex
  exact pe_callN F hr hg hg2 hk hb pass0 ha hkw hall hks hdb he hpl
end
/-- every keyword-only parameter is written -/
theorem kb0 {K : PySem.W.Frag} {x qual : Str} {params : Arguments} {body : List Stmt} {scope : Scope} {kws : List (Str × V)} {f : Addr} {fd : FuncData} {ps ks : List Str} (F : FunD K x qual params body scope [] kws f fd) (n : Nat)
    (h : ∀ (kV doc pm : Value) (an : Option Addr) (cdv ct : Value) (us ws : List Value), us.length = n → ws.length = ks.length → bindArgs (PySem.W.fnOf x qual params body scope .none kV doc pm an cdv ct) ⟨us, ks.zip ws⟩ = pure (ps.zip (us ++ ws))) :
    KBn K fd ps n ks (fun us ws => us ++ ws) (fun vs zs => vs ++ zs) := by
  obtain ⟨oc, od, dV, kV, doc, pm, an, cdv, ct, osl, rfl, _, _, hD, _⟩ := F.ex
  rcases hD with ⟨_, rfl⟩ | ⟨e, _⟩
  · exact ⟨fun s us ws _ h1 h2 => .of_eq (h kV doc pm an cdv ct us ws h1 h2), fun r1 r2 => r1.append r2⟩
  · exact absurd rfl e
theorem r_callN {σ : L2.St} {H : Hp} {Q : VK} {n m : Nat} {sp : Sp} {gV : List V → List V → List V} {E : XK} {t tk : TA} (h : t σ H fun vs H1 => tk σ H1 fun zs H2 => vs.length = n ∧ zs.length = m ∧ sp (gV vs zs) H2 Q E) : tCallN n m sp gV E t tk σ H Q := h
end U
/-! U19: zip of a tuple and a list, in a loop. -/
namespace U
open PySem PySem.Spec PyProof.Rows L2
/-- the tuple at a and the list at b as they stand at each turn -/
def ItzM (K : PySem.W.Frag) (a b : Addr) : It where
  go := fun n H => ∃ (xs ys : List V) (x y : V), (SqT K H a xs ∧ xs[n]? = some x) ∧ SqL K H b ys ∧ ys[n]? = some y
  yld := fun n H v H2 => ∃ T x y, (v = .ref T ∧ H T = none ∧ H2 = upd H T (.tup [x, y])) ∧ (∀ xs, SqT K H a xs → xs[n]? = some x) ∧ ∀ ys, SqL K H b ys → ys[n]? = some y
  stop := fun n H => ∃ xs ys : List V, (SqT K H a xs ∧ SqL K H b ys) ∧ (xs.length = n ∧ ys.length = n)
structure Five (z TI TO i1 i2 a b : Addr) : Prop where
  sep : ZipSep2 z TI TO i1 i2 [i1, a] [i2, b]
  na : a ≠ i1
  nb : b ≠ i2
theorem five_of {N a b : Nat} (ha : a < N) (hb : b < N) : Five (N + 4) (N + 2) (N + 3) N (N + 1) a b := by
  exact ⟨⟨(show (N + 2 : Nat) ≠ (N + 4 : Nat) by omega), (show (N + 3 : Nat) ≠ (N + 4 : Nat) by omega), (show (N + 2 : Nat) ≠ (N + 3 : Nat) by omega), (show (N + 2 : Nat) ≠ (N : Nat) by omega), by simp, (fun h => by
    have h : (N + 4 : Nat) = N ∨ (N + 4 : Nat) = a := by simpa using h
    omega), (fun h => by
    have h : (N + 3 : Nat) = N ∨ (N + 3 : Nat) = a := by simpa using h
    omega), (show (N + 2 : Nat) ≠ (N + 1 : Nat) by omega), by simp, (fun h => by
    have h : (N + 4 : Nat) = N + 1 ∨ (N + 4 : Nat) = b := by simpa using h
    omega), (fun h => by
    have h : (N + 3 : Nat) = N + 1 ∨ (N + 3 : Nat) = b := by simpa using h
    omega), (fun h => by
    have h : (N : Nat) = N + 1 ∨ (N : Nat) = b := by simpa using h
    omega), (fun h => by
    have h : (N + 1 : Nat) = N ∨ (N + 1 : Nat) = a := by simpa using h
    omega)⟩, (show (a : Nat) ≠ (N : Nat) by omega), (show (b : Nat) ≠ (N + 1 : Nat) by omega)⟩
theorem turn_zipM {P : Program} {w : World} {K : PySem.W.Frag} {elts : List Expr} {kk : Nat} {tpos : Pos} {a b z TI TO i1 i2 : Addr} (F : Five z TI TO i1 i2 a b) :
    Turn P w K (.Tuple elts kk tpos) (ItzM K a b) [z, TI, TO, i1, i2] z (fun n h => (IsZip h z TI TO .none ∧ IsTupOf2 h TI (.ref i1) (.ref i2)) ∧ (∃ u v, IsTupOf2 h TO u v) ∧ h.IsTupleIter i1 a n ∧ h.IsListIter i2 b n) := by
  have five : ∀ {c : Addr}, c ∈ [z, TI, TO, i1, i2] → c = z ∨ c = TI ∨ c = TO ∨ c = i1 ∨ c = i2 := fun {c} h => by simpa using h
  have S := F.sep
  have t1 : TI ≠ i2 := S.TIi2
  constructor
  case mem => simp
  case obj =>
    rintro n h ⟨⟨q1, q2⟩, ⟨u, v, q3⟩, ⟨o1, e1, _, d1⟩, o2, e2, _, d2⟩ c hc
    rcases five hc with rfl | rfl | rfl | rfl | rfl
    · exact ⟨_, q1, fun v z => by cases z⟩
    · exact ⟨_, q2, fun v z => by cases z⟩
    · exact ⟨_, q3, fun v z => by cases z⟩
    · exact ⟨o1, e1, fun v z => by rw [d1] at z; cases z⟩
    · exact ⟨o2, e2, fun v z => by rw [d2] at z; cases z⟩
  case keep =>
    rintro n h h' ⟨⟨q1, q2⟩, ⟨u, v, q3⟩, q4, q5⟩ k
    exact ⟨⟨k _ (by simp) _ q1, k _ (by simp) _ q2⟩, ⟨u, v, k _ (by simp) _ q3⟩, q4.at fun o e => k _ (by simp) o e, q5.at fun o e => k _ (by simp) o e⟩
  case item =>
    rintro X hP hw hK hc n pins s σ H E I hf ⟨⟨q1, q2⟩, ⟨u0, v0, q3⟩, q4, q5⟩ ⟨xs, ys, x, y, ⟨sx, ex⟩, sy, ey⟩
    subst hP hw hK
    obtain ⟨ixs, rx, px, _⟩ := I.tuple sx
    obtain ⟨iys, ry, py, _⟩ := I.list sy
    obtain ⟨ux, hux, rux⟩ := rx.get ex
    obtain ⟨uy, huy, ruy⟩ := ry.get ey
    have hh : X.A.in1.handled = none := I.ok.hd hc
    have ln1 : n < ixs.toArray.size := by rw [List.size_toArray]; exact (List.getElem?_eq_some_iff.mp hux).1
    have ln2 : n < iys.toArray.size := by rw [List.size_toArray]; exact (List.getElem?_eq_some_iff.mp huy).1
    have hzl : z < s.heap.objs.size := Heap.lt_size q1
    refine wpAny_pyNext_zipD2_item S (Draws.tuple hh i1 a F.na ixs.toArray) (Draws.list hh i2 b F.nb iys.toArray) q1 q2 q3 ⟨q4, px⟩ ⟨q5, py.isList⟩ ln1 ln2 fun v1 v2 h1 tk p1 p2 z1 to1 g1 g2 hT hsz hk => ?_
    have p1 : ixs.toArray[n]? = some v1 := p1
    have p2 : iys.toArray[n]? = some v2 := p2
    have ev1 : v1 = ux := by
      rw [List.getElem?_toArray, hux] at p1
      exact (Option.some.inj p1).symm
    have ev2 : v2 = uy := by
      rw [List.getElem?_toArray, huy] at p2
      exact (Option.some.inj p2).symm
    subst ev1 ev2
    refine ⟨_, rfl, wpAny_letOwnedTupleGo_zip (s := { s with heap := h1, toks := tk }) z1 fun h2 z2 sb => ?_⟩
    have keep : ∀ c o, c ≠ z → c ≠ TO → c ≠ i1 → c ≠ i2 → s.heap.get? c = some o → h2.get? c = some o := fun c o c1 c2 c3 c4 e => (sb.2 c c1).trans (hk c o c1 c2 c3 c4 e)
    have gT : h2.get? s.heap.objs.size = some { cls := .type "tuple", data := .seq #[v1, v2] } := by
      rw [sb.2 _ (Nat.ne_of_gt hzl)]
      exact hT
    have fresh : H s.heap.objs.size = none := I.hok.fresh (Nat.le_refl _)
    have I2 : Inv X pins σ (upd H s.heap.objs.size (.tup [x, y])) { s with heap := h2, toks := tk } := by
      refine I.turnedNew (ch := [z, TI, TO, i1, i2]) (fun c o hb e => ?_) hf (Nat.le_refl _) ⟨(show (2 : Nat) ≤ sizeLine from by decide), [v1, v2], .cons rux (.cons ruy .nil), ⟨_, gT, rfl, _, rfl⟩⟩
      simp only [List.mem_cons, List.not_mem_nil, or_false, not_or] at hb
      exact keep c o hb.1 hb.2.2.1 hb.2.2.2.1 hb.2.2.2.2 e
    refine ⟨.ref s.heap.objs.size, _, I2, rfl, ⟨_, x, y, ⟨rfl, fresh, rfl⟩, fun l hl => ?_, fun l hl => ?_⟩, ⟨⟨z2, ?_⟩, ⟨v1, v2, ?_⟩, ?_, ?_⟩, fun c hcm => ?_⟩
    · rw [I.tuple_inj hl sx]; exact ex
    · rw [I.list_inj hl sy]; exact ey
    · exact keep _ _ S.TIz S.TITO S.TIi1 S.TIi2 q2
    · exact (sb.2 _ S.TOz).trans to1
    · exact g1.1.at fun o e => (sb.2 _ S.zi1.symm).trans e
    · exact g2.1.at fun o e => (sb.2 _ S.zi2.symm).trans e
    · have lt : c < s.heap.objs.size := by
        obtain ⟨_, w1, _⟩ := q4
        obtain ⟨_, w2, _⟩ := q5
        rcases five hcm with rfl | rfl | rfl | rfl | rfl
        · exact hzl
        · exact Heap.lt_size q2
        · exact Heap.lt_size q3
        · exact Heap.lt_size w1
        · exact Heap.lt_size w2
      rw [upd_ne (Nat.ne_of_lt lt)]
      exact (hf c hcm).1
  case done =>
    rintro X hP hw hK hc n pins s σ H E I hf ⟨⟨q1, q2⟩, ⟨u0, v0, q3⟩, q4, q5⟩ ⟨xs, ys, ⟨sx, sy⟩, l1, l2⟩
    subst hP hw hK
    obtain ⟨ixs, rx, px, _⟩ := I.tuple sx
    obtain ⟨iys, ry, py, _⟩ := I.list sy
    have hh : X.A.in1.handled = none := I.ok.hd hc
    have ln1 : n = ixs.toArray.size := by rw [List.size_toArray, ← rx.length]; exact l1.symm
    have ln2 : n = iys.toArray.size := by rw [List.size_toArray, ← ry.length]; exact l2.symm
    refine wpAny_pyNext_zipD2_end S (Draws.tuple hh i1 a F.na ixs.toArray) (Draws.list hh i2 b F.nb iys.toArray) q1 q2 q3 ⟨q4, px⟩ ⟨q5, py.isList⟩ (by omega) (by omega) (.inl ln1) fun h1 tk hk => ⟨rfl, ?_⟩
    refine I.turnedL (ch := [z, TI, TO, i1, i2]) (fun c o hb e => ?_) hf
    simp only [List.mem_cons, List.not_mem_nil, or_false, not_or] at hb
    exact hk c o hb.1 hb.2.2.1 hb.2.2.2.1 hb.2.2.2.2 e
  case self => exact fun A n s Q E st h => wpAny_pyIter_zip st.1.1 h
/-- zip of two lists, of two tuples, of a tuple and a list -/
def iZipB (K : PySem.W.Frag) (ta : TA) : TI := fun σ H R => (∃ Z : Prop, Z ∧ RZ.iZipA K ta σ H R) ∨ ta σ H fun vs H1 => ∃ a b xs ys, vs = [.ref a, .ref b] ∧ (SqT K H1 a xs ∧ SqL K H1 b ys) ∧ R (ItzM K a b) H1
theorem pi_zipB {X : Cx} {e e2 : Expr} {ta : TA} {p pos tpos : Pos} {elts : List Expr} {kk : Nat} (hg : Gl X "zip") (hm : X.mg "zip" = none) (ha : PA X [e, e2] ta)
    (hs : starEach [e, e2] X.env = (false, eval e X.env) :: starEach [e2] X.env := by rfl) (hpl : (backTo pos (starEach [e2] X.env)).any (·.1) = false := by rfl) :
    PI X (.Tuple elts kk tpos) (.Call (.Name "zip" p) [e, e2] [] pos) (iZipB X.K ta) := by
  refine ⟨fun pins s σ H R I h => ?_⟩
  rcases h with ⟨_, _, h⟩ | h
  · exact (RZ.pi_zipA hg hm ha hs hpl).run pins s σ H R I h
  refine Call_ (ld_blt I hg hm PyProof.Rows.boot_zip ?_)
  refine PyProof.Rows.callWith_type1 ?_ hs hpl
  refine thn (ha.run pos pins s σ H _ I h) fun us s1 ⟨vs, H1, I1, rs, a, b, xs, ys, ev, ⟨sx, sy⟩, q⟩ => ?_
  subst ev
  obtain ⟨u1, u2, rfl, r1, r2⟩ : ∃ u1 u2, us = [u1, u2] ∧ RelV (.ref a) u1 ∧ RelV (.ref b) u2 := by
    cases rs with
    | cons r t =>
      cases t with
      | cons r' t => cases t; exact ⟨_, _, rfl, r, r'⟩
  cases r1
  cases r2
  obtain ⟨ixs, rx, px, _⟩ := I1.tuple sx
  obtain ⟨iys, ry, py, _⟩ := I1.list sy
  obtain ⟨ox, hox, _⟩ := id px
  refine zip_begins2 (begins_tuple a ixs.toArray) (begins_list b iys.toArray) px py.isList fun h1 z1 z2 z3 z4 z5 _ hk => ?_
  refine wpAny_pyIter_zip z1 ⟨_, _, _, _, H1, rfl, I1.kept (t' := s1.toks) hk, turn_zipM (five_of (N := s1.heap.objs.size) (Heap.lt_size hox) py.lt), ⟨⟨z1, z2⟩, ⟨_, _, z3⟩, ⟨_, z4, rfl, rfl⟩, ⟨_, z5, rfl, rfl⟩⟩, fun c hc => ?_, q⟩
  have le : s1.heap.objs.size ≤ c := by
    have h5 : c = s1.heap.objs.size + 4 ∨ c = s1.heap.objs.size + 2 ∨ c = s1.heap.objs.size + 3 ∨ c = s1.heap.objs.size ∨ c = s1.heap.objs.size + 1 := by simpa using hc
    show (s1.heap.objs.size : Nat) ≤ (c : Nat)
    rcases h5 with z | z | z | z | z <;> (rw [z]; simp)
  exact I1.fpOk le (I1.hok.fresh le)
theorem r_zipM {K : PySem.W.Frag} {σ : L2.St} {H : Hp} {ta : TA} {R : It → Hp → Prop} (h : ta σ H fun vs H1 => ∃ a b xs ys, vs = [.ref a, .ref b] ∧ (SqT K H1 a xs ∧ SqL K H1 b ys) ∧ R (ItzM K a b) H1) : iZipB K ta σ H R := .inr h
theorem r_zipA {K : PySem.W.Frag} {σ : L2.St} {H : Hp} {ta : TA} {R : It → Hp → Prop} (h : RZ.iZipA K ta σ H R) : iZipB K ta σ H R := .inl ⟨True, trivial, h⟩
/-- a loop over it, both of one length -/
theorem f_zipM {K : PySem.W.Frag} {a b : Addr} {xs ys : List V} {g : TG} {tb : TS} {D : Ends} {σ : L2.St} {H : Hp} (hl : xs.length = ys.length) (P : Nat → L2.St → Hp → Prop) (h0 : P 0 σ H) (hq : ∀ i σ H, P i σ H → SqT K H a xs ∧ SqL K H b ys)
    (step : ∀ (i : Nat) (x y : V) (T : Addr) (σ : L2.St) (H : Hp), xs[i]? = some x → ys[i]? = some y → P i σ H → H T = none → g (.ref T) σ (upd H T (.tup [x, y])) fun σ2 H2 => tb { D with nx := P (i + 1), ct := P (i + 1), bk := D.nx } σ2 H2) (done : ∀ σ H, P xs.length σ H → D.nx σ H) :
    ∃ W : Nat → Nat → L2.St → Hp → Prop, (∃ m, W 0 m σ H) ∧ ∀ i m σ H, W i m σ H →
      ((ItzM K a b).stop i H ∧ D.nx σ H) ∨ ((ItzM K a b).go i H ∧ ∃ N : L2.St → Hp → Prop, (∀ σ' H', N σ' H' → ∃ m', m' < m ∧ W (i + 1) m' σ' H') ∧ ∀ v H', (ItzM K a b).yld i H v H' → g v σ H' fun σ2 H2 => tb { D with nx := N, ct := N, bk := D.nx } σ2 H2) :=
  l_for (n := xs.length) P h0 (fun i σ H h p => ⟨xs, ys, xs[i], ys[i]'(by omega), ⟨(hq i σ H p).1, List.getElem?_eq_getElem h⟩, (hq i σ H p).2, List.getElem?_eq_getElem _⟩) (fun σ H p => ⟨xs, ys, hq _ σ H p, rfl, hl.symm⟩) (fun i σ H h p x H' y => by
    obtain ⟨T, u, v, ⟨rfl, hT, rfl⟩, f1, f2⟩ := y
    exact step i u v T σ H (f1 xs (hq i σ H p).1) (f2 ys (hq i σ H p).2) p hT) done
end U
/-! U20: a call of one of several defs that a local name may hold, where they raise. -/
namespace U
open PySem PySem.Spec PyProof.Rows L2
def HeldX (P : Program) (w : World) (K : PySem.W.Frag) (mg : Str → Option Value) (base : Heap) (A : Around) (f : Addr) (sp : Sp) : Prop :=
  ∃ k' fd ps, Room k' A ∧ FnOk P w K mg base (L2.CX P w) k' f fd ps sp ∧ PySem.W.keepIn K (.ref f) = true ∧ Binds K fd ps []
theorem heldX {P : Program} {w : World} {K : PySem.W.Frag} {mg : Str → Option Value} {base : Heap} {A : Around} {k' : Nat} {x : Str} {f : Addr} {ps : List Str} {sp : Sp} (O : OkX P w K mg base k' x ps sp) (g : mg x = some (.ref f)) (hk : Room k' A) : HeldX P w K mg base A f sp := by
  obtain ⟨f', fd, hm, F, hb, kp⟩ := O.ex
  have e : f' = f := by
    rw [g] at hm
    injection hm with hm
    injection hm with hm
    exact hm.symm
  subst e
  exact ⟨k', fd, ps, hk, F, kp, hb⟩
def tCallMS (i : Nat) (L : List (Addr × Sp)) (E : L2.St → XK) (t : TA) : TE := fun σ H Q => ∃ f sp, σ[i]? = some (some (.ref f)) ∧ (f, sp) ∈ L ∧ t σ H fun vs H1 => sp vs H1 Q (E σ)
inductive HeldsX (P : Program) (w : World) (K : PySem.W.Frag) (mg : Str → Option Value) (base : Heap) (A : Around) : List (Addr × Sp) → Prop
  | nil : HeldsX P w K mg base A []
  | cons {f : Addr} {sp : Sp} {L : List (Addr × Sp)} : HeldX P w K mg base A f sp → HeldsX P w K mg base A L → HeldsX P w K mg base A ((f, sp) :: L)
theorem HeldsX.at_ {P : Program} {w : World} {K : PySem.W.Frag} {mg : Str → Option Value} {base : Heap} {A : Around} {L : List (Addr × Sp)} (h : HeldsX P w K mg base A L) : ∀ {f : Addr} {sp : Sp}, (f, sp) ∈ L → HeldX P w K mg base A f sp := by
  induction h with
  | nil => intro f sp hm; cases hm
  | cons a _ ih =>
    intro f sp hm
    rcases List.mem_cons.mp hm with e | hm
    · injection e with e1 e2
      subst e1 e2
      exact a
    · exact ih hm
section
variable {X : Cx} {W : WX} {i : Nat} {L : List (Addr × Sp)} {x : Str} {p pos : Pos} {e : Expr} {es : List Expr} {t : TA}
theorem pe_callMX (A : HeldsX X.prog X.w X.K X.mg X.base X.A L) (tk : Takes X W) (ha : PA X (e :: es) t) (hN : X.N[i]? = some x := by rfl) (hv : Vis X.env.scope x := by first | exact Or.inl rfl | exact Or.inr (Or.inl rfl) | exact Or.inr (Or.inr rfl))
    (hdb : (x == ("__debug__" : Str)) = false := by decide) (hcd : (x == ("__classdict__" : Str)) = false := by decide)
    (he : starEach (e :: es) X.env = (false, eval e X.env) :: starEach es X.env := by rfl) (hpl : (backTo pos (starEach es X.env)).any (·.1) = false := by rfl) : PE X (.Call (.Name x p) (e :: es) [] pos) (tCallMS i L (WE W) t) := by
  refine ⟨fun pins s σ H Q I h => ?_⟩
  obtain ⟨f, sp, hs, hm, ht⟩ := h
  obtain ⟨k', fd, ps, hk, F, kp, hb⟩ := A.at_ hm
  refine wpAny_Call_Name_kw (thn ((pe_var (pos := p) hN hv hdb hcd).run pins s σ H (fun v H1 => v = .ref f ∧ H1 = H) I ⟨.ref f, hs, rfl, rfl⟩) fun u s1 ⟨v, H1, I1, r1, q1⟩ => ?_)
  obtain ⟨rfl, rfl⟩ := q1
  cases r1
  refine PySem.W.callWith_K (h₀ := X.base) I.ok.mod.kin kp (thn (ha.run pos pins s1 σ _ _ I1 ht) fun us s2 ⟨vs, H2, I2, r, q⟩ => ⟨I2.kIn, ?_⟩) he hpl
  exact run_fnS F hk hb (passAt tk σ) I2 r q
end
section
variable {σ : L2.St} {H : Hp} {Q : VK} {L : List (Addr × Sp)} {t : TA} {i : Nat} {f : Addr} {sp : Sp} {W : WX}
theorem r_callMS (h0 : σ[i]? = some (some (.ref f))) (hm : (f, sp) ∈ L) (h : t σ H fun vs H1 => sp vs H1 Q (fun cls d H' => W cls d σ H')) : tCallMS i L (WE W) t σ H Q := ⟨f, sp, h0, hm, h⟩
end
end U
/-! U21: slice stores, properties, len of an own class. -/
namespace U
open PySem PySem.Spec PyProof.Rows L2
open He (FnW ga ma)
/-! ### xs[a:b] = ys -/
def gSlc (to tl th : TE) : TG := fun v σ H Q => to σ H fun o H1 => tl σ H1 fun a H2 => th σ H2 fun c H3 => ∃ (l b : Addr) (xs ys : List V) (i j : Int), o = .ref l ∧ v = .ref b ∧ a = .int i ∧ c = .int j ∧ H3 l = some (.lst xs) ∧ H3 b = some (.lst ys) ∧ l ≠ b ∧ 0 ≤ i ∧ i ≤ j ∧ j ≤ xs.length ∧
  xs.length + ys.length ≤ sizeLine ∧ Q σ (upd H3 l (.lst (xs.take i.toNat ++ ys ++ xs.drop j.toNat)))
section
variable {X : Cx} {o lo hi : Expr} {to tl th : TE} {p2 pos : Pos}
theorem pg_slc (ho : PE X o to) (hl : PE X lo tl) (hh : PE X hi th)
    (ha : ∀ v, assign (.Subscript o (.Slice (some lo) (some hi) none p2) pos) X.env v = (do
      let ov ← holding [v] (eval o X.env)
      let iv ← holding [v, ov] (eval (.Slice (some lo) (some hi) none p2) X.env)
      standAt pos
      holding [v, ov, iv] (setItem ov iv v)
      release [iv, v, ov] []) := by intro _; rfl) : PG X (.Subscript o (.Slice (some lo) (some hi) none p2) pos) (gSlc to tl th) := by
  refine ⟨fun pins s σ H v u Q I r h => ?_⟩
  rw [ha]
  refine wpAny_bind (wpAny_holding (thn (ho.run pins s σ H _ I h) fun ov s1 ⟨x, H1, I1, r1, q1⟩ => ?_))
  refine wpAny_bind (wpAny_holding (wpAny_Slice (thn (hl.run pins s1 σ H1 _ I1 q1) fun vl s2 ⟨a, H2, I2, ra, q2⟩ => thn (hh.run pins s2 σ H2 _ I2 q2) fun vu s3 ⟨c, H3, I3, rc, l, b, xs, ys, i, j, ex, ev, ea, ec, hx, hy, hne, h0, hij, hj, hz, q3⟩ => ?_)))
  subst ex ev ea ec
  cases (show ov = Value.ref l from r1)
  cases (show u = Value.ref b from r)
  rw [evalPart_none]
  refine wpAny_pure ?_
  have I4 : Inv X pins σ H3 { s3 with heap := s3.heap.push { cls := .type "slice", data := .fields #[vl, vu, .none] } } := I3.kept (t' := s3.toks) fun b ob q => Heap.get?_push_of_some _ q
  refine wpAny_bind (wpAny_standAt (wpAny_bind (wpAny_holding ?_)))
  exact set_slice I4 hx hy hne (Heap.IsSliceOf.new ..) ra rc h0 hij hj hz fun s5 I5 => wpAny_release ⟨σ, _, I5, q3⟩
end
theorem r_slc {σ : L2.St} {H : Hp} {to tl th : TE} {v : V} {R : L2.St → Hp → Prop} (h : to σ H fun o H1 => tl σ H1 fun a H2 => th σ H2 fun c H3 => ∃ (l b : Addr) (xs ys : List V) (i j : Int), o = .ref l ∧ v = .ref b ∧ a = .int i ∧ c = .int j ∧ H3 l = some (.lst xs) ∧ H3 b = some (.lst ys) ∧ l ≠ b ∧ 0 ≤ i ∧ i ≤ j ∧ j ≤ xs.length ∧
  xs.length + ys.length ≤ sizeLine ∧ R σ (upd H3 l (.lst (xs.take i.toNat ++ ys ++ xs.drop j.toNat)))) : gSlc to tl th v σ H R := h
/-! ### a property of a class of the program -/
structure OkPr (P : Program) (w : World) (K : PySem.W.Frag) (mg : Str → Option Value) (base : Heap) (k : Nat) (C : Addr) (f : Str) (sp : Sp) : Prop where
  ex : ∃ (p g : Addr) (fd : FuncData), Cls K C ∧ PropOf K C f p g ∧ FnOk P w K mg base CX0 k g fd ["self"] sp ∧ Binds K fd ["self"] []
section
variable {X : Cx} {k : Nat} {C : Addr} {f : Str} {sp : Sp} {e : Expr} {pos : Pos} {ta : TE}
theorem pe_prp (O : OkPr X.prog X.w X.K X.mg X.base k C f sp) (he : PE X e ta) (hr : Room (k + 1) X.A) (hab : attributeBase e f X.env (eval e X.env) = eval e X.env) : PE X (.Attribute e f pos) (tProp C sp [] E0 ta) := by
  obtain ⟨p, g, fd, c, hp, F, hb⟩ := O.ex
  exact pe_prop he c hp F hr hb .nil pass0 hab
end
theorem r_prop {σ : L2.St} {H : Hp} {Q : VK} {C : Addr} {sp : Sp} {ta : TE} (h : ta σ H fun x H1 => ∃ a dx fs, x = .ref a ∧ H1 a = some (.ins C dx fs) ∧ sp [.ref a] H1 Q E0) : tProp C sp [] E0 ta σ H Q := h
/-! ### a def called within a built-in -/
section
variable {X : Cx} {k : Nat} {f : Addr} {fd : FuncData} {ps : List Str} {sp : Sp}
theorem run_in1 {pins : List (Addr × Obj)} {σ : L2.St} {H : Hp} {s : Shared} {Q : VK} {us : List Value} {vs : List V} {Ex : Value → Shared → Prop} (F : FnOk X.prog X.w X.K X.mg X.base CX0 k f fd ps sp) (hr : Room (k + 1) X.A) (hb : Binds X.K fd ps [])
    (I : Inv X pins σ H s) (r : Vals vs us) (h : sp vs H Q E0) : wpAny (model X.prog X.w) X.A.in1 (call (.ref f) us) (EP X pins σ Q) Ex s := by
  have hl : us.length = ps.length := by rw [← r.length]; exact F.len _ _ _ _ h
  have b := hb s us I.kIn (by rw [List.append_nil]; exact hl)
  rw [List.append_nil] at b
  refine wpAny_call (codeAny_mono (F.run X.A.in1 X.stack s H ⟨us, []⟩ us vs Q E0 hr.in1 I.env0.in1 b r h) fun r s' hq => ?_)
  cases r with
  | error e => exact False.elim hq
  | ok fl =>
    cases fl with
    | ret u => exact I.after hq
    | next => exact False.elim hq
    | brk => exact False.elim hq
    | cont => exact False.elim hq
end
section
variable {prog : Program} {w : World} {A : Around} {E : Value → Shared → Prop} {s : Shared} {K : PySem.W.Frag} {x C f : Addr} {ox : Obj} {od : Option Obj}
theorem len_fn {Q : Value → Shared → Prop} (X : K.In s.heap) (I : PySem.W.InstAt s.heap x ox C od) (hs : PySem.W.findIn K (.ref C) "__len__" = some (some (.ref f))) (hf : PySem.W.isFn K (.ref f) = true)
    (h : wpAny (model prog w) A.in1 (call (.ref f) [.ref x]) (fun r s' => ∃ n u, r = .int n u ∧ 0 ≤ n ∧ n < 2 ^ 63 ∧ Q (.int n s'.toks) { s' with toks := s'.toks + 1 }) E s) :
    wpAny (model prog w) A (call (.builtin "len") [.ref x]) Q E s := by
  refine Calls.call_function_entry kind_len plain_len entry_len (args_len1 _) ?_
  unfold Builtin.«len»
  refine wpAny_bind (m := oneArg "len" _) (wpAny_pure ?_)
  refine wpAny_bind (m := callSpecial? (.ref x) (Str.ofString "__len__")) (PySem.W.special_fn (name := "__len__") (args := []) X I hs (beq_iff_eq.mp hf) (wpAny_mono h (fun r s' hr => ?_) fun _ _ y => y))
  obtain ⟨n, u, rfl, h0, h1, hq⟩ := hr
  refine wpAny_bind (wpAny_holding (wpAny_pure ?_))
  refine wpAny_bind (wpAny_letGo ?_)
  show wpAny _ _ (if n < 0 then _ else _) _ _ _
  rw [if_neg (by omega)]
  show wpAny _ _ (if n ≥ 2 ^ 63 then _ else _) _ _ _
  rw [if_neg (by omega)]
  exact wpAny_bind (wpAny_mkInt (wpAny_pure ⟨_, rfl, hq⟩))
end
def rLenO (C : Addr) (sp : Sp) : RC := fun xs H Q => ∃ a dx fs, xs = [.ref a] ∧ H a = some (.ins C dx fs) ∧ sp [.ref a] H (fun v H' => ∃ n : Int, v = .int n ∧ 0 ≤ n ∧ n < 2 ^ 63 ∧ Q (.int n) H') E0
theorem c_lenO {X : Cx} {k : Nat} {C : Addr} {ps : List Str} {sp : Sp} (O : OkOp X.prog X.w X.K X.mg X.base k C "__len__" ps sp) (hr : Room (k + 1) X.A) : CallR X (.builtin "len") (rLenO C sp) := by
  obtain ⟨f, fd, hs, hf, F, hb⟩ := O.ex
  intro pins s σ H xs us Q I r h
  obtain ⟨a, dx, fs, rfl, ha, q⟩ := h
  cases r with
  | cons r1 rr =>
    cases rr
    cases (show _ = Value.ref a from r1)
    obtain ⟨mA, J, _⟩ := ins_get I.hok ha
    obtain ⟨od, J, _⟩ := J.look
    refine len_fn I.kIn J hs hf (wpAny_mono (run_in1 (us := [.ref a]) (vs := [.ref a]) F hr hb I (.cons rfl .nil) q) (fun u s' z => ?_) fun _ _ y => y)
    obtain ⟨v, H', I', rv, n, rfl, h0, h1, q'⟩ := z
    obtain ⟨t, rfl⟩ := rv
    exact ⟨n, t, rfl, h0, h1, .int n, H', I'.tok _, ⟨_, rfl⟩, q'⟩
/-! ### the Hook with the getters of properties -/
structure PrD where
  c : Str
  f : Str
  qual : Str
  params : Arguments
  body : List Stmt
  scope : Scope
def pAd (K : PySem.W.Frag) (d : PrD) : Addr := ma K (ga K d.c) d.f
def gAd (K : PySem.W.Frag) (d : PrD) : Addr := match PySem.W.recIn K (pAd K d) "property" with
  | some (.ref g :: _) => g
  | _ => 0
def fnG (K : PySem.W.Frag) (d : PrD) : FnW := match K.lookup (gAd K d) with
  | some ⟨_, _, .func fd, _⟩ => some (fd.name, fd.qualname, fd.params, fd.body, fd.scope, fd.globals, fd.closure, fd.builtins)
  | _ => none
def PrD.val (d : PrD) : FnW := some (d.f, d.qual, d.params, .stmts d.body, d.scope, mainGlobals, [], builtinsNs)
def prB (K : PySem.W.Frag) (d : PrD) : Bool :=
  (He.eqO (PySem.W.findIn K (.ref (ga K d.c)) d.f) (some (some (.ref (pAd K d)))) && He.eqO (PySem.W.specialIn K (.ref (pAd K d)) "__get__") (some (some (.builtin "property.__get__")))) &&
  ((decide (PySem.W.takesIn K (.ref (pAd K d)) = some true) && (match PySem.W.recIn K (pAd K d) "property" with
    | some (.ref _ :: _) => true
    | _ => false)) && (PySem.W.keepIn K (.ref (gAd K d)) && (match K.lookup (gAd K d) with
    | some ⟨_, _, .func fd, _⟩ => PySem.W.codeIn K fd.code d.qual && (He.dflB K fd.defaults [] && He.kwdB K fd.kwdefaults [])
    | _ => false)))
theorem prB_ok {K : PySem.W.Frag} {d : PrD} (e : fnG K d = d.val) (c : prB K d = true) : PropOf K (ga K d.c) d.f (pAd K d) (gAd K d) ∧ ∃ fd, FunD K d.f d.qual d.params d.body d.scope [] [] (gAd K d) fd := by
  unfold prB at c
  simp only [Bool.and_eq_true] at c
  obtain ⟨⟨a1, a2⟩, ⟨a3, a4⟩, a5, a6⟩ := c
  refine ⟨⟨He.eqO_ok a1, He.eqO_ok a2, of_decide_eq_true a3, ?_⟩, ?_⟩
  · split at a4
    · rename_i g rest hg
      refine ⟨rest, ?_⟩
      have eg : gAd K d = g := by
        unfold gAd
        rw [hg]
      rw [eg, hg]
    · cases a4
  · unfold fnG at e
    cases lk : K.lookup (gAd K d) with
    | none => rw [lk] at a6; cases a6
    | some o =>
      obtain ⟨oc, od, dt, osl⟩ := o
      rw [lk] at a6 e
      cases dt with
      | func fd =>
        obtain ⟨m1, m2, m3, m4, m5, m6, m7, m8, m9, m10, m11, m12, m13, m14, m15⟩ := fd
        have e : (some (m1, m2, m3, m4, m5, m6, m7, m15) : FnW) = (some (d.f, d.qual, d.params, FuncBody.stmts d.body, d.scope, mainGlobals, [], builtinsNs) : FnW) := e
        simp only [Option.some.injEq, Prod.mk.injEq] at e
        obtain ⟨z1, z2, z3, z4, z5, z6, z7, z8⟩ := e
        subst z1 z2 z3 z4 z5 z6 z7 z8
        dsimp only at a6
        simp only [Bool.and_eq_true] at a6
        obtain ⟨b1, b2, b3⟩ := a6
        exact ⟨_, ⟨oc, od, m8, m9, m10, m11, m12, m13, m14, osl, rfl, lk, b1, He.dflB_ok b2, He.kwdB_ok b3⟩, a5⟩
      | _ => cases a6
open He (DefD Fa frG frG_in ba)
abbrev AlP : Type := AlV × (Bool × List FnW)
def obsP (file : Str) (fa : List Fa) (fn : List DefD) (en : List ErrD) (ds : List DicD) (pr : List PrD) (t : PySem.W.Frag → Bool) (K : PySem.W.Frag) : AlP := (obsV file fa fn en ds t K, (pr.all (prB K), pr.map (fnG K)))
def valP (fn : List DefD) (en : List ErrD) (ds : List DicD) (pr : List PrD) (w : World) : AlP := (valW fn en ds w, (true, pr.map PrD.val))
def SaysP (file : Str) (fa : List Fa) (fn : List DefD) (en : List ErrD) (ds : List DicD) (pr : List PrD) (t : PySem.W.Frag → Bool) (w : World) (K : PySem.W.Frag) : Prop := obsP file fa fn en ds pr t K = valP fn en ds pr w
def obsPG (file : Str) (n : Nat) (fa : List Fa) (fn : List DefD) (en : List ErrD) (ds : List DicD) (pr : List PrD) (t : PySem.W.Frag → Bool) (g : Addr → Option Obj) : AlP := obsP file fa fn en ds pr t (frG g (asU g n))
def hookP (file : Str) (n : Nat) (fa : List Fa) (fn : List DefD) (en : List ErrD) (ds : List DicD) (pr : List PrD) (t : PySem.W.Frag → Bool) : PySem.W.Hook where
  α := AlP
  obs := fun s => obsPG file n fa fn en ds pr t s.heap.get?
  val := fun w => valP fn en ds pr w
  says := fun w h => ∃ K : PySem.W.Frag, K.In h ∧ SaysP file fa fn en ds pr t w K
  of := fun _ _ e => ⟨_, frG_in, e⟩
  keeps := fun _ _ _ ⟨K, hK, c⟩ k => ⟨K, PySem.W.Frag.In.keeps hK k, c⟩
theorem obsPG_eq {file : Str} {n : Nat} {fa : List Fa} {fn : List DefD} {en : List ErrD} {ds : List DicD} {pr : List PrD} {t : PySem.W.Frag → Bool} {g : Addr → Option Obj} {s : Shared} (h : ∀ a, g a = s.heap.get? a) : obsPG file n fa fn en ds pr t g = (hookP file n fa fn en ds pr t).obs s := by
  have e : g = s.heap.get? := funext h
  rw [e] <;> rfl
section
variable {file : Str} {fa : List Fa} {fn : List DefD} {en : List ErrD} {ds : List DicD} {pr : List PrD} {t : PySem.W.Frag → Bool} {w : World} {K : PySem.W.Frag}
theorem SaysP.v (c : SaysP file fa fn en ds pr t w K) : SaysV file fa fn en ds t w K := congrArg (fun z : AlP => z.1) c
theorem SaysP.u (c : SaysP file fa fn en ds pr t w K) : SaysU file fa fn en t K := c.v.u
theorem SaysP.dic (c : SaysP file fa fn en ds pr t w K) (i : Nat) {d : DicD} (hd : ds[i]? = some d) (nd : (d.kvs.map (·.1)).Nodup) : DicF w K d := c.v.dic i hd nd
theorem SaysP.prop (c : SaysP file fa fn en ds pr t w K) (i : Nat) {d : PrD} (hd : pr[i]? = some d) : PropOf K (ga K d.c) d.f (pAd K d) (gAd K d) ∧ ∃ fd, FunD K d.f d.qual d.params d.body d.scope [] [] (gAd K d) fd := by
  have e1 : pr.all (prB K) = true := congrArg (fun z : AlP => z.2.1) c
  have e : pr.map (fnG K) = pr.map PrD.val := congrArg (fun z : AlP => z.2.2) c
  have e2 : (pr.map (fnG K))[i]? = (pr.map PrD.val)[i]? := by rw [e]
  rw [List.getElem?_map, List.getElem?_map, hd] at e2
  exact prB_ok (Option.some.inj e2) (List.all_eq_true.mp e1 d (List.mem_of_getElem? hd))
end
/-! a range with a step -/
theorem r_rng3 {σ : L2.St} {H : Hp} {ta : TA} {R : It → Hp → Prop} (h : ta σ H fun vs H1 => ∃ (i j c : Int) (n : Nat), vs = [.int i, .int j, .int c] ∧ RgC i j c n ∧ R (Itc i c n) H1) : iRng3 ta σ H R := h
theorem r_rng3v {a b c : Int} {P : Int → Int → Int → Nat → Prop} (h : ∃ n, P a b c n) : ∃ (i j k : Int) (n : Nat), [V.int a, V.int b, V.int c] = [V.int i, V.int j, V.int k] ∧ P i j k n := by
  obtain ⟨n, h⟩ := h
  exact ⟨a, b, c, n, rfl, h⟩
/-! x.f += .. -/
section
variable {σ : L2.St} {H : Hp} {D : Ends} {C : Addr} {ta tv : TE} {rd : V → V → Hp → VK → Prop} {f : Str} {u : TS}
theorem r_faug (h : ta σ H fun x H1 => ∃ a dx fs v, x = .ref a ∧ H1 a = some (.ins C dx fs) ∧ fs.lookup f = some v ∧ tv σ H1 fun y H2 => rd v y H2 fun z H3 => ∃ dx' fs', H3 a = some (.ins C dx' fs') ∧ fs'.length < 1000 ∧ D.nx σ (upd H3 a (.ins C dx' (putF f z fs')))) : sFldAugC C ta tv rd f D σ H := h
theorem r_sqFA (h : ta σ H fun x H1 => ∃ a dx fs v, x = .ref a ∧ H1 a = some (.ins C dx fs) ∧ fs.lookup f = some v ∧ tv σ H1 fun y H2 => rd v y H2 fun z H3 => ∃ dx' fs', H3 a = some (.ins C dx' fs') ∧ fs'.length < 1000 ∧ u D σ (upd H3 a (.ins C dx' (putF f z fs')))) : tSq (sFldAugC C ta tv rd f) u D σ H := r_sq h
end
/-! a loop over enumerate(list) -/
theorem r_enum {K : PySem.W.Frag} {σ : L2.St} {H : Hp} {ta : TA} {R : It → Hp → Prop} (h : ta σ H fun vs H1 => ∃ a xs, vs = [.ref a] ∧ SqL K H1 a xs ∧ R (Ite K a) H1) : iEnum K ta σ H R := h
section
variable {K : PySem.W.Frag} {σ : L2.St} {H : Hp} {D : Ends}
theorem f_enum {a : Addr} {xs : List V} {g : TG} {tb : TS} (P : Nat → L2.St → Hp → Prop) (h0 : P 0 σ H) (hl : ∀ i σ H, P i σ H → SqL K H a xs)
    (step : ∀ (i : Nat) x σ H T H', xs[i]? = some x → P i σ H → H T = none → Same H H' → H' T = some (.tup [.int i, x]) → g (.ref T) σ H' fun σ2 H2 => tb { D with nx := P (i + 1), ct := P (i + 1), bk := D.nx } σ2 H2) (done : ∀ σ H, P xs.length σ H → D.nx σ H) :
    ∃ W : Nat → Nat → L2.St → Hp → Prop, (∃ m, W 0 m σ H) ∧ ∀ i m σ H, W i m σ H →
      ((Ite K a).stop i H ∧ D.nx σ H) ∨ ((Ite K a).go i H ∧ ∃ N : L2.St → Hp → Prop, (∀ σ' H', N σ' H' → ∃ m', m' < m ∧ W (i + 1) m' σ' H') ∧ ∀ x H', (Ite K a).yld i H x H' → g x σ H' fun σ2 H2 => tb { D with nx := N, ct := N, bk := D.nx } σ2 H2) :=
  l_for P h0 (fun i σ H h p => ⟨xs, xs[i], hl i σ H p, List.getElem?_eq_getElem h⟩) (fun σ H p => ⟨xs, hl _ σ H p, Nat.le_refl _⟩) (fun i σ H h p x H' y => by
    obtain ⟨T, z, e1, e2, e3, e4⟩ := y
    subst e1 e3
    exact step i z σ H T _ (e4 xs (hl i σ H p)) p e2 (same_new e2) upd_same) done
theorem r_pair {σ : L2.St} {T : Addr} {x y : V} {i j : Nat} {R : L2.St → Hp → Prop} (e : H T = some (.tup [x, y])) (h : R ((σ.set i (some x)).set j (some y)) H) : gTup K 2 (gCons (gName i) (gCons (gName j) gNil)) (.ref T) σ H R :=
  ⟨T, _, rfl, SqT.of e, rfl, _, _, rfl, _, _, rfl, rfl, h⟩
end
end U
/-! U22: x in o by the class' own __contains__; generator methods walked into a list. -/
namespace U
open PySem PySem.Spec PyProof.Rows L2 GenW
/-! ### x in o -/
section
variable {prog : Program} {w : World} {A : Around} {E : Value → Shared → Prop} {s : Shared} {K : PySem.W.Frag} {x C f : Addr} {v : Value} {ox : Obj} {od : Option Obj}
theorem contains_fn {Q : Bool → Shared → Prop} (X : K.In s.heap) (I : PySem.W.InstAt s.heap x ox C od) (hs : PySem.W.findIn K (.ref C) "__contains__" = some (some (.ref f))) (hf : PySem.W.isFn K (.ref f) = true)
    (h : wpAny (model prog w) A (call (.ref f) [.ref x, v]) (fun r s' => ∃ b, r = .bool b ∧ Q b s') E s) : wpAny (model prog w) A (contains (.ref x) v) Q E s := by
  unfold contains
  refine wpAny_holding ?_
  refine wpAny_bind (wpAny_bind (I.type.here ((PySem.W.looks_findIn X hs).here ?_)))
  refine PySem.W.KFB.if_not rfl ?_
  have one : ∀ refuse : Sem Value, wpAny (model prog w) A (callSpecialUnlessNone? (.ref x) "__contains__" [v] refuse) (fun r s' => ∃ b, r = some (.bool b) ∧ Q b s') E s := by
    intro refuse
    unfold callSpecialUnlessNone?
    refine wpAny_bind (wpAny_bind (I.type.here ((PySem.W.looks_findIn X hs).here ?_)))
    refine wpAny_holding (wpAny_bind ((PySem.W.bind_fn X _ (beq_iff_eq.mp hf)).here ?_))
    refine PySem.W.KFB.if_not rfl ?_
    refine wpAny_bind (wpAny_mono h (fun r s' hr => ?_) fun _ _ z => z)
    obtain ⟨b, rfl, hq⟩ := hr
    exact wpAny_pure ⟨b, rfl, hq⟩
  refine wpAny_bind (wpAny_mono (one _) (fun r s' hr => ?_) fun _ _ z => z)
  obtain ⟨b, rfl, hq⟩ := hr
  exact wpAny_truthy_bool hq
end

def rInO (C : Addr) (sp : Sp) (neg : Bool) : R2 := fun x y H Q => ∃ a dx fs, y = .ref a ∧ H a = some (.ins C dx fs) ∧ sp [y, x] H (fun r H' => ∃ b, r = .bl b ∧ Q (.bl (b != neg)) H') E0
section
variable {X : Cx} {k : Nat} {C : Addr} {ps : List Str} {sp : Sp}
theorem own_in {pins : List (Addr × Obj)} {σ : L2.St} {H : Hp} {s : Shared} {Q : Bool → Hp → Prop} {a dx : Addr} {fs : List (Str × V)} {x : V} {v : Value} (O : OkOp X.prog X.w X.K X.mg X.base k C "__contains__" ps sp) (hr : Room k X.A) (I : Inv X pins σ H s) (ha : H a = some (.ins C dx fs)) (rx : RelV x v)
    (q : sp [.ref a, x] H (fun r H' => ∃ b, r = .bl b ∧ Q b H') E0) : wpAny (model X.prog X.w) X.A (contains (.ref a) v) (fun b s' => ∃ H', Inv X pins σ H' s' ∧ Q b H') X.xe s := by
  obtain ⟨f, fd, hs, hf, F, hb⟩ := O.ex
  obtain ⟨mA, J, _⟩ := ins_get I.hok ha
  obtain ⟨od, J, _⟩ := J.look
  refine contains_fn I.kIn J hs hf (wpAny_mono (run_fnS (CX := CX0) (E := fun _ => E0) (us := [.ref a, v]) (vs := [.ref a, x]) F hr hb (fun _ _ _ _ _ _ h => h.elim) I (.cons rfl (.cons rx .nil)) q) (fun w s' z => ?_) fun _ _ y => y)
  obtain ⟨z', H', I', rz, b, rfl, qz⟩ := z
  exact ⟨b, rz, H', I', qz⟩
theorem op_inO (O : OkOp X.prog X.w X.K X.mg X.base k C "__contains__" ps sp) (hr : Room k X.A) : OpR X (compareOp .In) (rInO C sp false) := by
  intro pins s σ H x y v u Q I rx ry h
  obtain ⟨a, dx, fs, rfl, ha, q⟩ := h
  cases (show u = Value.ref a from ry)
  show wpAny _ _ (contains (.ref a) v >>= fun b => pure (Value.bool b)) _ _ s
  refine wpAny_bind (wpAny_mono (own_in O hr I ha rx q) (fun b s' z => wpAny_pure ?_) fun _ _ y => y)
  obtain ⟨H', I', qz⟩ := z
  rw [Bool.bne_false] at qz
  exact ⟨.bl b, H', I', rfl, qz⟩
theorem op_notInO (O : OkOp X.prog X.w X.K X.mg X.base k C "__contains__" ps sp) (hr : Room k X.A) : OpR X (compareOp .NotIn) (rInO C sp true) := by
  intro pins s σ H x y v u Q I rx ry h
  obtain ⟨a, dx, fs, rfl, ha, q⟩ := h
  cases (show u = Value.ref a from ry)
  show wpAny _ _ (contains (.ref a) v >>= fun b => pure (Value.bool (!b))) _ _ s
  refine wpAny_bind (wpAny_mono (own_in O hr I ha rx q) (fun b s' z => wpAny_pure ?_) fun _ _ y => y)
  obtain ⟨H', I', qz⟩ := z
  rw [Bool.bne_true] at qz
  exact ⟨.bl (!b), H', I', rfl, qz⟩
end
theorem r_inO {H : Hp} {C : Addr} {sp : Sp} {neg : Bool} {x : V} {a dx : Addr} {fs : List (Str × V)} {Q : VK} (ha : H a = some (.ins C dx fs)) (h : sp [.ref a, x] H (fun r H' => ∃ b, r = .bl b ∧ Q (.bl (b != neg)) H') E0) : rInO C sp neg x (.ref a) H Q := ⟨a, dx, fs, rfl, ha, h⟩
section
variable {prog : Program} {w : World} {A : Around} {R : GenEnd} {Y : Protocol} {n : Nat} {s₀ : Shared} {fs : List Frame} {s : Shared} {env : Env}
/-- an exception leaves a loop's code -/
abbrev noteSeg (prog : Program) (w : World) (A : Around) (R : GenEnd) (Y : Protocol) (n : Nat) (s₀ : Shared) (env : Env) (c : Code) (fs : List Frame) (x : Value) (s' : Shared) : Prop :=
  Seg (model prog w) A R Y n s₀ c ((do noteFrame x env; theTreesLotGoes x : Sem Unit).wrap (fun _ => .raise x) .raise id id) fs s'
theorem seg_forLoop {tg : Expr} {it : Value} {body : List Stmt}
    (h : wpAny (model prog w) (A.over (.forLoop tg it body [] env) fs) (pyNext it) (fun r s1 => match r with
      | none => Seg (model prog w) A R Y n s₀ (.forLoop tg it body [] env) (.pure (.again (.block [] env))) fs s1
      | some v => wpAny (model prog w) (A.over (.forLoop tg it body [] env) fs) (letOwnedTupleGo tg it v) (fun _ s2 =>
          wpAny (model prog w) (A.over (.forLoop tg it body [] env) fs) (assign tg env v) (fun _ s3 =>
            Seg (model prog w) A R Y n s₀ (.forLoop tg it body [] env) ((execs body env).wrap (fun f => match f with
              | .next | .cont => .pure (.again (.forLoop tg it body [] env))
              | .brk => .pure (.done .next)
              | .ret v => .pure (.done (.ret v))) (fun e => (do noteFrame e env; theTreesLotGoes e : Sem Unit).wrap (fun _ => .raise e) .raise id id) id id) fs s3)
            (noteSeg prog w A R Y n s₀ env (.forLoop tg it body [] env) fs) s2) (noteSeg prog w A R Y n s₀ env (.forLoop tg it body [] env) fs) s1)
      (noteSeg prog w A R Y n s₀ env (.forLoop tg it body [] env) fs) s) :
    Seg (model prog w) A R Y n s₀ (.forLoop tg it body [] env) ((model prog w).den (.forLoop tg it body [] env)) fs s := by
  show Seg _ A R Y n s₀ _ ((forTurn tg it body [] env).onRaise (fun x => do noteFrame x env; theTreesLotGoes x)) fs s
  have hh : ∀ e : Value, ((do noteFrame e env; theTreesLotGoes e : Sem Unit).bind fun _ => (.raise e : Sem PySem.Fin)) = (do noteFrame e env; theTreesLotGoes e : Sem Unit).wrap (fun _ => .raise e) .raise id id := fun e => Sem.bind_eq_wrap _ _
  unfold forTurn
  rw [Sem.onRaise_eq_wrap]
  refine seg_bind_wrap (wpAny_standAt ?_)
  refine seg_bind_wrap (wpAny_onRaise (wpAny_mono h (fun r s1 hr => ?_) fun x s' hx => wpAny_standAt ?_))
  · cases r with
    | none => exact hr
    | some v =>
      refine seg_bind_wrap (wpAny_mono hr (fun _ s2 h2 => ?_) fun x s' hx => ?_)
      · refine seg_bind_wrap (wpAny_mono h2 (fun _ s3 h3 => ?_) fun x s' hx => ?_)
        · rw [Sem.bind_eq_wrap', Sem.wrap_wrap]
          rw [Sem.wrap_congr (execs body env) _ _ (K' := fun f => match f with
                | .next | .cont => .pure (.again (.forLoop tg it body [] env))
                | .brk => .pure (.done .next)
                | .ret v => .pure (.done (.ret v))) (H' := (fun e => (do noteFrame e env; theTreesLotGoes e : Sem Unit).wrap (fun _ => .raise e) .raise id id))
            (fun f => by cases f <;> rfl)
            (fun e => by first | exact hh e | rfl)]
          exact h3
        · first | exact hx | (show Seg _ A R Y n s₀ _ ((do noteFrame x env; theTreesLotGoes x : Sem Unit).bind fun _ => .raise x) fs s'; rw [Sem.bind_eq_wrap]; exact hx)
      · first | exact hx | (show Seg _ A R Y n s₀ _ ((do noteFrame x env; theTreesLotGoes x : Sem Unit).bind fun _ => .raise x) fs s'; rw [Sem.bind_eq_wrap]; exact hx)
  · first | exact hx | (show Seg _ A R Y n s₀ _ ((do noteFrame x env; theTreesLotGoes x : Sem Unit).bind fun _ => .raise x) fs s'; rw [Sem.bind_eq_wrap]; exact hx)
end

section
variable {X : Cx} {tg iter test : Expr} {body p q : List Stmt} {pos : Pos}
/-! ### if -/
def tGIf (tc : TT) (t u : TGn) : TGn := fun D ys σ H => tc σ H fun k H1 => if k = true then t D ys σ H1 else u D ys σ H1
theorem gs_if {tc : TT} {t u : TGn} (hc : PT X test tc) (ha : GSs X p t) (hb : GSs X q u) : GS X (.If test p q pos) (tGIf tc t u) := by
  refine ⟨fun A S ip R n ys s₀ c fs K J gd lv s σ H D g hn k hI ht => ?_⟩
  obtain ⟨acc, cc, r, I⟩ := hI
  refine seg_at ?_
  show Seg _ _ _ _ n s₀ c ((isTrue test X.env (eval test X.env) >>= fun b => if b = true then execs p X.env else execs q X.env).wrap K J gd lv) fs s
  refine seg_bind_wrap ?_
  rw [g.over]
  refine wpAny_mono (hc.run _ s σ H _ I ht) (fun b s1 hb1 => ?_) fun x s' hx => k.exc n s₀ x s' hx
  obtain ⟨H2, I2, q2⟩ := hb1
  cases b with
  | true =>
    rw [if_pos rfl] at q2 ⊢
    exact ha.run A S ip R n ys s₀ c fs K J gd lv s1 σ H2 D g hn k ⟨acc, cc, r, I2⟩ q2
  | false =>
    rw [if_neg Bool.false_ne_true] at q2 ⊢
    exact hb.run A S ip R n ys s₀ c fs K J gd lv s1 σ H2 D g hn k ⟨acc, cc, r, I2⟩ q2

/-! ### for -/
def tGFor (wi : TI) (g : TG) (tb : TGn) : TGn := fun D ys σ H => wi σ H fun J H1 => ∃ W : Nat → Nat → List V → L2.St → Hp → Prop, (∃ m, W 0 m ys σ H1) ∧ ∀ i m ys σ H, W i m ys σ H →
  (J.stop i H ∧ D.nx ys σ H) ∨ (J.go i H ∧ ∃ N : List V → L2.St → Hp → Prop, (∀ ys' σ' H', N ys' σ' H' → ∃ m', m' < m ∧ W (i + 1) m' ys' σ' H') ∧ ∀ x H', J.yld i H x H' → g x σ H' fun σ2 H2 => tb { D with nx := N, ct := N, bk := D.nx } ys σ2 H2)
theorem gs_for {wi : TI} {g : TG} {tb : TGn} (hp : PassesOwn (model X.prog X.w) X.A X.env X.xe) (hc : X.calm = true) (hi : PI X tg iter wi) (hg : PG X tg g) (hb : GSs X body tb)
    (hs : ∀ x, foldedSetIterable iter X.env x = pure x := by intro _; rfl) : GS X (.For tg iter body [] pos) (tGFor wi g tb) := by
  refine ⟨fun A S ip R n ys s₀ c fs K J gd lv s σ H D g hn k hI ht => ?_⟩
  obtain ⟨acc, cc, r, I⟩ := hI
  refine seg_at ?_
  show Seg _ _ _ _ n s₀ c ((eval iter X.env >>= fun v => foldedSetIterable iter X.env v >>= fun x => standAt iter.pos >>= fun _ => holding [x] (pyIter x) >>= fun it => runOwn (.forLoop tg it body [] X.env) X.env).wrap K J gd lv) fs s
  refine seg_bind_wrap ?_
  rw [g.over]
  refine wpAny_mono (hi.run _ s σ H _ I ht) (fun v s1 h1 => ?_) fun x s' hx => k.exc n s₀ x s' hx
  refine seg_bind_wrap (wpAny_of_eq (hs v) ?_)
  refine seg_bind_wrap (wpAny_standAt ?_)
  refine seg_bind_wrap (wpAny_holding ?_)
  rw [g.over]
  refine wpAny_mono h1 (fun itv s2 h2 => ?_) fun x s' hx => k.exc n s₀ x s' hx
  obtain ⟨it, fp, tn, Jt, H2, e, I2, T, st2, f2, W, ⟨m0, w0⟩, turn⟩ := h2
  subst e
  have hSf : ∀ b ∈ fp, S ≠ b := fun b hb => (f2 b hb).2.2.2.2.2 (S, lstObj acc cc) (List.mem_append_right _ List.mem_cons_self)
  have stat : ∀ {acc : Array Value} {cc : Nat} {H' : Hp}, (∀ b ∈ fp, H' b = none) → ∀ b ∈ fp, FpOk X ((S, lstObj acc cc) :: ip) H' b := fun {acc cc H'} hn b hb => by
    obtain ⟨_, a1, a2, a3, a4, a5⟩ := f2 b hb
    refine ⟨hn b hb, a1, a2, a3, a4, fun p hp => ?_⟩
    rcases List.mem_append.mp hp with z | z
    · exact a5 p (List.mem_append_left _ z)
    · rcases List.mem_cons.mp z with z | z
      · rw [z]; exact hSf b hb
      · exact a5 p (List.mem_append_right _ (List.mem_cons_of_mem _ z))
  show Seg _ _ _ _ n s₀ c ((runOwn (.forLoop tg (.ref it) body [] X.env) X.env).wrap K J gd lv) fs s2
  refine seg_call fun p => ?_
  have gl := fun (kk : Result → Sem PySem.Fin) => gc_loop (k := kk) (c' := .forLoop tg (.ref it) body [] X.env) (l := lv []) (kp := []) (p := p) g rfl rfl
  have loop : ∀ (m i n : Nat) (ys : List V) (s₀ s : Shared) (σ : L2.St) (H : Hp), n + ys.length = sizeLine → W i m ys σ H → tn i s.heap → (∀ b ∈ fp, H b = none) → GI X S ip ys σ H s →
      Seg (model X.prog X.w) A R (GY X S) n s₀ (.forLoop tg (.ref it) body [] X.env) ((model X.prog X.w).den (.forLoop tg (.ref it) body [] X.env))
        (.ret (fun r => ((match r with | .ok f => (.pure f : Sem Flow) | .error e => .raise e).onRaise (cameBack X.env)).wrap K J gd lv) none (gd false) (lv []) c p [] :: fs) s := by
    intro m
    induction m using Nat.strongRecOn with
    | ind m ih =>
      intro i n ys s₀ s σ H hn w st fr hI
      have ee : ∀ (n : Nat) (s₀ : Shared) (x : Value) (s' : Shared), X.xe x s' → Seg (model X.prog X.w) A R (GY X S) n s₀ (.forLoop tg (.ref it) body [] X.env)
          ((do noteFrame x X.env; theTreesLotGoes x : Sem Unit).wrap (fun _ => .raise x) .raise id id)
          (.ret (fun r => ((match r with | .ok f => (.pure f : Sem Flow) | .error e => .raise e).onRaise (cameBack X.env)).wrap K J gd lv) none (gd false) (lv []) c p [] :: fs) s' := fun n s₀ x s' hx => by
        refine seg_wrap ?_
        rw [(gl _).over]
        refine wpAny_bind (wpAny_mono (hp x s' hx) (fun _ s'' hcb => wpAny_theTreesLotGoes ?_) fun y s'' hcb => ?_)
        · exact seg_leaf (.error x) (seg_cameBack g k hcb)
        · exact seg_leaf (.error y) (seg_cameBack g k hcb)
      refine seg_forLoop ?_
      rw [(gl _).over]
      obtain ⟨acc, cc, r, I⟩ := hI
      rcases turn i m ys σ H w with ⟨stop, qn⟩ | ⟨go, N, hN, step⟩
      · refine wpAny_mono (T.done X rfl rfl rfl hc i _ s σ H X.xe I (stat fr) st stop) (fun rr s4 ⟨hr, I4⟩ => ?_) fun x s' hx => ee n s₀ x s' hx
        subst hr
        refine seg_again rfl ?_
        show Seg _ _ _ _ n s₀ _ (((.pure .next : Sem Flow).onRaise _) >>= fun f => .pure (.done f)) _ _
        exact seg_leaf (.ok .next) (k.ok n ys s₀ s4 .next hn ⟨σ, H, ⟨acc, cc, r, I4⟩, qn⟩)
      · refine wpAny_mono (T.item X rfl rfl rfl hc i _ s σ H X.xe I (stat fr) st go) (fun rr s4 ⟨u, hr, h4⟩ => ?_) fun x s' hx => ee n s₀ x s' hx
        subst hr
        refine wpAny_mono h4 (fun _ s5 ⟨x, H5, I5, r5, y5, st5, fr5⟩ => ?_) fun x s' hx => ee n s₀ x s' hx
        have I5' := I5.pinned (stat fr5) (T.obj _ _ st5)
        refine wpAny_mono (hg.run _ s5 σ H5 x u _ I5' r5 (step x H5 y5)) (fun _ s6 ⟨σ6, H6, I6, q6⟩ => ?_) fun x s' hx => ee n s₀ x s' hx
        refine hb.run A S (ip ++ pinsAt fp s5.heap) R n ys s₀ _ _ _ _ id id s6 σ6 H6 { D with nx := N, ct := N, bk := D.nx } { gl _ with ip := fun p hp => ?_ } hn ⟨fun n' ys' s₀' s7 f hn' hs => ?_, fun n' s₀' x s7 hx => ee n' s₀' x s7 hx⟩ ⟨acc, cc, r, I6⟩ q6
        · rcases List.mem_append.mp hp with z | z
          · exact g.ip p z
          · exact fun e => hSf _ (of_pinsAt z).1 e.symm
        have again : ∀ {ys7 : List V} {σ7 : L2.St} {H7 : Hp}, GI X S (ip ++ pinsAt fp s5.heap) ys7 σ7 H7 s7 → GI X S ip ys7 σ7 H7 s7 ∧ tn (i + 1) s7.heap ∧ ∀ b ∈ fp, H7 b = none := fun {ys7 σ7 H7} G7 => by
          obtain ⟨acc7, cc7, r7, I7⟩ := G7
          have I7' : Inv X (((S, lstObj acc7 cc7) :: ip) ++ pinsAt fp s5.heap) σ7 H7 s7 := I7
          refine ⟨⟨acc7, cc7, r7, I7'.unpinned⟩, T.keep _ _ _ st5 fun b hb o e => (I7'.pin (b, o) (List.mem_append_right _ (List.mem_append_right _ (mem_pinsAt hb e)))).1, fun b hb => ?_⟩
          obtain ⟨o, e, d⟩ := T.obj _ _ st5 b hb
          exact (I7'.pin (b, o) (List.mem_append_right _ (List.mem_append_right _ (mem_pinsAt hb e)))).2.1
        cases f with
        | next =>
          obtain ⟨σ7, H7, G7, n7⟩ := hs
          obtain ⟨m', hm, w7⟩ := hN ys' σ7 H7 n7
          obtain ⟨G, t7, f7⟩ := again G7
          exact seg_again rfl (ih m' hm (i + 1) n' ys' s₀' s7 σ7 H7 hn' w7 t7 f7 G)
        | cont =>
          obtain ⟨σ7, H7, G7, n7⟩ := hs
          obtain ⟨m', hm, w7⟩ := hN ys' σ7 H7 n7
          obtain ⟨G, t7, f7⟩ := again G7
          exact seg_again rfl (ih m' hm (i + 1) n' ys' s₀' s7 σ7 H7 hn' w7 t7 f7 G)
        | brk =>
          obtain ⟨σ7, H7, G7, q7⟩ := hs
          exact seg_leaf (.ok .next) (k.ok n' ys' s₀' s7 .next hn' ⟨σ7, H7, (again G7).1, q7⟩)
        | ret v =>
          obtain ⟨x7, σ7, H7, G7, r7, q7⟩ := hs
          exact seg_leaf (.ok (.ret v)) (k.ok n' ys' s₀' s7 (.ret v) hn' ⟨x7, σ7, H7, (again G7).1, r7, q7⟩)
  exact loop m0 0 n ys s₀ s2 σ H2 hn w0 st2 (fun b hb => (f2 b hb).1) ⟨acc, cc, r, I2⟩
end
/-! ### generator methods -/
structure OkG (P : Program) (w : World) (K : PySem.W.Frag) (mg : Str → Option Value) (base : Heap) (k : Nat) (C : Addr) (m : Str) (ps : List Str) (sp : SpG) : Prop where
  ex : ∃ (f : Addr) (fd : FuncData), Cls K C ∧ Meth K C m f ∧ GFn P w K mg base k f fd ps sp ∧ Binds K fd ps []
section
variable {P : Program} {w : World} {K : PySem.W.Frag} {mg : Str → Option Value} {base : Heap} {x qual : Str} {params : Arguments} {body : List Stmt} {scope : Scope} {dvs : List V} {kws : List (Str × V)} {f : Addr} {fd : FuncData}
theorem _root_.L2.FunD.gok {N ps : List Str} {k : Nat} {sp : SpG} (F : FunD K x qual params body scope dvs kws f fd) (S : GScope N ps scope) (len : ∀ vs H Q E, sp vs H Q E → vs.length = ps.length)
    (hbody : ∀ (cdv : Value) (A : Around) (outer : List Env) (s : Shared) (H : Hp) (vs : List V) (Q : List V → Hp → Prop) (E : XK) (pn : List (Addr × Obj)), Room k (A.deeper (envOfC qual scope s.heap.objs.size f cdv)) → sp vs H Q E →
      ∃ t, GSs (gcxOf P w K mg base N qual scope f cdv A outer s H E pn) body t ∧ t { nx := fun ys _ H' => Q ys H', rt := fun ys v H' => v = .non ∧ Q ys H' } [] (start N vs) H) : GFn P w K mg base (k + 1) f fd ps sp := by
  obtain ⟨oc, od, dV, kV, doc, pm, an, cdv, ct, osl, rfl, lk, hcd, _, _⟩ := F.ex
  exact gfn_of lk hcd S len fun A outer s H vs Q E pn hr hsp => hbody cdv A outer s H vs Q E pn hr hsp
end
section
variable {X : Cx} {k : Nat} {C : Addr} {m : Str} {ps : List Str} {sp : SpG} {o : Expr} {ta : TE} {p pos pos' apos : Pos}
theorem pe_lg {pl : Sem Bool} (O : OkG X.prog X.w X.K X.mg X.base k C m ps sp) (he : PE X o ta) (hr : Room (k + 3) X.A) (hg : Gl X "list") (hmg : X.mg "list" = none)
    (ht : eval (.Call (.Attribute o m apos) [] [] pos') X.env = (do
      let ov ← eval o X.env
      standAt apos.atName
      let (f, first) ← holding [ov] (getMethod ov m pl)
      callWith pos' f first (backTo pos' (starEach [] X.env)) (backToKw pos' (keywordEach [] X.env))) := by rfl)
    (hst : starEach [.Call (.Attribute o m apos) [] [] pos'] X.env = (false, eval (.Call (.Attribute o m apos) [] [] pos') X.env) :: starEach [] X.env := by rfl) :
    PE X (.Call (.Name "list" p) [.Call (.Attribute o m apos) [] [] pos'] [] pos) (tListG (tMethG C m sp [] E0 ta tNil)) := by
  obtain ⟨f, fd, c, hm, F, hb⟩ := O.ex
  have hr' : Room k X.A := hr.mono (by omega)
  exact pe_listG (pgen_meth0 he c hm F hr' hb .nil ht) (fun _ _ _ _ _ _ _ h => by obtain ⟨_, _, _, _, _, _, _, _, _, _, _, _, hE⟩ := h; exact hE.elim) (fun _ _ _ h => h.elim) hr hg hmg (by decide +kernel) (by decide) (by decide) hst
end
section
variable {σ : L2.St} {H : Hp}
theorem r_lg {C : Addr} {m : Str} {sp : SpG} {ta : TE} {Q : VK} (h : ta σ H fun x H1 => ∃ a dx fs, x = .ref a ∧ H1 a = some (.ins C dx fs) ∧ fs.lookup m = none ∧ sp [x] H1 (fun out H2 => ∀ p, H2 p = none → Q (.ref p) (upd H2 p (.lst out))) E0) : tListG (tMethG C m sp [] E0 ta tNil) σ H Q :=
  h
variable {D : GEnds} {ys : List V}
theorem r_gThen {t u : TGn} (h : t { D with nx := fun ys' σ' H' => u D ys' σ' H' } ys σ H) : tGThen t u D ys σ H := h
theorem r_g0 (h : D.nx ys σ H) : tG0 D ys σ H := h
theorem r_gPlain {t : TS} (h : t (D.at ys) σ H) : tPlain t D ys σ H := h
theorem r_gIf {tc : TT} {t u : TGn} (h : tc σ H fun k H1 => if k = true then t D ys σ H1 else u D ys σ H1) : tGIf tc t u D ys σ H := h
theorem r_gYield {te : TE} (hl : ys.length < sizeLine) (h : te σ H fun x H1 => D.nx (ys ++ [x]) σ H1) : tGYield te D ys σ H := ⟨hl, h⟩
theorem r_gFor {wi : TI} {g : TG} {tb : TGn} (h : wi σ H fun J H1 => ∃ W : Nat → Nat → List V → L2.St → Hp → Prop, (∃ m, W 0 m ys σ H1) ∧ ∀ i m ys σ H, W i m ys σ H →
  (J.stop i H ∧ D.nx ys σ H) ∨ (J.go i H ∧ ∃ N : List V → L2.St → Hp → Prop, (∀ ys' σ' H', N ys' σ' H' → ∃ m', m' < m ∧ W (i + 1) m' ys' σ' H') ∧ ∀ x H', J.yld i H x H' → g x σ H' fun σ2 H2 => tb { D with nx := N, ct := N, bk := D.nx } ys σ2 H2)) : tGFor wi g tb D ys σ H := h
/-- a generator's loop over n things -/
theorem g_for {J : It} {n : Nat} {g : TG} {tb : TGn} (P : Nat → List V → L2.St → Hp → Prop) (h0 : P 0 ys σ H) (go : ∀ i ys σ H, i < n → P i ys σ H → J.go i H) (stop : ∀ ys σ H, P n ys σ H → J.stop n H)
    (step : ∀ i ys σ H, i < n → P i ys σ H → ∀ x H', J.yld i H x H' → g x σ H' fun σ2 H2 => tb { D with nx := P (i + 1), ct := P (i + 1), bk := D.nx } ys σ2 H2) (done : ∀ ys σ H, P n ys σ H → D.nx ys σ H) :
    ∃ W : Nat → Nat → List V → L2.St → Hp → Prop, (∃ m, W 0 m ys σ H) ∧ ∀ i m ys σ H, W i m ys σ H →
      (J.stop i H ∧ D.nx ys σ H) ∨ (J.go i H ∧ ∃ N : List V → L2.St → Hp → Prop, (∀ ys' σ' H', N ys' σ' H' → ∃ m', m' < m ∧ W (i + 1) m' ys' σ' H') ∧ ∀ x H', J.yld i H x H' → g x σ H' fun σ2 H2 => tb { D with nx := N, ct := N, bk := D.nx } ys σ2 H2) := by
  refine ⟨fun i m ys σ H => m = n - i ∧ i ≤ n ∧ P i ys σ H, ⟨n, by simp, Nat.zero_le _, h0⟩, ?_⟩
  rintro i m ys σ H ⟨rfl, hi, p⟩
  by_cases hlt : i < n
  · exact .inr ⟨go i ys σ H hlt p, P (i + 1), fun ys' σ' H' p' => ⟨n - (i + 1), by omega, rfl, hlt, p'⟩, fun x H' y => step i ys σ H hlt p x H' y⟩
  · have e : i = n := by omega
    subst e
    exact .inl ⟨stop ys σ H p, done ys σ H p⟩
theorem g_range {lo : Int} {n : Nat} {g : TG} {tb : TGn} (P : Nat → List V → L2.St → Hp → Prop) (h0 : P 0 ys σ H)
    (step : ∀ i ys σ H, i < n → P i ys σ H → g (.int (lo + i)) σ H fun σ2 H2 => tb { D with nx := P (i + 1), ct := P (i + 1), bk := D.nx } ys σ2 H2) (done : ∀ ys σ H, P n ys σ H → D.nx ys σ H) :
    ∃ W : Nat → Nat → List V → L2.St → Hp → Prop, (∃ m, W 0 m ys σ H) ∧ ∀ i m ys σ H, W i m ys σ H →
      ((Itr lo n).stop i H ∧ D.nx ys σ H) ∨ ((Itr lo n).go i H ∧ ∃ N : List V → L2.St → Hp → Prop, (∀ ys' σ' H', N ys' σ' H' → ∃ m', m' < m ∧ W (i + 1) m' ys' σ' H') ∧ ∀ x H', (Itr lo n).yld i H x H' → g x σ H' fun σ2 H2 => tb { D with nx := N, ct := N, bk := D.nx } ys σ2 H2) :=
  g_for P h0 (fun i ys σ H h _ => h) (fun _ _ _ _ => Nat.le_refl _) (fun i ys σ H h p x H' y => by
    obtain ⟨e1, e2⟩ := y
    subst e1 e2
    exact step i ys σ H' h p) done
end
end U
/-! U23: list(o) by the class' own __iter__ (an iterator over a list) and __len__. -/
namespace U
open PySem PySem.Spec PyProof.Rows L2
def LiO (l it : Addr) (i : Nat) : HO := .ext fun h => h.IsListIter it l i
def GoO (it : Addr) : HO := .ext fun h => ∃ o, h.get? it = some o
theorem liO_ok {P : Program} {w : World} {H : Hp} {h : Heap} {l it : Addr} {i : Nat} (e : h.IsListIter it l i) : ObjOk P w H h it (LiO l it i) :=
  ⟨e, let ⟨o, ho, _⟩ := e; ⟨o, ho⟩, fun h1 h2 q k => let ⟨o, ho, r⟩ := q; ⟨o, k _ ho, r⟩⟩
theorem goO_ok {P : Program} {w : World} {H : Hp} {h : Heap} {it : Addr} (e : ∃ o, h.get? it = some o) : ObjOk P w H h it (GoO it) :=
  ⟨e, e, fun h1 h2 q k => let ⟨o, ho⟩ := q; ⟨o, k _ ho⟩⟩
section
variable {prog : Program} {w : World} {A : Around} {E : Value → Shared → Prop} {s : Shared}
/-- as wpAny_pyNext_list_end; the iterator is still there -/
theorem next_end2 {it l : Addr} {i : Nat} {items} {Q : Option Value → Shared → Prop} (hh : A.handled = none)
    (hit : s.heap.IsListIter it l i) (hl : s.heap.IsList l items) (hx : items[i]? = none)
    (hQ : ∀ h', (∃ o, h'.get? it = some o) → Heap.ExtBut it s.heap h' → Q none { s with heap := h' }) : wpAny (model prog w) A (pyNext (.ref it)) Q E s := by
  obtain ⟨o, ho, hc, hd⟩ := id hit
  obtain ⟨ol, hol, _, nl, hdl⟩ := hl
  unfold pyNext
  refine wpAny_bind (wpAny_attempt (wpAny_callSpecial?_slot (name := Str.ofString "__next__") hit.typeIs slot_listiter_next
    (wpAny_call_entry slot_listiter_next hit.typeIs entry_listiter_next ?_ (args_listiter_next _))))
  show wpAny _ _ (field (.ref it) 0 >>= _) _ _ s
  refine wpAny_bind (wpAny_field ho hd (x := .ref l) rfl ?_)
  show wpAny _ _ (if (Value.ref l == Value.none) = true then _ else _) _ _ s
  rw [if_neg (show ¬ ((Value.ref l == Value.none) = true) from Bool.false_ne_true)]
  show wpAny _ _ (field (.ref it) 1 >>= _) _ _ s
  refine wpAny_bind (wpAny_field ho hd (x := .int i 0) rfl ?_)
  show wpAny _ _ (seqItems? (.ref l) >>= _) _ _ s
  refine wpAny_bind (wpAny_seqItems hol hdl ?_)
  simp only [Int.toNat_natCast, hx]
  refine wpAny_bind (wpAny_rule (wpAny_bind (wpAny_setField ho hd (by simp) ?_)))
  show wpAny _ _ (newExc (.type "StopIteration") [] >>= _) _ _ _
  refine wpAny_bind ?_
  simp only [newExc, newTuple]
  refine wpAny_bind (wpAny_newObj_type ?_ (by size_fits))
  refine wpAny_bind (m := firstArgMember _ _) (wpAny_of_eq (a := Value.none) (by first | rfl | (simp only [firstArgMember]; rfl)) ?_)
  refine wpAny_newObj_type ?_ (by size_fits)
  simp only [raiseNew]
  refine wpAny_bind (wpAny_handled ?_)
  rw [show A.in1.handled = none from hh]
  refine wpAny_bind (wpAny_pure (wpAny_throw ?_))
  refine wpAny_bind (wpAny_isInstance (T := "StopIteration") (b := true) ⟨_, Heap.get?_push_size _ rfl, rfl⟩ isSubtype_stop ?_)
  exact wpAny_pure (hQ _ ⟨_, Heap.get?_push_of_some _ (Heap.get?_push_of_some _ (Heap.get?_update_self _ ho (Obj.isFreed_of_fields (Obj.data_mapFields hd _))))⟩ (((Heap.SameBut.update ..).extBut.push _).push _))
end
section
variable {X : Cx} {pins : List (Addr × Obj)} {σ : L2.St} {l it S a C : Addr} {zs : List V} {A : Around} {H0 : Hp} {R : Result → Shared → Prop}
theorem lo_loop (hc : A.handled = none) (hn : zs.length ≤ 1000000) (h0S : H0 S = none) (h0i : H0 it = none) (h0l : H0 l = some (.lst zs)) (hSi : S ≠ it) (res : Value)
    (hR : ∀ H s, Inv X pins σ H s → Same H0 H → H S = some (.lst zs) → R (.ok (.ret res)) s) :
    ∀ (k i : Nat) (H : Hp) (s : Shared), zs.length - i = k → i ≤ zs.length → Inv X pins σ H s → H it = some (LiO l it i) → Same H0 H → H S = some (.lst (zs.take i)) →
      codeAny (model X.prog X.w) A (.builtin "list.extend.loop" ⟨[.ref S, .ref it, res], []⟩) R s := by
  intro k
  induction k with
  | zero =>
    intro i H s hk hi I ei sm eS
    have e : i = zs.length := by omega
    subst e
    refine codeAny_builtin PySem.F.entry_extend_loop ?_
    rw [Around.under_plainId PySem.F.plain_extend_loop _]
    show wpAny _ A.in1 (pyNext (.ref it) >>= _) _ _ _
    obtain ⟨its, rv, pl, _⟩ := I.list (SqL.of (sm _ _ h0l))
    have hl := rv.length
    refine wpAny_bind (next_end2 (A := A.in1) hc (I.hok it _ ei).1 pl.isList (by simp; omega) fun h' hg hk => wpAny_pure ?_)
    have I2 := I.write (x := it) (e := it) (t' := s.toks) (o := GoO it) (by rw [ei]; exact True.intro) (.inl rfl) (fun b u nb z => hk b u nb z) hg (goO_ok hg)
    have I3 := ItX.inv_drop I2 (φ := fun h => ∃ o, h.get? it = some o) upd_same
    rw [List.take_length] at eS
    refine hR _ _ I3 (fun c o e => ?_) ?_
    · have hci : c ≠ it := fun z => by rw [z, h0i] at e; cases e
      rw [ItX.dropH_ne hci, upd_ne hci]
      exact sm c o e
    · rw [ItX.dropH_ne hSi, upd_ne hSi]
      exact eS
  | succ k ih =>
    intro i H s hk hi I ei sm eS
    have hlt : i < zs.length := by omega
    refine codeAny_builtin PySem.F.entry_extend_loop ?_
    rw [Around.under_plainId PySem.F.plain_extend_loop _]
    show wpAny _ A.in1 (pyNext (.ref it) >>= _) _ _ _
    obtain ⟨its, rv, pl, _⟩ := I.list (SqL.of (sm _ _ h0l))
    have hx : zs[i]? = some zs[i] := List.getElem?_eq_getElem hlt
    obtain ⟨u, hu, ru⟩ := rv.get hx
    generalize zs[i] = x at hx ru
    refine wpAny_bind (wpAny_pyNext_list_item (I.hok it _ ei).1 pl.isList (x := u) (by simpa using hu) fun h' hit sb => ?_)
    have I2 : Inv X pins σ (upd H it (LiO l it (i + 1))) { s with heap := h' } := I.write (x := it) (e := it) (t' := s.toks) (by rw [ei]; exact True.intro) (.inl rfl) (fun b o nb z => (sb.2 b nb).trans z) (let ⟨o, ho, _⟩ := hit; ⟨o, ho⟩) (liO_ok hit)
    have eS2 : upd H it (LiO l it (i + 1)) S = some (.lst (zs.take i)) := by rw [upd_ne hSi]; exact eS
    obtain ⟨zz, lst, n, r, ll, e⟩ := I2.lstM eS2
    have hle : lst.length = i := by rw [← ll, List.length_take]; omega
    refine wpAny_bind ?_
    refine wpAny_updateSeq e rfl (wpAny_pure ⟨plainId_quiet PySem.F.plain_extend_loop _, ?_⟩) (by rw [List.size_toArray, hle, sizeLine_eq]; omega) (by rw [Array.size_push, List.size_toArray, hle, sizeLine_eq]; omega)
    have I3 := I2.lset (t' := s.toks) (f := (·.push u)) (its' := lst ++ [u]) (ys := zs.take i ++ [x]) eS2 e (by simp) (r.append (.cons ru .nil)) (by rw [List.length_append, List.length_take, sizeLine_eq]; show min i zs.length + 1 ≤ _; omega)
    refine ih (i + 1) _ _ (by omega) hlt I3 ?_ (fun c o e => ?_) (by rw [upd_same, List.take_add_one, hx]; rfl)
    · rw [upd_ne (Ne.symm hSi)]; exact upd_same
    · have c1 : c ≠ S := fun z => by rw [z, h0S] at e; cases e
      have c2 : c ≠ it := fun z => by rw [z, h0i] at e; cases e
      rw [upd_ne c1, upd_ne c2]
      exact sm c o e
variable {H : Hp} {s : Shared} {k : Nat} {f : Addr} {fd : FuncData} {ps : List Str} {sp spI spL : Sp}
theorem run_sub {A1 : Around} {Q : VK} {us : List Value} {vs : List V} {Ex : Value → Shared → Prop} (sb : Sub X k A1) (F : FnOk X.prog X.w X.K X.mg X.base CX0 k f fd ps sp) (hb : Binds X.K fd ps [])
    (I : Inv X pins σ H s) (r : Vals vs us) (h : sp vs H Q E0) : wpAny (model X.prog X.w) A1 (call (.ref f) us) (EP X pins σ Q) Ex s := by
  have hl : us.length = ps.length := by rw [← r.length]; exact F.len _ _ _ _ h
  have b := hb s us I.kIn (by rw [List.append_nil]; exact hl)
  rw [List.append_nil] at b
  have e0 : Env0 X.prog X.w X.K X.mg X.base A1 X.stack s H := by
    have e := I.env0
    exact ⟨by rw [sb.fr]; exact e.frames, e.mod, e.bs, e.bsz, e.funs, e.frf, e.hok, e.bare⟩
  refine wpAny_call (codeAny_mono (F.run A1 X.stack s H ⟨us, []⟩ us vs Q E0 sb.room e0 b r h) fun r s' hq => ?_)
  cases r with
  | error e => exact False.elim hq
  | ok fl =>
    cases fl with
    | ret u => exact I.after hq
    | next => exact False.elim hq
    | brk => exact False.elim hq
    | cont => exact False.elim hq
/-- list(o): what __iter__ and __len__ say -/
def rListO (C : Addr) (spI spL : Sp) : RC := fun xs H Q => ∃ a dx fs l zs, xs = [.ref a] ∧ H a = some (.ins C dx fs) ∧ H l = some (.lst zs) ∧ zs.length ≤ 1000000 ∧
  (∀ H1, Same H H1 → spI [.ref a] H1 (fun v H2 => ∃ it, v = .ref it ∧ H1 it = none ∧ H2 = upd H1 it (ItO l it 0)) E0) ∧
  (∀ H1, Same H H1 → spL [.ref a] H1 (fun v H2 => v = .int (zs.length : Nat) ∧ H2 = H1) E0) ∧
  ∀ S H1, H S = none → Same H H1 → H1 S = some (.lst zs) → Q (.ref S) H1
theorem c_listO0 (OI : OkOp X.prog X.w X.K X.mg X.base k C "__iter__" ps spI) {ps2 : List Str} (OL : OkOp X.prog X.w X.K X.mg X.base k C "__len__" ps2 spL) (hcalm : X.calm = true) (hr : Room (k + 4) X.A) : CallR X (.type "list") (rListO C spI spL) := by
  intro pins s σ H xs us Q I rv h
  obtain ⟨a, dx, fs, l, zs, rfl, ha, hl, hn, hI, hL, hq⟩ := h
  obtain ⟨u, rfl, ru⟩ := rv.one
  cases ru
  obtain ⟨fI, fdI, hsI, hfI, FI, bI⟩ := OI.ex
  obtain ⟨fL, fdL, hsL, hfL, FL, bL⟩ := OL.ex
  have hc : X.A.handled = none := I.ok.hd hcalm
  have sb2 : Sub X (k + 2) X.A.in1.in1 := (Sub.in1 (Sub.in1 (⟨hr, rfl⟩ : Sub X (k + 4) X.A)))
  have sb : Sub X k X.A.in1.in1 := ⟨sb2.room.mono (by omega), sb2.fr⟩
  have sb3 : Sub X (k + 1) X.A.in1.in1.in1 := Sub.in1 sb2
  have sbL : Sub X k X.A.in1.in1.in1 := ⟨sb3.room.mono (by omega), sb3.fr⟩
  refine callType_codes (Q₁ := fun obj s₁ => obj = .ref s.heap.objs.size ∧ s₁ = { s with heap := s.heap.push { cls := .type "list", data := .seq #[] } }) PySem.F.called_list (PySem.F.typeCall_list_1 _) PySem.F.entry_list_init
    (code_list_new _ ⟨rfl, rfl⟩) fun obj s₁ h₁ => ?_
  obtain ⟨rfl, rfl⟩ := h₁
  have hS : (s.heap.push { cls := .type "list", data := .seq #[] }).get? s.heap.objs.size = some { cls := .type "list", data := .seq #[] } := Heap.get?_push_size _ rfl
  refine ⟨⟨_, hS, rfl⟩, PySem.F.args_list_init_2 _ _, ?_⟩
  have fr : H s.heap.objs.size = none := I.hok.fresh (Nat.le_refl _)
  have I1 : Inv X pins σ (upd H s.heap.objs.size (.lst [])) { s with heap := s.heap.push { cls := .type "list", data := .seq #[] } } := I.lnew (its := []) (t' := s.toks) .nil (Nat.zero_le _)
  show wpAny _ _ (do let old ← Builtin.List.listItems (.ref s.heap.objs.size); Builtin.List.listUpdate (.ref s.heap.objs.size) (fun _ => #[]); letGo old.toList.reverse; Builtin.List.listExtendWith (.ref s.heap.objs.size) (.ref a) .none) _ _ _
  refine wpAny_bind ?_
  unfold Builtin.List.listItems
  refine wpAny_bind (wpAny_seqItems hS rfl (wpAny_pure ?_))
  show wpAny _ _ (updateSeq s.heap.objs.size (fun _ => #[]) >>= fun _ => letGo (#[] : Array Value).toList.reverse >>= fun _ => Builtin.List.listExtendWith (.ref s.heap.objs.size) (.ref a) .none) _ _ _
  refine wpAny_bind (wpAny_updateSeq hS rfl ?_)
  have I2 := I1.lset (f := fun _ => #[]) (its := []) (its' := []) (ys := []) (t' := s.toks) upd_same hS rfl .nil (Nat.zero_le _)
  rw [upd_upd] at I2
  refine wpAny_bind (wpAny_letGo ?_)
  generalize s.heap.objs.size = S at *
  have smS : Same H (upd H S (.lst [])) := same_new fr
  have ha2 := smS _ _ ha
  have hl2 := smS _ _ hl
  have eS2 : upd H S (.lst []) S = some (.lst []) := upd_same
  generalize upd H S (.lst []) = H2 at I2 smS ha2 hl2 eS2
  generalize hs2 : ({ s with heap := _ } : Shared) = s2 at I2 ⊢
  clear hs2 I1 hS
  have hne : S ≠ a := fun z => by rw [z, ha2] at eS2; cases eS2
  obtain ⟨mA, J, _⟩ := ins_get I2.hok ha2
  obtain ⟨od, J, _⟩ := J.look
  obtain ⟨m0, hF⟩ := I2.fr
  unfold Builtin.List.listExtendWith
  refine wpAny_bind (J.type.here ?_)
  have d1 : Builtin.List.listSameRef (.ref S) (.ref a) = false := by simp [Builtin.List.listSameRef, hne]
  have d2 : (Value.ref C == Value.type "list") = false := rfl
  have d3 : (Value.ref C == Value.type "tuple") = false := rfl
  simp only [d1, d2, d3, Bool.or_false, Bool.false_eq_true, if_false]
  refine wpAny_bind (PySem.W.owit_iter hF I2.ok.mod.kin J hsI hfI ?_)
  refine wpAny_mono (run_sub (us := [.ref a]) (vs := [.ref a]) sb FI bI I2 (.cons rfl .nil) (hI H2 smS)) (fun v s3 z => ?_) fun _ _ y => y
  obtain ⟨v', H3, I3, rv3, it, rfl, hit, rfl⟩ := z
  cases (show v = Value.ref it from rv3)
  have ei := itO_get I3 (upd_same (H := H2) (a := it))
  have li : s3.heap.IsListIter it l 0 := ⟨_, ei, rfl, rfl⟩
  have I4 := I3.write (x := it) (e := it) (t' := s3.toks) (o := LiO l it 0) (by rw [upd_same]; exact True.intro) (.inl rfl) (fun b u nb z => z) ⟨_, ei⟩ (liO_ok li)
  rw [upd_upd] at I4
  unfold PySem.W.OwitIt
  refine wpAny_bind (wpAny_typeOf (T := "list_iterator") ⟨_, ei, rfl⟩ ?_)
  refine wpAny_of_eq slot_listiter_next.lookup ?_
  have I4 : Inv X pins σ (upd H2 it (LiO l it 0)) s3 := I4
  have ha4 : upd H2 it (LiO l it 0) a = some (.ins C dx fs) := by rw [upd_ne (ne_of_none ha2 hit)]; exact ha2
  have sm4 : Same H (upd H2 it (LiO l it 0)) := smS.trans (same_new hit)
  obtain ⟨mA4, J4, _⟩ := ins_get I4.hok ha4
  obtain ⟨od4, J4, _⟩ := J4.look
  refine wpAny_bind (wpAny_holding ?_)
  unfold Builtin.List.listLengthHint
  refine wpAny_bind (wpAny_bind (J4.type.here ((PySem.W.looks_findIn I4.kIn hsL).here ?_)))
  refine PySem.W.KFB.if_not rfl ?_
  refine wpAny_bind (wpAny_rule (wpAny_bind (wpAny_attempt (len_fn I4.kIn J4 hsL hfL (wpAny_mono (run_sub (us := [.ref a]) (vs := [.ref a]) sbL FL bL I4 (.cons rfl .nil) (hL _ sm4)) (fun v s5 z => ?_) fun _ _ y => y)))))
  obtain ⟨v5, H5, I5', rv5, rfl, rfl⟩ := z
  obtain ⟨t5, rfl⟩ := (show ∃ t, v = Value.int (zs.length : Nat) t from rv5)
  refine ⟨_, _, rfl, by omega, by omega, ?_⟩
  have I5 := I5'.tok (s5.toks + 1)
  generalize ({ s5 with toks := s5.toks + 1 } : Shared) = s6 at I5 ⊢
  refine wpAny_bind (m := asInt? _) (wpAny_pure ?_)
  show wpAny _ _ (if Builtin.List.listTooLong ((zs.length : Nat) : Int).toNat = true then _ else pure (((zs.length : Nat) : Int) != 0)) _ _ _
  rw [if_neg (by unfold Builtin.List.listTooLong; rw [Int.toNat_natCast, sizeLine_eq]; simp; omega)]
  refine wpAny_pure ?_
  have eS4 : upd H2 it (LiO l it 0) S = some (.lst []) := by rw [upd_ne (ne_of_none eS2 hit)]; exact eS2
  have hSi : S ≠ it := ne_of_none eS2 hit
  have h0i : H it = none := by
    cases e : H it with
    | none => rfl
    | some o => rw [smS _ _ e] at hit; cases hit
  have loop : ∀ (H' : Hp) (s' : Shared), Inv X pins σ H' s' → H' it = some (LiO l it 0) → Same H H' → H' S = some (.lst []) → codeAny (model X.prog X.w) X.A.in1 (.builtin "list.extend.loop" ⟨[.ref S, .ref it, .none], []⟩) (wants (fun r s₂ => r = .none ∧ EP X pins σ Q (.ref S) s₂) X.xe) s' := fun H' s' I' e1 sm' e2 =>
    lo_loop (A := X.A.in1) (H0 := H) hc hn fr h0i hl hSi .none (fun H'' s'' I'' sm'' e'' => ⟨rfl, .ref S, H'', I'', rfl, hq S H'' fr sm'' e''⟩) zs.length 0 H' s' (Nat.sub_zero _) (Nat.zero_le _) I' e1 sm' e2
  refine wpAny_ite_split (fun _ => ?_) (fun _ => wpAny_pure ⟨plainId_quiet PySem.F.plain_extend_loop _, loop _ _ I5 upd_same sm4 eS4⟩)
  obtain ⟨z, its, kk, r3, hl3, e3⟩ := I5.lstM eS4
  cases r3
  refine wpAny_bind (wpAny_rule ?_)
  refine wpAny_bind ?_
  show wpAny _ _ (updateSeq S (·.push .none) >>= fun _ => updateSeq S (·.pop)) _ _ _
  refine wpAny_bind (wpAny_updateSeq e3 rfl ?_)
  have I6 := I5.lset (f := (·.push Value.none)) (its' := [Value.none]) (ys := [.non]) (t' := s6.toks) eS4 e3 (by simp) (.cons rfl .nil) (by rw [List.length_singleton, sizeLine_eq]; decide)
  obtain ⟨z4, its4, k4, r4, hl4, e4⟩ := I6.lstM upd_same
  obtain ⟨u4, rfl, ru4⟩ := r4.one
  refine wpAny_updateSeq e4 rfl ?_ (by show 1 ≤ sizeLine; rw [sizeLine_eq]; decide) (by show 0 ≤ sizeLine + 1; exact Nat.zero_le _)
  have I7 := I6.lset (f := (·.pop)) (its := [u4]) (its' := []) (ys := []) (t' := s6.toks) upd_same e4 (by rfl) .nil (Nat.zero_le _)
  rw [upd_upd] at I7
  have hH : upd (upd H2 it (LiO l it 0)) S (.lst []) = upd H2 it (LiO l it 0) := by
    funext b
    by_cases hb : b = S
    · rw [hb, upd_same, eS4]
    · rw [upd_ne hb]
  rw [hH] at I7
  exact wpAny_pure ⟨plainId_quiet PySem.F.plain_extend_loop _, loop _ _ I7 upd_same sm4 eS4⟩
theorem OkOp.mono {j k2 : Nat} {m : Str} {ps : List Str} {sp : Sp} (O : OkOp X.prog X.w X.K X.mg X.base j C m ps sp) (h : j ≤ k2) : OkOp X.prog X.w X.K X.mg X.base k2 C m ps sp := by
  obtain ⟨f, fd, a, b, F, d⟩ := O.ex
  exact ⟨f, fd, a, b, F.mono h, d⟩
theorem c_listO {k1 k2 : Nat} {ps2 : List Str} (OI : OkOp X.prog X.w X.K X.mg X.base k1 C "__iter__" ps spI) (OL : OkOp X.prog X.w X.K X.mg X.base k2 C "__len__" ps2 spL) (hcalm : X.calm = true) (hr : Room (k1 + k2 + 4) X.A) : CallR X (.type "list") (rListO C spI spL) :=
  c_listO0 (k := k1 + k2) (OkOp.mono OI (by omega)) (OkOp.mono OL (by omega)) hcalm hr
end
theorem r_listO {H : Hp} {C : Addr} {spI spL : Sp} {a dx l : Addr} {fs : List (Str × V)} {zs : List V} {Q : VK} (ha : H a = some (.ins C dx fs)) (hl : H l = some (.lst zs)) (hn : zs.length ≤ 1000000)
    (hI : ∀ H1, Same H H1 → spI [.ref a] H1 (fun v H2 => ∃ it, v = .ref it ∧ H1 it = none ∧ H2 = upd H1 it (ItO l it 0)) E0) (hL : ∀ H1, Same H H1 → spL [.ref a] H1 (fun v H2 => v = .int (zs.length : Nat) ∧ H2 = H1) E0)
    (q : ∀ S H1, H S = none → Same H H1 → H1 S = some (.lst zs) → Q (.ref S) H1) : rListO C spI spL [.ref a] H Q := ⟨a, dx, fs, l, zs, rfl, ha, hl, hn, hI, hL, q⟩
end U
/-! U24: with o as x: by the class' own __enter__ and __exit__; repr of data in the law's own def (its walk knows that no repr is under way). -/
namespace U
open PySem PySem.Spec PyProof.Rows L2
/-! ### with -/
def tWith (C : Addr) (spE spX : Sp) (te : TE) (g : TG) (tb : TS) : TS := fun D σ H => te σ H fun x H1 => ∃ a dx fs, x = .ref a ∧ H1 a = some (.ins C dx fs) ∧
  spE [x] H1 (fun v H2 => g v σ H2 fun σ3 H3 => tb { nx := fun σ4 H4 => spX [x, .non, .non, .non] H4 (fun _ H5 => D.nx σ4 H5) E0, rt := fun _ _ => False } σ3 H3) E0
section
variable {X : Cx} {kE kX : Nat} {C : Addr} {psE psX : List Str} {spE spX : Sp} {e : Expr} {te : TE} {g : TG} {y : Str} {py pos : Pos} {body : List Stmt} {tb : TS}
theorem ps_with (OE : OkOp X.prog X.w X.K X.mg X.base kE C "__enter__" psE spE) (OX : OkOp X.prog X.w X.K X.mg X.base kX C "__exit__" psX spX) (hrE : Room kE X.A) (hrX : Room kX X.A) (he : PE X e te) (hg : PG X.nox (.Name y py) g) (hb : PSs X.nox body tb) :
    PS X (.With [⟨e, some (.Name y py)⟩] body pos) (tWith C spE spX te g tb) := by
  obtain ⟨fE, fdE, hsE, hfE, FE, bE⟩ := OE.ex
  obtain ⟨fX, fdX, hsX, hfX, FX, bX⟩ := OX.ex
  refine ⟨fun pins s σ H D I h => PySem.W.kw_execN (thn (he.run pins s σ H _ I h) fun u s1 z => ?_)⟩
  obtain ⟨x, H1, I1, rx, a, dx, fs, rfl, ha, q⟩ := z
  cases (show u = Value.ref a from rx)
  obtain ⟨mA, J, _⟩ := ins_get I1.hok ha
  obtain ⟨od, J, _⟩ := J.look
  unfold PySem.W.KwIn
  refine PySem.W.kw_core I1.kIn J hsE hfE hsX hfX (wpAny_mono (run_fnS (CX := CX0) (E := fun _ => E0) (us := [.ref a]) (vs := [.ref a]) FE hrE bE (fun _ _ _ _ _ _ h => h.elim) I1 (.cons rfl .nil) q) (fun v s2 z => ?_) fun _ _ y => y)
  obtain ⟨v', H2, I2, rv, q2⟩ := z
  refine wpAny_mono (hg.run pins s2 σ H2 v' v _ (I2.wish _) rv q2) (fun _ s3 z => ?_) fun _ _ z => False.elim z
  obtain ⟨σ3, H3, I3, q3⟩ := z
  refine wpAny_mono (hb.run pins s3 σ3 H3 _ I3 q3) (fun f s4 z => ?_) fun _ _ z => False.elim z
  cases f with
  | next =>
    obtain ⟨σ4, H4, I4, q4⟩ := z
    refine wpAny_mono (run_fnS (CX := CX0) (E := fun _ => E0) (us := [.ref a, .none, .none, .none]) (vs := [.ref a, .non, .non, .non]) FX hrX bX (fun _ _ _ _ _ _ h => h.elim) I4.unwish (.cons rfl (.cons rfl (.cons rfl (.cons rfl .nil)))) q4) (fun v5 s5 z => ?_) fun _ _ y => y
    obtain ⟨_, H5, I5, _, q5⟩ := z
    exact ⟨σ4, H5, I5, q5⟩
  | ret u => obtain ⟨_, _, _, _, _, z⟩ := z; exact z.elim
  | brk => obtain ⟨_, _, _, z⟩ := z; exact z.elim
  | cont => obtain ⟨_, _, _, z⟩ := z; exact z.elim
end
theorem r_with {σ : L2.St} {H : Hp} {C : Addr} {spE spX : Sp} {te : TE} {g : TG} {tb : TS} {D : Ends} (h : te σ H fun x H1 => ∃ a dx fs, x = .ref a ∧ H1 a = some (.ins C dx fs) ∧
  spE [x] H1 (fun v H2 => g v σ H2 fun σ3 H3 => tb { nx := fun σ4 H4 => spX [x, .non, .non, .non] H4 (fun _ H5 => D.nx σ4 H5) E0, rt := fun _ _ => False } σ3 H3) E0) : tWith C spE spX te g tb D σ H := h
/-! ### the law's def, walked with no guard about -/
structure FnG (P : Program) (w : World) (K : PySem.W.Frag) (mg : Str → Option Value) (base : Heap) (k : Nat) (f : Addr) (fd : FuncData) (ps : List Str) (sp : Sp) : Prop where
  run : ∀ (A : Around) (s : Shared) (H : Hp) (args : Args) (us : List Value) (vs : List V) (Q : VK) (E : XK), Room k A → A.guards = some [] → Env0 P w K mg base A [] s H → BindsTo s fd args (ps.zip us) → Vals vs us → sp vs H Q E →
    codeAny (model P w) A (.call (.ref f) args) (CR CX0 [] P w H s Q E) s
theorem FunD.okG {P : Program} {w : World} {K : PySem.W.Frag} {mg : Str → Option Value} {base : Heap} {k : Nat} {f : Addr} {name qual : Str} {params : Arguments} {body : List Stmt} {scope : Scope} {dvs : List V} {kws : List (Str × V)} {fd : FuncData}
    {N ps : List Str} {sp : Sp} (F : FunD K name qual params body scope dvs kws f fd) (S : FnScope N ps scope)
    (len : ∀ vs H Q E, sp vs H Q E → vs.length = ps.length)
    (hbody : ∀ (cdv : Value) (A : Around) (s : Shared) (H : Hp) (vs : List V) (Q : VK) (E : XK), Room k (A.deeper (envOfC qual scope s.heap.objs.size f cdv)) → (A.deeper (envOfC qual scope s.heap.objs.size f cdv)).guards = some [] → sp vs H Q E →
      ∃ t, PSs (cxOf CX0 P w K mg base N qual scope f cdv A [] s H E) body t ∧ t { nx := fun _ H' => Q .non H', rt := Q } (L2.start N vs) H) :
    FnG P w K mg base (k + 1) f fd ps sp := by
  obtain ⟨oc, od, dV, kV, doc, pm, an, cdv, ct, osl, rfl, lk, hcd, _, _⟩ := F.ex
  refine ⟨fun A s H args us vs Q E hr hg e0 hb r hsp => ?_⟩
  have lim := e0.mod.nolimit.keeps fun b o z => (e0.bs b o z).1
  have KX : K.In s.heap := e0.mod.kin.keeps fun b o z => (e0.bs b o z).1
  refine codeAny_call_function hr.depth (KX _ _ lk) rfl S.co S.gen rfl (PySem.W.codeRec_of KX hcd) (hb _ _ _ _ (wpAny_newFunctionEnv_cells S.kind (fun ⟨n, v⟩ hy => ?_) fun env he s1 x => ?_))
  · rcases S.par n (List.of_mem_zip hy).1 with z | z
    · exact .inl z
    · exact .inr ⟨z, PySem.W.cellsFrom_some _ _ _ (.inl z)⟩
  subst he
  refine ⟨lim.keeps x.toInCall.keep, codeAny_func ?_⟩
  obtain ⟨t, ht, hq⟩ := hbody cdv A s H vs Q E (hr.deeper _) hg hsp
  have I : Inv (cxOf CX0 P w K mg base N qual scope f cdv A [] s H E) [] (L2.start N vs) H s1 := inv_start S hr.hd e0 (len _ _ _ _ hsp) r x
  refine wpAny_mono (ht.run [] s1 (L2.start N vs) H _ I hq) (fun fl s' hs => ?_) fun e s' hs => hs
  cases fl with
  | ret u =>
    obtain ⟨v, σ', H', J, rv, q⟩ := hs
    exact ⟨v, H', J.os, J.bare, J.base, J.hok, rv, q⟩
  | next =>
    obtain ⟨σ', H', J, q⟩ := hs
    exact ⟨V.non, H', J.os, J.bare, J.base, J.hok, rfl, q⟩
  | brk =>
    obtain ⟨_, _, _, q⟩ := hs
    exact False.elim q
  | cont =>
    obtain ⟨_, _, _, q⟩ := hs
    exact False.elim q
section
variable {P : Program} {w : World} {K : PySem.W.Frag} {mg mb : Str → Option Value} {k : Nat} {fa a : Addr} {fd : FuncData} {x : Str} {sp : Sp} {s1 : Shared} {vs : List Value} {ns : List Int}
/-- from a heap in which the script alone may be tracked -/
theorem law_coreG (KX : K.In s1.heap) (hns : s1.heap.Ns mainGlobals mg) (hb : s1.heap.Ns builtinsNs mb) (hbb : ∀ x : Str, x ≠ "__name__" → mb x = bootBuiltins x) (hlim : s1.heap.NoLimit) (hg : s1.gens = #[])
    (ha : s1.heap.get? a = some { cls := .type "list", data := .seq vs.toArray }) (hr : Room k callerA)
    (F : ∀ base : Heap, K.In base → base.Ns mainGlobals mg → FnG P w K mg base k fa fd [x] sp) (hbind : ∀ (s : Shared) (u : Value), BindsTo s fd ⟨[u], []⟩ [(x, u)]) {H : Hp} (hO : Only H) (hok : HOk P w H s1.heap) (hA : ∀ b, H b ≠ none → b = a) (hK : H a ≠ none → K.lookup a = none)
    (hsp : sp [.ref a] H (fun v _ => v = .bl true) fun _ _ _ => False) :
    codeAny (model P w) callerA (.call (.ref fa) ⟨[.ref a], []⟩) (fun r s' => r = .ok (.ret (.bool true)) ∧ OldK s1.heap s'.heap ∧ s'.os = s1.os ∧ AllBare s'.gens) s1 := by
  have un : ∀ b, b ≠ a → H b = none := fun b n => Classical.byContradiction fun z => n (hA b z)
  have nsK : ∀ {b : Addr} {m : Str → Option Value}, s1.heap.Ns b m → (hidT s1.heap H).Ns b m := fun {b m} z => by
    obtain ⟨o, es, ep, e, d, r⟩ := z
    refine ⟨o, es, ep, hidT_get e (un b fun z => ?_), d, r⟩
    subst z
    rw [ha] at e
    cases e
    cases (show Data.seq vs.toArray _ = Data.dict es ep from d)
  have hKb : K.In (hidT s1.heap H) := fun b o e => hidT_get (KX b o e) (Classical.byContradiction fun z => by
    obtain rfl := hA b z
    rw [hK z] at e
    cases e)
  obtain ⟨mc, l1, l2⟩ := hlim
  have e0 : Env0 P w K mg (hidT s1.heap H) callerA [] s1 H := by
    refine ⟨rfl, ⟨hKb, nsK hns, ⟨mb, nsK hb, hbb⟩, ⟨mc, nsK l1, l2⟩⟩, fun b o e => of_hidT e, Nat.le_of_eq (hidT_size _ _), trivial, fun b hb => ?_, hok, .of_eq hg⟩
    exact absurd (show b ∈ ([] : List Addr) from hb) (by simp)
  refine codeAny_mono ((F _ hKb (nsK hns)).run callerA s1 H ⟨[.ref a], []⟩ [.ref a] [.ref a] _ _ hr rfl e0 (hbind s1 (.ref a)) (.cons rfl .nil) hsp) fun r s' h => ?_
  cases r with
  | error e => exact False.elim h
  | ok fl =>
    cases fl with
    | next => exact False.elim h
    | brk => exact False.elim h
    | cont => exact False.elim h
    | ret u =>
      obtain ⟨v, H', os, bare, ub, hok', r', q⟩ := h
      obtain rfl : v = .bl true := q
      cases (show u = Value.bool true from r')
      refine ⟨rfl, OldK.of_keep fun b o e => ?_, os, bare⟩
      rcases hO b with z | ⟨ob, xs, z⟩
      · exact ub.keep b o e z (fun z => absurd (show b ∈ ([] : List Addr) from z) (by simp)) (by simp)
      · have e1 := (hok b _ z).1
        rw [e] at e1
        cases e1
        exact (hok' b _ (ub.frzs b _ _ z)).1
theorem law_callG (KX : K.In s1.heap) (hns : s1.heap.Ns mainGlobals mg) (hb : s1.heap.Ns builtinsNs mb) (hbb : ∀ x : Str, x ≠ "__name__" → mb x = bootBuiltins x) (hlim : s1.heap.NoLimit) (hg : s1.gens = #[])
    (ha : s1.heap.get? a = some { cls := .type "list", data := .seq vs.toArray }) (hi : IntsAre vs ns) (hl : ns.length ≤ sizeLine) (hr : Room k callerA)
    (F : ∀ base : Heap, K.In base → base.Ns mainGlobals mg → FnG P w K mg base k fa fd [x] sp) (hbind : ∀ (s : Shared) (u : Value), BindsTo s fd ⟨[u], []⟩ [(x, u)])
    (hsp : ∀ H : Hp, Only H → SqL K H a (ns.map V.int) → sp [.ref a] H (fun v _ => v = .bl true) fun _ _ _ => False) :
    codeAny (model P w) callerA (.call (.ref fa) ⟨[.ref a], []⟩) (fun r s' => r = .ok (.ret (.bool true)) ∧ OldK s1.heap s'.heap ∧ s'.os = s1.os ∧ AllBare s'.gens) s1 := by
  have rv := vals_ints hi
  have lenV := hi.length
  have sz : (List.map V.int ns).length ≤ sizeLine := by rw [List.length_map]; exact hl
  cases hk : K.lookup a with
  | some o =>
    have e := KX a o hk
    rw [ha] at e
    cases e
    have hO : Only (fun _ => none) := fun _ => .inl rfl
    refine law_coreG KX hns hb hbb hlim hg ha hr F hbind hO (fun b u z => ?_) (fun b z => absurd rfl z) (fun z => absurd rfl z) (hsp _ hO (.inr ⟨_, vs.toArray, _, hk, rfl, rfl, rfl, ?_, ?_⟩))
    · cases (show (none : Option HO) = some u from z)
    · rw [List.size_toArray, lenV]; exact hl
    · simpa using rv
  | none =>
    let c : HO := .frz { cls := .type "list", data := .seq vs.toArray } (.lst (ns.map V.int))
    let H : Hp := fun b => if b = a then some c else none
    have yes : H a = some c := if_pos rfl
    have no : ∀ b, b ≠ a → H b = none := fun b n => if_neg n
    have hO : Only H := fun b => by
      by_cases z : b = a
      · subst z; exact .inr ⟨_, _, yes⟩
      · exact .inl (no b z)
    refine law_coreG KX hns hb hbb hlim hg ha hr F hbind hO (fun b u z => ?_) (fun b z => ?_) (fun _ => hk) (hsp _ hO (.inl (.inr ⟨_, yes⟩)))
    · by_cases n : b = a
      · subst n
        rw [yes] at z
        cases z
        exact ⟨ha, sz, vs, _, rv, ha⟩
      · rw [no b n] at z
        cases z
    · exact Classical.byContradiction fun n => z (no b n)
end
theorem walk_ofG {l : PySem.W.OpenLaw} {n k : Nat} {q : Program} {loose : List Str} {XP : (Str → Option Value) → Heap → Prop} {YP : World → Heap → Prop} {d : DefRec} {x : Str}
    (hn : l.most = some n) (hn2 : n ≤ sizeLine) (hdf : d.params.defaults = []) (hr : Room k callerA)
    (F : ∀ (w : World) (mg : Str → Option Value) (fa : Addr) (h : Heap), YP w h → h.Ns mainGlobals mg → mg d.name = some (.ref fa) →
      ∃ (K : PySem.W.Frag) (fd : FuncData) (sp : Sp), K.In h ∧ (∀ (s : Shared) (u : Value), BindsTo s fd ⟨[u], []⟩ [(x, u)]) ∧
        (∀ (H : Hp) (a : Addr) (ns : List Int), ns.length ≤ n → Only H → SqL K H a (ns.map V.int) → sp [.ref a] H (fun v _ => v = .bl true) fun _ _ _ => False) ∧
        ∀ base : Heap, K.In base → base.Ns mainGlobals mg → FnG l.prog w K mg base k fa fd [x] sp) :
    PySem.W.WalkO q loose XP YP l.row.toRowW d [] (fun f vs => PySem.call f vs) := by
  refine Att.attach_call hn hdf fun w s0 s1 mg mb fa o pm cd doc a vs ns G Y _ _ _ hmg hobj hints hlen hg => ?_
  obtain ⟨K, fd, sp, KX, hb, hsp, hF⟩ := F w mg fa _ Y G.T.g hmg
  exact law_callG KX G.T.g G.T.b G.T.builtins G.T.nolimit hg hobj hints (Nat.le_trans hlen hn2) hr hF hb fun H hO hS => hsp H a ns hlen hO hS
/-! ### repr -/
def uRepr (K : PySem.W.Frag) : RC := fun xs H Q => ∃ (a : Addr) (d : PyData), xs = [.ref a] ∧ Dp K H (.ref a) d ∧ d.showable = true ∧ d.hasDict = false ∧ d.depth ≤ 60 ∧ d.shown.length ≤ sizeLine ∧ Q (.str d.shown) H
theorem c_repr {X : Cx} {k : Nat} (hg : X.A.guards = some []) (hr : Room k X.A) : CallR X (.builtin "repr") (uRepr X.K) := by
  intro pins s σ H xs us Q I r h
  obtain ⟨a, d, rfl, hd, hs, hn, hp, hz, q⟩ := h
  obtain ⟨u, rfl, ru⟩ := r.one
  cases (show u = Value.ref a from ru)
  obtain ⟨as, rd⟩ := Dp.reads I d _ _ hd ru
  have hu := hr.units
  refine repr_of_reads' rd hs (fun z => by rw [hn] at z; cases z) hg (by omega) (fun _ _ e => e) (fun h' u tk hk => ?_) hz
  exact ⟨.str d.shown, H, I.kept (t' := tk) hk, ⟨_, rfl⟩, q⟩
/-- data that is shown in a few signs -/
def repOk (d : D) : Prop := d.py.showable = true ∧ d.py.hasDict = false ∧ d.py.depth ≤ 50 ∧ d.py.leavesShort 60 = true ∧ d.py.weight ≤ 200
theorem rep_list {ds : List D} (h : ∀ d ∈ ds, repOk d) (hl : ds.length ≤ 1000) : (PyData.list (D.pyL ds)).showable = true ∧ (PyData.list (D.pyL ds)).hasDict = false ∧ (PyData.list (D.pyL ds)).depth ≤ 60 ∧ (PyData.list (D.pyL ds)).shown.length ≤ sizeLine := by
  have key : ∀ ds : List D, (∀ d ∈ ds, repOk d) → PyData.showableAll (D.pyL ds) = true ∧ PyData.hasDictAll (D.pyL ds) = false ∧ PyData.depthAll (D.pyL ds) ≤ 50 ∧ PyData.leavesShortAll 60 (D.pyL ds) = true ∧ PyData.weightAll (D.pyL ds) ≤ 201 * ds.length := by
    intro ds
    induction ds with
    | nil => intro _; exact ⟨by simp [D.pyL, PyData.showableAll], by simp [D.pyL, PyData.hasDictAll], by simp [D.pyL, PyData.depthAll], by simp [D.pyL, PyData.leavesShortAll], by simp [D.pyL, PyData.weightAll]⟩
    | cons d ds ih =>
      intro h
      obtain ⟨a1, a2, a3, a4, a5⟩ := h d (List.mem_cons_self ..)
      obtain ⟨b1, b2, b3, b4, b5⟩ := ih fun x hx => h x (List.mem_cons_of_mem _ hx)
      rw [D.pyL]
      simp only [PyData.showableAll, PyData.hasDictAll, PyData.depthAll, PyData.leavesShortAll, PyData.weightAll, List.length_cons]
      refine ⟨by rw [a1, b1]; rfl, by rw [a2, b2]; rfl, by omega, by rw [a4, b4]; rfl, by omega⟩
  obtain ⟨b1, b2, b3, b4, b5⟩ := key ds h
  have hd : (PyData.list (D.pyL ds)).leavesShort 60 = true := by simp only [PyData.leavesShort]; exact b4
  have hs := PyData.shown_le 60 (by decide) _ hd
  have hw : (PyData.list (D.pyL ds)).weight ≤ 201 * ds.length + 2 := by simp only [PyData.weight]; omega
  refine ⟨by simp only [PyData.showable]; exact b1, by simp only [PyData.hasDict]; exact b2, by simp only [PyData.depth]; omega, ?_⟩
  rw [sizeLine_eq]
  omega
theorem r_reprL {K : PySem.W.Frag} {H : Hp} {Q : VK} {p : Addr} {vs : List V} {ds : List D} (hp : SqL K H p vs) (t : TdL K H vs ds) (h : ∀ d ∈ ds, repOk d) (hl : ds.length ≤ 1000) (q : Q (.str (PyData.list (D.pyL ds)).shown) H) : uRepr K [.ref p] H Q := by
  obtain ⟨h1, h2, h3, h4⟩ := rep_list h hl
  exact ⟨p, _, rfl, dp_lst hp t, h1, h2, h3, h4, q⟩
end U
namespace U
open PySem PySem.Spec L2
def topS (i : Nat) : Stmt := PySem.Challenge.pw_escheat_k51_replayed_log.main.body.getD i (.Pass ⟨0, 0, 0, 0⟩)
abbrev s_wall : Stmt := topS 0
abbrev s_is_integer : Stmt := topS 5
abbrev s_RegionState___init__ : Stmt := inClass (topS 8) 0
abbrev s_Store___init__ : Stmt := inClass (topS 9) 0
abbrev s_Store_record : Stmt := inClass (topS 9) 1
abbrev s_Store_is_current : Stmt := inClass (topS 9) 2
abbrev s_Store_begin : Stmt := inClass (topS 9) 3
abbrev s_Store_take : Stmt := inClass (topS 9) 4
abbrev s_Store_cell : Stmt := inClass (topS 9) 5
abbrev s_Store_end : Stmt := inClass (topS 9) 6
abbrev s_Store_owner : Stmt := inClass (topS 9) 7
abbrev s_Store_read : Stmt := inClass (topS 9) 8
abbrev s_Store_write : Stmt := inClass (topS 9) 9
abbrev s_Store_current : Stmt := inClass (topS 9) 10
abbrev s_Store_held : Stmt := inClass (topS 9) 11
abbrev s_Store_pages : Stmt := inClass (topS 9) 12
abbrev s_Store_waiting : Stmt := inClass (topS 9) 13
abbrev s_Store___len__ : Stmt := inClass (topS 9) 14
abbrev s_Store___iter__ : Stmt := inClass (topS 9) 15
abbrev s_Store___contains__ : Stmt := inClass (topS 9) 16
abbrev s_Watch___init__ : Stmt := inClass (topS 10) 0
abbrev s_Watch___enter__ : Stmt := inClass (topS 10) 1
abbrev s_Watch___exit__ : Stmt := inClass (topS 10) 2
abbrev s_perform : Stmt := topS 11
abbrev s_replay : Stmt := topS 12
abbrev s_l_start : Stmt := topS 14
abbrev s_l_draw : Stmt := topS 15
abbrev s_l_new : Stmt := topS 16
abbrev s_l_begin : Stmt := topS 17
abbrev s_l_pages : Stmt := topS 18
abbrev s_l_pages_for : Stmt := topS 19
abbrev s_l_cell : Stmt := topS 20
abbrev s_l_end : Stmt := topS 21
abbrev s_l_owner : Stmt := topS 22
abbrev s_l_deed : Stmt := topS 23
abbrev s_l_entry : Stmt := topS 24
abbrev s_law : Stmt := topS 25
abbrev se_StoreError : Stmt := inClass (topS 3) 0
abbrev de_StoreError : ErrD := ⟨"StoreError", defArgs se_StoreError, defBody se_StoreError, defScope se_StoreError, ["reason"]⟩
/-! ### the head -/
def d_RegionState___init__ : He.DefD := ⟨("RegionState", some "__init__"), "__init__", "RegionState.__init__", defArgs s_RegionState___init__, defBody s_RegionState___init__, defScope s_RegionState___init__, [], []⟩
def d_Store___init__ : He.DefD := ⟨("Store", some "__init__"), "__init__", "Store.__init__", defArgs s_Store___init__, defBody s_Store___init__, defScope s_Store___init__, [], []⟩
def d_Store_record : He.DefD := ⟨("Store", some "record"), "record", "Store.record", defArgs s_Store_record, defBody s_Store_record, defScope s_Store_record, [], []⟩
def d_Store_is_current : He.DefD := ⟨("Store", some "is_current"), "is_current", "Store.is_current", defArgs s_Store_is_current, defBody s_Store_is_current, defScope s_Store_is_current, [], []⟩
def d_Store_begin : He.DefD := ⟨("Store", some "begin"), "begin", "Store.begin", defArgs s_Store_begin, defBody s_Store_begin, defScope s_Store_begin, [], []⟩
def d_Store_take : He.DefD := ⟨("Store", some "take"), "take", "Store.take", defArgs s_Store_take, defBody s_Store_take, defScope s_Store_take, [], []⟩
def d_Store_cell : He.DefD := ⟨("Store", some "cell"), "cell", "Store.cell", defArgs s_Store_cell, defBody s_Store_cell, defScope s_Store_cell, [], []⟩
def d_Store_end : He.DefD := ⟨("Store", some "end"), "end", "Store.end", defArgs s_Store_end, defBody s_Store_end, defScope s_Store_end, [], []⟩
def d_Store_owner : He.DefD := ⟨("Store", some "owner"), "owner", "Store.owner", defArgs s_Store_owner, defBody s_Store_owner, defScope s_Store_owner, [], []⟩
def d_Store_read : He.DefD := ⟨("Store", some "read"), "read", "Store.read", defArgs s_Store_read, defBody s_Store_read, defScope s_Store_read, [], []⟩
def d_Store_write : He.DefD := ⟨("Store", some "write"), "write", "Store.write", defArgs s_Store_write, defBody s_Store_write, defScope s_Store_write, [], []⟩
def d_Watch___init__ : He.DefD := ⟨("Watch", some "__init__"), "__init__", "Watch.__init__", defArgs s_Watch___init__, defBody s_Watch___init__, defScope s_Watch___init__, [], []⟩
def d_Watch___enter__ : He.DefD := ⟨("Watch", some "__enter__"), "__enter__", "Watch.__enter__", defArgs s_Watch___enter__, defBody s_Watch___enter__, defScope s_Watch___enter__, [], []⟩
def d_Watch___exit__ : He.DefD := ⟨("Watch", some "__exit__"), "__exit__", "Watch.__exit__", defArgs s_Watch___exit__, defBody s_Watch___exit__, defScope s_Watch___exit__, [], []⟩
def d_wall : He.DefD := ⟨("_wall", none), "_wall", "_wall", defArgs s_wall, defBody s_wall, defScope s_wall, [], []⟩
def d_is_integer : He.DefD := ⟨("is_integer", none), "is_integer", "is_integer", defArgs s_is_integer, defBody s_is_integer, defScope s_is_integer, [], []⟩
def d_perform : He.DefD := ⟨("perform", none), "perform", "perform", defArgs s_perform, defBody s_perform, defScope s_perform, [], []⟩
def d_replay : He.DefD := ⟨("replay", none), "replay", "replay", defArgs s_replay, defBody s_replay, defScope s_replay, [], []⟩
def d_l_start : He.DefD := ⟨("_law_start", none), "_law_start", "_law_start", defArgs s_l_start, defBody s_l_start, defScope s_l_start, [], []⟩
def d_l_draw : He.DefD := ⟨("_law_draw", none), "_law_draw", "_law_draw", defArgs s_l_draw, defBody s_l_draw, defScope s_l_draw, [], []⟩
def d_l_new : He.DefD := ⟨("_law_new", none), "_law_new", "_law_new", defArgs s_l_new, defBody s_l_new, defScope s_l_new, [], []⟩
def d_l_begin : He.DefD := ⟨("_law_begin", none), "_law_begin", "_law_begin", defArgs s_l_begin, defBody s_l_begin, defScope s_l_begin, [], []⟩
def d_l_pages : He.DefD := ⟨("_law_pages", none), "_law_pages", "_law_pages", defArgs s_l_pages, defBody s_l_pages, defScope s_l_pages, [], []⟩
def d_l_pages_for : He.DefD := ⟨("_law_pages_for", none), "_law_pages_for", "_law_pages_for", defArgs s_l_pages_for, defBody s_l_pages_for, defScope s_l_pages_for, [], []⟩
def d_l_cell : He.DefD := ⟨("_law_cell", none), "_law_cell", "_law_cell", defArgs s_l_cell, defBody s_l_cell, defScope s_l_cell, [], []⟩
def d_l_end : He.DefD := ⟨("_law_end", none), "_law_end", "_law_end", defArgs s_l_end, defBody s_l_end, defScope s_l_end, [], []⟩
def d_l_owner : He.DefD := ⟨("_law_owner", none), "_law_owner", "_law_owner", defArgs s_l_owner, defBody s_l_owner, defScope s_l_owner, [], []⟩
def d_l_deed : He.DefD := ⟨("_law_deed", none), "_law_deed", "_law_deed", defArgs s_l_deed, defBody s_l_deed, defScope s_l_deed, [], []⟩
def d_l_entry : He.DefD := ⟨("_law_entry", none), "_law_entry", "_law_entry", defArgs s_l_entry, defBody s_l_entry, defScope s_l_entry, [], []⟩
def d_law : He.DefD := ⟨("law", none), "law", "law", defArgs s_law, defBody s_law, defScope s_law, [], []⟩
def fn : List He.DefD := [d_RegionState___init__, d_Store___init__, d_Store_record, d_Store_is_current, d_Store_begin, d_Store_take, d_Store_cell, d_Store_end, d_Store_owner, d_Store_read, d_Store_write, d_Watch___init__, d_Watch___enter__, d_Watch___exit__, d_wall, d_is_integer, d_perform, d_replay, d_l_start, d_l_draw, d_l_new, d_l_begin, d_l_pages, d_l_pages_for, d_l_cell, d_l_end, d_l_owner, d_l_deed, d_l_entry, d_law]
def en : List ErrD := [de_StoreError]
def fa : List He.Fa := [.free "isinstance", .free "int", .free "bool", .cls "RegionState", .noat "RegionState" "lives", .noat "RegionState" "amount", .noat "RegionState" "place", .noat "RegionState" "room", .cls "Store", .noat "Store" "words", .noat "Store" "owners", .noat "Store" "regions", .noat "Store" "watch", .cls "Watch", .noat "Watch" "log", .free "len", .free "range", .int "PAGE_WORDS" 8, .free "enumerate", .free "list", .noat "Watch" "store", .glo "StoreError", .free "abs", .free "repr", .glo "RegionState", .mkr "RegionState", .glo "Store", .mkr "Store", .meth "Store" "record", .meth "Store" "is_current", .meth "Store" "begin", .meth "Store" "take", .meth "Store" "cell", .meth "Store" "end", .meth "Store" "owner", .meth "Store" "read", .meth "Store" "write", .glo "Watch", .mkr "Watch", .meth "Watch" "__enter__", .meth "Watch" "__exit__", .free "super", .glo "_wall", .glo "is_integer", .glo "perform", .glo "replay", .glo "_law_start", .glo "_law_draw", .glo "_law_new", .glo "_law_begin", .glo "_law_pages", .glo "_law_pages_for", .glo "_law_cell", .glo "_law_end", .glo "_law_owner", .glo "_law_deed", .glo "_law_entry", .glo "law"]
def ts : List (PySem.W.Frag → Bool) := [fun K => decide (PySem.W.exmOne K (.ref (He.ga K "StoreError")) (.ref (He.ga K "StoreError")) = some true)]
abbrev fil : Str := PySem.Challenge.pw_escheat_k51_replayed_log.main.file
abbrev tst : PySem.W.Frag → Bool := fun K => ts.all fun f => f K
abbrev R : PySem.W.OpenRow := PySem.W.OpenLaw.row PySem.Challenge.rw_escheat_k51_replayed_log
abbrev hk : PySem.W.Hook := hookU fil 5 fa fn en tst
def ob (s : PySem.W.SharedT) : AlU := obsUG fil 5 fa fn en tst (HandSHeadRun.getT s)
theorem ob_eq (s : PySem.W.SharedT) : ob s = hk.obs s.abs := obsUG_eq (HandSHeadRun.getT_eq s)
theorem run (w : World) : HandSHeadRun.RunEq R (PySem.W.view R.prog [25]) hk ob 4000 ["_wall", "EscheatError", "StoreError", "is_integer", "PAGE_WORDS", "RegionState", "Store", "Watch", "perform", "replay", "_law_start", "_law_draw", "_law_new", "_law_begin", "_law_pages", "_law_pages_for", "_law_cell", "_law_end", "_law_owner", "_law_deed", "_law_entry"] w := by
  intro os
  kernel_rfl
def FactsT : Prop := ∀ (P : Program) (w : World) (K : PySem.W.Frag) (h : Heap) (mg : Str → Option Value) (f : Addr), P.main.file = fil → (P.main.scope.names.lookup ("super" : Str)).isSome = false → K.In h → h.Ns mainGlobals mg → mg ("law" : Str) = some (.ref f) → SaysU fil fa fn en tst K →
  ∃ fd : FuncData, (∀ (s : Shared) (v : Value), BindsTo s fd ⟨[v], []⟩ [("_law_script", v)]) ∧ ∃ sp : Sp, (∀ (H : Hp) (a : Addr) (ns : List Int), ns.length ≤ 63 → SqL K H a (ns.map V.int) → sp [.ref a] H (fun v _ => v = .bl true) (fun _ _ _ => False)) ∧ ∀ base : Heap, K.In base → base.Ns mainGlobals mg → FnG P w K mg base 7 f fd ["_law_script"] sp
end U
section
open PySem PySem.W PySem.Calls PyProof.Rows
set_option maxHeartbeats 0 in
theorem U.early (facts : U.FactsT) : PySem.Challenge.rw_escheat_k51_replayed_log.Holds := by
  w_on; o_law
  refine HandSHeadRun.head_any (r := OpenLaw.row PySem.Challenge.rw_escheat_k51_replayed_log) (q := view (OpenLaw.row PySem.Challenge.rw_escheat_k51_replayed_log).prog [25]) (H := U.hk) (ob := U.ob) (M := 4000) (loose := ["_wall", "EscheatError", "StoreError", "is_integer", "PAGE_WORDS", "RegionState", "Store", "Watch", "perform", "replay", "_law_start", "_law_draw", "_law_new", "_law_begin", "_law_pages", "_law_pages_for", "_law_cell", "_law_end", "_law_owner", "_law_deed", "_law_entry"]) (d := HandSHeadRun.topDef (OpenLaw.row PySem.Challenge.rw_escheat_k51_replayed_log).prog 25) (kwd := []) U.ob_eq
    (by kernel_rfl) (fun s => by kernel_rfl) U.run (by kernel_rfl) (by kernel_rfl) (by kernel_rfl) (by rfl) (by first | assumption | decide +kernel) (by decide +kernel) ⟨rfl, rfl, rfl, rfl, rfl, by decide +kernel⟩ ?hw ?hc
  case hw => w_witness2
  case hc =>
    refine U.walk_ofG (l := PySem.Challenge.rw_escheat_k51_replayed_log) (n := 63) (k := 7) (x := "_law_script") rfl (by decide) (by kernel_rfl) ⟨rfl, by decide, by decide⟩ ?F
    intro w mg fa h Y G hmg0
    obtain ⟨K, KX, c⟩ := Y
    have hmg : mg ("law" : PySem.Str) = some (.ref fa) := by
      have e : (HandSHeadRun.topDef (OpenLaw.row PySem.Challenge.rw_escheat_k51_replayed_log).prog 25).name = ("law" : PySem.Str) := by kernel_rfl
      rw [← e]
      exact hmg0
    obtain ⟨fd, hb, sp, hi, hF⟩ := facts (PySem.Challenge.rw_escheat_k51_replayed_log).prog w K h mg fa (by kernel_rfl) (by kernel_rfl) KX G hmg c
    exact ⟨K, fd, sp, KX, hb, fun H a ns hl _ hS => hi H a ns hl hS, hF⟩
end
namespace U
end U
/-! ### a memory of words in pages -/
namespace U
open PySem PySem.Spec L2
structure Rg where
  lv : Bool
  am : Nat
  pl : Nat
  rm : Nat
structure Mm where
  ws : List Int
  os : List Int
  rg : List Rg
  log : Option (List D)
  wt : Option (Addr × Addr)
/-- c free pages from the p-th on -/
def freeAt (os : List Int) (c p : Nat) : Prop := (os.drop p).take c = List.replicate c (-1)
instance (os : List Int) (c p : Nat) : Decidable (freeAt os c p) := by unfold freeAt; exact inferInstance
/-- the smallest page that was found so far: n pages were looked at, from the i-th on downwards -/
def frD (os : List Int) (c i : Nat) : Nat → Nat
  | 0 => os.length
  | n + 1 => if freeAt os c (i - n) then i - n else frD os c i n
def firstFree (os : List Int) (c : Nat) : Nat := if c ≤ os.length then frD os c (os.length - c) (os.length - c + 1) else os.length
def IsFirst (os : List Int) (c p : Nat) : Prop := (p + c ≤ os.length ∧ freeAt os c p ∧ ∀ q, q < p → ¬ freeAt os c q) ∨ (p = os.length ∧ ∀ q, ¬ freeAt os c q)
theorem freeAt_le {os : List Int} {c p : Nat} (hc : 1 ≤ c) (h : freeAt os c p) : p + c ≤ os.length := by
  unfold freeAt at h
  have := congrArg List.length h
  rw [List.length_take, List.length_drop, List.length_replicate] at this
  omega
theorem frD_is {os : List Int} {c i : Nat} (hi : i + c = os.length) : ∀ n, n ≤ i + 1 → (frD os c i n + c ≤ os.length ∧ i + 1 ≤ frD os c i n + n ∧ freeAt os c (frD os c i n) ∧ ∀ q, i + 1 ≤ q + n → q < frD os c i n → ¬ freeAt os c q) ∨ (frD os c i n = os.length ∧ ∀ q, i + 1 ≤ q + n → q ≤ i → ¬ freeAt os c q)
  | 0, _ => .inr ⟨rfl, fun q h1 h2 => by omega⟩
  | n + 1, hn => by
    have ih := frD_is hi n (by omega)
    show (frD os c i (n + 1) + c ≤ _ ∧ _) ∨ _
    rw [frD]
    by_cases hf : freeAt os c (i - n)
    · rw [if_pos hf]
      exact .inl ⟨by omega, by omega, hf, fun q h1 h2 => by omega⟩
    · rw [if_neg hf]
      rcases ih with ⟨a, b, d, e⟩ | ⟨a, b⟩
      · refine .inl ⟨a, by omega, d, fun q h1 h2 => ?_⟩
        by_cases hq : q = i - n
        · rw [hq]; exact hf
        · exact e q (by omega) h2
      · refine .inr ⟨a, fun q h1 h2 => ?_⟩
        by_cases hq : q = i - n
        · rw [hq]; exact hf
        · exact b q (by omega) h2
theorem first_is {os : List Int} {c : Nat} (hc : 1 ≤ c) : IsFirst os c (firstFree os c) := by
  unfold firstFree
  split
  · rename_i h
    rcases frD_is (os := os) (c := c) (i := os.length - c) (by omega) (os.length - c + 1) (by omega) with ⟨a, b, d, e⟩ | ⟨a, b⟩
    · exact .inl ⟨a, d, fun q hq => e q (by omega) hq⟩
    · refine .inr ⟨a, fun q hq => ?_⟩
      exact b q (by omega) (by have := freeAt_le hc hq; omega) hq
  · exact .inr ⟨rfl, fun q hq => by have := freeAt_le hc hq; omega⟩
theorem first_eq {os : List Int} {c p : Nat} (hc : 1 ≤ c) (h : IsFirst os c p) : firstFree os c = p := by
  rcases first_is (os := os) hc with ⟨a, b, d⟩ | ⟨a, b⟩ <;> rcases h with ⟨a', b', d'⟩ | ⟨a', b'⟩
  · rcases Nat.lt_trichotomy (firstFree os c) p with h | h | h
    · exact absurd b (d' _ h)
    · exact h
    · exact absurd b' (d _ h)
  · exact absurd b (b' _)
  · exact absurd b' (b _)
  · rw [a, a']
/-- n things from the p-th on replaced by x -/
def setR {α : Type} (xs : List α) (p n : Nat) (x : α) : List α := xs.take p ++ List.replicate n x ++ xs.drop (p + n)
theorem setR_len {α : Type} {xs : List α} {p n : Nat} {x : α} (h : p + n ≤ xs.length) : (setR xs p n x).length = xs.length := by
  unfold setR
  rw [List.length_append, List.length_append, List.length_take, List.length_replicate, List.length_drop]
  omega
theorem setR_get {α : Type} {xs : List α} {p n : Nat} {x : α} (h : p + n ≤ xs.length) (i : Nat) : (setR xs p n x)[i]? = if p ≤ i ∧ i < p + n then some x else xs[i]? := by
  unfold setR
  have l1 : (xs.take p).length = p := by rw [List.length_take]; omega
  by_cases h1 : i < p
  · rw [List.append_assoc, List.getElem?_append_left (by omega), List.getElem?_take_of_lt h1, if_neg (by omega)]
  · by_cases h2 : i < p + n
    · rw [List.append_assoc, List.getElem?_append_right (by omega), l1, List.getElem?_append_left (by rw [List.length_replicate]; omega), List.getElem?_replicate, if_pos (by omega), if_pos ⟨by omega, h2⟩]
    · rw [List.getElem?_append_right (by rw [List.length_append, l1, List.length_replicate]; omega), List.length_append, l1, List.length_replicate, List.getElem?_drop, if_neg (by omega)]
      congr 1
      omega
theorem setR_zero {α : Type} {xs : List α} {p : Nat} {x : α} : setR xs p 0 x = xs := by
  unfold setR
  simp
theorem setR_step {α : Type} {xs : List α} {p n : Nat} {x : α} (h : p + n < xs.length) : (setR xs p n x).set (p + n) x = setR xs p (n + 1) x := by
  apply List.ext_getElem?
  intro i
  rw [setR_get (by omega), List.getElem?_set]
  by_cases hi : p + n = i
  · subst hi
    rw [if_pos rfl, if_pos (by rw [setR_len (by omega)]; exact h), if_pos ⟨by omega, by omega⟩]
  · rw [if_neg hi, setR_get (by omega)]
    by_cases h1 : p ≤ i ∧ i < p + n
    · rw [if_pos h1, if_pos ⟨h1.1, by omega⟩]
    · rw [if_neg h1, if_neg (by omega)]
theorem setR_map {α β : Type} {f : α → β} {xs : List α} {p n : Nat} {x : α} : (setR xs p n x).map f = setR (xs.map f) p n (f x) := by
  unfold setR
  simp [List.map_take, List.map_drop]
/-- pages for a region: the first one's number, the pages' owners, the words -/
def takeP (m : Mm) (c : Nat) : Nat := firstFree m.os c
def takeM (m : Mm) (c r : Nat) : Mm := { m with
  os := setR (if takeP m c = m.os.length then m.os ++ List.replicate c (-1) else m.os) (takeP m c) c (r : Int)
  ws := if takeP m c = m.os.length then m.ws ++ List.replicate (c * 8) 0 else m.ws }
def rg0 : Rg := ⟨true, 0, 0, 0⟩
def entry (what : Str) (r a : Int) : D := .tup [.str what, .int r, .int a]
def addL (m : Mm) (d : D) : Mm := { m with log := m.log.map (· ++ [d]) }
def beginM (m : Mm) : Mm := addL { m with rg := m.rg ++ [rg0] } (entry "begin" m.rg.length 0)
def live (m : Mm) (r : Nat) : Prop := ∃ g, m.rg[r]? = some g ∧ g.lv = true
/-- where a cell goes, and the pages that it takes -/
def spotM (m : Mm) (r w : Nat) (g : Rg) : Mm × Nat × Rg :=
  if 8 < w then (takeM m ((w + 7) / 8) r, takeP m ((w + 7) / 8) * 8, g)
  else if g.rm < w then (takeM m 1 r, takeP m 1 * 8, { g with pl := takeP m 1 * 8 + w, rm := 8 - w })
  else (m, g.pl, { g with pl := g.pl + w, rm := g.rm - w })
def cellM (m : Mm) (r w : Nat) : Mm × Nat :=
  let g := m.rg.getD r rg0
  let q := spotM m r w g
  (addL { q.1 with ws := setR q.1.ws q.2.1 w 0, rg := q.1.rg.set r { q.2.2 with am := q.2.2.am + w } } (entry "cell" r q.2.1), q.2.1)
/-- the words behind n pages looked at -/
def zeroP (os : List Int) (r : Int) (ws : List Int) : Nat → List Int
  | 0 => ws
  | n + 1 => if os[n]? = some r then setR (zeroP os r ws n) (n * 8) 8 0 else zeroP os r ws n
def giveP (r : Int) (o : Int) : Int := if o = r then -1 else o
def endM (m : Mm) (r : Nat) : Mm :=
  let g := m.rg.getD r rg0
  addL { m with ws := zeroP m.os r m.ws m.os.length, os := m.os.map (giveP r), rg := m.rg.set r { g with lv := false, am := 0 } } (entry "end" r 0)
def ownerM (m : Mm) (a : Int) : Int := if 0 ≤ a ∧ a < m.ws.length then m.os.getD (a / 8).toNat (-1) else -1
def readV (m : Mm) (a : Int) : Int := if ownerM m a < 0 then 0 else m.ws.getD a.toNat 0
def readM (m : Mm) (a : Int) : Mm := addL m (entry "read" (ownerM m a) a)
def writeM (m : Mm) (a x : Int) : Mm := { addL m (entry "write" (ownerM m a) a) with ws := if 0 ≤ ownerM m a then m.ws.set a.toNat x else m.ws }
/-- as much as a page for eight words each; where small cells go lies within -/
structure MOk (m : Mm) : Prop where
  len : m.ws.length = m.os.length * 8
  sp : ∀ g ∈ m.rg, g.pl + g.rm ≤ m.ws.length
def sizeM (m : Mm) (n : Nat) : Prop := m.os.length + n ≤ 100000 ∧ m.rg.length + n ≤ 100000
/-! what a heap bears -/
def rgF (g : Rg) : List (Str × V) := [("lives", .bl g.lv), ("amount", .int g.am), ("place", .int g.pl), ("room", .int g.rm)]
def stF (W O R : Addr) (wv : V) : List (Str × V) := [("words", .ref W), ("owners", .ref O), ("regions", .ref R), ("watch", wv)]
def wvOf : Option (Addr × Addr) → V
  | none => .non
  | some p => .ref p.1
def wlO : Option (Addr × Addr) → List Addr
  | none => []
  | some p => [p.2]
def wl (m : Mm) : List Addr := wlO m.wt
/-- the watch, its log's list -/
structure LogW (K : PySem.W.Frag) (H : Hp) (a W O R : Addr) (rs : List Addr) (lg : Option (List D)) (w L : Addr) : Prop where
  ins : ∃ dw, H w = some (.ins (He.ga K "Watch") dw [("store", .ref a), ("log", .ref L)])
  lst : ∃ vs ds, H L = some (.lst vs) ∧ lg = some ds ∧ TdL K H vs ds
  wa : w ≠ a
  wr : w ∉ rs
  ne : L ≠ W ∧ L ≠ O ∧ L ≠ R
def LogX (K : PySem.W.Frag) (H : Hp) (a W O R : Addr) (rs : List Addr) (wt : Option (Addr × Addr)) (lg : Option (List D)) : Prop := (wt = none → lg = none) ∧ ∀ w L, wt = some (w, L) → LogW K H a W O R rs lg w L
def logSz (m : Mm) : Prop := ∀ ds, m.log = some ds → ds.length ≤ 100000
/-- the store at a: its lists, its regions' cells -/
structure StX (K : PySem.W.Frag) (H : Hp) (a W O R : Addr) (rs : List Addr) (m : Mm) : Prop where
  ins : ∃ dx, H a = some (.ins (He.ga K "Store") dx (stF W O R (wvOf m.wt)))
  w : H W = some (.lst (m.ws.map V.int))
  o : H O = some (.lst (m.os.map V.int))
  r : H R = some (.lst (rs.map V.ref))
  nl : rs.length = m.rg.length
  nd : rs.Nodup
  rg : ∀ (i : Nat) (x : Addr) (g : Rg), rs[i]? = some x → m.rg[i]? = some g → ∃ dx, H x = some (.ins (He.ga K "RegionState") dx (rgF g))
  ne : W ≠ O ∧ W ≠ R ∧ O ≠ R
  na : a ∉ rs
  log : LogX K H a W O R rs m.wt m.log
def StAt (K : PySem.W.Frag) (H : Hp) (a : Addr) (S : List Addr) (m : Mm) : Prop := ∃ W O R rs, S = wl m ++ a :: W :: O :: R :: rs ∧ StX K H a W O R rs m
def FrN (ls : List Addr) (H H' : Hp) : Prop := ∀ c x, c ∉ ls → H c = some x → H' c = some x
/-- all but the store's cells stays; new cells of the store are new -/
structure StFr (S S' : List Addr) (H H' : Hp) : Prop where
  fr : FrN S H H'
  nw : ∃ N, S' = S ++ N ∧ ∀ x, x ∈ N → H x = none
  up : ∀ x o, H x = some o → ∃ o', H' x = some o'
def StQ (K : PySem.W.Frag) (a : Addr) (S : List Addr) (H : Hp) (m' : Mm) (k : List Addr → Hp → Prop) : Prop := ∀ S' H', StAt K H' a S' m' → StFr S S' H H' → k S' H'
/-! promises -/
def sp_is_integer (K : PySem.W.Frag) : Sp := fun vs H Q _ => ∃ n : Int, vs = [.int n] ∧ Q (.bl true) H
def sp_RegionState___init__ (K : PySem.W.Frag) : Sp := fun vs H Q _ => ∃ x dx, vs = [.ref x] ∧ H x = some (.ins (He.ga K "RegionState") dx []) ∧ ∀ H', (∀ b, b ≠ x → H' b = H b) → H' x = some (.ins (He.ga K "RegionState") dx (rgF rg0)) → Q .non H'
def m0 : Mm := ⟨[], [], [], none, none⟩
def sp_Store___init__ (K : PySem.W.Frag) : Sp := fun vs H Q _ => ∃ a dx, vs = [.ref a] ∧ H a = some (.ins (He.ga K "Store") dx []) ∧ ∀ S H', StAt K H' a S m0 → (∀ b o, b ≠ a → H b = some o → H' b = some o) → (∀ x, x ∈ S → x = a ∨ H x = none) → Q .non H'
def sp_Store_record (K : PySem.W.Frag) : Sp := fun vs H Q _ => ∃ a S m, ∃ z : Str, ∃ r x : Int, vs = [.ref a, .str z, .int r, .int x] ∧ StAt K H a S m ∧ logSz m ∧ StQ K a S H (addL m (entry z r x)) fun _ H' => Q .non H'
def sp_Store_is_current (K : PySem.W.Frag) : Sp := fun vs H Q _ => ∃ a S m, ∃ r : Int, vs = [.ref a, .int r] ∧ StAt K H a S m ∧ m.rg.length ≤ 100000 ∧ (∀ b : Bool, (b = true ↔ 0 ≤ r ∧ live m r.toNat) → Q (.bl b) H)
def sp_Store_begin (K : PySem.W.Frag) : Sp := fun vs H Q _ => ∃ a S m, vs = [.ref a] ∧ StAt K H a S m ∧ logSz m ∧ m.rg.length ≤ 100000 ∧ StQ K a S H (beginM m) fun _ H' => Q (.int (m.rg.length : Nat)) H'
def sp_Store_take (K : PySem.W.Frag) : Sp := fun vs H Q _ => ∃ a S m, ∃ c r : Nat, vs = [.ref a, .int c, .int r] ∧ StAt K H a S m ∧ 1 ≤ c ∧ MOk m ∧ sizeM m c ∧ StQ K a S H (takeM m c r) fun _ H' => Q (.int (takeP m c : Nat)) H'
def sp_Store_owner (K : PySem.W.Frag) : Sp := fun vs H Q _ => ∃ a S m, ∃ x : Int, vs = [.ref a, .int x] ∧ StAt K H a S m ∧ MOk m ∧ sizeM m 0 ∧ Q (.int (ownerM m x)) H
def sp_Store_read (K : PySem.W.Frag) : Sp := fun vs H Q _ => ∃ a S m, ∃ x : Int, vs = [.ref a, .int x] ∧ StAt K H a S m ∧ logSz m ∧ MOk m ∧ sizeM m 0 ∧ StQ K a S H (readM m x) fun _ H' => Q (.int (readV m x)) H'
def sp_Store_write (K : PySem.W.Frag) : Sp := fun vs H Q _ => ∃ a S m, ∃ x y : Int, vs = [.ref a, .int x, .int y] ∧ StAt K H a S m ∧ logSz m ∧ MOk m ∧ sizeM m 0 ∧ StQ K a S H (writeM m x y) fun _ H' => Q .non H'
/-- the numbers of the current regions among the first n -/
def liveN (rg : List Rg) : Nat → List V
  | 0 => []
  | n + 1 => liveN rg n ++ if (rg.getD n rg0).lv = true then [V.int n] else []
/-! Store.cell and Store.end that raise -/
def badE (K : PySem.W.Frag) (H : Hp) (E : XK) (z : Str) : Prop := ∀ H' d, Same H H' → H' d = none → E (.ref (He.ga K "StoreError")) (some d) (upd H' d (.xd [("reason", .str z)]))
def sp_Store_cell (K : PySem.W.Frag) : Sp := fun vs H Q E => ∃ a S m, ∃ r w : Int, vs = [.ref a, .int r, .int w] ∧ StAt K H a S m ∧ logSz m ∧ MOk m ∧ sizeM m w.toNat ∧
  ((0 ≤ r ∧ live m r.toNat ∧ 1 ≤ w) → StQ K a S H (cellM m r.toNat w.toNat).1 fun _ H' => Q (.int ((cellM m r.toNat w.toNat).2 : Nat)) H') ∧ (¬ (0 ≤ r ∧ live m r.toNat) → badE K H E "region") ∧ ((0 ≤ r ∧ live m r.toNat ∧ w < 1) → badE K H E "words")
def sp_Store_end (K : PySem.W.Frag) : Sp := fun vs H Q E => ∃ a S m, ∃ r : Int, vs = [.ref a, .int r] ∧ StAt K H a S m ∧ logSz m ∧ MOk m ∧ sizeM m 0 ∧
  ((0 ≤ r ∧ live m r.toNat) → StQ K a S H (endM m r.toNat) fun _ H' => Q .non H') ∧ (¬ (0 ≤ r ∧ live m r.toNat) → badE K H E "region")
/-! ### k47: the law's own model of a store -/
structure MdX (H : Hp) (b o w v s am : Addr) (ss : List Addr) (m : Mm) : Prop where
  eb : H b = some (.lst [.ref o, .ref w, .ref v, .ref s, .ref am])
  eo : H o = some (.lst (m.os.map V.int))
  ew : H w = some (.lst (m.ws.map V.int))
  ev : H v = some (.lst (m.rg.map fun g => V.bl g.lv))
  es : H s = some (.lst (ss.map V.ref))
  ea : H am = some (.lst (m.rg.map fun g => V.int (g.am : Nat)))
  nl : ss.length = m.rg.length
  sp : ∀ (i : Nat) (x : Addr) (g : Rg), ss[i]? = some x → m.rg[i]? = some g → H x = some (.lst [.int (g.pl : Nat), .int (g.rm : Nat)])
  nd : (b :: o :: w :: v :: s :: am :: ss).Nodup
def MdAt (H : Hp) (b : Addr) (L : List Addr) (m : Mm) : Prop := ∃ o w v s am ss, L = b :: o :: w :: v :: s :: am :: ss ∧ MdX H b o w v s am ss m
def MdQ (b : Addr) (L : List Addr) (H : Hp) (m' : Mm) (k : List Addr → Hp → Prop) : Prop := ∀ L' H', MdAt H' b L' m' → StFr L L' H H' → k L' H'
def cellL (m : Mm) (r w : Nat) : Mm × Nat :=
  let g := m.rg.getD r rg0
  let q := spotM m r w g
  ({ q.1 with ws := if 8 < w then q.1.ws else setR q.1.ws q.2.1 w 0, rg := q.1.rg.set r { q.2.2 with am := q.2.2.am + w } }, q.2.1)
def endL (m : Mm) (r : Nat) : Mm :=
  let g := m.rg.getD r rg0
  { m with ws := zeroP m.os r m.ws m.os.length, os := m.os.map (giveP r), rg := m.rg.set r { g with lv := false } }
/-- pages that are new, where none are free -/
def growM (m : Mm) (c : Nat) : Mm := { m with
  os := if takeP m c = m.os.length then m.os ++ List.replicate c (-1) else m.os
  ws := if takeP m c = m.os.length then m.ws ++ List.replicate (c * 8) 0 else m.ws }
def sp_l_new (K : PySem.W.Frag) : Sp := fun vs H Q _ => vs = [] ∧ ∀ b L H', MdAt H' b L m0 → Same H H' → (∀ x ∈ L, H x = none) → Q (.ref b) H'
def sp_l_begin (K : PySem.W.Frag) : Sp := fun vs H Q _ => ∃ b L m, vs = [.ref b] ∧ MdAt H b L m ∧ m.rg.length ≤ 1000 ∧ MdQ b L H { m with rg := m.rg ++ [rg0] } fun _ H' => Q (.int (m.rg.length : Nat)) H'
def sp_l_pages (K : PySem.W.Frag) : Sp := fun vs H Q _ => ∃ b L m, ∃ c : Nat, vs = [.ref b, .int c] ∧ MdAt H b L m ∧ 1 ≤ c ∧ MOk m ∧ sizeM m c ∧ MdQ b L H (growM m c) fun _ H' => Q (.int (takeP m c : Nat)) H'
def sp_l_pages_for (K : PySem.W.Frag) : Sp := fun vs H Q _ => ∃ b L m, ∃ r c : Nat, vs = [.ref b, .int r, .int c] ∧ MdAt H b L m ∧ 1 ≤ c ∧ MOk m ∧ sizeM m c ∧ MdQ b L H (takeM m c r) fun _ H' => Q (.int ((takeP m c * 8 : Nat) : Int)) H'
def sp_l_cell (K : PySem.W.Frag) : Sp := fun vs H Q _ => ∃ b L m, ∃ r w : Nat, vs = [.ref b, .int r, .int w] ∧ MdAt H b L m ∧ r < m.rg.length ∧ 1 ≤ w ∧ MOk m ∧ sizeM m w ∧ MdQ b L H (cellL m r w).1 fun _ H' => Q (.int ((cellL m r w).2 : Nat)) H'
def sp_l_end (K : PySem.W.Frag) : Sp := fun vs H Q _ => ∃ b L m, ∃ r : Nat, vs = [.ref b, .int r] ∧ MdAt H b L m ∧ r < m.rg.length ∧ MOk m ∧ sizeM m 0 ∧ MdQ b L H (endL m r) fun _ H' => Q .non H'
/-! ### k51 -/
structure R50 (m m2 : Mm) : Prop where
  ok : MOk m
  log : m.log = none
  os : m.os = m2.os
  ws : m.ws = m2.ws
  rl : m.rg.length = m2.rg.length
  rg : ∀ (r : Nat) (g : Rg), m.rg[r]? = some g → ∃ g2, m2.rg[r]? = some g2 ∧ g2.lv = g.lv ∧ g2.pl = g.pl ∧ g2.rm = g.rm ∧ (g.lv = true → g2.am = g.am)
  dead : ∀ (r : Nat) (g : Rg), m.rg[r]? = some g → g.lv = false → g.am = 0
  zf : ∀ i : Nat, m.os[i / 8]? = some (-1) → m.ws[i]? = some 0
  ob : ∀ o ∈ m.os, -1 ≤ o
def wrL (m : Mm) (a x : Int) : Mm := { m with ws := if 0 ≤ ownerM m a then m.ws.set a.toNat x else m.ws }
def sp_l_start (K : PySem.W.Frag) : Sp := spStartL K
def sp_l_draw (K : PySem.W.Frag) : Sp := spDrawL K
def sp_l_owner (K : PySem.W.Frag) : Sp := fun vs H Q _ => ∃ b L m, ∃ x : Int, vs = [.ref b, .int x] ∧ MdAt H b L m ∧ MOk m ∧ sizeM m 0 ∧ Q (.int (ownerM m x)) H
/-- deeds -/
inductive Dd where
  | beg | cel (r w : Int) | en (r : Int) | rd (x : Int) | wr (x y : Int)
def Dd.d : Dd → D
  | .beg => .tup [.str "begin"]
  | .cel r w => .tup [.str "cell", .int r, .int w]
  | .en r => .tup [.str "end", .int r]
  | .rd x => .tup [.str "read", .int x]
  | .wr x y => .tup [.str "write", .int x, .int y]
def okD (m : Mm) : Dd → Prop
  | .beg => True
  | .cel r w => 0 ≤ r ∧ live m r.toNat ∧ 1 ≤ w
  | .en r => 0 ≤ r ∧ live m r.toNat
  | .rd _ => True
  | .wr _ _ => True
def stepM (m : Mm) : Dd → Mm
  | .beg => beginM m
  | .cel r w => (cellM m r.toNat w.toNat).1
  | .en r => endM m r.toNat
  | .rd x => readM m x
  | .wr x y => writeM m x y
/-- the law's own model: the entry that is due -/
def dueE (m : Mm) : Dd → D
  | .beg => entry "begin" m.rg.length 0
  | .cel r w => entry "cell" r (cellL m r.toNat w.toNat).2
  | .en r => entry "end" r 0
  | .rd x => entry "read" (ownerM m x) x
  | .wr x _ => entry "write" (ownerM m x) x
def nxtE (m : Mm) : Dd → Mm
  | .beg => { m with rg := m.rg ++ [rg0] }
  | .cel r w => (cellL m r.toNat w.toNat).1
  | .en r => endL m r.toNat
  | .rd _ => m
  | .wr _ _ => m
open Classical in
noncomputable def entL (m : Mm) (d : Dd) : Option D := if okD m d then some (dueE m d) else none
open Classical in
noncomputable def nxtL (m : Mm) (d : Dd) : Mm := if okD m d then nxtE m d else m
noncomputable def dueL (m : Mm) : List Dd → List D
  | [] => []
  | d :: ds => (entL m d).toList ++ dueL (nxtL m d) ds
/-- no cell of more than 50 words -/
def Dd.small : Dd → Prop
  | .cel _ w => w ≤ 50
  | _ => True
def Dd.rng : Dd → Prop
  | .beg => True
  | .cel r w => r.natAbs ≤ 1000 ∧ w.natAbs ≤ 1000
  | .en r => r.natAbs ≤ 1000
  | .rd x => x.natAbs ≤ 2 ^ 40
  | .wr x y => x.natAbs ≤ 2 ^ 40 ∧ y.natAbs ≤ 2 ^ 40
def sp_Watch___init__ (K : PySem.W.Frag) : Sp := fun vs H Q _ => ∃ w dw a, vs = [.ref w, .ref a] ∧ H w = some (.ins (He.ga K "Watch") dw []) ∧
  ∀ L H', (∀ b o, b ≠ w → H b = some o → H' b = some o) → H' w = some (.ins (He.ga K "Watch") dw [("store", .ref a), ("log", .ref L)]) → H L = none → Q .non H'
def sp_Watch___enter__ (K : PySem.W.Frag) : Sp := fun vs H Q _ => ∃ w dw a L0 S m, vs = [.ref w] ∧ H w = some (.ins (He.ga K "Watch") dw [("store", .ref a), ("log", .ref L0)]) ∧ StAt K H a S m ∧ m.wt = none ∧ w ∉ S ∧
  ∀ L H', (∀ b o, b ≠ w → b ∉ S → H b = some o → H' b = some o) → H L = none → StAt K H' a (L :: S) { m with wt := some (w, L), log := some [] } → Q (.ref w) H'
def sp_Watch___exit__ (K : PySem.W.Frag) : Sp := fun vs H Q _ => ∃ w dw a da L fs, vs = [.ref w, .non, .non, .non] ∧ H w = some (.ins (He.ga K "Watch") dw [("store", .ref a), ("log", .ref L)]) ∧ H a = some (.ins (He.ga K "Store") da fs) ∧ fs.length ≤ 10 ∧
  ∀ H', (∀ b, b ≠ a → H' b = H b) → Q .non H'
def sp_perform (K : PySem.W.Frag) : Sp := fun vs H Q E => ∃ a S m v d, vs = [.ref a, v] ∧ StAt K H a S m ∧ Td K H v (Dd.d d) ∧ logSz m ∧ MOk m ∧ sizeM m 100 ∧ d.small ∧
  (okD m d → StQ K a S H (stepM m d) fun _ H' => Q .non H') ∧ (¬ okD m d → ∀ z, badE K H E z)
def sp_replay (K : PySem.W.Frag) : Sp := fun vs H Q _ => ∃ p us ds, vs = [.ref p] ∧ H p = some (.lst us) ∧ TdL K H us (ds.map Dd.d) ∧ ds.length ≤ 100 ∧ (∀ d ∈ ds, Dd.small d) ∧
  ∀ q H' ws, Same H H' → H q = none → H' q = some (.lst ws) → TdL K H' ws (dueL m0 ds) → Q (.ref q) H'
def sp_l_deed (K : PySem.W.Frag) : Sp := fun vs H Q _ => ∃ p l, ∃ many : Int, vs = [.ref p, .int many] ∧ Dr H p l ∧ 1 ≤ many ∧ many ≤ 100 ∧
  ∀ v d H', Dr H' p l → Fr p H H' → Td K H' v (Dd.d d) → d.small → d.rng → Q v H'
def EntV (K : PySem.W.Frag) (H : Hp) (v : V) : Option D → Prop
  | none => v = .non
  | some e => Td K H v e
def sp_l_entry (K : PySem.W.Frag) : Sp := fun vs H Q _ => ∃ b L m v d, vs = [.ref b, v] ∧ MdAt H b L m ∧ Td K H v (Dd.d d) ∧ MOk m ∧ sizeM m 100 ∧ m.rg.length ≤ 900 ∧ d.small ∧
  ∀ L' H' v', MdAt H' b L' (nxtL m d) → StFr L L' H H' → EntV K H' v' (entL m d) → Q v' H'
def sp_law (K : PySem.W.Frag) : Sp := spLaw K
local macro_rules | `(tactic| walk_at "une") => `(tactic| first | assumption | (exact Ne.symm (by assumption)) | (exact ne_of_none (by assumption) (by assumption)) | (exact (ne_of_none (by assumption) (by assumption)).symm))
local macro_rules | `(tactic| walk_at "uh") => `(tactic| first | assumption | (exact upd_same) | (refine' (upd_ne ?n).trans ?h; (case n => walk_at "une"); (case h => walk_at "uh")))
local macro_rules | `(tactic| walk_at "usl") => `(tactic| first | assumption | (exact SqL.of (by walk_at "uh")))
local macro_rules | `(tactic| walk_at "ust") => `(tactic| first | assumption | (exact SqT.of (by walk_at "uh")))
local macro_rules | `(tactic| walk_at "us") => `(tactic| first | omega | decide | assumption | (exact szl (by omega)) | (exact szt (by omega)) | (exact wide_div (b := 64) (by omega) (by omega) (by decide) (by decide)) | (exact Or.inl (Or.inr (by decide))) | (exact Or.inl (Or.inl (by decide))))
local macro_rules | `(tactic| walk_at "u1") => `(tactic| first
  | (with_reducible refine r_sqA ?_) | (with_reducible refine r_sqP ?_) | (with_reducible refine r_dput ?_) | (with_reducible refine r_dget ?_) | (with_reducible refine r_din ?_) | (with_reducible refine r_dnotin ?_) | (with_reducible refine r_keys ?_) | (with_reducible refine r_dnew ?_) | (with_reducible refine r_isB ?_) | (with_reducible refine r_notB ?_) | (with_reducible refine r_xor ?_) | (with_reducible refine r_sqD ?_) | ((with_reducible refine' r_sqG ?hx ?_); (case hx => exact rfl)) | (with_reducible refine r_sqS ?_) | (with_reducible refine r_asg ?_) | ((with_reducible refine' r_var ?hx ?_); (case hx => exact rfl)) | (with_reducible refine r_c ?_) | (with_reducible refine r_op ?_)
  | (with_reducible refine r_gname ?_) | (with_reducible refine r_cons ?_) | (with_reducible refine r_nil ?_) | (with_reducible refine r_cb ?_) | (with_reducible refine r_call ?_)
  | (with_reducible refine r_ifS ?_) | (with_reducible refine r_test ?_) | (with_reducible refine r_bl ?_) | (with_reducible refine r_ret ?_) | (with_reducible refine r_next ?_) | (with_reducible refine r_drop ?_)
  | (with_reducible refine r_and ?_) | (with_reducible refine r_or ?_) | (with_reducible refine r_not ?_) | (with_reducible refine r_tru ?_) | (with_reducible refine r_truBl ?_) | (with_reducible refine r_truInt ?_) | (with_reducible refine r_truNon ?_) | (with_reducible refine r_tb ?_)
  | (with_reducible refine r_andV ?_) | (with_reducible refine r_orV ?_) | (with_reducible refine r_notV ?_) | (with_reducible refine r_chain ?_) | (with_reducible refine r_if ?_) | (with_reducible refine r_un ?_)
  | (with_reducible refine br_t ?_) | (with_reducible refine br_f ?_) | (with_reducible refine br_nt ?_) | (with_reducible refine br_nf ?_)
  | (with_reducible refine r_addI ?_) | (with_reducible refine r_sub ?_) | (with_reducible refine r_neg ?_) | (with_reducible refine r_cmpI ?_) | (with_reducible refine r_eqI ?_) | (with_reducible refine r_eqS ?_) | (with_reducible refine r_eqB ?_) | (with_reducible refine r_neI ?_) | (with_reducible refine r_neS ?_) | (with_reducible refine r_neB ?_)
  | ((with_reducible refine r_mod ?s ?_); (case s => walk_at "us")) | ((with_reducible refine r_mul ?s ?_); (case s => walk_at "us")) | ((with_reducible refine r_fdiv ?s ?_); (case s => walk_at "us"))
  | ((with_reducible refine r_addS ?s ?_); (case s => walk_at "us"))
  | (with_reducible refine r_isNN ?_) | (with_reducible refine r_isNI ?_) | (with_reducible refine r_isNB ?_) | (with_reducible refine r_isNS ?_) | (with_reducible refine r_isNR ?_) | (with_reducible refine r_notNN ?_) | (with_reducible refine r_notNI ?_) | (with_reducible refine r_notNB ?_) | (with_reducible refine r_notNS ?_) | (with_reducible refine r_notNR ?_)
  | (with_reducible refine r_abs ?_) | (with_reducible refine r_intI ?_) | (with_reducible refine r_intB ?_) | (with_reducible refine r_maxI ?_) | (with_reducible refine r_minI ?_) | (with_reducible refine r_starts ?_) | (with_reducible refine r_inC ?_) | (with_reducible refine r_notInC ?_)
  | (with_reducible refine r_iI_int ?_) | (with_reducible refine r_iI_bool ?_) | (with_reducible refine r_iI_str ?_) | (with_reducible refine r_iI_tuple ?_) | (with_reducible refine r_iI_list ?_) | (with_reducible refine r_iB_int ?_) | (with_reducible refine r_iB_bool ?_) | (with_reducible refine r_iB_str ?_) | (with_reducible refine r_iB_tuple ?_) | (with_reducible refine r_iB_list ?_) | (with_reducible refine r_iS_int ?_) | (with_reducible refine r_iS_bool ?_) | (with_reducible refine r_iS_str ?_) | (with_reducible refine r_iS_tuple ?_) | (with_reducible refine r_iS_list ?_) | (with_reducible refine r_iN_int ?_) | (with_reducible refine r_iN_bool ?_) | (with_reducible refine r_iN_str ?_) | (with_reducible refine r_iN_tuple ?_) | (with_reducible refine r_iN_list ?_)
  | ((with_reducible refine r_lenS ?s ?_); (case s => walk_at "us")) | ((with_reducible refine r_slS ?s ?_); (case s => walk_at "us"))
  | (with_reducible refine r_sl ?_) | (with_reducible refine r_nop ?_) | (with_reducible refine r_part ?_) | (with_reducible refine r_partI ?_) | (with_reducible refine r_tup ?_) | (with_reducible refine r_lst ?_)
  | (with_reducible refine r_bm ?_) | (with_reducible refine r_bm0 ?_) | (with_reducible refine r_tyStr ?_) | (with_reducible refine r_retN ?_) | (with_reducible refine r_brk ?_) | (with_reducible refine r_cont ?_) | (with_reducible refine r_nx ?_) | (with_reducible refine r_rt ?_)
  | (with_reducible refine r_callS ?_) | (with_reducible refine r_raise ?_) | (with_reducible refine r_tryAs ?_) | (with_reducible refine r_tryOnly ?_) | (with_reducible refine r_meth ?_) | (with_reducible refine r_methS ?_) | (with_reducible refine r_make ?_) | (with_reducible refine r_fldC ?_) | (with_reducible refine r_faug ?_) | (with_reducible refine r_sqFA ?_) | (with_reducible refine r_prop ?_) | (with_reducible refine r_slc ?_) | (with_reducible refine r_sqF ?_) | (with_reducible refine r_sfldC ?_) | (with_reducible refine r_enumS ?_) | (with_reducible refine r_enumSv ?_) | (with_reducible refine r_ord ?_) | (with_reducible refine r_lzip ?_) | (with_reducible refine r_zip ?_) | (with_reducible refine r_only ?_) | (with_reducible refine r_nevE ?_)
  | (with_reducible refine r_sub3 ?_) | (with_reducible refine r_augS ?_) | (with_reducible refine r_ipI ?_) | ((with_reducible refine' r_aug ?hx ?_); (case hx => exact rfl)) | (with_reducible refine r_for ?_) | (with_reducible refine r_lc ?_) | (with_reducible refine r_yes ?_) | (with_reducible refine r_rng1 ?_) | (with_reducible refine r_rng1v ?_) | (with_reducible refine r_rng2 ?_) | (with_reducible refine r_rng2v ?_) | (with_reducible refine r_enum ?_) | (with_reducible refine r_rng3 ?_) | (with_reducible refine r_rng3v ?_)
  | ((with_reducible refine' r_ixL ?s1 ?s2 ?_); (case s1 => walk_at "usl"); (case s2 => exact rfl)) | ((with_reducible refine' r_ixT ?s1 ?s2 ?_); (case s1 => walk_at "ust"); (case s2 => exact rfl))
  | ((with_reducible refine' r_lenL ?s1 ?_); (case s1 => walk_at "usl")) | ((with_reducible refine' r_lenT ?s1 ?_); (case s1 => walk_at "ust"))
  | ((with_reducible refine' r_setL ?s1 ?s2 ?_); (case s1 => walk_at "uh"); (case s2 => exact rfl)) | ((with_reducible refine' r_getL ?s1 ?s2 ?s3 ?_); (case s1 => walk_at "usl"); (case s2 => walk_at "us"); (case s3 => exact rfl))
  | ((with_reducible refine' r_tyLst ?s ?_); (case s => walk_at "uh")) | ((with_reducible refine' r_append ?s1 ?s2 ?_); (case s1 => walk_at "uh"); (case s2 => walk_at "us")))
local macro_rules | `(tactic| walk_at "ub") => `(tactic| first
  | ((with_reducible refine br_y ?s ?_); (case s => (first | assumption | (with_reducible rfl) | omega | decide))) | ((with_reducible refine br_n ?s ?_); (case s => (first | assumption | (with_reducible rfl) | omega | decide))) | ((with_reducible refine br_ny ?s ?_); (case s => (first | assumption | (with_reducible rfl) | omega | decide))) | ((with_reducible refine br_nn ?s ?_); (case s => (first | assumption | (with_reducible rfl) | omega | decide))))
local macro_rules | `(tactic| walk_at "u") => `(tactic| repeat (first | walk_at "u1" | walk_at "ub"))
local macro_rules | `(tactic| walk_at "ui") => `(tactic| ((with_reducible refine r_sq ?_); walk_at "u"))
local macro_rules | `(tactic| walk_at "umk") => `(tactic| ((refine' r_mkE ?hl ?hn ?_); (case hl => exact rfl); (case hn => decide)))
def sp_wall (K : PySem.W.Frag) : Sp := fun _ _ _ _ => False
def sp_Store_held (K : PySem.W.Frag) : Sp := fun _ _ _ _ => False
def sp_Store_pages (K : PySem.W.Frag) : Sp := fun _ _ _ _ => False
def sp_Store_waiting (K : PySem.W.Frag) : Sp := fun _ _ _ _ => False
def sp_Store___len__ (K : PySem.W.Frag) : Sp := fun _ _ _ _ => False
def sp_Store___iter__ (K : PySem.W.Frag) : Sp := fun _ _ _ _ => False
def sp_Store___contains__ (K : PySem.W.Frag) : Sp := fun _ _ _ _ => False
/-- what the written part says, of K alone -/
structure KF (K : PySem.W.Frag) : Prop where
  exm_StoreError_StoreError : PySem.W.exmOne K (.ref (He.ga K "StoreError")) (.ref (He.ga K "StoreError")) = some true
def t_is_integer (K : PySem.W.Frag) : TS :=
  (tRet (tAndV (tCB (uIsi K) (tCons (tVar 0) (tCons (tC (.ty "int")) tNil))) (tNotV (tCB (uIsi K) (tCons (tVar 0) (tCons (tC (.ty "bool")) tNil))))))
abbrev n_is_integer : List Str := ["value"]
def t_RegionState___init__ (K : PySem.W.Frag) : TS :=
  (tSq (sFldC (He.ga K "RegionState") (tVar 0) (tC (.bl true)) "lives")
    (tSq (sFldC (He.ga K "RegionState") (tVar 0) (tC (.int 0)) "amount")
    (tSq (sFldC (He.ga K "RegionState") (tVar 0) (tC (.int 0)) "place")
    (sFldC (He.ga K "RegionState") (tVar 0) (tC (.int 0)) "room"))))
abbrev n_RegionState___init__ : List Str := ["self"]
def t_Store___init__ (K : PySem.W.Frag) : TS :=
  (tSq (sFldC (He.ga K "Store") (tVar 0) (tLst tNil) "words")
    (tSq (sFldC (He.ga K "Store") (tVar 0) (tLst tNil) "owners")
    (tSq (sFldC (He.ga K "Store") (tVar 0) (tLst tNil) "regions")
    (sFldC (He.ga K "Store") (tVar 0) (tC .non) "watch"))))
abbrev n_Store___init__ : List Str := ["self"]
def t_Store_record (K : PySem.W.Frag) : TS :=
  (tIfS (tTest (tOp (uIsN not) (tFldC (He.ga K "Store") (tVar 0) "watch") (tC .non))) (tDrop (tBM K "list" (uAppend) (tFldC (He.ga K "Watch") (tFldC (He.ga K "Store") (tVar 0) "watch") "log") (tCons (tTup (tCons (tVar 1) (tCons (tVar 2) (tCons (tVar 3) tNil)))) tNil))) tNext)
abbrev n_Store_record : List Str := ["self", "what", "region", "address"]
def t_Store_is_current (K : PySem.W.Frag) : TS :=
  (tRet (tAndV (tCall (sp_is_integer K) [] E0 (tCons (tVar 1) tNil)) (tAndV (tChain (uLe) (uLt) (tC (.int 0)) (tVar 1) (tCB (uLen K) (tCons (tFldC (He.ga K "Store") (tVar 0) "regions") tNil))) (tFldC (He.ga K "RegionState") (tOp (uIx K) (tFldC (He.ga K "Store") (tVar 0) "regions") (tVar 1)) "lives"))))
abbrev n_Store_is_current : List Str := ["self", "region"]
def t_Store_begin (K : PySem.W.Frag) : TS :=
  (tSq (tAsg (tCB (uLen K) (tCons (tFldC (He.ga K "Store") (tVar 0) "regions") tNil)) (gName 1))
    (tSq (tDrop (tBM K "list" (uAppend) (tFldC (He.ga K "Store") (tVar 0) "regions") (tCons (tMake (He.ga K "RegionState") (sp_RegionState___init__ K) [] E0 tNil) tNil)))
    (tSq (tDrop (tMeth (He.ga K "Store") "record" (sp_Store_record K) [] E0 (tVar 0) (tCons (tC (.str "begin")) (tCons (tVar 1) (tCons (tC (.int 0)) tNil)))))
    (tRet (tVar 1)))))
abbrev n_Store_begin : List Str := ["self", "region"]
def t_Store_take (K : PySem.W.Frag) : TS :=
  (tSq (tAsg (tCB (uLen K) (tCons (tFldC (He.ga K "Store") (tVar 0) "owners") tNil)) (gName 3))
    (tSq (tFor (iRng3 (tCons (tOp (uSub) (tCB (uLen K) (tCons (tFldC (He.ga K "Store") (tVar 0) "owners") tNil)) (tVar 1)) (tCons (tUn uNeg (tC (.int 1))) (tCons (tUn uNeg (tC (.int 1))) tNil)))) (gName 4) (tIfS (tTest (tOp (uEq K) (tSl (uSl K) (tFldC (He.ga K "Store") (tVar 0) "owners") (tPart (tVar 4)) (tPart (tOp (uAdd K) (tVar 4) (tVar 1)))) (tOp (uMul) (tLst (tCons (tUn uNeg (tC (.int 1))) tNil)) (tVar 1)))) (tAsg (tVar 4) (gName 3)) tNext))
    (tSq (tIfS (tTest (tOp (uEq K) (tVar 3) (tCB (uLen K) (tCons (tFldC (He.ga K "Store") (tVar 0) "owners") tNil)))) (tSq (tDrop (tBM K "list" (uExtend) (tFldC (He.ga K "Store") (tVar 0) "owners") (tCons (tOp (uMul) (tLst (tCons (tUn uNeg (tC (.int 1))) tNil)) (tVar 1)) tNil)))
    (tDrop (tBM K "list" (uExtend) (tFldC (He.ga K "Store") (tVar 0) "words") (tCons (tOp (uMul) (tLst (tCons (tC (.int 0)) tNil)) (tOp (uMul) (tVar 1) (tC (.int 8)))) tNil)))) tNext)
    (tSq (tFor (iRng2 (tCons (tVar 3) (tCons (tOp (uAdd K) (tVar 3) (tVar 1)) tNil))) (gName 4) (tAsg (tVar 2) (gSub (tFldC (He.ga K "Store") (tVar 0) "owners") (tVar 4) uSetL)))
    (tRet (tVar 3))))))
abbrev n_Store_take : List Str := ["self", "count", "region", "first", "page"]
def t_Store_cell (K : PySem.W.Frag) (W : WX) : TS :=
  (tSq (tIfS (tNot (uTru K (tMeth (He.ga K "Store") "is_current" (sp_Store_is_current K) [] E0 (tVar 0) (tCons (tVar 1) tNil)))) (tRaise W (tMkE (He.ga K "StoreError") ["reason"] (tCons (tC (.str "region")) tNil))) tNext)
    (tSq (tIfS (tTest (tOp (uLt) (tVar 2) (tC (.int 1)))) (tRaise W (tMkE (He.ga K "StoreError") ["reason"] (tCons (tC (.str "words")) tNil))) tNext)
    (tSq (tAsg (tOp (uIx K) (tFldC (He.ga K "Store") (tVar 0) "regions") (tVar 1)) (gName 3))
    (tSq (tIfS (tTest (tOp (uGt) (tVar 2) (tC (.int 8)))) (tSq (tAsg (tOp (uFdiv) (tOp (uSub) (tOp (uAdd K) (tVar 2) (tC (.int 8))) (tC (.int 1))) (tC (.int 8))) (gName 4))
    (tAsg (tOp (uMul) (tMeth (He.ga K "Store") "take" (sp_Store_take K) [] E0 (tVar 0) (tCons (tVar 4) (tCons (tVar 1) tNil))) (tC (.int 8))) (gName 5))) (tSq (tIfS (tTest (tOp (uLt) (tFldC (He.ga K "RegionState") (tVar 3) "room") (tVar 2))) (tSq (sFldC (He.ga K "RegionState") (tVar 3) (tOp (uMul) (tMeth (He.ga K "Store") "take" (sp_Store_take K) [] E0 (tVar 0) (tCons (tC (.int 1)) (tCons (tVar 1) tNil))) (tC (.int 8))) "place")
    (sFldC (He.ga K "RegionState") (tVar 3) (tC (.int 8)) "room")) tNext)
    (tSq (tAsg (tFldC (He.ga K "RegionState") (tVar 3) "place") (gName 5))
    (tSq (sFldAugC (He.ga K "RegionState") (tVar 3) (tVar 2) (uIpI fun i j => i + j) "place")
    (sFldAugC (He.ga K "RegionState") (tVar 3) (tVar 2) (uIpI fun i j => i - j) "room")))))
    (tSq (tAsg (tOp (uMul) (tLst (tCons (tC (.int 0)) tNil)) (tVar 2)) (gSlc (tFldC (He.ga K "Store") (tVar 0) "words") (tVar 5) (tOp (uAdd K) (tVar 5) (tVar 2))))
    (tSq (sFldAugC (He.ga K "RegionState") (tVar 3) (tVar 2) (uIpI fun i j => i + j) "amount")
    (tSq (tDrop (tMeth (He.ga K "Store") "record" (sp_Store_record K) [] E0 (tVar 0) (tCons (tC (.str "cell")) (tCons (tVar 1) (tCons (tVar 5) tNil)))))
    (tRet (tVar 5)))))))))
abbrev n_Store_cell : List Str := ["self", "region", "words", "state", "count", "address"]
def t_Store_end (K : PySem.W.Frag) (W : WX) : TS :=
  (tSq (tIfS (tNot (uTru K (tMeth (He.ga K "Store") "is_current" (sp_Store_is_current K) [] E0 (tVar 0) (tCons (tVar 1) tNil)))) (tRaise W (tMkE (He.ga K "StoreError") ["reason"] (tCons (tC (.str "region")) tNil))) tNext)
    (tSq (tAsg (tOp (uIx K) (tFldC (He.ga K "Store") (tVar 0) "regions") (tVar 1)) (gName 2))
    (tSq (sFldC (He.ga K "RegionState") (tVar 2) (tC (.bl false)) "lives")
    (tSq (sFldC (He.ga K "RegionState") (tVar 2) (tC (.int 0)) "amount")
    (tSq (tFor (iEnum K (tCons (tCB (uList K) (tCons (tFldC (He.ga K "Store") (tVar 0) "owners") tNil)) tNil)) (gTup K 2 (gCons (gName 3) (gCons (gName 4) gNil))) (tIfS (tTest (tOp (uEq K) (tVar 4) (tVar 1))) (tSq (tAsg (tUn uNeg (tC (.int 1))) (gSub (tFldC (He.ga K "Store") (tVar 0) "owners") (tVar 3) uSetL))
    (tSq (tAsg (tOp (uMul) (tVar 3) (tC (.int 8))) (gName 5))
    (tAsg (tOp (uMul) (tLst (tCons (tC (.int 0)) tNil)) (tC (.int 8))) (gSlc (tFldC (He.ga K "Store") (tVar 0) "words") (tVar 5) (tOp (uAdd K) (tVar 5) (tC (.int 8))))))) tNext))
    (tDrop (tMeth (He.ga K "Store") "record" (sp_Store_record K) [] E0 (tVar 0) (tCons (tC (.str "end")) (tCons (tVar 1) (tCons (tC (.int 0)) tNil))))))))))
abbrev n_Store_end : List Str := ["self", "region", "state", "page", "owner", "start"]
def t_Store_owner (K : PySem.W.Frag) : TS :=
  (tSq (tIfS (tTest (tChain (uLe) (uLt) (tC (.int 0)) (tVar 1) (tCB (uLen K) (tCons (tFldC (He.ga K "Store") (tVar 0) "words") tNil)))) (tRet (tOp (uIx K) (tFldC (He.ga K "Store") (tVar 0) "owners") (tOp (uFdiv) (tVar 1) (tC (.int 8))))) tNext)
    (tRet (tUn uNeg (tC (.int 1)))))
abbrev n_Store_owner : List Str := ["self", "address"]
def t_Store_read (K : PySem.W.Frag) : TS :=
  (tSq (tAsg (tMeth (He.ga K "Store") "owner" (sp_Store_owner K) [] E0 (tVar 0) (tCons (tVar 1) tNil)) (gName 2))
    (tSq (tDrop (tMeth (He.ga K "Store") "record" (sp_Store_record K) [] E0 (tVar 0) (tCons (tC (.str "read")) (tCons (tVar 2) (tCons (tVar 1) tNil)))))
    (tSq (tIfS (tTest (tOp (uLt) (tVar 2) (tC (.int 0)))) (tRet (tC (.int 0))) tNext)
    (tRet (tOp (uIx K) (tFldC (He.ga K "Store") (tVar 0) "words") (tVar 1))))))
abbrev n_Store_read : List Str := ["self", "address", "owner"]
def t_Store_write (K : PySem.W.Frag) : TS :=
  (tSq (tAsg (tMeth (He.ga K "Store") "owner" (sp_Store_owner K) [] E0 (tVar 0) (tCons (tVar 1) tNil)) (gName 3))
    (tSq (tDrop (tMeth (He.ga K "Store") "record" (sp_Store_record K) [] E0 (tVar 0) (tCons (tC (.str "write")) (tCons (tVar 3) (tCons (tVar 1) tNil)))))
    (tIfS (tTest (tOp (uGe) (tVar 3) (tC (.int 0)))) (tAsg (tVar 2) (gSub (tFldC (He.ga K "Store") (tVar 0) "words") (tVar 1) uSetL)) tNext)))
abbrev n_Store_write : List Str := ["self", "address", "word", "owner"]
def t_Store_current (K : PySem.W.Frag) : TGn :=
  (tGThen (tGFor (iRng1 (tCons (tCB (uLen K) (tCons (tFldC (He.ga K "Store") (tVar 0) "regions") tNil)) tNil)) (gName 1) (tGThen (tGIf (uTru K (tFldC (He.ga K "RegionState") (tOp (uIx K) (tFldC (He.ga K "Store") (tVar 0) "regions") (tVar 1)) "lives")) (tGThen (tGYield (tVar 1)) tG0) tG0) tG0)) tG0)
abbrev n_Store_current : List Str := ["self", "region"]
def t_Watch___init__ (K : PySem.W.Frag) : TS :=
  (tSq (sFldC (He.ga K "Watch") (tVar 0) (tVar 1) "store")
    (sFldC (He.ga K "Watch") (tVar 0) (tLst tNil) "log"))
abbrev n_Watch___init__ : List Str := ["self", "store"]
def t_Watch___enter__ (K : PySem.W.Frag) : TS :=
  (tSq (tAsg (tFldC (He.ga K "Watch") (tVar 0) "store") (gName 1))
    (tSq (sFldC (He.ga K "Watch") (tVar 0) (tLst tNil) "log")
    (tSq (sFldC (He.ga K "Store") (tVar 1) (tVar 0) "watch")
    (tRet (tVar 0)))))
abbrev n_Watch___enter__ : List Str := ["self", "store"]
def t_Watch___exit__ (K : PySem.W.Frag) : TS :=
  (tSq (tAsg (tFldC (He.ga K "Watch") (tVar 0) "store") (gName 4))
    (sFldC (He.ga K "Store") (tVar 4) (tC .non) "watch"))
abbrev n_Watch___exit__ : List Str := ["self", "kind", "value", "trace", "store"]
def t_perform (K : PySem.W.Frag) (W : WX) : TS :=
  (tIfS (tTest (tOp (uEq K) (tOp (uIx K) (tVar 1) (tC (.int 0))) (tC (.str "begin")))) (tDrop (tMeth (He.ga K "Store") "begin" (sp_Store_begin K) [] E0 (tVar 0) tNil)) (tIfS (tTest (tOp (uEq K) (tOp (uIx K) (tVar 1) (tC (.int 0))) (tC (.str "cell")))) (tDrop (tMethS (He.ga K "Store") "cell" (sp_Store_cell K) (WE W) (tVar 0) (tCons (tOp (uIx K) (tVar 1) (tC (.int 1))) (tCons (tOp (uIx K) (tVar 1) (tC (.int 2))) tNil)))) (tIfS (tTest (tOp (uEq K) (tOp (uIx K) (tVar 1) (tC (.int 0))) (tC (.str "end")))) (tDrop (tMethS (He.ga K "Store") "end" (sp_Store_end K) (WE W) (tVar 0) (tCons (tOp (uIx K) (tVar 1) (tC (.int 1))) tNil))) (tIfS (tTest (tOp (uEq K) (tOp (uIx K) (tVar 1) (tC (.int 0))) (tC (.str "read")))) (tDrop (tMeth (He.ga K "Store") "read" (sp_Store_read K) [] E0 (tVar 0) (tCons (tOp (uIx K) (tVar 1) (tC (.int 1))) tNil))) (tDrop (tMeth (He.ga K "Store") "write" (sp_Store_write K) [] E0 (tVar 0) (tCons (tOp (uIx K) (tVar 1) (tC (.int 1))) (tCons (tOp (uIx K) (tVar 1) (tC (.int 2))) tNil))))))))
abbrev n_perform : List Str := ["store", "deed"]
def t_replay (K : PySem.W.Frag) : TS :=
  (tSq (tAsg (tMake (He.ga K "Store") (sp_Store___init__ K) [] E0 tNil) (gName 1))
    (tSq (tWith (He.ga K "Watch") (sp_Watch___enter__ K) (sp_Watch___exit__ K) (tMake (He.ga K "Watch") (sp_Watch___init__ K) [] E0 (tCons (tVar 1) tNil)) (gName 2) (tFor (uIt K (tVar 0)) (gName 3) (tTryOnly K (.ref (He.ga K "StoreError")) (fun W => (tDrop (tCallS (sp_perform K) (WE W) (tCons (tVar 1) (tCons (tVar 3) tNil))))) (fun a cls d => tCont) (fun _ _ _ _ => False))))
    (tRet (tCB (uList K) (tCons (tFldC (He.ga K "Watch") (tVar 2) "log") tNil)))))
abbrev n_replay : List Str := ["deeds", "store", "watch", "deed"]
def t_l_start (K : PySem.W.Frag) : TS :=
  (tSq (tAsg (tC (.int 7)) (gName 1))
    (tSq (tFor (uIt K (tVar 0)) (gName 2) (tAsg (tOp (uAdd K) (tOp (uMod) (tCB (uInt) (tCons (tOp (uAdd K) (tOp (uMul) (tVar 1) (tC (.int 48271))) (tVar 2)) tNil)) (tC (.int 2147483629))) (tC (.int 1))) (gName 1)))
    (tRet (tLst (tCons (tCB (uList K) (tCons (tVar 0) tNil)) (tCons (tC (.int 0)) (tCons (tC (.int 0)) (tCons (tVar 1) tNil))))))))
abbrev n_l_start : List Str := ["_law_script", "_law_seed", "_law_cell_here"]
def t_l_draw (K : PySem.W.Frag) : TS :=
  (tSq (tIfS (tAnd (tTest (tOp (uEq K) (tOp (uIx K) (tVar 0) (tC (.int 1))) (tC (.int 0)))) (tTest (tOp (uGe) (tOp (uIx K) (tVar 0) (tC (.int 2))) (tCB (uLen K) (tCons (tOp (uIx K) (tVar 0) (tC (.int 0))) tNil))))) (tSq (tAsg (tOp (uMod) (tCB (uInt) (tCons (tOp (uAdd K) (tOp (uMul) (tOp (uIx K) (tVar 0) (tC (.int 3))) (tC (.int 48271))) (tC (.int 69621))) tNil)) (tC (.int 2147483629))) (gSub (tVar 0) (tC (.int 3)) uSetL))
    (tRet (tOp (uMod) (tCB (uInt) (tCons (tOp (uFdiv) (tOp (uIx K) (tVar 0) (tC (.int 3))) (tC (.int 13))) tNil)) (tVar 1)))) tNext)
    (tSq (tIfS (tTest (tOp (uEq K) (tOp (uIx K) (tVar 0) (tC (.int 1))) (tC (.int 0)))) (tSq (tAsg (tCB (uAbs) (tCons (tOp (uIx K) (tOp (uIx K) (tVar 0) (tC (.int 0))) (tOp (uIx K) (tVar 0) (tC (.int 2)))) tNil)) (gSub (tVar 0) (tC (.int 1)) uSetL))
    (tAsg (tOp (uAdd K) (tOp (uIx K) (tVar 0) (tC (.int 2))) (tC (.int 1))) (gSub (tVar 0) (tC (.int 2)) uSetL))) tNext)
    (tSq (tAsg (tOp (uMod) (tCB (uInt) (tCons (tOp (uIx K) (tVar 0) (tC (.int 1))) tNil)) (tVar 1)) (gName 2))
    (tSq (tAsg (tOp (uFdiv) (tOp (uIx K) (tVar 0) (tC (.int 1))) (tVar 1)) (gSub (tVar 0) (tC (.int 1)) uSetL))
    (tRet (tVar 2))))))
abbrev n_l_draw : List Str := ["_law_state", "_law_many", "_law_value"]
def t_l_new (K : PySem.W.Frag) : TS :=
  (tRet (tLst (tCons (tLst tNil) (tCons (tLst tNil) (tCons (tLst tNil) (tCons (tLst tNil) (tCons (tLst tNil) tNil)))))))
abbrev n_l_new : List Str := []
def t_l_begin (K : PySem.W.Frag) : TS :=
  (tSq (tDrop (tBM K "list" (uAppend) (tOp (uIx K) (tVar 0) (tC (.int 2))) (tCons (tC (.bl true)) tNil)))
    (tSq (tDrop (tBM K "list" (uAppend) (tOp (uIx K) (tVar 0) (tC (.int 3))) (tCons (tLst (tCons (tC (.int 0)) (tCons (tC (.int 0)) tNil))) tNil)))
    (tSq (tDrop (tBM K "list" (uAppend) (tOp (uIx K) (tVar 0) (tC (.int 4))) (tCons (tC (.int 0)) tNil)))
    (tRet (tOp (uSub) (tCB (uLen K) (tCons (tOp (uIx K) (tVar 0) (tC (.int 2))) tNil)) (tC (.int 1)))))))
abbrev n_l_begin : List Str := ["_law_model"]
def t_l_pages (K : PySem.W.Frag) : TS :=
  (tSq (tAsg (tOp (uIx K) (tVar 0) (tC (.int 0))) (gName 2))
    (tSq (tFor (iRng1 (tCons (tCB (uLen K) (tCons (tVar 2) tNil)) tNil)) (gName 3) (tIfS (tTest (tOp (uEq K) (tSl (uSl K) (tVar 2) (tPart (tVar 3)) (tPart (tOp (uAdd K) (tVar 3) (tVar 1)))) (tLc (iRng1 (tCons (tVar 1) tNil)) (gName 4) tYes (tUn uNeg (tC (.int 1))) [4]))) (tRet (tVar 3)) tNext))
    (tSq (tAsg (tCB (uLen K) (tCons (tVar 2) tNil)) (gName 3))
    (tSq (tFor (iRng1 (tCons (tVar 1) tNil)) (gName 4) (tSq (tDrop (tBM K "list" (uAppend) (tVar 2) (tCons (tUn uNeg (tC (.int 1))) tNil)))
    (tDrop (tBM K "list" (uExtend) (tOp (uIx K) (tVar 0) (tC (.int 1))) (tCons (tLc (iRng1 (tCons (tC (.int 8)) tNil)) (gName 5) tYes (tC (.int 0)) [5]) tNil)))))
    (tRet (tVar 3))))))
abbrev n_l_pages : List Str := ["_law_model", "_law_many", "_law_owners", "_law_first", "_law_k", "_law_j"]
def t_l_pages_for (K : PySem.W.Frag) : TS :=
  (tSq (tAsg (tCall (sp_l_pages K) [] E0 (tCons (tVar 0) (tCons (tVar 2) tNil))) (gName 3))
    (tSq (tFor (iRng1 (tCons (tVar 2) tNil)) (gName 4) (tAsg (tVar 1) (gSub (tOp (uIx K) (tVar 0) (tC (.int 0))) (tOp (uAdd K) (tVar 3) (tVar 4)) uSetL)))
    (tRet (tOp (uMul) (tC (.int 8)) (tVar 3)))))
abbrev n_l_pages_for : List Str := ["_law_model", "_law_region", "_law_many", "_law_first", "_law_k"]
def t_l_cell (K : PySem.W.Frag) : TS :=
  (tSq (tAsg (tOp (uIx K) (tOp (uIx K) (tVar 0) (tC (.int 3))) (tVar 1)) (gName 3))
    (tSq (tAsg (tOp (uAdd K) (tOp (uIx K) (tOp (uIx K) (tVar 0) (tC (.int 4))) (tVar 1)) (tVar 2)) (gSub (tOp (uIx K) (tVar 0) (tC (.int 4))) (tVar 1) uSetL))
    (tSq (tIfS (tTest (tOp (uGt) (tVar 2) (tC (.int 8)))) (tRet (tCall (sp_l_pages_for K) [] E0 (tCons (tVar 0) (tCons (tVar 1) (tCons (tOp (uFdiv) (tOp (uAdd K) (tVar 2) (tC (.int 7))) (tC (.int 8))) tNil))))) tNext)
    (tSq (tIfS (tTest (tOp (uLt) (tOp (uIx K) (tVar 3) (tC (.int 1))) (tVar 2))) (tSq (tAsg (tCall (sp_l_pages_for K) [] E0 (tCons (tVar 0) (tCons (tVar 1) (tCons (tC (.int 1)) tNil)))) (gSub (tVar 3) (tC (.int 0)) uSetL))
    (tAsg (tC (.int 8)) (gSub (tVar 3) (tC (.int 1)) uSetL))) tNext)
    (tSq (tAsg (tOp (uAdd K) (tOp (uIx K) (tVar 3) (tC (.int 0))) (tVar 2)) (gSub (tVar 3) (tC (.int 0)) uSetL))
    (tSq (tAsg (tOp (uSub) (tOp (uIx K) (tVar 3) (tC (.int 1))) (tVar 2)) (gSub (tVar 3) (tC (.int 1)) uSetL))
    (tSq (tAsg (tOp (uIx K) (tVar 0) (tC (.int 1))) (gName 4))
    (tSq (tFor (iRng2 (tCons (tOp (uSub) (tOp (uIx K) (tVar 3) (tC (.int 0))) (tVar 2)) (tCons (tOp (uIx K) (tVar 3) (tC (.int 0))) tNil))) (gName 5) (tAsg (tC (.int 0)) (gSub (tVar 4) (tVar 5) uSetL)))
    (tRet (tOp (uSub) (tOp (uIx K) (tVar 3) (tC (.int 0))) (tVar 2)))))))))))
abbrev n_l_cell : List Str := ["_law_model", "_law_region", "_law_words", "_law_spot", "_law_row", "_law_address"]
def t_l_end (K : PySem.W.Frag) : TS :=
  (tSq (tAsg (tC (.bl false)) (gSub (tOp (uIx K) (tVar 0) (tC (.int 2))) (tVar 1) uSetL))
    (tFor (iRng1 (tCons (tCB (uLen K) (tCons (tOp (uIx K) (tVar 0) (tC (.int 0))) tNil)) tNil)) (gName 2) (tIfS (tTest (tOp (uEq K) (tOp (uIx K) (tOp (uIx K) (tVar 0) (tC (.int 0))) (tVar 2)) (tVar 1))) (tSq (tAsg (tUn uNeg (tC (.int 1))) (gSub (tOp (uIx K) (tVar 0) (tC (.int 0))) (tVar 2) uSetL))
    (tFor (iRng1 (tCons (tC (.int 8)) tNil)) (gName 3) (tAsg (tC (.int 0)) (gSub (tOp (uIx K) (tVar 0) (tC (.int 1))) (tOp (uAdd K) (tOp (uMul) (tC (.int 8)) (tVar 2)) (tVar 3)) uSetL)))) tNext)))
abbrev n_l_end : List Str := ["_law_model", "_law_region", "_law_page", "_law_k"]
def t_l_owner (K : PySem.W.Frag) : TS :=
  (tSq (tIfS (tOr (tTest (tOp (uLt) (tVar 1) (tC (.int 0)))) (tTest (tOp (uGe) (tVar 1) (tCB (uLen K) (tCons (tOp (uIx K) (tVar 0) (tC (.int 1))) tNil))))) (tRet (tUn uNeg (tC (.int 1)))) tNext)
    (tRet (tOp (uIx K) (tOp (uIx K) (tVar 0) (tC (.int 0))) (tOp (uFdiv) (tVar 1) (tC (.int 8))))))
abbrev n_l_owner : List Str := ["_law_model", "_law_address"]
def t_l_deed (K : PySem.W.Frag) : TS :=
  (tSq (tAsg (tCall (sp_l_draw K) [] E0 (tCons (tVar 0) (tCons (tC (.int 7)) tNil))) (gName 2))
    (tSq (tAsg (tOp (uSub) (tCall (sp_l_draw K) [] E0 (tCons (tVar 0) (tCons (tOp (uAdd K) (tVar 1) (tC (.int 3))) tNil))) (tC (.int 1))) (gName 3))
    (tSq (tIfS (tTest (tOp (uEq K) (tVar 2) (tC (.int 0)))) (tRet (tTup (tCons (tC (.str "begin")) tNil))) tNext)
    (tSq (tIfS (tTest (tOp (uLt) (tVar 2) (tC (.int 3)))) (tSq (tAsg (tOp (uAdd K) (tC (.int 1)) (tCall (sp_l_draw K) [] E0 (tCons (tVar 0) (tCons (tC (.int 10)) tNil)))) (gName 4))
    (tSq (tIfS (tTest (tOp (uEq K) (tCall (sp_l_draw K) [] E0 (tCons (tVar 0) (tCons (tC (.int 5)) tNil))) (tC (.int 1)))) (tAsg (tOp (uSub) (tCall (sp_l_draw K) [] E0 (tCons (tVar 0) (tCons (tC (.int 42)) tNil))) (tC (.int 1))) (gName 4)) tNext)
    (tRet (tTup (tCons (tC (.str "cell")) (tCons (tVar 3) (tCons (tVar 4) tNil))))))) tNext)
    (tSq (tIfS (tTest (tOp (uEq K) (tVar 2) (tC (.int 3)))) (tRet (tTup (tCons (tC (.str "end")) (tCons (tVar 3) tNil)))) tNext)
    (tSq (tAsg (tOp (uSub) (tCall (sp_l_draw K) [] E0 (tCons (tVar 0) (tCons (tC (.int 120)) tNil))) (tC (.int 6))) (gName 5))
    (tSq (tIfS (tTest (tOp (uEq K) (tVar 2) (tC (.int 4)))) (tAsg (tOp (uSub) (tCall (sp_l_draw K) [] E0 (tCons (tVar 0) (tCons (tOp (uPow) (tC (.int 2)) (tC (.int 40))) tNil))) (tOp (uPow) (tC (.int 2)) (tC (.int 39)))) (gName 5)) tNext)
    (tSq (tIfS (tTest (tOp (uLt) (tVar 2) (tC (.int 6)))) (tRet (tTup (tCons (tC (.str "read")) (tCons (tVar 5) tNil)))) tNext)
    (tRet (tTup (tCons (tC (.str "write")) (tCons (tVar 5) (tCons (tOp (uSub) (tCall (sp_l_draw K) [] E0 (tCons (tVar 0) (tCons (tOp (uPow) (tC (.int 2)) (tC (.int 36))) tNil))) (tOp (uPow) (tC (.int 2)) (tC (.int 35)))) tNil)))))))))))))
abbrev n_l_deed : List Str := ["_law_state", "_law_many", "_law_deed_here", "_law_region", "_law_words", "_law_address"]
def t_l_entry (K : PySem.W.Frag) : TS :=
  (tSq (tIfS (tTest (tOp (uEq K) (tOp (uIx K) (tVar 1) (tC (.int 0))) (tC (.str "begin")))) (tRet (tTup (tCons (tC (.str "begin")) (tCons (tCall (sp_l_begin K) [] E0 (tCons (tVar 0) tNil)) (tCons (tC (.int 0)) tNil))))) tNext)
    (tSq (tIfS (tTest (tOp (uIn K id) (tOp (uIx K) (tVar 1) (tC (.int 0))) (tTup (tCons (tC (.str "read")) (tCons (tC (.str "write")) tNil))))) (tRet (tTup (tCons (tOp (uIx K) (tVar 1) (tC (.int 0))) (tCons (tCall (sp_l_owner K) [] E0 (tCons (tVar 0) (tCons (tOp (uIx K) (tVar 1) (tC (.int 1))) tNil))) (tCons (tOp (uIx K) (tVar 1) (tC (.int 1))) tNil))))) tNext)
    (tSq (tAsg (tOp (uIx K) (tVar 1) (tC (.int 1))) (gName 2))
    (tSq (tIfS (tOr (tTest (tOp (uLt) (tVar 2) (tC (.int 0)))) (tOr (tTest (tOp (uGe) (tVar 2) (tCB (uLen K) (tCons (tOp (uIx K) (tVar 0) (tC (.int 2))) tNil)))) (tNot (uTru K (tOp (uIx K) (tOp (uIx K) (tVar 0) (tC (.int 2))) (tVar 2)))))) (tRet (tC .non)) tNext)
    (tSq (tIfS (tTest (tOp (uEq K) (tOp (uIx K) (tVar 1) (tC (.int 0))) (tC (.str "end")))) (tSq (tDrop (tCall (sp_l_end K) [] E0 (tCons (tVar 0) (tCons (tVar 2) tNil))))
    (tRet (tTup (tCons (tC (.str "end")) (tCons (tVar 2) (tCons (tC (.int 0)) tNil)))))) tNext)
    (tSq (tIfS (tTest (tOp (uLt) (tOp (uIx K) (tVar 1) (tC (.int 2))) (tC (.int 1)))) (tRet (tC .non)) tNext)
    (tRet (tTup (tCons (tC (.str "cell")) (tCons (tVar 2) (tCons (tCall (sp_l_cell K) [] E0 (tCons (tVar 0) (tCons (tVar 2) (tCons (tOp (uIx K) (tVar 1) (tC (.int 2))) tNil)))) tNil)))))))))))
abbrev n_l_entry : List Str := ["_law_model", "_law_deed_here", "_law_region"]
def t_law (K : PySem.W.Frag) : TS :=
  (tSq (tAsg (tCall (sp_l_start K) [] E0 (tCons (tVar 0) tNil)) (gName 1))
    (tSq (tAsg (tLst (tCons (tTup (tCons (tC (.str "begin")) tNil)) tNil)) (gName 2))
    (tSq (tIfS (tTest (tOp (uEq K) (tCall (sp_l_draw K) [] E0 (tCons (tVar 1) (tCons (tC (.int 4)) tNil))) (tC (.int 1)))) (tAsg (tLst tNil) (gName 2)) tNext)
    (tSq (tAsg (tC (.int 1)) (gName 3))
    (tSq (tFor (iRng1 (tCons (tCall (sp_l_draw K) [] E0 (tCons (tVar 1) (tCons (tC (.int 70)) tNil))) tNil)) (gName 4) (tSq (tDrop (tBM K "list" (uAppend) (tVar 2) (tCons (tCall (sp_l_deed K) [] E0 (tCons (tVar 1) (tCons (tVar 3) tNil))) tNil)))
    (tAsg (tOp (uAdd K) (tVar 3) (tCB (uInt) (tCons (tOp (uEq K) (tOp (uIx K) (tOp (uIx K) (tVar 2) (tUn uNeg (tC (.int 1)))) (tC (.int 0))) (tC (.str "begin"))) tNil))) (gName 3))))
    (tSq (tAsg (tCall (sp_l_new K) [] E0 tNil) (gName 5))
    (tSq (tAsg (tLst tNil) (gName 6))
    (tSq (tFor (uIt K (tVar 2)) (gName 7) (tSq (tAsg (tCall (sp_l_entry K) [] E0 (tCons (tVar 5) (tCons (tVar 7) tNil))) (gName 8))
    (tIfS (tTest (tOp (uIsN not) (tVar 8) (tC .non))) (tDrop (tBM K "list" (uAppend) (tVar 6) (tCons (tVar 8) tNil))) tNext)))
    (tSq (tAsg (tCB (uList K) (tCons (tVar 2) tNil)) (gName 9))
    (tSq (tAsg (tCall (sp_replay K) [] E0 (tCons (tVar 9) tNil)) (gName 10))
    (tSq (tIfS (tOr (tNot (uTru K (tCB (uIsi K) (tCons (tVar 10) (tCons (tC (.ty "list")) tNil))))) (tOr (tTest (tOp (uNe K) (tCB (uRepr K) (tCons (tVar 10) tNil)) (tCB (uRepr K) (tCons (tVar 6) tNil)))) (tTest (tOp (uNe K) (tVar 9) (tVar 2))))) (tRet (tC (.bl false))) tNext)
    (tSq (tDrop (tBM K "list" (uAppend) (tVar 10) (tCons (tC .non) tNil)))
    (tRet (tOp (uEq K) (tCall (sp_replay K) [] E0 (tCons (tVar 9) tNil)) (tVar 6)))))))))))))))
abbrev n_law : List Str := ["_law_script", "_law_state", "_law_deeds", "_law_many", "_law_k", "_law_model", "_law_due", "_law_deed_here", "_law_entry_here", "_law_given", "_law_actual"]
section
variable {K : PySem.W.Frag} {vs : List V} {H : Hp} {Q : VK} {E : XK}
theorem rd_l_draw (h : sp_l_draw K vs H Q E) : t_l_draw K { nx := fun _ H' => Q .non H', rt := Q } (start n_l_draw vs) H := by
  obtain ⟨p, l, m, rfl, hm, hm2, ⟨ns, cur, seed, at_, hp, hl, hne, h0⟩, q⟩ := h
  unfold t_l_draw
  refine r_cut (fun σ' H' => H' = H ∧ σ' = [some (.ref p), some (.int m), none] ∧ (cur = 0 → at_ < ns.length)) ?_ ?_
  · walk_at "u"
    refine br_d (fun h1 => ?_) (fun h1 => ?_)
    · walk_at "u"
      refine br_d (fun h2 => ?_) (fun h2 => ?_)
      · walk_at "u"
        refine q _ _ (Int.emod_nonneg _ (by omega)) (Int.emod_lt_of_pos _ hm) ⟨ns, cur, _, at_, upd_same, by rw [upd_ne hne]; exact hl, hne, h0⟩ (fun b hb => upd_ne hb)
      · walk_at "u"
        refine ⟨rfl, rfl, fun _ => by simpa using h2⟩
    · walk_at "u"
      exact ⟨rfl, rfl, fun h => absurd h h1⟩
  rintro σ H1 ⟨e, rfl, hin⟩
  subst e
  refine r_cut (fun σ' H' => σ' = [some (.ref p), some (.int m), none] ∧ (∃ (cur' : Int) (at' : Nat), H' p = some (.lst [.ref l, .int cur', .int at', .int seed]) ∧ 0 ≤ cur') ∧ ∀ b, b ≠ p → H' b = H1 b) ?_ ?_
  · walk_at "u"
    refine br_d (fun h1 => ?_) (fun h1 => ?_)
    · walk_at "u"
      have hi := hin h1
      refine r_ixL (SqL.of hl) (v := .int ns[at_]) (atI_nat (by simp [hi])) ?_
      walk_at "u"
      refine ⟨rfl, ⟨((ns[at_]).natAbs : Int), at_ + 1, ?_, Int.natCast_nonneg _⟩, fun b hb => ?_⟩
      · rw [upd_same]; rfl
      · rw [upd_ne hb, upd_ne hb]
    · walk_at "u"
      exact ⟨rfl, ⟨cur, at_, hp, h0⟩, fun b _ => rfl⟩
  rintro σ H2 ⟨rfl, ⟨cur', at', hp2, h2⟩, hk⟩
  walk_at "u"
  have hl2 : H2 l = some (.lst (ns.map V.int)) := by rw [hk l hne]; exact hl
  refine q _ _ (Int.emod_nonneg _ (by omega)) (Int.emod_lt_of_pos _ hm) ⟨ns, _, seed, at', upd_same, by rw [upd_ne hne]; exact hl2, hne, Int.ediv_nonneg h2 (by omega)⟩ (fun b hb => by rw [upd_ne hb, hk b hb])
theorem rd_l_start (h : sp_l_start K vs H Q E) : t_l_start K { nx := fun _ H' => Q .non H', rt := Q } (start n_l_start vs) H := by
  obtain ⟨a, ns, rfl, hs, hlen, q⟩ := h
  unfold t_l_start
  walk_at "u"
  refine r_cut (fun σ' H' => H' = H ∧ ∃ (seed : Int) (y : Option V), σ' = [some (.ref a), some (.int seed), y]) ?_ ?_
  · walk_at "u"
    refine it_list ?_
    walk_at "u"
    refine ⟨a, rfl, ⟨_, hs⟩, f_list (xs := ns.map V.int) (fun i σ' H' => H' = H ∧ ∃ (seed : Int) (y : Option V), σ' = [some (.ref a), some (.int seed), y]) ⟨rfl, 7, none, rfl⟩ (fun i σ H' h => h.1 ▸ hs) ?_ ?_⟩
    · rintro i x σ H' hx ⟨rfl, seed, y, rfl⟩
      rw [List.getElem?_map] at hx
      obtain ⟨n, hn, rfl⟩ := Option.map_eq_some_iff.mp hx
      walk_at "u"
      exact ⟨rfl, _, _, rfl⟩
    · rintro σ H' h
      walk_at "u"
      exact h
  rintro σ H1 ⟨rfl, seed, y, rfl⟩
  walk_at "u"
  refine r_listL hs fun l hl => ?_
  walk_at "u"
  refine ⟨szl (by simp), fun p hp => ?_⟩
  have hlp : l ≠ p := ne_of_none upd_same hp
  have hp1 : H1 p = none := by rw [upd_ne hlp.symm] at hp; exact hp
  refine q p l _ (same_mut (same_new hl) hp1) hp1 ⟨ns, 0, seed, 0, upd_same, by rw [upd_ne hlp, upd_same], hlp, Int.le_refl _⟩
end
section
variable {K : PySem.W.Frag} {vs : List V} {H H' H2 : Hp} {Q : VK} {E : XK} {n : Nat} {a W O R x C dx : Addr} {rs S S' S2 : List Addr} {m : Mm} {f : Str} {y v : V} {fs : List (Str × V)}
/-! steps -/
theorem sfield {P : Hp → Prop} (e : H a = some (.ins C dx fs)) (hl : fs.length < 1000) (q : ∀ H', H' a = some (.ins C dx (putF f y fs)) → (∀ b, b ≠ a → H' b = H b) → P H') : ∃ a' dx' fs', V.ref a = .ref a' ∧ H a' = some (.ins C dx' fs') ∧ fs'.length < 1000 ∧ P (upd H a' (.ins C dx' (putF f y fs'))) :=
  ⟨a, dx, fs, rfl, e, hl, q _ upd_same fun b h => upd_ne h⟩
theorem gfield {P : V → Prop} (e : H a = some (.ins C dx fs)) (l : fs.lookup f = some v) (q : P v) : ∃ a' dx' fs' v', V.ref a = .ref a' ∧ H a' = some (.ins C dx' fs') ∧ fs'.lookup f = some v' ∧ P v' := ⟨a, dx, fs, v, rfl, e, l, q⟩
theorem flat_rep {α : Type} {v : α} : ∀ n : Nat, (List.replicate n [v]).flatten = List.replicate n v
  | 0 => rfl
  | n + 1 => by rw [List.replicate_succ, List.flatten_cons, flat_rep n]; rfl
theorem r_repL {v : V} {n : Nat} (h : H a = some (.lst [v])) (hn : n ≤ 1000000) (q : ∀ p H', H p = none → Same H H' → H' p = some (.lst (List.replicate n v)) → Q (.ref p) H') : uMul (.ref a) (.int (n : Nat)) H Q := by
  refine ⟨[v], h, by omega, by omega, ?_, fun p hp => ?_⟩
  · rw [Int.toNat_natCast, sizeLine_eq]
    show 1 * n ≤ _
    omega
  · rw [Int.toNat_natCast, flat_rep]
    exact q p _ hp (same_new hp) upd_same
theorem ints_td {K : PySem.W.Frag} {H : Hp} : ∀ ns : List Int, TdL K H (ns.map V.int) (ns.map D.int)
  | [] => .nil
  | n :: ns => .cons (.int n) (ints_td ns)
theorem ints_eqL : ∀ ns ms : List Int, D.eqL (ns.map D.int) (ms.map D.int) = decide (ns = ms)
  | [], [] => by simp [D.eqL]
  | [], _ :: _ => by simp [D.eqL]
  | _ :: _, [] => by simp [D.eqL]
  | n :: ns, m :: ms => by
    show (D.eqb (.int n) (.int m) && D.eqL (ns.map D.int) (ms.map D.int)) = _
    rw [ints_eqL ns ms]
    show ((n == m) && decide (ns = ms)) = _
    by_cases e : n = m
    · subst e; simp
    · simp [e]
theorem r_eqInts {p q : Addr} {ns ms : List Int} (hp : SqL K H p (ns.map V.int)) (hq : SqL K H q (ms.map V.int)) (h : Q (.bl (decide (ns = ms))) H) : uEq K (.ref p) (.ref q) H Q := by
  refine r_eqLD (n := 0) hp hq (ints_td ns) (ints_td ms) (fun d hd => ?_) (fun d hd => ?_) (by decide) ?_
  · obtain ⟨i, _, rfl⟩ := List.mem_map.mp hd
    exact D.fit_int
  · obtain ⟨i, _, rfl⟩ := List.mem_map.mp hd
    exact D.fit_int
  · rw [ints_eqL]; exact h
/-! the store's cells -/
theorem StFr.refl : StFr S S H H := ⟨fun _ _ _ e => e, ⟨[], (List.append_nil _).symm, fun _ h => by cases h⟩, fun _ o e => ⟨o, e⟩⟩
theorem StFr.mem (f : StFr S S' H H') {x : Addr} (h : x ∈ S') : x ∈ S ∨ H x = none := by
  obtain ⟨_, ⟨N, rfl, hN⟩, _⟩ := f
  rcases List.mem_append.mp h with h | h
  · exact .inl h
  · exact .inr (hN x h)
theorem StFr.trans (f : StFr S S' H H') (g : StFr S' S2 H' H2) : StFr S S2 H H2 := by
  refine ⟨fun c o hc e => g.fr c o (fun h => ?_) (f.fr c o hc e), ?_, fun x o e => ?_⟩
  · rcases f.mem h with h | h
    · exact hc h
    · rw [h] at e; cases e
  · obtain ⟨f1, ⟨N, rfl, hN⟩, f3⟩ := f
    obtain ⟨g1, ⟨M, rfl, hM⟩, g3⟩ := g
    refine ⟨N ++ M, List.append_assoc .., fun x hx => ?_⟩
    rcases List.mem_append.mp hx with h | h
    · exact hN x h
    · cases e : H x with
      | none => rfl
      | some o =>
        obtain ⟨o', e'⟩ := f3 x o e
        rw [hM x h] at e'
        cases e'
  · obtain ⟨o', e'⟩ := f.up x o e
    exact g.up x o' e'
theorem StFr.keep {x : Addr} (f : ∀ b, b ≠ x → H' b = H b) (hx : x ∈ S) (hu : ∃ o, H' x = some o) : StFr S S H H' := ⟨fun c o hc e => by rw [f c (fun z => hc (z ▸ hx))]; exact e, ⟨[], (List.append_nil _).symm, fun _ h => by cases h⟩, fun c o e => by
  by_cases h : c = x
  · rw [h]; exact hu
  · exact ⟨o, by rw [f c h]; exact e⟩⟩
theorem StFr.same (s : Same H H') : StFr S S H H' := ⟨fun c o _ e => s _ _ e, ⟨[], (List.append_nil _).symm, fun _ h => by cases h⟩, fun c o e => ⟨o, s _ _ e⟩⟩
theorem StFr.upd {x : Addr} {o : HO} (hx : x ∈ S) : StFr S S H (L2.upd H x o) := StFr.keep (fun b hb => upd_ne hb) hx ⟨o, upd_same⟩
section
variable {wt : Option (Addr × Addr)} {lg : Option (List D)} {p : Addr}
theorem LogX.keep (h : LogX K H a W O R rs wt lg) (tk : Tk K H H') (k : ∀ w L, w ≠ a → w ∉ rs → (∃ C d fs, H w = some (.ins C d fs)) → L ≠ W → L ≠ O → L ≠ R → (∃ vs, H L = some (.lst vs)) → (∀ o, H w = some o → H' w = some o) ∧ ∀ o, H L = some o → H' L = some o) : LogX K H' a W O R rs wt lg := by
  refine ⟨h.1, fun w L e => ?_⟩
  obtain ⟨⟨dw, i⟩, ⟨vs, ds, l, e1, t⟩, wa, wr, n1, n2, n3⟩ := h.2 w L e
  obtain ⟨k1, k2⟩ := k w L wa wr ⟨_, _, _, i⟩ n1 n2 n3 ⟨_, l⟩
  exact ⟨⟨dw, k1 _ i⟩, ⟨vs, ds, k2 _ l, e1, t.k tk⟩, wa, wr, n1, n2, n3⟩
theorem LogX.same (h : LogX K H a W O R rs wt lg) (s : Same H H') : LogX K H' a W O R rs wt lg := h.keep (Same.tk s) fun w L _ _ _ _ _ _ _ => ⟨fun o e => s _ _ e, fun o e => s _ _ e⟩
/-- one of the three lists changes -/
theorem LogX.one (h : LogX K H a W O R rs wt lg) {xs : List V} (e : H p = some (.lst xs)) (hp : p = W ∨ p = O ∨ p = R) (k : ∀ b o, b ≠ p → H b = some o → H' b = some o) : LogX K H' a W O R rs wt lg := by
  refine h.keep (fun c ys t => ?_) fun w L _ _ ⟨C, d, fs, i⟩ n1 n2 n3 _ => ⟨fun o z => k _ _ (fun n => by rw [n, e] at i; cases i) z, fun o z => k _ _ (fun n => by rcases hp with rfl | rfl | rfl <;> contradiction) z⟩
  rcases t with (t | ⟨o, t⟩) | t
  · exact .inl (.inl (k _ _ (fun n => by rw [n, e] at t; cases t) t))
  · exact .inl (.inr ⟨o, k _ _ (fun n => by rw [n, e] at t; cases t) t⟩)
  · exact .inr t
/-- a region's cell changes -/
theorem LogX.cel (h : LogX K H a W O R rs wt lg) {C d : Addr} {fs : List (Str × V)} (e : H p = some (.ins C d fs)) (hp : p ∈ rs) (k : ∀ b o, b ≠ p → H b = some o → H' b = some o) : LogX K H' a W O R rs wt lg := by
  refine h.keep (fun c ys t => ?_) fun w L _ n _ _ _ _ ⟨vs, l⟩ => ⟨fun o z => k _ _ (fun z => n (z ▸ hp)) z, fun o z => k _ _ (fun n => by rw [n, e] at l; cases l) z⟩
  rcases t with (t | ⟨o, t⟩) | t
  · exact .inl (.inl (k _ _ (fun n => by rw [n, e] at t; cases t) t))
  · exact .inl (.inr ⟨o, k _ _ (fun n => by rw [n, e] at t; cases t) t⟩)
  · exact .inr t
theorem LogX.more (h : LogX K H a W O R rs wt lg) (e : H p = none) : LogX K H a W O R (rs ++ [p]) wt lg := by
  refine ⟨h.1, fun w L z => ?_⟩
  obtain ⟨⟨dw, i⟩, l, wa, wr, n⟩ := h.2 w L z
  refine ⟨⟨dw, i⟩, l, wa, fun z => ?_, n⟩
  rcases List.mem_append.mp z with z | z
  · exact wr z
  · rw [List.mem_singleton.mp z, e] at i
    cases i
end
theorem addL_no (h : m.log = none) (d : D) : addL m d = m := by
  unfold addL
  rw [h]
  cases m
  simp only at h
  subst h
  rfl
section
variable (h : StX K H a W O R rs m)
include h
theorem StX.same (s : Same H H') : StX K H' a W O R rs m := by
  obtain ⟨⟨dx, i⟩, w, o, r, nl, nd, rg, ne, na, lg⟩ := h
  exact ⟨⟨dx, s _ _ i⟩, s _ _ w, s _ _ o, s _ _ r, nl, nd, fun i x g h1 h2 => by
    obtain ⟨d2, e⟩ := rg i x g h1 h2
    exact ⟨d2, s _ _ e⟩, ne, na, lg.same s⟩
theorem StX.fW {P : V → Prop} (q : P (.ref W)) : ∃ a' dx fs v, V.ref a = .ref a' ∧ H a' = some (.ins (He.ga K "Store") dx fs) ∧ fs.lookup ("words" : Str) = some v ∧ P v := by
  obtain ⟨dx, i⟩ := h.ins
  exact gfield i rfl q
theorem StX.fO {P : V → Prop} (q : P (.ref O)) : ∃ a' dx fs v, V.ref a = .ref a' ∧ H a' = some (.ins (He.ga K "Store") dx fs) ∧ fs.lookup ("owners" : Str) = some v ∧ P v := by
  obtain ⟨dx, i⟩ := h.ins
  exact gfield i rfl q
theorem StX.fR {P : V → Prop} (q : P (.ref R)) : ∃ a' dx fs v, V.ref a = .ref a' ∧ H a' = some (.ins (He.ga K "Store") dx fs) ∧ fs.lookup ("regions" : Str) = some v ∧ P v := by
  obtain ⟨dx, i⟩ := h.ins
  exact gfield i rfl q
theorem StX.fC {P : V → Prop} (q : P (wvOf m.wt)) : ∃ a' dx fs v, V.ref a = .ref a' ∧ H a' = some (.ins (He.ga K "Store") dx fs) ∧ fs.lookup ("watch" : Str) = some v ∧ P v := by
  obtain ⟨dx, i⟩ := h.ins
  exact gfield i rfl q
theorem StX.meth {P : Prop} {me : Str} (hm : me ∉ (["words", "owners", "regions", "watch"] : List Str)) (q : P) : ∃ a' dx fs, V.ref a = .ref a' ∧ H a' = some (.ins (He.ga K "Store") dx fs) ∧ fs.lookup me = none ∧ P := by
  obtain ⟨dx, i⟩ := h.ins
  refine ⟨a, dx, _, rfl, i, ?_, q⟩
  rw [List.lookup_eq_none_iff]
  intro p hp
  rw [bne_iff_ne]
  intro e
  apply hm
  rw [e]
  unfold stF at hp
  simp only [List.mem_cons, List.not_mem_nil, or_false] at hp ⊢
  rcases hp with rfl | rfl | rfl | rfl <;> simp
theorem StX.xa : ∃ dx, H a = some (.ins (He.ga K "Store") dx (stF W O R (wvOf m.wt))) := h.ins
theorem StX.aW : a ≠ W ∧ a ≠ O ∧ a ≠ R := by
  obtain ⟨dx, i⟩ := h.ins
  exact ⟨(fun z => by rw [z, h.w] at i; cases i), (fun z => by rw [z, h.o] at i; cases i), (fun z => by rw [z, h.r] at i; cases i)⟩
theorem StX.xrs {y : Addr} (hy : y ∈ rs) : y ≠ a ∧ y ≠ W ∧ y ≠ O ∧ y ≠ R := by
  obtain ⟨i, hi⟩ := List.getElem?_of_mem hy
  have hl := (List.getElem?_eq_some_iff.mp hi).1
  rw [h.nl] at hl
  obtain ⟨d, e⟩ := h.rg i y _ hi (List.getElem?_eq_getElem hl)
  exact ⟨fun z => h.na (z ▸ hy), fun z => by rw [z, h.w] at e; (cases e), fun z => by rw [z, h.o] at e; (cases e), fun z => by rw [z, h.r] at e; (cases e)⟩
/-- another list of words -/
theorem StX.setW {ws : List Int} (e : H' W = some (.lst (ws.map V.int))) (k : ∀ b, b ≠ W → H' b = H b) : StX K H' a W O R rs { m with ws := ws } := by
  have h1 := h.aW
  have h2 := fun {y} hy => h.xrs (y := y) hy
  obtain ⟨⟨dx, i⟩, w, o, r, nl, nd, rg, ne, na, lg⟩ := h
  exact ⟨⟨dx, by rw [k _ h1.1]; exact i⟩, e, by rw [k _ ne.1.symm]; exact o, by rw [k _ ne.2.1.symm]; exact r, nl, nd, fun i x g e1 e2 => by
    obtain ⟨d2, e⟩ := rg i x g e1 e2
    exact ⟨d2, by rw [k _ (h2 (List.mem_of_getElem? e1)).2.1]; exact e⟩, ne, na, lg.one w (.inl rfl) fun b o hb z => (k b hb).trans z⟩
theorem StX.setO {os : List Int} (e : H' O = some (.lst (os.map V.int))) (k : ∀ b, b ≠ O → H' b = H b) : StX K H' a W O R rs { m with os := os } := by
  have h1 := h.aW
  have h2 := fun {y} hy => h.xrs (y := y) hy
  obtain ⟨⟨dx, i⟩, w, o0, r, nl, nd, rg, ne, na, lg⟩ := h
  exact ⟨⟨dx, by rw [k _ h1.2.1]; exact i⟩, by rw [k _ ne.1]; exact w, e, by rw [k _ ne.2.2.symm]; exact r, nl, nd, fun i x g e1 e2 => by
    obtain ⟨d2, e⟩ := rg i x g e1 e2
    exact ⟨d2, by rw [k _ (h2 (List.mem_of_getElem? e1)).2.2.1]; exact e⟩, ne, na, lg.one o0 (.inr (.inl rfl)) fun b o hb z => (k b hb).trans z⟩
theorem StX.setG {r : Nat} {y : Addr} {g : Rg} (hy : rs[r]? = some y) (e : ∃ dx, H' y = some (.ins (He.ga K "RegionState") dx (rgF g))) (k : ∀ b, b ≠ y → H' b = H b) : StX K H' a W O R rs { m with rg := m.rg.set r g } := by
  have h2 := h.xrs (List.mem_of_getElem? hy)
  have hyl := (List.getElem?_eq_some_iff.mp hy).1
  rw [h.nl] at hyl
  obtain ⟨dy, iy⟩ := h.rg r y _ hy (List.getElem?_eq_getElem hyl)
  obtain ⟨⟨dx, i⟩, w, o, r', nl, nd, rg, ne, na, lg⟩ := h
  refine ⟨⟨dx, by rw [k _ h2.1.symm]; exact i⟩, by rw [k _ h2.2.1.symm]; exact w, by rw [k _ h2.2.2.1.symm]; exact o, by rw [k _ h2.2.2.2.symm]; exact r', by rw [List.length_set]; exact nl, nd, fun i x g' e1 e2 => ?_, ne, na, lg.cel iy (List.mem_of_getElem? hy) fun b o hb z => (k b hb).trans z⟩
  have e2 : (m.rg.set r g)[i]? = some g' := e2
  rw [List.getElem?_set] at e2
  by_cases hi : r = i
  · subst hi
    rw [if_pos rfl, if_pos hyl] at e2
    cases e2
    rw [hy] at e1
    cases e1
    exact e
  · rw [if_neg hi] at e2
    obtain ⟨d2, e3⟩ := rg i x g' e1 e2
    refine ⟨d2, ?_⟩
    rw [k x (fun z => ?_)]
    · exact e3
    · subst z
      have l1 := (List.getElem?_eq_some_iff.mp e1)
      have l2 := (List.getElem?_eq_some_iff.mp hy)
      obtain ⟨l1, l1'⟩ := l1
      obtain ⟨l2, l2'⟩ := l2
      exact hi ((List.getElem_inj nd).mp (l2'.trans l1'.symm))
theorem StX.new (hx : H x = none) : x ∉ wl m ++ a :: W :: O :: R :: rs := fun hm => by
  obtain ⟨d0, i0⟩ := h.ins
  rcases List.mem_append.mp hm with z | z
  · cases hw : m.wt with
    | none => rw [show wl m = [] by unfold wl; rw [hw]; rfl] at z; cases z
    | some p =>
      rw [show wl m = [p.2] by unfold wl; rw [hw]; rfl] at z
      obtain ⟨_, ⟨vs, ds, l, _⟩, _⟩ := h.log.2 p.1 p.2 hw
      rw [← List.mem_singleton.mp z, hx] at l
      cases l
  · simp only [List.mem_cons] at z
    rcases z with z | z | z | z | z
    · rw [z, i0] at hx; cases hx
    · rw [z, h.w] at hx; cases hx
    · rw [z, h.o] at hx; cases hx
    · rw [z, h.r] at hx; cases hx
    · obtain ⟨i, hi⟩ := List.getElem?_of_mem z
      have hil := (List.getElem?_eq_some_iff.mp hi).1
      rw [h.nl] at hil
      obtain ⟨d, e⟩ := h.rg i x _ hi (List.getElem?_eq_getElem hil)
      rw [e] at hx
      cases hx
theorem StX.sz (hz : m.os.length ≤ 100000) (mo : MOk m) : m.ws.length ≤ 800000 := by
  have := mo.len
  omega
end
/-! the first defs -/
theorem rd_is_integer (h : sp_is_integer K vs H Q E) : t_is_integer K { nx := fun _ H' => Q .non H', rt := Q } (start n_is_integer vs) H := by
  obtain ⟨k, rfl, q⟩ := h
  unfold t_is_integer
  walk_at "u"
  exact q
theorem rd_RegionState___init__ (h : sp_RegionState___init__ K vs H Q E) : t_RegionState___init__ K { nx := fun _ H' => Q .non H', rt := Q } (start n_RegionState___init__ vs) H := by
  obtain ⟨x, dx, rfl, hx, q⟩ := h
  unfold t_RegionState___init__
  walk_at "u"
  refine sfield hx (by decide) fun H1 e1 k1 => ?_
  walk_at "u"
  refine sfield e1 (by decide) fun H2 e2 k2 => ?_
  walk_at "u"
  refine sfield e2 (by decide) fun H3 e3 k3 => ?_
  walk_at "u"
  refine sfield e3 (by decide) fun H4 e4 k4 => ?_
  exact q H4 (fun b hb => by rw [k4 b hb, k3 b hb, k2 b hb, k1 b hb]) e4
theorem rd_Store___init__ (h : sp_Store___init__ K vs H Q E) : t_Store___init__ K { nx := fun _ H' => Q .non H', rt := Q } (start n_Store___init__ vs) H := by
  obtain ⟨a, dx, rfl, ha, q⟩ := h
  unfold t_Store___init__
  walk_at "u"
  refine ⟨szl (by simp), fun W hW => ?_⟩
  obtain ⟨G1, g1, s1, l1⟩ := lay_new (o := .lst []) hW
  rw [g1]
  walk_at "u"
  refine sfield (s1 _ _ ha) (by decide) fun H1 e1 k1 => ?_
  have aW : a ≠ W := ne_of_none ha hW
  walk_at "u"
  refine ⟨szl (by simp), fun O hO => ?_⟩
  obtain ⟨G2, g2, s2, l2⟩ := lay_new (o := .lst []) hO
  rw [g2]
  walk_at "u"
  refine sfield (s2 _ _ e1) (show 1 < 1000 by decide) fun H2 e2 k2 => ?_
  have aO : a ≠ O := ne_of_none e1 hO
  walk_at "u"
  refine ⟨szl (by simp), fun R hR => ?_⟩
  obtain ⟨G3, g3, s3, l3⟩ := lay_new (o := .lst []) hR
  rw [g3]
  walk_at "u"
  refine sfield (s3 _ _ e2) (show 2 < 1000 by decide) fun H3 e3 k3 => ?_
  have aR : a ≠ R := ne_of_none e2 hR
  walk_at "u"
  refine sfield e3 (show 3 < 1000 by decide) fun H4 e4 k4 => ?_
  have kW1 : H1 W = some (.lst []) := by rw [k1 _ aW.symm]; exact l1
  have WO : W ≠ O := ne_of_none kW1 hO
  have kW2 : H2 W = some (.lst []) := by rw [k2 _ aW.symm]; exact s2 _ _ kW1
  have kO2 : H2 O = some (.lst []) := by rw [k2 _ aO.symm]; exact l2
  have WR : W ≠ R := ne_of_none kW2 hR
  have OR : O ≠ R := ne_of_none kO2 hR
  have st : ∀ b o, b ≠ a → H b = some o → H4 b = some o := fun b o hb e => by
    rw [k4 b hb, k3 b hb]
    refine s3 _ _ ?_
    rw [k2 b hb]
    refine s2 _ _ ?_
    rw [k1 b hb]
    exact s1 _ _ e
  have back : ∀ b, b ≠ a → H4 b = none → H b = none := fun b hb e => by
    cases h : H b with
    | none => rfl
    | some o => rw [st b o hb h] at e; cases e
  have nH1 : ∀ b, b ≠ a → H1 b = none → H b = none := fun b hb e => by
    cases h : H b with
    | none => rfl
    | some o => rw [k1 b hb, s1 _ _ h] at e; cases e
  have nH2 : ∀ b, b ≠ a → H2 b = none → H b = none := fun b hb e => by
    refine nH1 b hb ?_
    cases h : H1 b with
    | none => rfl
    | some o => rw [k2 b hb, s2 _ _ h] at e; cases e
  refine q [a, W, O, R] H4 ⟨W, O, R, [], rfl, ⟨⟨dx, e4⟩, ?_, ?_, ?_, rfl, List.nodup_nil, (fun i x g e1 _ => by simp at e1), ⟨WO, WR, OR⟩, (fun z => by cases z), fun _ => rfl, fun w L z => by cases z⟩⟩ st (fun x hx => ?_)
  · rw [k4 _ aW.symm, k3 _ aW.symm]; exact s3 _ _ kW2
  · rw [k4 _ aO.symm, k3 _ aO.symm]; exact s3 _ _ kO2
  · rw [k4 _ aR.symm, k3 _ aR.symm]; exact l3
  · simp only [List.mem_cons, List.not_mem_nil, or_false] at hx
    rcases hx with rfl | rfl | rfl | rfl
    · exact .inl rfl
    · exact .inr hW
    · exact .inr (nH1 _ aO.symm hO)
    · exact .inr (nH2 _ aR.symm hR)
theorem rd_Store_record (h : sp_Store_record K vs H Q E) : t_Store_record K { nx := fun _ H' => Q .non H', rt := Q } (start n_Store_record vs) H := by
  obtain ⟨a, S, m, z, r, x, rfl, ⟨W, O, R, rs, rfl, st⟩, lz, q⟩ := h
  unfold t_Store_record
  walk_at "u"
  refine st.fC ?_
  have lg := st.log
  cases hw : m.wt with
  | none =>
    have e0 := lg.1 hw
    unfold wvOf
    walk_at "u"
    rw [addL_no e0] at q
    exact q _ _ ⟨W, O, R, rs, rfl, st⟩ StFr.refl
  | some p =>
    obtain ⟨w, L⟩ := p
    obtain ⟨⟨dw, i⟩, ⟨ws, ds, l, e1, t⟩, wa, wr, n1, n2, n3⟩ := lg.2 w L hw
    unfold wvOf
    walk_at "u"
    refine st.fC ?_
    rw [hw]
    unfold wvOf
    walk_at "u"
    refine gfield i rfl ?_
    walk_at "u"
    refine ⟨szl (by simp), fun T hT => ?_⟩
    obtain ⟨H1, e2, s1, eT⟩ := lay_new (o := .tup [.str z, .int r, .int x]) hT
    rw [e2]
    have l1 := s1 _ _ l
    have st1 := st.same s1
    walk_at "u"
    have hz := lz ds e1
    have hl := t.len
    refine r_append l1 (szt (by omega)) ?_
    have ews : wl m = [L] := by unfold wl; rw [hw]; rfl
    have k1 : ∀ b o, b ≠ L → H1 b = some o → upd H1 L (.lst (ws ++ [.ref T])) b = some o := fun b o hb e => by rw [upd_ne hb]; exact e
    have tk1 : Tk K H1 (upd H1 L (.lst (ws ++ [.ref T]))) := Tk.lst l1
    have tT : Td K H1 (.ref T) (entry z r x) := .tup (SqT.of eT) (.cons (.str z) (.cons (.int r) (.cons (.int x) .nil)))
    walk_at "u"
    obtain ⟨⟨dx, ia⟩, w1, o1, r1, nl, nd, rg, ne, na, lg1⟩ := st1
    have aL : a ≠ L := fun n => by rw [n, l1] at ia; cases ia
    refine q (wl m ++ a :: W :: O :: R :: rs) _ ⟨W, O, R, rs, rfl, ⟨dx, k1 _ _ aL ia⟩, k1 _ _ n1.symm w1, k1 _ _ n2.symm o1, k1 _ _ n3.symm r1, nl, nd, fun i x g e3 e4 => ?_, ne, na, (fun n => by rw [show (addL m (entry z r x)).wt = m.wt from rfl, hw] at n; cases n), fun w' L' e => ?_⟩ ((StFr.same s1).trans (StFr.upd (x := L) (by rw [ews]; simp)))
    · obtain ⟨d2, e5⟩ := rg i x g e3 e4
      exact ⟨d2, k1 _ _ (fun n => by rw [n, l1] at e5; cases e5) e5⟩
    · have e : m.wt = some (w', L') := e
      rw [hw] at e
      cases e
      refine ⟨⟨dw, k1 _ _ (fun n => ?_) (s1 _ _ i)⟩, ⟨_, ds ++ [entry z r x], upd_same, ?_, ?_⟩, wa, wr, n1, n2, n3⟩
      · rw [n, l] at i
        cases i
      · show m.log.map (· ++ [entry z r x]) = _
        rw [e1]
        rfl
      · exact ((t.k (Same.tk s1)).append (.one tT)).k tk1
theorem get_refs {rs : List Addr} {i : Nat} {x : Addr} (h : rs[i]? = some x) : (rs.map V.ref)[i]? = some (.ref x) := by rw [List.getElem?_map, h]; rfl
theorem get_ints {ns : List Int} {i : Nat} {x : Int} (h : ns[i]? = some x) : (ns.map V.int)[i]? = some (.int x) := by rw [List.getElem?_map, h]; rfl
theorem rd_Store_is_current (h : sp_Store_is_current K vs H Q E) : t_Store_is_current K { nx := fun _ H' => Q .non H', rt := Q } (start n_Store_is_current vs) H := by
  obtain ⟨a, S, m, r, rfl, ⟨W, O, R, rs, rfl, st⟩, hl, q⟩ := h
  unfold t_Store_is_current
  walk_at "u"
  refine ⟨r, rfl, ?_⟩
  walk_at "u"
  refine br_d (fun h0 => ?_) (fun h0 => ?_)
  · walk_at "u"
    refine st.fR ?_
    walk_at "u"
    refine r_lenL (SqL.of st.r) ?_
    rw [List.length_map, st.nl]
    walk_at "u"
    refine br_d (fun h1 => ?_) (fun h1 => ?_)
    · walk_at "u"
      refine st.fR ?_
      walk_at "u"
      obtain ⟨k, rfl⟩ := Int.eq_ofNat_of_zero_le h0
      have hk : k < m.rg.length := by omega
      have hk2 : k < rs.length := by rw [st.nl]; exact hk
      obtain ⟨d, e⟩ := st.rg k rs[k] m.rg[k] (List.getElem?_eq_getElem hk2) (List.getElem?_eq_getElem hk)
      refine r_ixL (SqL.of st.r) (atI_nat (get_refs (List.getElem?_eq_getElem hk2))) ?_
      refine gfield e rfl ?_
      refine q m.rg[k].lv ⟨fun hb => ⟨h0, m.rg[k], ?_, hb⟩, fun hb => ?_⟩
      · rw [Int.toNat_natCast]; exact List.getElem?_eq_getElem hk
      · obtain ⟨_, g, h2, h3⟩ := hb
        rw [Int.toNat_natCast, List.getElem?_eq_getElem hk] at h2
        cases h2
        exact h3
    · walk_at "u"
      refine q false ⟨(fun hb => by cases hb), fun hb => ?_⟩
      obtain ⟨_, g, h2, _⟩ := hb
      have := (List.getElem?_eq_some_iff.mp h2).1
      omega
  · walk_at "u"
    exact q false ⟨(fun hb => by cases hb), fun hb => absurd hb.1 h0⟩
end
section
variable {K : PySem.W.Frag} {vs : List V} {H H' H2 : Hp} {Q : VK} {E : XK} {n : Nat} {a W O R x C dx : Addr} {rs S S' S2 : List Addr} {m : Mm} {f : Str} {y v : V} {fs : List (Str × V)}
theorem cut_take {xs : List V} {lo c : Nat} : cutV xs (some (lo : Int)) (some ((lo : Int) + c)) = (xs.drop lo).take c := by
  have e : (lo : Int) + c = ((lo + c : Nat) : Int) := by omega
  unfold cutV
  rw [e, HT.sIx_nat, HT.sIx_nat]
  apply List.ext_getElem?
  intro i
  rw [List.getElem?_take, List.getElem?_take, List.getElem?_drop, List.getElem?_drop]
  by_cases h1 : lo + i < xs.length
  · by_cases h2 : i < c
    · rw [if_pos (by omega), if_pos h2, Nat.min_eq_left (by omega)]
    · rw [if_neg (by omega), if_neg h2]
  · have e1 : xs[lo + i]? = none := List.getElem?_eq_none (by omega)
    have e2 : xs[min lo xs.length + i]? = none ∨ ¬ (i < min (lo + c) xs.length - min lo xs.length) := by
      by_cases h3 : i < min (lo + c) xs.length - min lo xs.length
      · omega
      · exact .inr h3
    rw [e1]
    rcases e2 with e2 | e2
    · rw [e2]; split <;> split <;> rfl
    · rw [if_neg e2]; split <;> rfl
theorem r_slInts {p : Addr} {ns : List Int} {lo c : Nat} (h : SqL K H p (ns.map V.int)) (q : ∀ l H', H l = none → Same H H' → H' l = some (.lst (((ns.drop lo).take c).map V.int)) → Q (.ref l) H') : uSl K (.ref p) (some (lo : Int)) (some ((lo : Int) + c)) H Q := by
  refine .inl ⟨p, _, rfl, h, fun l hl => q l _ hl (same_new hl) ?_⟩
  rw [upd_same, cut_take, List.map_take, List.map_drop]
theorem StX.grow (h : StX K H a W O R rs m) {g : Rg} (hx : H x = none) (e : ∃ dx, H' x = some (.ins (He.ga K "RegionState") dx (rgF g))) (er : H' R = some (.lst ((rs ++ [x]).map V.ref))) (k : ∀ b o, b ≠ R → H b = some o → H' b = some o) : StX K H' a W O R (rs ++ [x]) { m with rg := m.rg ++ [g] } := by
  have h1 := h.aW
  have h2 := fun {y} hy => h.xrs (y := y) hy
  have sR := h.r
  obtain ⟨⟨dx, i⟩, w, o, r', nl, nd, rg, ne, na, lg⟩ := h
  have xa : x ≠ a := (ne_of_none i hx).symm
  have hxr : x ∉ rs := fun hm => by
    obtain ⟨j, hj⟩ := List.getElem?_of_mem hm
    have hl := (List.getElem?_eq_some_iff.mp hj).1
    obtain ⟨d2, e3⟩ := rg j x m.rg[j] hj (List.getElem?_eq_getElem (by rw [← nl]; exact hl))
    rw [hx] at e3
    cases e3
  refine ⟨⟨dx, k _ _ h1.2.2 i⟩, k _ _ ne.2.1 w, k _ _ ne.2.2 o, er, by rw [List.length_append, List.length_append, nl]; rfl, List.nodup_append.mpr ⟨nd, by simp, fun b hb c hc => ?_⟩, fun j y g' e1 e2 => ?_, ne, fun hm => ?_, (lg.more hx).one sR (.inr (.inr rfl)) k⟩
  · rw [List.mem_singleton.mp hc]
    exact fun z => hxr (z ▸ hb)
  · have e2 : (m.rg ++ [g])[j]? = some g' := e2
    by_cases hj : j < rs.length
    · rw [List.getElem?_append_left hj] at e1
      rw [List.getElem?_append_left (by rw [← nl]; exact hj)] at e2
      obtain ⟨d2, e3⟩ := rg j y g' e1 e2
      exact ⟨d2, k _ _ (h2 (List.mem_of_getElem? e1)).2.2.2 e3⟩
    · rw [List.getElem?_append_right (by omega)] at e1
      rw [List.getElem?_append_right (by rw [← nl]; omega)] at e2
      rw [nl] at e1
      have hz : j - m.rg.length = 0 := by
        have := (List.getElem?_eq_some_iff.mp e1).1
        simpa using this
      rw [hz] at e1 e2
      cases e1
      cases e2
      exact e
  · rcases List.mem_append.mp hm with hm | hm
    · exact na hm
    · exact xa (List.mem_singleton.mp hm).symm
theorem StX.tyR (h : StX K H a W O R rs m) {B : Prop} (b : B) : tyV K "list" (.ref R) H ∧ B := ⟨.inl ⟨rfl, _, SqL.of h.r⟩, b⟩
theorem StX.tyO (h : StX K H a W O R rs m) {B : Prop} (b : B) : tyV K "list" (.ref O) H ∧ B := ⟨.inl ⟨rfl, _, SqL.of h.o⟩, b⟩
theorem StX.tyW (h : StX K H a W O R rs m) {B : Prop} (b : B) : tyV K "list" (.ref W) H ∧ B := ⟨.inl ⟨rfl, _, SqL.of h.w⟩, b⟩
theorem rd_Store_begin (h : sp_Store_begin K vs H Q E) : t_Store_begin K { nx := fun _ H' => Q .non H', rt := Q } (start n_Store_begin vs) H := by
  obtain ⟨a, S, m, rfl, ⟨W, O, R, rs, rfl, st⟩, lz, hl, q⟩ := h
  have nl := st.nl
  unfold t_Store_begin
  walk_at "u"
  refine st.fR ?_
  walk_at "u"
  refine r_lenL (SqL.of st.r) ?_
  rw [List.length_map, st.nl]
  walk_at "u"
  refine st.fR ?_
  refine st.tyR ?_
  walk_at "u"
  intro x dx hx hdx hne
  have hR : (upd (upd H dx (.own x)) x (.ins (He.ga K "RegionState") dx [])) R = some (.lst (rs.map V.ref)) := by
    rw [upd_ne (ne_of_none st.r hx), upd_ne (ne_of_none st.r hdx)]
    exact st.r
  refine ⟨x, dx, rfl, upd_same, fun H1 k1 e1 => ⟨rfl, ?_⟩⟩
  have kk : ∀ b o, H b = some o → H1 b = some o := fun b o e => by
    rw [k1 b (ne_of_none e hx), upd_ne (ne_of_none e hx), upd_ne (ne_of_none e hdx)]
    exact e
  walk_at "u"
  refine r_append (kk _ _ st.r) (szt (by rw [List.length_map]; omega)) ?_
  have g := st.grow (H' := upd H1 R (.lst (rs.map V.ref ++ [.ref x]))) (g := rg0) hx ⟨dx, by rw [upd_ne (ne_of_none st.r hx).symm]; exact e1⟩ (by rw [upd_same, List.map_append]; rfl) (fun b o hb e => by rw [upd_ne hb]; exact kk b o e)
  have fr : StFr (wl m ++ a :: W :: O :: R :: rs) (wl m ++ a :: W :: O :: R :: (rs ++ [x])) H (upd H1 R (.lst (rs.map V.ref ++ [.ref x]))) := by
    refine ⟨fun c o hc e => ?_, ⟨[x], by simp, fun y hy => by rw [List.mem_singleton.mp hy]; exact hx⟩, fun c o e => ?_⟩
    · rw [upd_ne (fun z => hc (by rw [z]; simp))]
      exact kk c o e
    · by_cases hc : c = R
      · rw [hc]; exact ⟨_, upd_same⟩
      · exact ⟨o, by rw [upd_ne hc]; exact kk c o e⟩
  walk_at "u"
  refine g.meth (by decide +kernel) ?_
  walk_at "u"
  refine ⟨a, _, _, "begin", _, 0, rfl, ⟨W, O, R, _, rfl, g⟩, lz, fun S2 H2 st2 f2 => ?_⟩
  walk_at "u"
  exact q S2 H2 st2 (fr.trans f2)
theorem rd_Store_take (h : sp_Store_take K vs H Q E) : t_Store_take K { nx := fun _ H' => Q .non H', rt := Q } (start n_Store_take vs) H := by
  obtain ⟨a, S, m, c, r, rfl, ⟨W, O, R, rs, rfl, st⟩, hc, mo, ⟨hz1, hz2⟩, q⟩ := h
  have hws := st.sz (by omega) mo
  unfold t_Store_take
  walk_at "u"
  refine st.fO ?_
  walk_at "u"
  refine r_lenL (SqL.of st.o) ?_
  rw [List.length_map]
  walk_at "u"
  refine r_cut (fun σ' H' => Same H H' ∧ ∃ y4, σ' = [some (.ref a), some (.int c), some (.int r), some (.int (takeP m c : Nat)), y4]) ?_ ?_
  · refine r_for ?_
    walk_at "u"
    refine st.fO ?_
    walk_at "u"
    refine r_lenL (SqL.of st.o) ?_
    rw [List.length_map]
    walk_at "u"
    refine ⟨_, RgC.neg (by omega) (by omega) (by decide) (by decide), ?_⟩
    have hn : ((m.os.length : Int) - c - -1).toNat = if c ≤ m.os.length then m.os.length - c + 1 else 0 := by
      split <;> omega
    rw [hn]
    refine for_rangeC (fun t σ' H' => Same H H' ∧ ∃ y4, σ' = [some (.ref a), some (.int c), some (.int r), some (.int (frD m.os c (m.os.length - c) t : Nat)), y4]) ⟨Same.refl _, none, rfl⟩ ?_ ?_
    · rintro t σ H1 ht ⟨s1, y4, rfl⟩
      have hcl : c ≤ m.os.length := by
        by_cases h : c ≤ m.os.length
        · exact h
        · rw [if_neg h] at ht; omega
      rw [if_pos hcl] at ht
      have e0 : (m.os.length : Int) - c + (t : Nat) * -1 = ((m.os.length - c - t : Nat) : Int) := by omega
      rw [e0]
      have st1 := st.same s1
      walk_at "u"
      refine st1.fO ?_
      walk_at "u"
      refine r_slInts (SqL.of st1.o) fun l H2 hl s2 el => ?_
      walk_at "u"
      refine ⟨szl (by simp), fun b hb => ?_⟩
      obtain ⟨H3, e3, s3, eb⟩ := lay_new (o := .lst [.int (-1)]) hb
      rw [e3]
      walk_at "u"
      refine r_repL eb (by omega) fun p H4 hp s4 ep => ?_
      walk_at "u"
      refine r_eqInts (SqL.of (s4 _ _ (s3 _ _ el))) (ms := List.replicate c (-1)) (SqL.of (by rw [List.map_replicate]; exact ep)) ?_
      have s14 := s1.trans (s2.trans (s3.trans s4))
      walk_at "u"
      refine br_d (fun hf => ?_) (fun hf => ?_)
      · walk_at "u"
        refine ⟨s14, some (.int ((m.os.length - c - t : Nat) : Int)), ?_⟩
        have hf : freeAt m.os c (m.os.length - c - t) := hf
        rw [frD, if_pos hf]
        rfl
      · walk_at "u"
        refine ⟨s14, some (.int ((m.os.length - c - t : Nat) : Int)), ?_⟩
        have hf : ¬ freeAt m.os c (m.os.length - c - t) := hf
        rw [frD, if_neg hf]
        rfl
    · rintro σ H1 ⟨s1, y4, rfl⟩
      refine ⟨s1, y4, ?_⟩
      have ef : frD m.os c (m.os.length - c) (if c ≤ m.os.length then m.os.length - c + 1 else 0) = takeP m c := by
        unfold takeP firstFree
        split <;> rfl
      rw [ef]
  rintro σ' H1 ⟨s1, y4, rfl⟩
  have st1 := st.same s1
  have hfirst := first_is (os := m.os) hc
  have hp : takeP m c ≤ m.os.length := by
    rcases hfirst with ⟨z, _⟩ | ⟨z, _⟩
    · unfold takeP; omega
    · unfold takeP; omega
  have hl2 := mo.len
  -- the pages that are new
  refine r_cut (fun σ' H' => StX K H' a W O R rs { m with os := if takeP m c = m.os.length then m.os ++ List.replicate c (-1) else m.os, ws := if takeP m c = m.os.length then m.ws ++ List.replicate (c * 8) 0 else m.ws } ∧ StFr (wl m ++ a :: W :: O :: R :: rs) (wl m ++ a :: W :: O :: R :: rs) H H' ∧ ∃ y4, σ' = [some (.ref a), some (.int c), some (.int r), some (.int (takeP m c : Nat)), y4]) ?_ ?_
  · walk_at "u"
    refine st1.fO ?_
    walk_at "u"
    refine r_lenL (SqL.of st1.o) ?_
    rw [List.length_map]
    walk_at "u"
    refine br_d (fun hf => ?_) (fun hf => ?_)
    · have hf : takeP m c = m.os.length := by omega
      rw [if_pos hf, if_pos hf]
      walk_at "u"
      refine st1.fO ?_
      refine st1.tyO ?_
      walk_at "u"
      refine ⟨szl (by simp), fun b hb => ?_⟩
      obtain ⟨H2, e2, s2, eb⟩ := lay_new (o := .lst [.int (-1)]) hb
      rw [e2]
      walk_at "u"
      refine r_repL eb (by omega) fun p H3 hp3 s3 ep => ?_
      have st3 := st1.same (s2.trans s3)
      walk_at "u"
      refine ⟨_, _, st3.o, ep, szl (by rw [List.length_map, List.length_replicate]; omega), ?_⟩
      have st4 := st3.setO (os := m.os ++ List.replicate c (-1)) (H' := upd H3 O (.lst (m.os.map V.int ++ List.replicate c (.int (-1))))) (by rw [upd_same, List.map_append, List.map_replicate]) (fun b hb => upd_ne hb)
      have f4 : StFr (wl m ++ a :: W :: O :: R :: rs) (wl m ++ a :: W :: O :: R :: rs) H (upd H3 O (.lst (m.os.map V.int ++ List.replicate c (.int (-1))))) := (StFr.same (s1.trans (s2.trans s3))).trans (StFr.upd (x := O) (by simp))
      generalize upd H3 O (.lst (m.os.map V.int ++ List.replicate c (.int (-1)))) = H4 at st4 f4 ⊢
      walk_at "u"
      refine st4.fW ?_
      refine st4.tyW ?_
      walk_at "u"
      refine ⟨szl (by simp), fun b hb => ?_⟩
      obtain ⟨H5, e5, s5, eb5⟩ := lay_new (o := .lst [.int 0]) hb
      rw [e5]
      walk_at "u"
      rw [show (c : Int) * 8 = ((c * 8 : Nat) : Int) by omega]
      refine r_repL eb5 (by omega) fun p6 H6 hp6 s6 ep6 => ?_
      have st6 := st4.same (s5.trans s6)
      walk_at "u"
      refine ⟨_, _, st6.w, ep6, szl (by rw [List.length_map, List.length_replicate]; show m.ws.length + c * 8 ≤ _; omega), ?_⟩
      have st7 := st6.setW (ws := m.ws ++ List.replicate (c * 8) 0) (H' := upd H6 W (.lst (m.ws.map V.int ++ List.replicate (c * 8) (.int 0)))) (by rw [upd_same, List.map_append, List.map_replicate]) (fun b hb => upd_ne hb)
      refine ⟨st7, f4.trans ((StFr.same (s5.trans s6)).trans (StFr.upd (x := W) (by simp))), _, rfl⟩
    · have hf : ¬ takeP m c = m.os.length := by omega
      rw [if_neg hf, if_neg hf]
      walk_at "u"
      exact ⟨st1, StFr.same s1, _, rfl⟩
  rintro σ' H2 ⟨st2, f2, y4, rfl⟩
  have hos : takeP m c + c ≤ (if takeP m c = m.os.length then m.os ++ List.replicate c (-1) else m.os).length := by
    split
    · rw [List.length_append, List.length_replicate]; omega
    · rename_i hf
      rcases hfirst with ⟨z, _⟩ | ⟨z, _⟩
      · exact z
      · exact absurd z hf
  have hosz : (if takeP m c = m.os.length then m.os ++ List.replicate c (-1) else m.os).length ≤ 200000 := by
    split
    · rw [List.length_append, List.length_replicate]; omega
    · omega
  generalize hos1 : (if takeP m c = m.os.length then m.os ++ List.replicate c (-1) else m.os) = os1 at hos hosz st2
  generalize hws1 : (if takeP m c = m.os.length then m.ws ++ List.replicate (c * 8) 0 else m.ws) = ws1 at st2
  have hM : takeM m c r = { m with os := setR os1 (takeP m c) c (r : Int), ws := ws1 } := by
    unfold takeM
    rw [hos1, hws1]
  refine r_cut (fun σ' H' => StX K H' a W O R rs (takeM m c r) ∧ StFr (wl m ++ a :: W :: O :: R :: rs) (wl m ++ a :: W :: O :: R :: rs) H H' ∧ ∃ y4, σ' = [some (.ref a), some (.int c), some (.int r), some (.int (takeP m c : Nat)), y4]) ?_ ?_
  · walk_at "u"
    refine ⟨⟨by omega, by omega, by omega, by omega⟩, ?_⟩
    rw [show ((takeP m c : Nat) : Int) + c - (takeP m c : Nat) = (c : Nat) by omega, Int.toNat_natCast]
    refine f_range (fun t σ' H' => StX K H' a W O R rs { m with os := setR os1 (takeP m c) t (r : Int), ws := ws1 } ∧ StFr (wl m ++ a :: W :: O :: R :: rs) (wl m ++ a :: W :: O :: R :: rs) H H' ∧ ∃ y4, σ' = [some (.ref a), some (.int c), some (.int r), some (.int (takeP m c : Nat)), y4]) ⟨?_, f2, _, rfl⟩ ?_ ?_
    · rw [setR_zero]
      exact st2
    · rintro t σ H3 ht ⟨st3, f3, y4, rfl⟩
      walk_at "u"
      refine st3.fO ?_
      walk_at "u"
      have hlen : (setR os1 (takeP m c) t (r : Int)).length = os1.length := setR_len (by omega)
      refine r_setL st3.o (m := takeP m c + t) ?_ ?_
      · unfold ixN
        rw [List.length_map, hlen]
        rw [if_pos (by omega), if_pos (by omega)]
        congr 1
      · refine ⟨?_, f3.trans (StFr.upd (x := O) (by simp)), _, rfl⟩
        have z := st3.setO (os := setR os1 (takeP m c) (t + 1) (r : Int)) (H' := upd H3 O (.lst (((setR os1 (takeP m c) t (r : Int)).map V.int).set (takeP m c + t) (.int r)))) (by rw [upd_same, ← setR_step (by omega), List.map_set]) (fun b hb => upd_ne hb)
        exact z
    · rintro σ H3 ⟨st3, f3, y4, rfl⟩
      rw [← hM] at st3
      exact ⟨st3, f3, _, rfl⟩
  rintro σ' H3 ⟨st3, f3, y4, rfl⟩
  walk_at "u"
  exact q _ _ ⟨W, O, R, rs, rfl, st3⟩ f3
end
section
variable {K : PySem.W.Frag} {vs : List V} {H H' H2 : Hp} {Q : VK} {E : XK} {n : Nat} {a W O R x C dx : Addr} {rs S S' S2 N : List Addr} {m m' : Mm} {f : Str} {y v : V} {fs : List (Str × V)}
/-- the same cells, where no region is new -/
theorem StAt.back (h : StAt K H' a (wl m ++ a :: W :: O :: R :: rs ++ N) m') (hw : m'.wt = m.wt) (hl : m'.rg.length = rs.length) : N = [] ∧ StX K H' a W O R rs m' := by
  obtain ⟨W', O', R', rs', e, st⟩ := h
  have ew : wl m' = wl m := congrArg wlO hw
  rw [ew, List.append_assoc] at e
  have e : a :: W :: O :: R :: (rs ++ N) = a :: W' :: O' :: R' :: rs' := List.append_cancel_left e
  injection e with _ z1
  injection z1 with e1 z2
  injection z2 with e2 z3
  injection z3 with e3 z4
  subst e1 e2 e3 z4
  have := st.nl
  rw [List.length_append] at this
  have hN : N = [] := List.eq_nil_of_length_eq_zero (by omega)
  subst hN
  rw [List.append_nil] at st
  exact ⟨rfl, st⟩
theorem live.lt {r : Nat} (h : live m r) : ∃ g, m.rg[r]? = some g ∧ g.lv = true ∧ r < m.rg.length := by
  obtain ⟨g, h1, h2⟩ := h
  exact ⟨g, h1, h2, (List.getElem?_eq_some_iff.mp h1).1⟩
/-- a region's cell -/
theorem StX.reg (h : StX K H a W O R rs m) {r : Nat} {g : Rg} (hg : m.rg[r]? = some g) : ∃ x dx, rs[r]? = some x ∧ H x = some (.ins (He.ga K "RegionState") dx (rgF g)) ∧ x ∈ rs := by
  have hr := (List.getElem?_eq_some_iff.mp hg).1
  have hr2 : r < rs.length := by rw [h.nl]; exact hr
  obtain ⟨d, e⟩ := h.rg r rs[r] g (List.getElem?_eq_getElem hr2) hg
  exact ⟨rs[r], d, List.getElem?_eq_getElem hr2, e, List.getElem_mem hr2⟩
theorem set_same {α : Type} {xs : List α} {i : Nat} {x : α} (h : xs[i]? = some x) : xs.set i x = xs := by
  apply List.ext_getElem?
  intro j
  rw [List.getElem?_set]
  split
  · rename_i e
    subst e
    rw [if_pos (List.getElem?_eq_some_iff.mp h).1, h]
  · rfl
theorem set_set {α : Type} {xs : List α} {i : Nat} {x z : α} : (xs.set i x).set i z = xs.set i z := by
  apply List.ext_getElem?
  intro j
  rw [List.getElem?_set, List.getElem?_set, List.getElem?_set, List.length_set]
  split
  · rfl
  · rfl
theorem getD_of {α : Type} {xs : List α} {i : Nat} {x d : α} (h : xs[i]? = some x) : xs.getD i d = x := by
  rw [List.getD_eq_getElem?_getD, h]
  rfl
theorem takeM_ws {c r : Nat} : (takeM m c r).ws.length ≤ m.ws.length + c * 8 ∧ m.ws.length ≤ (takeM m c r).ws.length := by
  show (if takeP m c = m.os.length then m.ws ++ List.replicate (c * 8) 0 else m.ws).length ≤ _ ∧ _ ≤ (if takeP m c = m.os.length then m.ws ++ List.replicate (c * 8) 0 else m.ws).length
  split
  · rw [List.length_append, List.length_replicate]; omega
  · omega
theorem takeP_in {c r : Nat} (hc : 1 ≤ c) (mo : MOk m) : (takeP m c + c) * 8 ≤ (takeM m c r).ws.length ∧ takeP m c + c ≤ (takeM m c r).os.length ∧ (takeM m c r).ws.length = (takeM m c r).os.length * 8 := by
  have hfirst := first_is (os := m.os) hc
  have hl := mo.len
  have e1 : (takeM m c r).ws = if takeP m c = m.os.length then m.ws ++ List.replicate (c * 8) 0 else m.ws := rfl
  have e2 : (takeM m c r).os = setR (if takeP m c = m.os.length then m.os ++ List.replicate c (-1) else m.os) (takeP m c) c (r : Int) := rfl
  rw [e1, e2]
  by_cases h : takeP m c = m.os.length
  · rw [if_pos h, if_pos h, setR_len (by rw [List.length_append, List.length_replicate]; omega), List.length_append, List.length_append, List.length_replicate, List.length_replicate]
    omega
  · rw [if_neg h, if_neg h]
    have hin : takeP m c + c ≤ m.os.length := by
      rcases hfirst with ⟨z, _⟩ | ⟨z, _⟩
      · exact z
      · exact absurd z h
    rw [setR_len hin]
    omega
/-- the cell's place lies within -/
theorem spotM_in {r w : Nat} {g : Rg} (mo : MOk m) (hg : m.rg[r]? = some g) (hw : 1 ≤ w) : (spotM m r w g).2.1 + w ≤ (spotM m r w g).1.ws.length ∧ (spotM m r w g).1.ws.length ≤ m.ws.length + (w + 15) ∧ (spotM m r w g).1.rg = m.rg ∧ (spotM m r w g).1.log = m.log := by
  unfold spotM
  by_cases h8 : 8 < w
  · rw [if_pos h8]
    have h1 := (takeP_in (r := r) (c := (w + 7) / 8) (by omega) mo).1
    have h2 := (takeM_ws (m := m) (c := (w + 7) / 8) (r := r)).1
    refine ⟨?_, ?_, rfl, rfl⟩
    · show takeP m ((w + 7) / 8) * 8 + w ≤ (takeM m ((w + 7) / 8) r).ws.length
      omega
    · show (takeM m ((w + 7) / 8) r).ws.length ≤ _
      omega
  · rw [if_neg h8]
    by_cases hr : g.rm < w
    · rw [if_pos hr]
      have h1 := (takeP_in (r := r) (c := 1) (by omega) mo).1
      have h2 := (takeM_ws (m := m) (c := 1) (r := r)).1
      refine ⟨?_, ?_, rfl, rfl⟩
      · show takeP m 1 * 8 + w ≤ (takeM m 1 r).ws.length
        omega
      · show (takeM m 1 r).ws.length ≤ _
        omega
    · rw [if_neg hr]
      have := mo.sp g (List.mem_of_getElem? hg)
      refine ⟨?_, ?_, rfl, rfl⟩
      · show g.pl + w ≤ m.ws.length
        omega
      · show m.ws.length ≤ _
        omega
theorem spotM_wt {r w : Nat} {g : Rg} : (spotM m r w g).1.wt = m.wt := by
  unfold spotM
  split
  · rfl
  · split <;> rfl
theorem rd_Store_cell (h : sp_Store_cell K vs H Q E) : t_Store_cell K (fun cls d _ H => E cls d H) { nx := fun _ H' => Q .non H', rt := Q } (start n_Store_cell vs) H := by
  obtain ⟨a, S, m, r0, w0, rfl, ⟨W, O, R, rs, rfl, st⟩, lz, mo, ⟨hz1, hz2⟩, q1, q2, q3⟩ := h
  unfold t_Store_cell
  walk_at "ui"
  refine st.meth (by decide +kernel) ?_
  walk_at "u"
  refine ⟨a, _, m, r0, rfl, ⟨W, O, R, rs, rfl, st⟩, by omega, fun b hb => ?_⟩
  by_cases hlv0 : 0 ≤ r0 ∧ live m r0.toNat
  · have hb : b = true := hb.mpr hlv0
    subst hb
    walk_at "u"
    walk_at "ui"
    refine br_d (fun hw1 => ?_) (fun hw1 => ?_)
    · walk_at "u"
      walk_at "umk"
      intro d hd
      exact q3 ⟨hlv0.1, hlv0.2, hw1⟩ _ d (Same.refl _) hd
    obtain ⟨r, rfl⟩ : ∃ r : Nat, r0 = r := ⟨r0.toNat, by omega⟩
    obtain ⟨w, rfl⟩ : ∃ w : Nat, w0 = w := ⟨w0.toNat, by omega⟩
    have q := q1 ⟨hlv0.1, hlv0.2, by omega⟩
    rw [Int.toNat_natCast] at q hz1 hz2 hlv0
    rw [Int.toNat_natCast] at q
    have hlv := hlv0.2
    have hw : 1 ≤ w := by omega
    clear q1 q2 q3 hb
    have hws := st.sz (by omega) mo
    obtain ⟨g, hg, hglv, hr⟩ := hlv.lt
    obtain ⟨x, dx, hx, ex, hxm⟩ := st.reg hg
    have nl := st.nl
    walk_at "u"
    refine st.fR ?_
    walk_at "u"
    refine r_ixL (SqL.of st.r) (atI_nat (get_refs hx)) ?_
    walk_at "u"
    refine r_cut (fun σ' H' => StX K H' a W O R rs { (spotM m r w g).1 with rg := m.rg.set r (spotM m r w g).2.2 } ∧ StFr (wl m ++ a :: W :: O :: R :: rs) (wl m ++ a :: W :: O :: R :: rs) H H' ∧ ∃ y4, σ' = [some (.ref a), some (.int r), some (.int w), some (.ref x), y4, some (.int ((spotM m r w g).2.1 : Nat))]) ?_ ?_
    · walk_at "u"
      refine br_d (fun h8 => ?_) (fun h8 => ?_)
      · have h8 : 8 < w := by omega
        walk_at "u"
        rw [show ((w : Int) + 8 - 1) / 8 = (((w + 7) / 8 : Nat) : Int) by omega]
        refine st.meth (by decide +kernel) ?_
        walk_at "u"
        refine ⟨a, _, m, (w + 7) / 8, r, rfl, ⟨W, O, R, rs, rfl, st⟩, by omega, mo, ⟨by omega, by omega⟩, fun S' H1 st1 f1 => ?_⟩
        obtain ⟨N, rfl, _⟩ := f1.nw
        obtain ⟨rfl, st1'⟩ := st1.back rfl (by show m.rg.length = _; omega)
        clear st1
        rw [List.append_nil] at f1
        walk_at "u"
        have e : spotM m r w g = (takeM m ((w + 7) / 8) r, takeP m ((w + 7) / 8) * 8, g) := by
          unfold spotM
          rw [if_pos h8]
        rw [e]
        refine ⟨?_, f1, some (.int (((w + 7) / 8 : Nat) : Int)), ?_⟩
        · show StX K H1 a W O R rs { takeM m ((w + 7) / 8) r with rg := m.rg.set r g }
          rw [set_same hg]
          exact st1'
        · show [some (V.ref a), some (.int r), some (.int w), some (.ref x), _, some (.int ((takeP m ((w + 7) / 8) : Nat) * 8))] = [_, _, _, _, _, some (.int ((takeP m ((w + 7) / 8) * 8 : Nat) : Int))]
          rw [Int.natCast_mul]
          rfl
      · have h8 : ¬ 8 < w := by omega
        refine r_cut (fun σ' H' => ∃ g1 : Rg, StX K H' a W O R rs { (spotM m r w g).1 with rg := m.rg.set r g1 } ∧ StFr (wl m ++ a :: W :: O :: R :: rs) (wl m ++ a :: W :: O :: R :: rs) H H' ∧ g1.pl = (spotM m r w g).2.1 ∧ w ≤ g1.rm ∧ { g1 with pl := g1.pl + w, rm := g1.rm - w } = (spotM m r w g).2.2 ∧ σ' = [some (.ref a), some (.int r), some (.int w), some (.ref x), none, none]) ?_ ?_
        · walk_at "u"
          refine gfield ex rfl ?_
          walk_at "u"
          refine br_d (fun hr => ?_) (fun hr => ?_)
          · have hr : g.rm < w := by omega
            have e : spotM m r w g = (takeM m 1 r, takeP m 1 * 8, { g with pl := takeP m 1 * 8 + w, rm := 8 - w }) := by
              unfold spotM
              rw [if_neg h8, if_pos hr]
            rw [e]
            walk_at "u"
            refine st.meth (by decide +kernel) ?_
            walk_at "u"
            refine ⟨a, _, m, 1, r, rfl, ⟨W, O, R, rs, rfl, st⟩, by omega, mo, ⟨by omega, by omega⟩, fun S' H1 st1 f1 => ?_⟩
            obtain ⟨N, rfl, _⟩ := f1.nw
            obtain ⟨rfl, st1'⟩ := st1.back rfl (by show m.rg.length = _; omega)
            clear st1
            rw [List.append_nil] at f1
            obtain ⟨x', dx1, hx', ex1, _⟩ := st1'.reg (show (takeM m 1 r).rg[r]? = some g from hg)
            rw [hx] at hx'
            cases hx'
            walk_at "u"
            refine sfield ex1 (show 4 < 1000 by decide) fun H2 e2 k2 => ?_
            walk_at "u"
            refine sfield e2 (show 4 < 1000 by decide) fun H3 e3 k3 => ?_
            have st3 := st1'.setG (H' := H3) (g := { g with pl := takeP m 1 * 8, rm := 8 }) hx ⟨dx1, by
              rw [e3]
              show some (HO.ins (He.ga K "RegionState") dx1 [("lives", .bl g.lv), ("amount", .int g.am), ("place", .int ((takeP m 1 : Nat) * 8)), ("room", .int 8)]) = some (HO.ins (He.ga K "RegionState") dx1 [("lives", .bl g.lv), ("amount", .int g.am), ("place", .int ((takeP m 1 * 8 : Nat) : Int)), ("room", .int 8)])
              rw [Int.natCast_mul]
              rfl⟩ (fun b hb => by rw [k3 b hb, k2 b hb])
            exact ⟨_, st3, f1.trans (StFr.keep (x := x) (fun b hb => by rw [k3 b hb, k2 b hb]) (by simp [hxm]) ⟨_, e3⟩), rfl, by show w ≤ 8; omega, rfl, rfl⟩
          · have hr : ¬ g.rm < w := by omega
            have e : spotM m r w g = (m, g.pl, { g with pl := g.pl + w, rm := g.rm - w }) := by
              unfold spotM
              rw [if_neg h8, if_neg hr]
            rw [e]
            walk_at "u"
            refine ⟨g, ?_, StFr.refl, rfl, by omega, rfl, rfl⟩
            show StX K H a W O R rs { m with rg := m.rg.set r g }
            rw [set_same hg]
            exact st
        rintro σ' H1 ⟨g1, st1, f1, hpl, hrm, hg1, rfl⟩
        obtain ⟨x', dx1, hx', ex1, _⟩ := st1.reg (r := r) (g := g1) (by show (m.rg.set r g1)[r]? = _; rw [List.getElem?_set, if_pos rfl, if_pos hr])
        rw [hx] at hx'
        cases hx'
        walk_at "u"
        refine gfield ex1 rfl ?_
        walk_at "u"
        refine ⟨x, dx1, _, _, rfl, ex1, rfl, ?_⟩
        walk_at "u"
        refine ⟨dx1, _, ex1, (show 4 < 1000 by decide), ?_⟩
        obtain ⟨H2, e2, i2, k2⟩ : ∃ H2, upd H1 x (.ins (He.ga K "RegionState") dx1 (putF "place" (.int ((g1.pl : Int) + w)) (rgF g1))) = H2 ∧ H2 x = some (.ins (He.ga K "RegionState") dx1 [("lives", .bl g1.lv), ("amount", .int g1.am), ("place", .int ((g1.pl : Int) + w)), ("room", .int g1.rm)]) ∧ ∀ b, b ≠ x → H2 b = H1 b := ⟨_, rfl, upd_same, fun b hb => upd_ne hb⟩
        rw [e2]
        walk_at "u"
        refine ⟨x, dx1, _, _, rfl, i2, rfl, ?_⟩
        walk_at "u"
        refine ⟨dx1, _, i2, (show 4 < 1000 by decide), ?_⟩
        have st3 := st1.setG (H' := upd H2 x (.ins (He.ga K "RegionState") dx1 [("lives", .bl g1.lv), ("amount", .int g1.am), ("place", .int ((g1.pl : Int) + w)), ("room", .int ((g1.rm : Int) - w))])) (g := { g1 with pl := g1.pl + w, rm := g1.rm - w }) hx ⟨dx1, by
          rw [upd_same]
          show _ = some (HO.ins (He.ga K "RegionState") dx1 [("lives", .bl g1.lv), ("amount", .int g1.am), ("place", .int ((g1.pl + w : Nat) : Int)), ("room", .int ((g1.rm - w : Nat) : Int))])
          rw [Int.natCast_add, Int.natCast_sub hrm]⟩ (fun b hb => by rw [upd_ne hb, k2 b hb])
        have ee : ({ (spotM m r w g).1 with rg := m.rg.set r g1 } : Mm).rg.set r { g1 with pl := g1.pl + w, rm := g1.rm - w } = m.rg.set r (spotM m r w g).2.2 := by
          show (m.rg.set r g1).set r _ = _
          rw [set_set, hg1]
        rw [ee] at st3
        refine ⟨st3, f1.trans (StFr.keep (x := x) (fun b hb => by rw [upd_ne hb, k2 b hb]) (by simp [hxm]) ⟨_, upd_same⟩), none, ?_⟩
        rw [← hpl]
        rfl
    rintro σ' H1 ⟨st1, f1, y4, rfl⟩
    obtain ⟨hin, hin2, hrg, hlg⟩ := spotM_in mo hg hw
    have hwt := spotM_wt (m := m) (r := r) (w := w) (g := g)
    generalize hsp : spotM m r w g = sp at st1 hin hin2 hrg hlg hwt ⊢
    obtain ⟨m1, ad, g2⟩ := sp
    have hin : ad + w ≤ m1.ws.length := hin
    have hin2 : m1.ws.length ≤ m.ws.length + (w + 15) := hin2
    have st1 : StX K H1 a W O R rs { m1 with rg := m.rg.set r g2 } := st1
    walk_at "u"
    refine ⟨szl (by simp), fun b hb => ?_⟩
    obtain ⟨H2, e2, s2, eb⟩ := lay_new (o := .lst [.int 0]) hb
    rw [e2]
    walk_at "u"
    refine r_repL eb (by omega) fun p H3 hp3 s3 ep => ?_
    have st3 := st1.same (s2.trans s3)
    walk_at "u"
    refine st3.fW ?_
    walk_at "u"
    refine ⟨W, p, _, _, ad, (ad : Int) + w, rfl, rfl, rfl, rfl, st3.w, ep, ne_of_none (s2 _ _ st1.w) hp3, by omega, by omega, by rw [List.length_map]; show _ ≤ ((m1.ws.length : Nat) : Int); omega, ?_, ?_⟩
    · rw [List.length_map, List.length_replicate, sizeLine_eq]
      show m1.ws.length + w ≤ _
      omega
    have st4 := st3.setW (ws := setR m1.ws ad w 0) (H' := upd H3 W (.lst ((m1.ws.map V.int).take ((ad : Nat) : Int).toNat ++ List.replicate w (.int 0) ++ (m1.ws.map V.int).drop ((ad : Int) + w).toNat))) (by
      rw [upd_same, setR_map]
      unfold setR
      rw [Int.toNat_natCast, show ((ad : Int) + w).toNat = ad + w by omega]) (fun b hb => upd_ne hb)
    have f4 : StFr (wl m ++ a :: W :: O :: R :: rs) (wl m ++ a :: W :: O :: R :: rs) H (upd H3 W (.lst ((m1.ws.map V.int).take ((ad : Nat) : Int).toNat ++ List.replicate w (.int 0) ++ (m1.ws.map V.int).drop ((ad : Int) + w).toNat))) := f1.trans ((StFr.same (s2.trans s3)).trans (StFr.upd (x := W) (by simp)))
    generalize upd H3 W (.lst ((m1.ws.map V.int).take ((ad : Nat) : Int).toNat ++ List.replicate w (.int 0) ++ (m1.ws.map V.int).drop ((ad : Int) + w).toNat)) = H4 at st4 f4 ⊢
    obtain ⟨x', dx4, hx', ex4, _⟩ := st4.reg (r := r) (g := g2) (by show (m.rg.set r g2)[r]? = _; rw [List.getElem?_set, if_pos rfl, if_pos hr])
    rw [hx] at hx'
    cases hx'
    walk_at "u"
    refine ⟨x, dx4, _, _, rfl, ex4, rfl, ?_⟩
    walk_at "u"
    refine ⟨dx4, _, ex4, (show 4 < 1000 by decide), ?_⟩
    have st5 := st4.setG (H' := upd H4 x (.ins (He.ga K "RegionState") dx4 [("lives", .bl g2.lv), ("amount", .int ((g2.am : Int) + w)), ("place", .int g2.pl), ("room", .int g2.rm)])) (g := { g2 with am := g2.am + w }) hx ⟨dx4, by
      rw [upd_same]
      show _ = some (HO.ins (He.ga K "RegionState") dx4 [("lives", .bl g2.lv), ("amount", .int ((g2.am + w : Nat) : Int)), ("place", .int g2.pl), ("room", .int g2.rm)])
      rw [Int.natCast_add]⟩ (fun b hb => upd_ne hb)
    have f5 := f4.trans (StFr.upd (x := x) (o := .ins (He.ga K "RegionState") dx4 [("lives", .bl g2.lv), ("amount", .int ((g2.am : Int) + w)), ("place", .int g2.pl), ("room", .int g2.rm)]) (by simp [hxm]))
    have ee : ({ m1 with ws := setR m1.ws ad w 0, rg := m.rg.set r g2 } : Mm).rg.set r { g2 with am := g2.am + w } = m1.rg.set r { g2 with am := g2.am + w } := by
      show (m.rg.set r g2).set r _ = _
      rw [set_set, show m1.rg = m.rg from hrg]
    walk_at "u"
    refine st5.meth (by decide +kernel) ?_
    walk_at "u"
    refine ⟨a, _, _, "cell", r, ad, rfl, ⟨W, O, R, rs, rfl, st5⟩, (fun ds e => lz ds (by rw [← show m1.log = m.log from hlg]; exact e)), fun S' H6 st6 f6 => ?_⟩
    have f6 : StFr (wl m1 ++ a :: W :: O :: R :: rs) S' _ H6 := f6
    rw [show wl m1 = wl m from congrArg wlO hwt] at f6
    walk_at "u"
    have hc : cellM m r w = (addL { m1 with ws := setR m1.ws ad w 0, rg := m1.rg.set r { g2 with am := g2.am + w } } (entry "cell" r ad), ad) := by
      unfold cellM
      rw [getD_of hg]
      dsimp only
      rw [hsp]
    rw [hc] at q
    refine q S' H6 ?_ (f5.trans f6)
    have e6 : addL { m1 with ws := setR m1.ws ad w 0, rg := ({ m1 with ws := setR m1.ws ad w 0, rg := m.rg.set r g2 } : Mm).rg.set r { g2 with am := g2.am + w } } (entry "cell" r ad) = addL { m1 with ws := setR m1.ws ad w 0, rg := m1.rg.set r { g2 with am := g2.am + w } } (entry "cell" r ad) := by rw [ee]
    rw [← e6]
    exact st6
  · have hb : b = false := by
      cases b with
      | false => rfl
      | true => exact absurd (hb.mp rfl) hlv0
    subst hb
    walk_at "u"
    walk_at "umk"
    intro d hd
    exact q2 hlv0 _ d (Same.refl _) hd
end
section
variable {K : PySem.W.Frag} {vs : List V} {H H' H2 : Hp} {Q : VK} {E : XK} {n : Nat} {a W O R x C dx : Addr} {rs S S' S2 N : List Addr} {m m' : Mm} {f : Str} {y v : V} {fs : List (Str × V)}
theorem zeroP_len {os : List Int} {r : Int} {ws : List Int} (h : ws.length = os.length * 8) : ∀ k, k ≤ os.length → (zeroP os r ws k).length = ws.length
  | 0, _ => rfl
  | k + 1, hk => by
    have ih := zeroP_len (r := r) h k (by omega)
    rw [zeroP]
    split
    · rw [setR_len (by omega), ih]
    · exact ih
/-- the first k pages given back -/
def giveN (os : List Int) (r : Int) (k : Nat) : List Int := (os.take k).map (giveP r) ++ os.drop k
theorem giveN_len {os : List Int} {r : Int} {k : Nat} (h : k ≤ os.length) : (giveN os r k).length = os.length := by
  unfold giveN
  rw [List.length_append, List.length_map, List.length_take, List.length_drop]
  omega
theorem giveN_step {os : List Int} {r : Int} {k : Nat} {o : Int} (h : os[k]? = some o) : giveN os r (k + 1) = if o = r then (giveN os r k).set k (-1) else giveN os r k := by
  have hk := (List.getElem?_eq_some_iff.mp h).1
  have e1 : os.take (k + 1) = os.take k ++ [o] := by rw [List.take_add_one, h]; rfl
  have e2 : os.drop k = o :: os.drop (k + 1) := by
    rw [List.drop_eq_getElem_cons hk]
    congr 1
    exact Option.some.inj ((List.getElem?_eq_getElem hk).symm.trans h)
  have l1 : ((os.take k).map (giveP r)).length = k := by rw [List.length_map, List.length_take]; omega
  unfold giveN
  rw [e1, List.map_append, List.append_assoc, e2]
  show (os.take k).map (giveP r) ++ (giveP r o :: os.drop (k + 1)) = _
  by_cases ho : o = r
  · rw [if_pos ho, List.set_append_right _ _ (by omega), l1, Nat.sub_self, show giveP r o = -1 from if_pos ho]
    rfl
  · rw [if_neg ho, show giveP r o = o from if_neg ho]
theorem rd_Store_end (h : sp_Store_end K vs H Q E) : t_Store_end K (fun cls d _ H => E cls d H) { nx := fun _ H' => Q .non H', rt := Q } (start n_Store_end vs) H := by
  obtain ⟨a, S, m, r0, rfl, ⟨W, O, R, rs, rfl, st⟩, lz, mo, ⟨hz1, hz2⟩, q1, q2⟩ := h
  unfold t_Store_end
  walk_at "ui"
  refine st.meth (by decide +kernel) ?_
  walk_at "u"
  refine ⟨a, _, m, r0, rfl, ⟨W, O, R, rs, rfl, st⟩, by omega, fun b hb => ?_⟩
  by_cases hlv0 : 0 ≤ r0 ∧ live m r0.toNat
  · have hb : b = true := hb.mpr hlv0
    subst hb
    obtain ⟨r, rfl⟩ : ∃ r : Nat, r0 = r := ⟨r0.toNat, by omega⟩
    have q := q1 hlv0
    rw [Int.toNat_natCast] at q hlv0
    have hlv := hlv0.2
    clear q1 q2 hb
    have hws := st.sz (by omega) mo
    obtain ⟨g, hg, hglv, hr⟩ := hlv.lt
    obtain ⟨x, dx, hx, ex, hxm⟩ := st.reg hg
    have hml := mo.len
    walk_at "u"
    refine st.fR ?_
    walk_at "u"
    refine r_ixL (SqL.of st.r) (atI_nat (get_refs hx)) ?_
    walk_at "u"
    refine sfield ex (show 4 < 1000 by decide) fun H1 e1 k1 => ?_
    walk_at "u"
    refine sfield e1 (show 4 < 1000 by decide) fun H2 e2 k2 => ?_
    have st2 := st.setG (H' := H2) (g := { g with lv := false, am := 0 }) hx ⟨dx, by rw [e2]; rfl⟩ (fun b hb => by rw [k2 b hb, k1 b hb])
    have f2 : StFr (wl m ++ a :: W :: O :: R :: rs) (wl m ++ a :: W :: O :: R :: rs) H H2 := StFr.keep (x := x) (fun b hb => by rw [k2 b hb, k1 b hb]) (by simp [hxm]) ⟨_, e2⟩
    refine r_cut (fun σ' H' => StX K H' a W O R rs { m with ws := zeroP m.os r m.ws m.os.length, os := m.os.map (giveP r), rg := m.rg.set r { g with lv := false, am := 0 } } ∧ StFr (wl m ++ a :: W :: O :: R :: rs) (wl m ++ a :: W :: O :: R :: rs) H H' ∧ ∃ y3 y4 y5, σ' = [some (.ref a), some (.int r), some (.ref x), y3, y4, y5]) ?_ ?_
    · refine r_for ?_
      walk_at "u"
      refine st2.fO ?_
      walk_at "u"
      refine r_listL (SqL.of st2.o) fun L hL => ?_
      obtain ⟨H3, e3, s3, eL⟩ := lay_new (o := .lst (m.os.map V.int)) hL
      refine (show upd H2 L (.lst (m.os.map V.int)) = H3 from e3) ▸ ?_
      walk_at "u"
      refine ⟨L, _, rfl, SqL.of eL, ?_⟩
      have st3 := st2.same s3
      have hLS : L ∉ wl m ++ a :: W :: O :: R :: rs := st2.new hL
      refine f_enum (xs := m.os.map V.int) (fun k σ' H' => StX K H' a W O R rs { m with ws := zeroP m.os r m.ws k, os := giveN m.os r k, rg := m.rg.set r { g with lv := false, am := 0 } } ∧ StFr (wl m ++ a :: W :: O :: R :: rs) (wl m ++ a :: W :: O :: R :: rs) H3 H' ∧ ∃ y3 y4 y5, σ' = [some (.ref a), some (.int r), some (.ref x), y3, y4, y5]) ⟨?_, StFr.refl, none, none, none, rfl⟩ (fun i σ' H' p => SqL.of (p.2.1.fr _ _ hLS eL)) ?_ ?_
      · unfold giveN
        rw [List.take_zero, List.drop_zero]
        exact st3
      · rintro k xv σ H4 T H5 hk ⟨st4, f4, y3, y4, y5, rfl⟩ hT s5 eT
        have hkl := (List.getElem?_eq_some_iff.mp hk).1
        rw [List.length_map] at hkl
        rw [List.getElem?_map, List.getElem?_eq_getElem hkl] at hk
        cases hk
        have hok : m.os[k]? = some m.os[k] := List.getElem?_eq_getElem hkl
        have st5 := st4.same s5
        have f5 := f4.trans (StFr.same s5)
        have hgl := giveN_len (os := m.os) (r := r) (k := k) (by omega)
        have hzl := zeroP_len (r := (r : Int)) hml k (by omega)
        refine r_pair eT ?_
        walk_at "u"
        refine br_d (fun he => ?_) (fun he => ?_)
        · walk_at "u"
          refine st5.fO ?_
          walk_at "u"
          refine r_setL st5.o (m := k) ?_ ?_
          · unfold ixN
            rw [List.length_map, hgl, if_pos (by omega), if_pos (by omega), Int.toNat_natCast]
          have st6 := st5.setO (os := giveN m.os r (k + 1)) (H' := upd H5 O (.lst (((giveN m.os r k).map V.int).set k (.int (-1))))) (by rw [upd_same, giveN_step hok, if_pos he, List.map_set]) (fun b hb => upd_ne hb)
          have f6 := f5.trans (StFr.upd (x := O) (o := .lst (((giveN m.os r k).map V.int).set k (.int (-1)))) (by simp))
          generalize upd H5 O (.lst (((giveN m.os r k).map V.int).set k (.int (-1)))) = H6 at st6 f6 ⊢
          walk_at "u"
          refine ⟨szl (by simp), fun b hb => ?_⟩
          obtain ⟨H7, e7, s7, eb⟩ := lay_new (o := .lst [.int 0]) hb
          rw [e7]
          walk_at "u"
          refine r_repL (n := 8) eb (by decide) fun p H8 hp8 s8 ep => ?_
          have st8 := st6.same (s7.trans s8)
          walk_at "u"
          refine st8.fW ?_
          walk_at "u"
          refine ⟨W, p, _, _, (k : Int) * 8, (k : Int) * 8 + 8, rfl, rfl, rfl, rfl, st8.w, ep, ne_of_none (s7 _ _ st6.w) hp8, by omega, by omega, by rw [List.length_map]; show _ ≤ (((zeroP m.os r m.ws k).length : Nat) : Int); omega, ?_, ?_⟩
          · rw [List.length_map, List.length_replicate, sizeLine_eq]
            show (zeroP m.os r m.ws k).length + 8 ≤ _
            omega
          have st9 := st8.setW (ws := zeroP m.os r m.ws (k + 1)) (H' := upd H8 W (.lst (((zeroP m.os r m.ws k).map V.int).take ((k : Int) * 8).toNat ++ List.replicate 8 (.int 0) ++ ((zeroP m.os r m.ws k).map V.int).drop ((k : Int) * 8 + 8).toNat))) (by
            rw [upd_same, zeroP, if_pos (by rw [hok, he]), setR_map]
            unfold setR
            rw [show ((k : Int) * 8).toNat = k * 8 by omega, show ((k : Int) * 8 + 8).toNat = k * 8 + 8 by omega]) (fun b hb => upd_ne hb)
          exact ⟨st9, f6.trans ((StFr.same (s7.trans s8)).trans (StFr.upd (x := W) (by simp))), _, _, _, rfl⟩
        · walk_at "u"
          refine ⟨?_, f5, _, _, _, rfl⟩
          rw [giveN_step hok, if_neg he, zeroP, if_neg (by rw [hok]; exact fun z => he (Option.some.inj z))]
          exact st5
      · rintro σ H4 ⟨st4, f4, y3, y4, y5, rfl⟩
        rw [List.length_map] at st4
        refine ⟨?_, f2.trans ((StFr.same s3).trans f4), _, _, _, rfl⟩
        have e : giveN m.os r m.os.length = m.os.map (giveP r) := by
          unfold giveN
          rw [List.take_length, List.drop_length, List.append_nil]
        rw [e] at st4
        exact st4
    rintro σ' H3 ⟨st3, f3, y3, y4, y5, rfl⟩
    walk_at "u"
    refine st3.meth (by decide +kernel) ?_
    walk_at "u"
    refine ⟨a, _, _, "end", r, 0, rfl, ⟨W, O, R, rs, rfl, st3⟩, lz, fun S' H6 st6 f6 => ?_⟩
    walk_at "u"
    have hc : endM m r = addL { m with ws := zeroP m.os r m.ws m.os.length, os := m.os.map (giveP r), rg := m.rg.set r { g with lv := false, am := 0 } } (entry "end" r 0) := by
      unfold endM
      rw [getD_of hg]
    rw [hc] at q
    exact q S' H6 st6 (f3.trans f6)
  · have hb : b = false := by
      cases b with
      | false => rfl
      | true => exact absurd (hb.mp rfl) hlv0
    subst hb
    walk_at "u"
    walk_at "umk"
    intro d hd
    exact q2 hlv0 _ d (Same.refl _) hd
theorem ownerM_in {x : Int} (mo : MOk m) (h : 0 ≤ x ∧ x < m.ws.length) : ∃ o, m.os[(x / 8).toNat]? = some o ∧ ownerM m x = o := by
  have hl := mo.len
  have hi : (x / 8).toNat < m.os.length := by omega
  refine ⟨m.os[(x / 8).toNat], List.getElem?_eq_getElem hi, ?_⟩
  unfold ownerM
  rw [if_pos h, List.getD_eq_getElem?_getD, List.getElem?_eq_getElem hi]
  rfl
theorem ownerM_out {x : Int} (h : ¬ (0 ≤ x ∧ x < m.ws.length)) : ownerM m x = -1 := if_neg h
theorem rd_Store_owner (h : sp_Store_owner K vs H Q E) : t_Store_owner K { nx := fun _ H' => Q .non H', rt := Q } (start n_Store_owner vs) H := by
  obtain ⟨a, S, m, x, rfl, ⟨W, O, R, rs, rfl, st⟩, mo, ⟨hz1, hz2⟩, q⟩ := h
  have hws := st.sz (by omega) mo
  unfold t_Store_owner
  walk_at "ui"
  refine br_d (fun h0 => ?_) (fun h0 => ?_)
  · walk_at "u"
    refine st.fW ?_
    walk_at "u"
    refine r_lenL (SqL.of st.w) ?_
    rw [List.length_map]
    walk_at "u"
    refine br_d (fun h1 => ?_) (fun h1 => ?_)
    · walk_at "u"
      refine st.fO ?_
      obtain ⟨o, ho, e⟩ := ownerM_in mo ⟨h0, h1⟩
      walk_at "u"
      rw [show x / 8 = (((x / 8).toNat : Nat) : Int) by omega]
      refine r_ixL (SqL.of st.o) (atI_nat (get_ints ho)) ?_
      rw [e] at q
      exact q
    · walk_at "u"
      rw [ownerM_out (fun z => h1 z.2)] at q
      exact q
  · walk_at "u"
    rw [ownerM_out (fun z => h0 z.1)] at q
    exact q
theorem rd_Store_read (h : sp_Store_read K vs H Q E) : t_Store_read K { nx := fun _ H' => Q .non H', rt := Q } (start n_Store_read vs) H := by
  obtain ⟨a, S, m, x, rfl, ⟨W, O, R, rs, rfl, st⟩, lz, mo, ⟨hz1, hz2⟩, q⟩ := h
  have hws := st.sz (by omega) mo
  unfold t_Store_read
  walk_at "u"
  refine st.meth (by decide +kernel) ?_
  walk_at "u"
  refine ⟨a, _, m, x, rfl, ⟨W, O, R, rs, rfl, st⟩, mo, ⟨hz1, hz2⟩, ?_⟩
  walk_at "u"
  refine st.meth (by decide +kernel) ?_
  walk_at "u"
  refine ⟨a, _, m, "read", _, x, rfl, ⟨W, O, R, rs, rfl, st⟩, lz, fun S' H1 st1 f1 => ?_⟩
  have hq := q S' H1 st1 f1
  obtain ⟨N, rfl, _⟩ := f1.nw
  obtain ⟨rfl, st1'⟩ := st1.back rfl (by show m.rg.length = _; rw [st.nl])
  walk_at "ui"
  unfold readV at hq
  refine br_d (fun h0 => ?_) (fun h0 => ?_)
  · walk_at "u"
    rw [if_pos h0] at hq
    exact hq
  · walk_at "u"
    rw [if_neg h0] at hq
    by_cases hin : 0 ≤ x ∧ x < m.ws.length
    · refine st1'.fW ?_
      walk_at "u"
      have hi : x.toNat < m.ws.length := by omega
      rw [show x = ((x.toNat : Nat) : Int) by omega]
      refine r_ixL (SqL.of st1'.w) (atI_nat (get_ints (List.getElem?_eq_getElem hi))) ?_
      rw [List.getD_eq_getElem?_getD, List.getElem?_eq_getElem hi] at hq
      exact hq
    · rw [ownerM_out hin] at h0
      omega
theorem rd_Store_write (h : sp_Store_write K vs H Q E) : t_Store_write K { nx := fun _ H' => Q .non H', rt := Q } (start n_Store_write vs) H := by
  obtain ⟨a, S, m, x, y, rfl, ⟨W, O, R, rs, rfl, st⟩, lz, mo, ⟨hz1, hz2⟩, q⟩ := h
  have hws := st.sz (by omega) mo
  unfold t_Store_write
  walk_at "u"
  refine st.meth (by decide +kernel) ?_
  walk_at "u"
  refine ⟨a, _, m, x, rfl, ⟨W, O, R, rs, rfl, st⟩, mo, ⟨hz1, hz2⟩, ?_⟩
  walk_at "u"
  refine st.meth (by decide +kernel) ?_
  walk_at "u"
  refine ⟨a, _, m, "write", _, x, rfl, ⟨W, O, R, rs, rfl, st⟩, lz, fun S' H1 st1 f1 => ?_⟩
  obtain ⟨N, rfl, _⟩ := f1.nw
  obtain ⟨rfl, st1'⟩ := st1.back rfl (by show m.rg.length = _; rw [st.nl])
  rw [List.append_nil] at f1
  walk_at "u"
  refine br_d (fun h0 => ?_) (fun h0 => ?_)
  · walk_at "u"
    by_cases hin : 0 ≤ x ∧ x < m.ws.length
    · refine st1'.fW ?_
      walk_at "u"
      have hi : x.toNat < m.ws.length := by omega
      refine r_setL st1'.w (m := x.toNat) ?_ ?_
      · unfold ixN
        rw [List.length_map, if_pos hin.1, if_pos (by show x < ((m.ws.length : Nat) : Int); exact hin.2)]
      have st2 := st1'.setW (ws := m.ws.set x.toNat y) (H' := upd H1 W (.lst ((m.ws.map V.int).set x.toNat (.int y)))) (by rw [upd_same, List.map_set]) (fun b hb => upd_ne hb)
      refine q _ _ ⟨W, O, R, rs, rfl, ?_⟩ (f1.trans (StFr.upd (x := W) (by simp)))
      have e : writeM m x y = { addL m (entry "write" (ownerM m x) x) with ws := m.ws.set x.toNat y } := by
        unfold writeM
        rw [if_pos h0]
      rw [e]
      exact st2
    · rw [ownerM_out hin] at h0
      omega
  · walk_at "u"
    refine q _ _ ⟨W, O, R, rs, rfl, ?_⟩ f1
    have e : writeM m x y = addL m (entry "write" (ownerM m x) x) := by
      unfold writeM
      rw [if_neg h0]
      rfl
    rw [e]
    exact st1'
end
section
variable {K : PySem.W.Frag} {vs : List V} {H H' H2 : Hp} {Q : VK} {E : XK} {n : Nat} {b o w v s am x : Addr} {ss : List Addr} {m : Mm}
section
variable (h : MdX H b o w v s am ss m)
include h
theorem MdX.ne : o ≠ b ∧ w ≠ b ∧ v ≠ b ∧ s ≠ b ∧ am ≠ b ∧ w ≠ o ∧ v ≠ o ∧ s ≠ o ∧ am ≠ o ∧ v ≠ w ∧ s ≠ w ∧ am ≠ w ∧ s ≠ v ∧ am ≠ v ∧ am ≠ s := by
  have nd := h.nd
  simp only [List.nodup_cons, List.mem_cons, not_or] at nd
  obtain ⟨⟨a1, a2, a3, a4, a5, _⟩, ⟨b1, b2, b3, b4, _⟩, ⟨c1, c2, c3, _⟩, ⟨d1, d2, _⟩, ⟨e1, _⟩, _⟩ := nd
  exact ⟨Ne.symm a1, Ne.symm a2, Ne.symm a3, Ne.symm a4, Ne.symm a5, Ne.symm b1, Ne.symm b2, Ne.symm b3, Ne.symm b4, Ne.symm c1, Ne.symm c2, Ne.symm c3, Ne.symm d1, Ne.symm d2, Ne.symm e1⟩
theorem MdX.nes {y : Addr} (hy : y ∈ ss) : y ≠ b ∧ y ≠ o ∧ y ≠ w ∧ y ≠ v ∧ y ≠ s ∧ y ≠ am := by
  have nd := h.nd
  simp only [List.nodup_cons, List.mem_cons, not_or] at nd
  obtain ⟨⟨_, _, _, _, _, a⟩, ⟨_, _, _, _, b'⟩, ⟨_, _, _, c⟩, ⟨_, _, d⟩, ⟨_, e⟩, f, _⟩ := nd
  exact ⟨fun z => a (z ▸ hy), fun z => b' (z ▸ hy), fun z => c (z ▸ hy), fun z => d (z ▸ hy), fun z => e (z ▸ hy), fun z => f (z ▸ hy)⟩
theorem MdX.same (sm : Same H H') : MdX H' b o w v s am ss m :=
  ⟨sm _ _ h.eb, sm _ _ h.eo, sm _ _ h.ew, sm _ _ h.ev, sm _ _ h.es, sm _ _ h.ea, h.nl, fun i x g e1 e2 => sm _ _ (h.sp i x g e1 e2), h.nd⟩
theorem MdX.setO {os : List Int} (e : H' o = some (.lst (os.map V.int))) (k : ∀ c, c ≠ o → H' c = H c) : MdX H' b o w v s am ss { m with os := os } := by
  obtain ⟨n1, n2, n3, n4, n5, n6, n7, n8, n9, _⟩ := h.ne
  exact ⟨by rw [k _ n1.symm]; exact h.eb, e, by rw [k _ n6]; exact h.ew, by rw [k _ n7]; exact h.ev, by rw [k _ n8]; exact h.es, by rw [k _ n9]; exact h.ea, h.nl, fun i x g e1 e2 => by rw [k _ (h.nes (List.mem_of_getElem? e1)).2.1]; exact h.sp i x g e1 e2, h.nd⟩
theorem MdX.setW {ws : List Int} (e : H' w = some (.lst (ws.map V.int))) (k : ∀ c, c ≠ w → H' c = H c) : MdX H' b o w v s am ss { m with ws := ws } := by
  obtain ⟨n1, n2, n3, n4, n5, n6, n7, n8, n9, m1, m2, m3, _⟩ := h.ne
  exact ⟨by rw [k _ n2.symm]; exact h.eb, by rw [k _ n6.symm]; exact h.eo, e, by rw [k _ m1]; exact h.ev, by rw [k _ m2]; exact h.es, by rw [k _ m3]; exact h.ea, h.nl, fun i x g e1 e2 => by rw [k _ (h.nes (List.mem_of_getElem? e1)).2.2.1]; exact h.sp i x g e1 e2, h.nd⟩
/-- one region's numbers, each in its list -/
theorem MdX.setG {r : Nat} {g g' : Rg} {y : Addr} (hg : m.rg[r]? = some g) (hy : ss[r]? = some y) (ev : H' v = some (.lst ((m.rg.set r g').map fun g => V.bl g.lv))) (ea : H' am = some (.lst ((m.rg.set r g').map fun g => V.int (g.am : Nat))))
    (ey : H' y = some (.lst [.int (g'.pl : Nat), .int (g'.rm : Nat)])) (k : ∀ c, c ≠ v → c ≠ am → c ≠ y → H' c = H c) : MdX H' b o w v s am ss { m with rg := m.rg.set r g' } := by
  obtain ⟨n1, n2, n3, n4, n5, n6, n7, n8, n9, m1, m2, m3, m4, m5, m6⟩ := h.ne
  have hm := h.nes (List.mem_of_getElem? hy)
  refine ⟨?_, ?_, ?_, ev, ?_, ea, by rw [List.length_set]; exact h.nl, fun i x gg e1 e2 => ?_, h.nd⟩
  · rw [k _ n3.symm n5.symm hm.1.symm]; exact h.eb
  · rw [k _ n7.symm n9.symm hm.2.1.symm]; exact h.eo
  · rw [k _ m1.symm m3.symm hm.2.2.1.symm]; exact h.ew
  · rw [k _ m4 m6.symm hm.2.2.2.2.1.symm]; exact h.es
  · have e2 : (m.rg.set r g')[i]? = some gg := e2
    rw [List.getElem?_set] at e2
    by_cases hi : r = i
    · subst hi
      rw [if_pos rfl, if_pos (List.getElem?_eq_some_iff.mp hg).1] at e2
      cases e2
      rw [hy] at e1
      cases e1
      exact ey
    · rw [if_neg hi] at e2
      have hx := h.nes (List.mem_of_getElem? e1)
      rw [k _ hx.2.2.2.1 hx.2.2.2.2.2 (fun z => ?_)]
      · exact h.sp i x gg e1 e2
      · subst z
        have nd := h.nd
        simp only [List.nodup_cons] at nd
        obtain ⟨_, _, _, _, _, _, nd⟩ := nd
        obtain ⟨l1, l1'⟩ := List.getElem?_eq_some_iff.mp e1
        obtain ⟨l2, l2'⟩ := List.getElem?_eq_some_iff.mp hy
        exact hi ((List.getElem_inj nd).mp (l2'.trans l1'.symm))
/-- a part of the model, by its number -/
theorem MdX.ix (i : Nat) (y : V) (e : ([.ref o, .ref w, .ref v, .ref s, .ref am] : List V)[i]? = some y) {Q : VK} (q : Q y H) : uIx K (.ref b) (.int (i : Nat)) H Q := r_ixL (SqL.of h.eb) (atI_nat e) q
end
theorem StFr.mem2 {S : List Addr} {x : Addr} {o : HO} (f : StFr S S H H') (hx : x ∈ S) : StFr S S H (L2.upd H' x o) := f.trans (StFr.upd hx)
theorem ty_lst {p : Addr} {xs : List V} {B : Prop} (e : H p = some (.lst xs)) (q : B) : tyV K "list" (.ref p) H ∧ B := ⟨.inl ⟨rfl, _, SqL.of e⟩, q⟩
theorem rd_l_new (h : sp_l_new K vs H Q E) : t_l_new K { nx := fun _ H' => Q .non H', rt := Q } (start n_l_new vs) H := by
  obtain ⟨rfl, q⟩ := h
  unfold t_l_new
  walk_at "u"
  refine ⟨szl (by simp), fun a1 h1 => ?_⟩
  obtain ⟨H1, e1, s1, l1⟩ := lay_new (o := .lst []) h1
  rw [e1]
  walk_at "u"
  refine ⟨szl (by simp), fun a2 h2 => ?_⟩
  obtain ⟨H2, e2, s2, l2⟩ := lay_new (o := .lst []) h2
  rw [e2]
  walk_at "u"
  refine ⟨szl (by simp), fun a3 h3 => ?_⟩
  obtain ⟨H3, e3, s3, l3⟩ := lay_new (o := .lst []) h3
  rw [e3]
  walk_at "u"
  refine ⟨szl (by simp), fun a4 h4 => ?_⟩
  obtain ⟨H4, e4, s4, l4⟩ := lay_new (o := .lst []) h4
  rw [e4]
  walk_at "u"
  refine ⟨szl (by simp), fun a5 h5 => ?_⟩
  obtain ⟨H5, e5, s5, l5⟩ := lay_new (o := .lst []) h5
  rw [e5]
  walk_at "u"
  refine ⟨szl (by simp), fun a6 h6 => ?_⟩
  obtain ⟨H6, e6, s6, l6⟩ := lay_new (o := .lst [.ref a1, .ref a2, .ref a3, .ref a4, .ref a5]) h6
  rw [e6]
  have s12 := s1.trans s2
  have s13 := s12.trans s3
  have s14 := s13.trans s4
  have s15 := s14.trans s5
  have nn : ∀ {H0 H1 : Hp} {x : Addr}, Same H0 H1 → H1 x = none → H0 x = none := fun {H0 H1 x} sm e => by
    cases h : H0 x with
    | none => rfl
    | some o => rw [sm _ _ h] at e; cases e
  refine q a6 [a6, a1, a2, a3, a4, a5] H6 ⟨a1, a2, a3, a4, a5, [], rfl, l6, s6 _ _ (s5 _ _ (s4 _ _ (s3 _ _ (s2 _ _ l1)))), s6 _ _ (s5 _ _ (s4 _ _ (s3 _ _ l2))), s6 _ _ (s5 _ _ (s4 _ _ l3)), s6 _ _ (s5 _ _ l4), s6 _ _ l5, rfl, (fun i x g e => by simp at e), ?_⟩ (s15.trans s6) (fun x hx => ?_)
  · have d12 := ne_of_none l1 h2
    have d13 := ne_of_none (s2 _ _ l1) h3
    have d14 := ne_of_none (s3 _ _ (s2 _ _ l1)) h4
    have d15 := ne_of_none (s4 _ _ (s3 _ _ (s2 _ _ l1))) h5
    have d16 := ne_of_none (s5 _ _ (s4 _ _ (s3 _ _ (s2 _ _ l1)))) h6
    have d23 := ne_of_none l2 h3
    have d24 := ne_of_none (s3 _ _ l2) h4
    have d25 := ne_of_none (s4 _ _ (s3 _ _ l2)) h5
    have d26 := ne_of_none (s5 _ _ (s4 _ _ (s3 _ _ l2))) h6
    have d34 := ne_of_none l3 h4
    have d35 := ne_of_none (s4 _ _ l3) h5
    have d36 := ne_of_none (s5 _ _ (s4 _ _ l3)) h6
    have d45 := ne_of_none l4 h5
    have d46 := ne_of_none (s5 _ _ l4) h6
    have d56 := ne_of_none l5 h6
    simp only [List.nodup_cons, List.mem_cons, List.not_mem_nil, or_false, not_or, List.nodup_nil, not_false_eq_true, and_true]
    exact ⟨⟨d16.symm, d26.symm, d36.symm, d46.symm, d56.symm⟩, ⟨d12, d13, d14, d15⟩, ⟨d23, d24, d25⟩, ⟨d34, d35⟩, d45⟩
  · simp only [List.mem_cons, List.not_mem_nil, or_false] at hx
    rcases hx with rfl | rfl | rfl | rfl | rfl | rfl
    · exact nn s15 h6
    · exact h1
    · exact nn s1 h2
    · exact nn s12 h3
    · exact nn s13 h4
    · exact nn s14 h5
theorem rd_l_begin (h : sp_l_begin K vs H Q E) : t_l_begin K { nx := fun _ H' => Q .non H', rt := Q } (start n_l_begin vs) H := by
  obtain ⟨b, L, m, rfl, ⟨o, w, v, s, am, ss, rfl, md⟩, hl, q⟩ := h
  have nl := md.nl
  obtain ⟨n1, n2, n3, n4, n5, n6, n7, n8, n9, m1, m2, m3, m4, m5, m6⟩ := md.ne
  unfold t_l_begin
  walk_at "u"
  refine md.ix 2 _ rfl ?_
  refine ty_lst md.ev ?_
  walk_at "u"
  refine r_append md.ev (szt (by rw [List.length_map]; omega)) ?_
  obtain ⟨H1, e1, i1, k1⟩ : ∃ H1, upd H v (.lst (m.rg.map (fun g => V.bl g.lv) ++ [.bl true])) = H1 ∧ H1 v = some (.lst ((m.rg ++ [rg0]).map fun g => V.bl g.lv)) ∧ ∀ c, c ≠ v → H1 c = H c := ⟨_, rfl, by rw [upd_same, List.map_append]; rfl, fun c hc => upd_ne hc⟩
  rw [e1]
  have hb1 : H1 b = some (.lst [.ref o, .ref w, .ref v, .ref s, .ref am]) := by rw [k1 _ n3.symm]; exact md.eb
  have hs1 : H1 s = some (.lst (ss.map V.ref)) := by rw [k1 _ m4]; exact md.es
  walk_at "u"
  refine ⟨szl (by simp), fun y hy => ?_⟩
  obtain ⟨H2, e2, s2, i2⟩ := lay_new (o := .lst [.int 0, .int 0]) hy
  rw [e2]
  walk_at "u"
  refine r_append (s2 _ _ hs1) (szt (by rw [List.length_map]; omega)) ?_
  obtain ⟨H3, e3, i3, k3⟩ : ∃ H3, upd H2 s (.lst (ss.map V.ref ++ [.ref y])) = H3 ∧ H3 s = some (.lst ((ss ++ [y]).map V.ref)) ∧ ∀ c, c ≠ s → H3 c = H2 c := ⟨_, rfl, by rw [upd_same, List.map_append]; rfl, fun c hc => upd_ne hc⟩
  rw [e3]
  have hb3 : H3 b = some (.lst [.ref o, .ref w, .ref v, .ref s, .ref am]) := by rw [k3 _ n4.symm]; exact s2 _ _ hb1
  have ha3 : H3 am = some (.lst (m.rg.map fun g => V.int (g.am : Nat))) := by rw [k3 _ m6]; exact s2 _ _ (by rw [k1 _ m5]; exact md.ea)
  walk_at "u"
  refine r_append ha3 (szt (by rw [List.length_map]; omega)) ?_
  obtain ⟨H4, e4, i4, k4⟩ : ∃ H4, upd H3 am (.lst (m.rg.map (fun g => V.int (g.am : Nat)) ++ [.int 0])) = H4 ∧ H4 am = some (.lst ((m.rg ++ [rg0]).map fun g => V.int (g.am : Nat))) ∧ ∀ c, c ≠ am → H4 c = H3 c := ⟨_, rfl, by rw [upd_same, List.map_append]; rfl, fun c hc => upd_ne hc⟩
  rw [e4]
  have kk : ∀ c z, c ≠ v → c ≠ s → c ≠ am → H c = some z → H4 c = some z := fun c z c1 c2 c3 e => by
    rw [k4 c c3, k3 c c2]
    exact s2 _ _ (by rw [k1 c c1]; exact e)
  have hv4 : H4 v = some (.lst ((m.rg ++ [rg0]).map fun g => V.bl g.lv)) := by rw [k4 _ m5.symm, k3 _ m4.symm]; exact s2 _ _ i1
  have yv : y ≠ v := (ne_of_none i1 hy).symm
  have hyH : H y = none := by rw [← k1 y yv]; exact hy
  have ys : y ≠ s := (ne_of_none md.es hyH).symm
  have ya : y ≠ am := (ne_of_none md.ea hyH).symm
  walk_at "u"
  refine r_ixL (i := 2) (v := .ref v) (SqL.of (kk _ _ n3.symm n4.symm n5.symm md.eb)) rfl ?_
  walk_at "u"
  rw [List.length_map, List.length_append]
  rw [show ((m.rg.length + [rg0].length : Nat) : Int) - 1 = (m.rg.length : Nat) by simp]
  have hyn : y ∉ b :: o :: w :: v :: s :: am :: ss := fun hm => by
    simp only [List.mem_cons] at hm
    rcases hm with z | z | z | z | z | z | z
    · rw [z, md.eb] at hyH; cases hyH
    · rw [z, md.eo] at hyH; cases hyH
    · rw [z, md.ew] at hyH; cases hyH
    · exact yv z
    · exact ys z
    · exact ya z
    · obtain ⟨j, hj⟩ := List.getElem?_of_mem z
      have hjl := (List.getElem?_eq_some_iff.mp hj).1
      rw [nl] at hjl
      have := md.sp j y _ hj (List.getElem?_eq_getElem hjl)
      rw [hyH] at this
      cases this
  refine q (b :: o :: w :: v :: s :: am :: (ss ++ [y])) H4 ⟨o, w, v, s, am, ss ++ [y], rfl, kk _ _ n3.symm n4.symm n5.symm md.eb, kk _ _ n7.symm n8.symm n9.symm md.eo, kk _ _ m1.symm m2.symm m3.symm md.ew, hv4, by rw [k4 _ m6.symm]; exact i3, i4, by rw [List.length_append, List.length_append, nl]; rfl, fun i x g e1 e2 => ?_, ?_⟩ ⟨fun c z hc e => ?_, ⟨[y], by simp, fun x hx => by rw [List.mem_singleton.mp hx]; exact hyH⟩, fun c z e => ?_⟩
  · have e2 : (m.rg ++ [rg0])[i]? = some g := e2
    by_cases hi : i < ss.length
    · rw [List.getElem?_append_left hi] at e1
      rw [List.getElem?_append_left (by rw [← nl]; exact hi)] at e2
      have hx := md.nes (List.mem_of_getElem? e1)
      exact kk _ _ hx.2.2.2.1 hx.2.2.2.2.1 hx.2.2.2.2.2 (md.sp i x g e1 e2)
    · rw [List.getElem?_append_right (by omega)] at e1
      rw [List.getElem?_append_right (by rw [← nl]; omega)] at e2
      rw [nl] at e1
      have hz : i - m.rg.length = 0 := by
        have := (List.getElem?_eq_some_iff.mp e1).1
        simpa using this
      rw [hz] at e1 e2
      cases e1
      cases e2
      rw [k4 _ ya, k3 _ ys]
      exact i2
  · have nd := md.nd
    have : (b :: o :: w :: v :: s :: am :: (ss ++ [y])) = (b :: o :: w :: v :: s :: am :: ss) ++ [y] := by simp
    rw [this]
    refine List.nodup_append.mpr ⟨nd, by simp, fun c hc d hd => ?_⟩
    rw [List.mem_singleton.mp hd]
    exact fun z => hyn (z ▸ hc)
  · simp only [List.mem_cons, not_or] at hc
    exact kk c z hc.2.2.2.1 hc.2.2.2.2.1 hc.2.2.2.2.2.1 e
  · by_cases c1 : c = v
    · rw [c1]; exact ⟨_, hv4⟩
    · by_cases c2 : c = s
      · rw [c2]; exact ⟨_, by rw [k4 _ m6.symm]; exact i3⟩
      · by_cases c3 : c = am
        · rw [c3]; exact ⟨_, i4⟩
        · exact ⟨z, kk c z c1 c2 c3 e⟩
end
section
variable {K : PySem.W.Frag} {vs : List V} {H H' H2 : Hp} {Q : VK} {E : XK} {n : Nat} {b o w v s am x : Addr} {ss L N : List Addr} {m m' : Mm}
theorem MdAt.back (h : MdAt H' b (b :: o :: w :: v :: s :: am :: ss ++ N) m') (hl : m'.rg.length = ss.length) : N = [] ∧ MdX H' b o w v s am ss m' := by
  obtain ⟨o', w', v', s', am', ss', e, md⟩ := h
  have e : b :: o :: w :: v :: s :: am :: (ss ++ N) = b :: o' :: w' :: v' :: s' :: am' :: ss' := e
  injection e with _ z1
  injection z1 with e1 z2
  injection z2 with e2 z3
  injection z3 with e3 z4
  injection z4 with e4 z5
  injection z5 with e5 z6
  subst e1 e2 e3 e4 e5 z6
  have := md.nl
  rw [List.length_append] at this
  have hN : N = [] := List.eq_nil_of_length_eq_zero (by omega)
  subst hN
  rw [List.append_nil] at md
  exact ⟨rfl, md⟩
theorem takeP_le {c : Nat} (hc : 1 ≤ c) : takeP m c ≤ m.os.length := by
  rcases first_is (os := m.os) hc with ⟨z, _⟩ | ⟨z, _⟩
  · unfold takeP; omega
  · unfold takeP; omega
theorem CF.rep {A : Addr} {H0 H : Hp} {x : V} {n : Nat} (c : CF A H0 (List.replicate n x) n H) : H A = some (.lst (List.replicate n x)) := by
  have c' : CF A H0 (List.replicate n x) (List.replicate n x).length H := by rw [List.length_replicate]; exact c
  exact c'.done
theorem rep_take {α : Type} {x : α} {i n : Nat} (h : i < n) : (List.replicate n x)[i]? = some x := by rw [List.getElem?_replicate, if_pos h]
theorem rd_l_pages (h : sp_l_pages K vs H Q E) : t_l_pages K { nx := fun _ H' => Q .non H', rt := Q } (start n_l_pages vs) H := by
  obtain ⟨b, L, m, c, rfl, ⟨o, w, v, s, am, ss, rfl, md⟩, hc, mo, ⟨hz1, hz2⟩, q⟩ := h
  have hml := mo.len
  have hpl := takeP_le (m := m) hc
  unfold t_l_pages
  walk_at "u"
  refine md.ix 0 _ rfl ?_
  walk_at "u"
  refine r_cut (fun σ' H' => Same H H' ∧ takeP m c = m.os.length ∧ ∃ y3 y4 y5, σ' = [some (.ref b), some (.int c), some (.ref o), y3, y4, y5]) ?_ ?_
  · refine r_for ?_
    walk_at "u"
    refine r_lenL (SqL.of md.eo) ?_
    rw [List.length_map]
    walk_at "u"
    refine ⟨by omega, by omega, ?_⟩
    rw [Int.toNat_natCast]
    refine f_range (fun t σ' H' => Same H H' ∧ (∀ p, p < t → ¬ freeAt m.os c p) ∧ ∃ y3 y4 y5, σ' = [some (.ref b), some (.int c), some (.ref o), y3, y4, y5]) ⟨Same.refl _, (fun p hp => by omega), none, none, none, rfl⟩ ?_ ?_
    · rintro t σ H1 ht ⟨s1, hn, y3, y4, y5, rfl⟩
      have md1 := md.same s1
      rw [Int.zero_add]
      walk_at "u"
      refine r_slInts (SqL.of md1.eo) fun l H2 hl s2 el => ?_
      walk_at "u"
      refine ⟨by omega, by omega, ?_⟩
      rw [Int.toNat_natCast]
      intro A hA
      refine c_range (CF A H2 (List.replicate c (V.int (-1)))) (CF.start hA) ?_ ?_
      · intro i H3 hi cf
        refine ⟨rfl, r_yes ?_⟩
        refine br_t ?_
        walk_at "u"
        exact cf.step hA (Same.refl _) (rep_take hi) (by omega)
      · intro H3 cf
        have e3 := cf.rep
        have s13 := s1.trans (s2.trans cf.1)
        walk_at "u"
        refine r_eqInts (SqL.of (cf.1 _ _ el)) (ms := List.replicate c (-1)) (SqL.of (by rw [List.map_replicate]; exact e3)) ?_
        walk_at "u"
        refine br_d (fun hf => ?_) (fun hf => ?_)
        · walk_at "u"
          have hf : freeAt m.os c t := hf
          have hp : takeP m c = t := first_eq hc (.inl ⟨freeAt_le hc hf, hf, fun p hp => hn p hp⟩)
          have hg : growM m c = m := by
            have := freeAt_le hc hf
            unfold growM
            rw [if_neg (by omega), if_neg (by omega)]
          rw [hp, hg] at q
          exact q _ _ ⟨o, w, v, s, am, ss, rfl, md.same s13⟩ (StFr.same s13)
        · walk_at "u"
          refine ⟨s13, fun p hp => ?_, _, _, _, rfl⟩
          by_cases h : p = t
          · rw [h]; exact hf
          · exact hn p (by omega)
    · rintro σ H1 ⟨s1, hn, y3, y4, y5, rfl⟩
      refine ⟨s1, first_eq hc (.inr ⟨rfl, fun p hp => ?_⟩), _, _, _, rfl⟩
      exact hn p (by have := freeAt_le hc hp; omega) hp
  rintro σ' H1 ⟨s1, hp, y3, y4, y5, rfl⟩
  have md1 := md.same s1
  walk_at "u"
  refine r_lenL (SqL.of md1.eo) ?_
  rw [List.length_map]
  walk_at "u"
  refine r_cut (fun σ' H' => MdX H' b o w v s am ss (growM m c) ∧ StFr (b :: o :: w :: v :: s :: am :: ss) (b :: o :: w :: v :: s :: am :: ss) H H' ∧ ∃ y4 y5, σ' = [some (.ref b), some (.int c), some (.ref o), some (.int (m.os.length : Nat)), y4, y5]) ?_ ?_
  · refine r_for ?_
    walk_at "u"
    refine ⟨by omega, by omega, ?_⟩
    rw [Int.toNat_natCast]
    refine f_range (fun t σ' H' => MdX H' b o w v s am ss { m with os := m.os ++ List.replicate t (-1), ws := m.ws ++ List.replicate (t * 8) 0 } ∧ StFr (b :: o :: w :: v :: s :: am :: ss) (b :: o :: w :: v :: s :: am :: ss) H H' ∧ ∃ y4 y5, σ' = [some (.ref b), some (.int c), some (.ref o), some (.int (m.os.length : Nat)), y4, y5]) ⟨?_, StFr.same s1, y4, y5, rfl⟩ ?_ ?_
    · rw [Nat.zero_mul, List.replicate_zero, List.append_nil, List.replicate_zero, List.append_nil]
      exact md1
    · rintro t σ H2 ht ⟨md2, f2, y4, y5, rfl⟩
      have eo2 := md2.eo
      walk_at "u"
      refine r_append eo2 (szt (by rw [List.length_map, List.length_append, List.length_replicate]; omega)) ?_
      have md3 := md2.setO (os := m.os ++ List.replicate (t + 1) (-1)) (H' := upd H2 o (.lst ((m.os ++ List.replicate t (-1)).map V.int ++ [.int (-1)]))) (by
        rw [upd_same, List.replicate_succ', ← List.append_assoc, List.map_append (l₂ := [(-1 : Int)])]; rfl) (fun b hb => upd_ne hb)
      have f3 := f2.trans (StFr.upd (x := o) (o := .lst ((m.os ++ List.replicate t (-1)).map V.int ++ [.int (-1)])) (by simp))
      generalize upd H2 o (.lst ((m.os ++ List.replicate t (-1)).map V.int ++ [.int (-1)])) = H3 at md3 f3 ⊢
      walk_at "u"
      refine md3.ix 1 _ rfl ?_
      refine ty_lst md3.ew ?_
      walk_at "u"
      refine ⟨by decide, by decide, fun A hA => ?_⟩
      refine c_range (CF A H3 (List.replicate 8 (V.int 0))) (CF.start hA) ?_ ?_
      · intro i H4 hi cf
        refine ⟨rfl, r_yes ?_⟩
        refine br_t ?_
        walk_at "u"
        exact cf.step hA (Same.refl _) (rep_take hi) (by omega)
      · intro H4 cf
        have e4 : H4 A = some (.lst (List.replicate 8 (V.int 0))) := cf.rep
        have md4 := md3.same cf.1
        walk_at "u"
        refine ⟨_, _, md4.ew, e4, szl (by rw [List.length_map, List.length_replicate]; show (m.ws ++ List.replicate (t * 8) 0).length + 8 ≤ _; rw [List.length_append, List.length_replicate]; omega), ?_⟩
        have md5 := md4.setW (ws := m.ws ++ List.replicate ((t + 1) * 8) 0) (H' := upd H4 w (.lst ((m.ws ++ List.replicate (t * 8) 0).map V.int ++ List.replicate 8 (.int 0)))) (by
          rw [upd_same, Nat.add_mul, Nat.one_mul, ← List.replicate_append_replicate, ← List.append_assoc, List.map_append (l₂ := List.replicate 8 (0 : Int)), List.map_replicate]) (fun b hb => upd_ne hb)
        exact ⟨md5, f3.trans ((StFr.same cf.1).trans (StFr.upd (x := w) (by simp))), _, _, rfl⟩
    · rintro σ H2 ⟨md2, f2, y4, y5, rfl⟩
      refine ⟨?_, f2, _, _, rfl⟩
      unfold growM
      rw [if_pos hp, if_pos hp]
      exact md2
  rintro σ' H2 ⟨md2, f2, y4, y5, rfl⟩
  walk_at "u"
  rw [hp] at q
  exact q _ _ ⟨o, w, v, s, am, ss, rfl, md2⟩ f2
end
section
variable {K : PySem.W.Frag} {vs : List V} {H H' H2 : Hp} {Q : VK} {E : XK} {n : Nat} {b o w v s am x : Addr} {ss L N : List Addr} {m m' : Mm}
theorem growM_len {c : Nat} (hc : 1 ≤ c) : takeP m c + c ≤ (growM m c).os.length := by
  show takeP m c + c ≤ (if takeP m c = m.os.length then m.os ++ List.replicate c (-1) else m.os).length
  split
  · rename_i h
    rw [List.length_append, List.length_replicate]
    omega
  · rename_i h
    rcases first_is (os := m.os) hc with ⟨z, _⟩ | ⟨z, _⟩
    · exact z
    · exact absurd z h
theorem growM_sz {c : Nat} : (growM m c).os.length ≤ m.os.length + c := by
  show (if takeP m c = m.os.length then m.os ++ List.replicate c (-1) else m.os).length ≤ _
  split
  · rw [List.length_append, List.length_replicate]
    omega
  · omega
theorem rd_l_pages_for (h : sp_l_pages_for K vs H Q E) : t_l_pages_for K { nx := fun _ H' => Q .non H', rt := Q } (start n_l_pages_for vs) H := by
  obtain ⟨b, L, m, r, c, rfl, ⟨o, w, v, s, am, ss, rfl, md⟩, hc, mo, ⟨hz1, hz2⟩, q⟩ := h
  have nl := md.nl
  unfold t_l_pages_for
  walk_at "u"
  refine ⟨b, _, m, c, rfl, ⟨o, w, v, s, am, ss, rfl, md⟩, hc, mo, ⟨hz1, hz2⟩, fun L' H1 md1 f1 => ?_⟩
  obtain ⟨N, rfl, _⟩ := f1.nw
  obtain ⟨rfl, md1'⟩ := md1.back (by show m.rg.length = _; omega)
  clear md1
  rw [List.append_nil] at f1
  have hgl := growM_len (m := m) hc
  have hgs := growM_sz (m := m) (c := c)
  walk_at "u"
  refine r_cut (fun σ' H' => MdX H' b o w v s am ss (takeM m c r) ∧ StFr (b :: o :: w :: v :: s :: am :: ss) (b :: o :: w :: v :: s :: am :: ss) H H' ∧ ∃ y4, σ' = [some (.ref b), some (.int r), some (.int c), some (.int (takeP m c : Nat)), y4]) ?_ ?_
  · refine r_for ?_
    walk_at "u"
    refine ⟨by omega, by omega, ?_⟩
    rw [Int.toNat_natCast]
    refine f_range (fun t σ' H' => MdX H' b o w v s am ss { growM m c with os := setR (growM m c).os (takeP m c) t (r : Int) } ∧ StFr (b :: o :: w :: v :: s :: am :: ss) (b :: o :: w :: v :: s :: am :: ss) H H' ∧ ∃ y4, σ' = [some (.ref b), some (.int r), some (.int c), some (.int (takeP m c : Nat)), y4]) ⟨by rw [setR_zero]; exact md1', f1, none, rfl⟩ ?_ ?_
    · rintro t σ H2 ht ⟨md2, f2, y4, rfl⟩
      have hlen : (setR (growM m c).os (takeP m c) t (r : Int)).length = (growM m c).os.length := setR_len (by omega)
      walk_at "u"
      refine md2.ix 0 _ rfl ?_
      walk_at "u"
      refine r_setL md2.eo (m := takeP m c + t) ?_ ?_
      · unfold ixN
        rw [List.length_map, show ({ growM m c with os := setR (growM m c).os (takeP m c) t (r : Int) } : Mm).os = setR (growM m c).os (takeP m c) t (r : Int) from rfl, hlen, if_pos (by omega), if_pos (by omega)]
        congr 1
        omega
      · refine ⟨?_, f2.trans (StFr.upd (x := o) (by simp)), _, rfl⟩
        exact md2.setO (os := setR (growM m c).os (takeP m c) (t + 1) (r : Int)) (by rw [upd_same, ← setR_step (by omega), List.map_set]) (fun b hb => upd_ne hb)
    · rintro σ H2 ⟨md2, f2, y4, rfl⟩
      exact ⟨md2, f2, _, rfl⟩
  rintro σ' H2 ⟨md2, f2, y4, rfl⟩
  walk_at "u"
  have e : (8 : Int) * (takeP m c : Nat) = ((takeP m c * 8 : Nat) : Int) := by omega
  rw [e]
  exact q _ _ ⟨o, w, v, s, am, ss, rfl, md2⟩ f2
theorem map_set_of {α β : Type} {f : α → β} {xs : List α} {i : Nat} {g : α} {y : β} (h : f g = y) : (xs.set i g).map f = (xs.map f).set i y := by rw [List.map_set, h]
theorem same_set {α β : Type} {f : α → β} {xs : List α} {i : Nat} {g g' : α} (h : xs[i]? = some g) (e : f g' = f g) : (xs.set i g').map f = xs.map f := by
  rw [List.map_set, e]
  exact set_same (by rw [List.getElem?_map, h]; rfl)
theorem MdX.am_ (md : MdX H b o w v s am ss m) {r : Nat} {g : Rg} (hg : m.rg[r]? = some g) (k : Nat) : MdX (upd H am (.lst ((m.rg.map fun g => V.int (g.am : Nat)).set r (.int (k : Nat))))) b o w v s am ss { m with rg := m.rg.set r { g with am := k } } := by
  have hr : r < ss.length := by rw [md.nl]; exact (List.getElem?_eq_some_iff.mp hg).1
  obtain ⟨n1, n2, n3, n4, n5, n6, n7, n8, n9, m1, m2, m3, m4, m5, m6⟩ := md.ne
  have hy := List.getElem?_eq_getElem hr
  refine md.setG hg hy ?_ ?_ ?_ (fun c _ hc _ => upd_ne hc)
  · rw [upd_ne m5.symm, md.ev]
    exact congrArg (fun l => some (HO.lst l)) (same_set (f := fun g => V.bl g.lv) (g' := { g with am := k }) hg rfl).symm
  · rw [upd_same, map_set_of rfl]
  · rw [upd_ne (md.nes (List.getElem_mem hr)).2.2.2.2.2]
    exact md.sp r _ g hy hg
theorem MdX.lv_ (md : MdX H b o w v s am ss m) {r : Nat} {g : Rg} (hg : m.rg[r]? = some g) (k : Bool) : MdX (upd H v (.lst ((m.rg.map fun g => V.bl g.lv).set r (.bl k)))) b o w v s am ss { m with rg := m.rg.set r { g with lv := k } } := by
  have hr : r < ss.length := by rw [md.nl]; exact (List.getElem?_eq_some_iff.mp hg).1
  obtain ⟨n1, n2, n3, n4, n5, n6, n7, n8, n9, m1, m2, m3, m4, m5, m6⟩ := md.ne
  have hy := List.getElem?_eq_getElem hr
  refine md.setG hg hy ?_ ?_ ?_ (fun c hc _ _ => upd_ne hc)
  · rw [upd_same, map_set_of rfl]
  · rw [upd_ne m5, md.ea]
    exact congrArg (fun l => some (HO.lst l)) (same_set (f := fun g => V.int (g.am : Nat)) (g' := { g with lv := k }) hg rfl).symm
  · rw [upd_ne (md.nes (List.getElem_mem hr)).2.2.2.1]
    exact md.sp r _ g hy hg
theorem MdX.sp_ (md : MdX H b o w v s am ss m) {r : Nat} {g : Rg} {y : Addr} (hg : m.rg[r]? = some g) (hy : ss[r]? = some y) (p k : Nat) : MdX (upd H y (.lst [.int (p : Nat), .int (k : Nat)])) b o w v s am ss { m with rg := m.rg.set r { g with pl := p, rm := k } } := by
  have hm := md.nes (List.mem_of_getElem? hy)
  refine md.setG hg hy ?_ ?_ upd_same (fun c _ _ hc => upd_ne hc)
  · rw [upd_ne hm.2.2.2.1.symm, md.ev]
    exact congrArg (fun l => some (HO.lst l)) (same_set (f := fun g => V.bl g.lv) (g' := { g with pl := p, rm := k }) hg rfl).symm
  · rw [upd_ne hm.2.2.2.2.2.symm, md.ea]
    exact congrArg (fun l => some (HO.lst l)) (same_set (f := fun g => V.int (g.am : Nat)) (g' := { g with pl := p, rm := k }) hg rfl).symm
theorem rg_at {r : Nat} {g g' : Rg} {rg : List Rg} (h : rg[r]? = some g) : (rg.set r g')[r]? = some g' := by
  rw [List.getElem?_set, if_pos rfl, if_pos (List.getElem?_eq_some_iff.mp h).1]
/-- what takes pages looks neither at the amounts nor at the places -/
theorem takeM_rg {c r : Nat} {rg : List Rg} : takeM { m with rg := rg } c r = { takeM m c r with rg := rg } := rfl
theorem rd_l_cell (h : sp_l_cell K vs H Q E) : t_l_cell K { nx := fun _ H' => Q .non H', rt := Q } (start n_l_cell vs) H := by
  obtain ⟨b, L, m, r, z, rfl, ⟨o, w, v, s, am, ss, rfl, md⟩, hr, hw, mo, ⟨hz1, hz2⟩, q⟩ := h
  have nl := md.nl
  have hml := mo.len
  obtain ⟨n1, n2, n3, n4, n5, n6, n7, n8, n9, m1, m2, m3, m4, m5, m6⟩ := md.ne
  have hg : m.rg[r]? = some m.rg[r] := List.getElem?_eq_getElem hr
  generalize m.rg[r] = g at hg
  have hr2 : r < ss.length := by rw [nl]; exact hr
  have hy : ss[r]? = some ss[r] := List.getElem?_eq_getElem hr2
  have hym : ss[r] ∈ ss := List.getElem_mem hr2
  generalize ss[r] = y at hy hym
  obtain ⟨hin, hin2, hrg, hlg⟩ := spotM_in (w := z) mo hg hw
  have hc : cellL m r z = ({ (spotM m r z g).1 with ws := if 8 < z then (spotM m r z g).1.ws else setR (spotM m r z g).1.ws (spotM m r z g).2.1 z 0, rg := (spotM m r z g).1.rg.set r { (spotM m r z g).2.2 with am := (spotM m r z g).2.2.am + z } }, (spotM m r z g).2.1) := by
    unfold cellL
    rw [getD_of hg]
  rw [hc] at q
  unfold t_l_cell
  walk_at "u"
  refine md.ix 3 _ rfl ?_
  walk_at "u"
  refine r_ixL (SqL.of md.es) (atI_nat (get_refs hy)) ?_
  walk_at "u"
  refine md.ix 4 _ rfl ?_
  walk_at "u"
  refine r_ixL (SqL.of md.ea) (atI_nat (by rw [List.getElem?_map, hg]; rfl)) ?_
  walk_at "u"
  refine md.ix 4 _ rfl ?_
  walk_at "u"
  refine r_setL md.ea (m := r) ?_ ?_
  · unfold ixN
    rw [List.length_map, if_pos (by omega), if_pos (by omega), Int.toNat_natCast]
  rw [show (g.am : Int) + z = ((g.am + z : Nat) : Int) by omega]
  have md1 := md.am_ hg (g.am + z)
  have f1 : StFr (b :: o :: w :: v :: s :: am :: ss) (b :: o :: w :: v :: s :: am :: ss) H (upd H am (.lst ((m.rg.map fun g => V.int (g.am : Nat)).set r (.int ((g.am + z : Nat) : Int))))) := StFr.upd (x := am) (by simp)
  generalize upd H am (.lst ((m.rg.map fun g => V.int (g.am : Nat)).set r (.int ((g.am + z : Nat) : Int)))) = H1 at md1 f1 ⊢
  have mo1 : ∀ rg' : List Rg, (∀ x ∈ rg', ∃ y ∈ m.rg, x.pl = y.pl ∧ x.rm = y.rm) → MOk { m with rg := rg' } := fun rg' hh => ⟨mo.len, fun x hx => by
    obtain ⟨y, h1, h2, h3⟩ := hh x hx
    rw [h2, h3]
    exact mo.sp y h1⟩
  have hset : ∀ x ∈ m.rg.set r { g with am := g.am + z }, ∃ y ∈ m.rg, x.pl = y.pl ∧ x.rm = y.rm := fun x hx => by
    rcases List.mem_or_eq_of_mem_set hx with h | h
    · exact ⟨x, h, rfl, rfl⟩
    · exact ⟨g, List.mem_of_getElem? hg, by rw [h], by rw [h]⟩
  walk_at "ui"
  refine br_d (fun h8 => ?_) (fun h8 => ?_)
  · have h8 : 8 < z := by omega
    have e : spotM m r z g = (takeM m ((z + 7) / 8) r, takeP m ((z + 7) / 8) * 8, g) := by
      unfold spotM
      rw [if_pos h8]
    rw [e, if_pos h8] at q
    walk_at "u"
    rw [show ((z : Int) + 7) / 8 = (((z + 7) / 8 : Nat) : Int) by omega]
    refine ⟨b, _, _, r, (z + 7) / 8, rfl, ⟨o, w, v, s, am, ss, rfl, md1⟩, by omega, mo1 _ hset, ⟨by show m.os.length + _ ≤ _; omega, by show (m.rg.set r _).length + _ ≤ _; rw [List.length_set]; omega⟩, fun L' H2 md2 f2 => ?_⟩
    obtain ⟨N, rfl, _⟩ := f2.nw
    obtain ⟨rfl, md2'⟩ := md2.back (by show (m.rg.set r _).length = _; rw [List.length_set]; omega)
    rw [List.append_nil] at f2
    exact q _ _ ⟨o, w, v, s, am, ss, rfl, md2'⟩ (f1.trans f2)
  have h8 : ¬ 8 < z := by omega
  rw [if_neg h8] at q
  -- the place and the room of small cells
  refine r_cut (fun σ' H' => ∃ g1 : Rg, MdX H' b o w v s am ss { (spotM m r z g).1 with rg := m.rg.set r { g1 with am := g.am + z } } ∧ StFr (b :: o :: w :: v :: s :: am :: ss) (b :: o :: w :: v :: s :: am :: ss) H H' ∧ g1.pl = (spotM m r z g).2.1 ∧ z ≤ g1.rm ∧ { g1 with pl := g1.pl + z, rm := g1.rm - z } = (spotM m r z g).2.2 ∧ g1.am = g.am ∧ σ' = [some (.ref b), some (.int r), some (.int z), some (.ref y), none, none]) ?_ ?_
  · have ey1 := md1.sp r y _ hy (rg_at hg)
    walk_at "u"
    refine br_d (fun hr => ?_) (fun hr => ?_)
    · have hr : g.rm < z := by
        have hr : ((g.rm : Nat) : Int) < z := hr
        omega
      have e : spotM m r z g = (takeM m 1 r, takeP m 1 * 8, { g with pl := takeP m 1 * 8 + z, rm := 8 - z }) := by
        unfold spotM
        rw [if_neg h8, if_pos hr]
      rw [e]
      walk_at "u"
      refine ⟨b, _, _, r, 1, rfl, ⟨o, w, v, s, am, ss, rfl, md1⟩, by omega, mo1 _ hset, ⟨by show m.os.length + _ ≤ _; omega, by show (m.rg.set r _).length + _ ≤ _; rw [List.length_set]; omega⟩, fun L' H2 md2 f2 => ?_⟩
      obtain ⟨N, rfl, _⟩ := f2.nw
      obtain ⟨rfl, md2'⟩ := md2.back (by show (m.rg.set r _).length = _; rw [List.length_set]; omega)
      rw [List.append_nil] at f2
      clear md2
      have ey2 := md2'.sp r y _ hy (rg_at hg)
      walk_at "u"
      rw [upd_upd]
      have md3 := md2'.sp_ (rg_at hg) hy (takeP m 1 * 8) 8
      have er : (takeM { m with rg := m.rg.set r { g with am := g.am + z } } 1 r).rg.set r { g with am := g.am + z, pl := takeP m 1 * 8, rm := 8 } = m.rg.set r { g with am := g.am + z, pl := takeP m 1 * 8, rm := 8 } := by
        show (m.rg.set r { g with am := g.am + z }).set r _ = _
        rw [set_set]
      have md3 : MdX (upd H2 y (.lst [.int ((takeP m 1 * 8 : Nat) : Int), .int ((8 : Nat) : Int)])) b o w v s am ss { takeM { m with rg := m.rg.set r { g with am := g.am + z } } 1 r with rg := (takeM { m with rg := m.rg.set r { g with am := g.am + z } } 1 r).rg.set r { g with am := g.am + z, pl := takeP m 1 * 8, rm := 8 } } := md3
      rw [er] at md3
      exact ⟨{ g with pl := takeP m 1 * 8, rm := 8 }, md3, f1.trans (f2.trans (StFr.upd (x := y) (by simp [hym]))), rfl, by show z ≤ 8; omega, rfl, rfl, rfl⟩
    · have hr : ¬ g.rm < z := by
        have hr : ¬ ((g.rm : Nat) : Int) < z := hr
        omega
      have e : spotM m r z g = (m, g.pl, { g with pl := g.pl + z, rm := g.rm - z }) := by
        unfold spotM
        rw [if_neg h8, if_neg hr]
      rw [e]
      walk_at "u"
      exact ⟨g, md1, f1, rfl, by omega, rfl, rfl, rfl⟩
  rintro σ' H2 ⟨g1, md2, f2, hpl, hrm, hg1, hga, rfl⟩
  have hg2 : ({ (spotM m r z g).1 with rg := m.rg.set r { g1 with am := g.am + z } } : Mm).rg[r]? = some { g1 with am := g.am + z } := rg_at hg
  have ey2 := md2.sp r y _ hy hg2
  have ey2 : H2 y = some (.lst [.int (g1.pl : Nat), .int (g1.rm : Nat)]) := ey2
  walk_at "u"
  obtain ⟨H3, e3, i3⟩ : ∃ H3, upd (upd H2 y (.lst [.int ((g1.pl : Int) + z), .int (g1.rm : Nat)])) y (.lst [.int ((g1.pl : Int) + z), .int ((g1.rm : Int) - z)]) = H3 ∧ H3 = upd H2 y (.lst [.int ((g1.pl + z : Nat) : Int), .int ((g1.rm - z : Nat) : Int)]) := ⟨_, rfl, by rw [upd_upd, Int.natCast_add, Int.natCast_sub hrm]⟩
  show uIx K (.ref b) (.int 1) (upd (upd H2 y (.lst [.int ((g1.pl : Int) + z), .int (g1.rm : Nat)])) y (.lst [.int ((g1.pl : Int) + z), .int ((g1.rm : Int) - z)])) _
  rw [e3]
  have md3 : MdX H3 b o w v s am ss { (spotM m r z g).1 with rg := ((m.rg.set r { g1 with am := g.am + z }).set r { g1 with am := g.am + z, pl := g1.pl + z, rm := g1.rm - z }) } := by
    rw [i3]
    exact md2.sp_ hg2 hy (g1.pl + z) (g1.rm - z)
  have f3 : StFr (b :: o :: w :: v :: s :: am :: ss) (b :: o :: w :: v :: s :: am :: ss) H H3 := by
    rw [i3]
    exact f2.trans (StFr.upd (x := y) (by simp [hym]))
  have eg : (m.rg.set r { g1 with am := g.am + z }).set r { g1 with am := g.am + z, pl := g1.pl + z, rm := g1.rm - z } = (spotM m r z g).1.rg.set r { (spotM m r z g).2.2 with am := (spotM m r z g).2.2.am + z } := by
    rw [set_set, hrg, ← hg1]
    show m.rg.set r _ = m.rg.set r { lv := g1.lv, am := g1.am + z, pl := g1.pl + z, rm := g1.rm - z }
    rw [hga]
  rw [eg] at md3
  have ey3 : H3 y = some (.lst [.int ((g1.pl + z : Nat) : Int), .int ((g1.rm - z : Nat) : Int)]) := by rw [i3]; exact upd_same
  clear i3 e3
  generalize hsp : spotM m r z g = sp at md3 hin hin2 hrg hpl q
  obtain ⟨m1', ad, g2⟩ := sp
  have hpl : g1.pl = ad := hpl
  subst hpl
  have hin : g1.pl + z ≤ m1'.ws.length := hin
  have hin2 : m1'.ws.length ≤ m.ws.length + (z + 15) := hin2
  refine md3.ix 1 _ rfl ?_
  walk_at "u"
  refine r_cut (fun σ' H' => MdX H' b o w v s am ss { m1' with ws := setR m1'.ws g1.pl z 0, rg := m1'.rg.set r { g2 with am := g2.am + z } } ∧ StFr (b :: o :: w :: v :: s :: am :: ss) (b :: o :: w :: v :: s :: am :: ss) H H' ∧ ∃ y5, σ' = [some (.ref b), some (.int r), some (.int z), some (.ref y), some (.ref w), y5]) ?_ ?_
  · refine r_for ?_
    walk_at "u"
    refine ⟨⟨by omega, by omega, by omega, by omega⟩, ?_⟩
    rw [show ((g1.pl + z : Nat) : Int) - ((g1.pl + z : Nat) - (z : Int)) = (z : Nat) by omega, Int.toNat_natCast, show ((g1.pl + z : Nat) : Int) - (z : Int) = (g1.pl : Nat) by omega]
    refine f_range (fun t σ' H' => MdX H' b o w v s am ss { m1' with ws := setR m1'.ws g1.pl t 0, rg := m1'.rg.set r { g2 with am := g2.am + z } } ∧ StFr (b :: o :: w :: v :: s :: am :: ss) (b :: o :: w :: v :: s :: am :: ss) H H' ∧ ∃ y5, σ' = [some (.ref b), some (.int r), some (.int z), some (.ref y), some (.ref w), y5]) ⟨by rw [setR_zero]; exact md3, f3, none, rfl⟩ ?_ ?_
    · rintro t σ H4 ht ⟨md4, f4, y5, rfl⟩
      have hlen : (setR m1'.ws g1.pl t (0 : Int)).length = m1'.ws.length := setR_len (by omega)
      walk_at "u"
      refine r_setL md4.ew (m := g1.pl + t) ?_ ?_
      · unfold ixN
        rw [List.length_map, show ({ m1' with ws := setR m1'.ws g1.pl t 0, rg := m1'.rg.set r { g2 with am := g2.am + z } } : Mm).ws = setR m1'.ws g1.pl t 0 from rfl, hlen, if_pos (by omega), if_pos (by omega)]
        congr 1
      · refine ⟨?_, f4.trans (StFr.upd (x := w) (by simp)), _, rfl⟩
        exact md4.setW (ws := setR m1'.ws g1.pl (t + 1) 0) (by rw [upd_same, ← setR_step (by omega), List.map_set]) (fun b hb => upd_ne hb)
    · rintro σ H4 ⟨md4, f4, y5, rfl⟩
      exact ⟨md4, f4, _, rfl⟩
  rintro σ' H4 ⟨md4, f4, y5, rfl⟩
  have ey4 : H4 y = some (.lst [.int ((g1.pl + z : Nat) : Int), .int ((g1.rm - z : Nat) : Int)]) := by
    have hgr : (m1'.rg.set r { g2 with am := g2.am + z })[r]? = some { g2 with am := g2.am + z } := rg_at (show m1'.rg[r]? = some g by rw [show m1'.rg = m.rg from hrg]; exact hg)
    have := md4.sp r y _ hy hgr
    rw [this]
    have e2 : g2 = { g1 with pl := g1.pl + z, rm := g1.rm - z } := by
      rw [hsp] at hg1
      exact hg1.symm
    rw [e2]
  walk_at "u"
  rw [show ((g1.pl + z : Nat) : Int) - (z : Int) = (g1.pl : Nat) by omega]
  exact q _ _ ⟨o, w, v, s, am, ss, rfl, md4⟩ f4
theorem rd_l_end (h : sp_l_end K vs H Q E) : t_l_end K { nx := fun _ H' => Q .non H', rt := Q } (start n_l_end vs) H := by
  obtain ⟨b, L, m, r, rfl, ⟨o, w, v, s, am, ss, rfl, md⟩, hr, mo, ⟨hz1, hz2⟩, q⟩ := h
  have nl := md.nl
  have hml := mo.len
  have hg : m.rg[r]? = some m.rg[r] := List.getElem?_eq_getElem hr
  generalize m.rg[r] = g at hg
  have hc : endL m r = { m with ws := zeroP m.os r m.ws m.os.length, os := m.os.map (giveP r), rg := m.rg.set r { g with lv := false } } := by
    unfold endL
    rw [getD_of hg]
  rw [hc] at q
  unfold t_l_end
  walk_at "u"
  refine md.ix 2 _ rfl ?_
  walk_at "u"
  refine r_setL md.ev (m := r) ?_ ?_
  · unfold ixN
    rw [List.length_map, if_pos (by omega), if_pos (by omega), Int.toNat_natCast]
  have md1 := md.lv_ hg false
  have f1 : StFr (b :: o :: w :: v :: s :: am :: ss) (b :: o :: w :: v :: s :: am :: ss) H (upd H v (.lst ((m.rg.map fun g => V.bl g.lv).set r (.bl false)))) := StFr.upd (x := v) (by simp)
  generalize upd H v (.lst ((m.rg.map fun g => V.bl g.lv).set r (.bl false))) = H1 at md1 f1 ⊢
  refine r_for ?_
  walk_at "u"
  refine md1.ix 0 _ rfl ?_
  walk_at "u"
  refine r_lenL (xs := m.os.map V.int) (SqL.of md1.eo) ?_
  rw [List.length_map]
  walk_at "u"
  refine ⟨by omega, by omega, ?_⟩
  rw [Int.toNat_natCast]
  refine f_range (fun k σ' H' => MdX H' b o w v s am ss { m with ws := zeroP m.os r m.ws k, os := giveN m.os r k, rg := m.rg.set r { g with lv := false } } ∧ StFr (b :: o :: w :: v :: s :: am :: ss) (b :: o :: w :: v :: s :: am :: ss) H H' ∧ ∃ y2 y3, σ' = [some (.ref b), some (.int r), y2, y3]) ⟨?_, f1, none, none, rfl⟩ ?_ ?_
  · unfold giveN
    rw [List.take_zero, List.drop_zero]
    exact md1
  · rintro k σ H2 hk ⟨md2, f2, y2, y3, rfl⟩
    have hok : m.os[k]? = some m.os[k] := List.getElem?_eq_getElem hk
    have hgl := giveN_len (os := m.os) (r := r) (k := k) (by omega)
    have hzl := zeroP_len (r := (r : Int)) hml k (by omega)
    have hgk : (giveN m.os r k)[k]? = some m.os[k] := by
      unfold giveN
      rw [List.getElem?_append_right (by rw [List.length_map, List.length_take]; omega), List.length_map, List.length_take, Nat.min_eq_left (by omega), Nat.sub_self, List.getElem?_drop, Nat.add_zero]
      exact hok
    rw [Int.zero_add]
    walk_at "u"
    refine md2.ix 0 _ rfl ?_
    walk_at "u"
    refine r_ixL (SqL.of md2.eo) (atI_nat (get_ints hgk)) ?_
    walk_at "u"
    refine br_d (fun he => ?_) (fun he => ?_)
    · walk_at "u"
      refine md2.ix 0 _ rfl ?_
      walk_at "u"
      refine r_setL md2.eo (m := k) ?_ ?_
      · unfold ixN
        rw [List.length_map, show ({ m with ws := zeroP m.os r m.ws k, os := giveN m.os r k, rg := m.rg.set r { g with lv := false } } : Mm).os = giveN m.os r k from rfl, hgl, if_pos (by omega), if_pos (by omega), Int.toNat_natCast]
      have md3 := md2.setO (os := giveN m.os r (k + 1)) (H' := upd H2 o (.lst (((giveN m.os r k).map V.int).set k (.int (-1))))) (by rw [upd_same, giveN_step hok, if_pos he, List.map_set]) (fun b hb => upd_ne hb)
      have f3 := f2.trans (StFr.upd (x := o) (o := .lst (((giveN m.os r k).map V.int).set k (.int (-1)))) (by simp))
      generalize upd H2 o (.lst (((giveN m.os r k).map V.int).set k (.int (-1)))) = H3 at md3 f3 ⊢
      refine r_for ?_
      walk_at "u"
      refine ⟨by decide, by decide, ?_⟩
      refine f_range (n := 8) (fun t σ' H' => MdX H' b o w v s am ss { m with ws := setR (zeroP m.os r m.ws k) (k * 8) t 0, os := giveN m.os r (k + 1), rg := m.rg.set r { g with lv := false } } ∧ StFr (b :: o :: w :: v :: s :: am :: ss) (b :: o :: w :: v :: s :: am :: ss) H H' ∧ ∃ y3, σ' = [some (.ref b), some (.int r), some (.int (k : Nat)), y3]) ⟨by rw [setR_zero]; exact md3, f3, y3, rfl⟩ ?_ ?_
      · rintro t σ H4 ht ⟨md4, f4, y3, rfl⟩
        have hlen : (setR (zeroP m.os r m.ws k) (k * 8) t (0 : Int)).length = (zeroP m.os r m.ws k).length := setR_len (by omega)
        walk_at "u"
        refine md4.ix 1 _ rfl ?_
        walk_at "u"
        refine r_setL md4.ew (m := k * 8 + t) ?_ ?_
        · unfold ixN
          rw [List.length_map, show ({ m with ws := setR (zeroP m.os r m.ws k) (k * 8) t 0, os := giveN m.os r (k + 1), rg := m.rg.set r { g with lv := false } } : Mm).ws = setR (zeroP m.os r m.ws k) (k * 8) t 0 from rfl, hlen, if_pos (by omega), if_pos (by omega)]
          congr 1
          omega
        · refine ⟨?_, f4.trans (StFr.upd (x := w) (by simp)), _, rfl⟩
          exact md4.setW (ws := setR (zeroP m.os r m.ws k) (k * 8) (t + 1) 0) (by rw [upd_same, ← setR_step (by omega), List.map_set]) (fun b hb => upd_ne hb)
      · rintro σ H4 ⟨md4, f4, y3, rfl⟩
        refine ⟨?_, f4, _, _, rfl⟩
        rw [zeroP, if_pos (by rw [hok, he])]
        exact md4
    · walk_at "u"
      refine ⟨?_, f2, _, _, rfl⟩
      rw [giveN_step hok, if_neg he, zeroP, if_neg (by rw [hok]; exact fun z => he (Option.some.inj z))]
      exact md2
  · rintro σ H2 ⟨md2, f2, y2, y3, rfl⟩
    have e : giveN m.os r m.os.length = m.os.map (giveP r) := by
      unfold giveN
      rw [List.take_length, List.drop_length, List.append_nil]
    rw [e] at md2
    exact q _ _ ⟨o, w, v, s, am, ss, rfl, md2⟩ f2
end
/-! ### the store and the law's model, side by side -/
section
variable {m m2 m' : Mm} {r w : Nat} {g g2 : Rg} {rows : List (Nat × Int)}
/-- what both have alike -/
structure Rel (m m2 : Mm) (r : Nat) : Prop where
  os : m.os = m2.os
  ws : m.ws.length = m2.ws.length
  rg : m.rg.length = m2.rg.length
  sp : ∀ g g2, m.rg[r]? = some g → m2.rg[r]? = some g2 → g.pl = g2.pl ∧ g.rm = g2.rm
theorem takeP_os (h : m.os = m2.os) (c : Nat) : takeP m c = takeP m2 c := by unfold takeP; rw [h]
theorem takeM_os (h : m.os = m2.os) (c r : Nat) : (takeM m c r).os = (takeM m2 c r).os := by
  show setR (if takeP m c = m.os.length then m.os ++ List.replicate c (-1) else m.os) (takeP m c) c (r : Int) = setR (if takeP m2 c = m2.os.length then m2.os ++ List.replicate c (-1) else m2.os) (takeP m2 c) c (r : Int)
  rw [takeP_os h, h]
theorem takeM_wl (h : m.os = m2.os) (hw : m.ws.length = m2.ws.length) (c r : Nat) : (takeM m c r).ws.length = (takeM m2 c r).ws.length := by
  show (if takeP m c = m.os.length then m.ws ++ List.replicate (c * 8) 0 else m.ws).length = (if takeP m2 c = m2.os.length then m2.ws ++ List.replicate (c * 8) 0 else m2.ws).length
  rw [takeP_os h, h]
  split
  · rw [List.length_append, List.length_append, hw]
  · exact hw
theorem spot_rel (h : Rel m m2 r) (hg : m.rg[r]? = some g) (hg2 : m2.rg[r]? = some g2) : (spotM m r w g).1.os = (spotM m2 r w g2).1.os ∧ (spotM m r w g).1.ws.length = (spotM m2 r w g2).1.ws.length ∧ (spotM m r w g).2.1 = (spotM m2 r w g2).2.1 ∧
    (spotM m r w g).2.2.pl = (spotM m2 r w g2).2.2.pl ∧ (spotM m r w g).2.2.rm = (spotM m2 r w g2).2.2.rm ∧ (spotM m r w g).1.rg = m.rg ∧ (spotM m2 r w g2).1.rg = m2.rg := by
  obtain ⟨e1, e2⟩ := h.sp g g2 hg hg2
  unfold spotM
  by_cases h8 : 8 < w
  · rw [if_pos h8, if_pos h8]
    exact ⟨takeM_os h.os _ _, takeM_wl h.os h.ws _ _, by show takeP m _ * 8 = takeP m2 _ * 8; rw [takeP_os h.os], e1, e2, rfl, rfl⟩
  · rw [if_neg h8, if_neg h8, e2]
    split
    · exact ⟨takeM_os h.os _ _, takeM_wl h.os h.ws _ _, by show takeP m _ * 8 = takeP m2 _ * 8; rw [takeP_os h.os], by show takeP m _ * 8 + w = takeP m2 _ * 8 + w; rw [takeP_os h.os], rfl, rfl, rfl⟩
    · exact ⟨h.os, h.ws, e1, by show g.pl + w = g2.pl + w; rw [e1], rfl, rfl, rfl⟩
theorem cell_rel (h : Rel m m2 r) (mo : MOk m) (mo2 : MOk m2) (hr : r < m.rg.length) (hw : 1 ≤ w) : (cellM m r w).2 = (cellL m2 r w).2 ∧ Rel (cellM m r w).1 (cellL m2 r w).1 r := by
  have hr2 : r < m2.rg.length := by rw [← h.rg]; exact hr
  have hg := List.getElem?_eq_getElem hr
  have hg2 := List.getElem?_eq_getElem hr2
  generalize m.rg[r] = g at hg
  generalize m2.rg[r] = g2 at hg2
  obtain ⟨a1, a2, a3, a4, a5, a6, a7⟩ := spot_rel (w := w) h hg hg2
  have i1 := (spotM_in mo hg hw).1
  have i2 := (spotM_in mo2 hg2 hw).1
  have e1 : cellM m r w = (addL { (spotM m r w g).1 with ws := setR (spotM m r w g).1.ws (spotM m r w g).2.1 w 0, rg := (spotM m r w g).1.rg.set r { (spotM m r w g).2.2 with am := (spotM m r w g).2.2.am + w } } (entry "cell" r (spotM m r w g).2.1), (spotM m r w g).2.1) := by
    unfold cellM
    rw [getD_of hg]
  have e2 : cellL m2 r w = ({ (spotM m2 r w g2).1 with ws := if 8 < w then (spotM m2 r w g2).1.ws else setR (spotM m2 r w g2).1.ws (spotM m2 r w g2).2.1 w 0, rg := (spotM m2 r w g2).1.rg.set r { (spotM m2 r w g2).2.2 with am := (spotM m2 r w g2).2.2.am + w } }, (spotM m2 r w g2).2.1) := by
    unfold cellL
    rw [getD_of hg2]
  rw [e1, e2]
  refine ⟨a3, a1, ?_, ?_, fun u u2 hu hu2 => ?_⟩
  · show (setR (spotM m r w g).1.ws (spotM m r w g).2.1 w 0).length = (if 8 < w then (spotM m2 r w g2).1.ws else setR (spotM m2 r w g2).1.ws (spotM m2 r w g2).2.1 w 0).length
    rw [setR_len i1]
    split
    · exact a2
    · rw [setR_len i2]; exact a2
  · show ((spotM m r w g).1.rg.set r _).length = ((spotM m2 r w g2).1.rg.set r _).length
    rw [List.length_set, List.length_set, a6, a7, h.rg]
  · have hu : ((spotM m r w g).1.rg.set r { (spotM m r w g).2.2 with am := (spotM m r w g).2.2.am + w })[r]? = some u := hu
    have hu2 : ((spotM m2 r w g2).1.rg.set r { (spotM m2 r w g2).2.2 with am := (spotM m2 r w g2).2.2.am + w })[r]? = some u2 := hu2
    rw [List.getElem?_set, if_pos rfl, a6, if_pos hr] at hu
    rw [List.getElem?_set, if_pos rfl, a7, if_pos hr2] at hu2
    cases hu
    cases hu2
    exact ⟨a4, a5⟩
/-- the rows that were written stand, apart from where small cells go -/
structure Good (m : Mm) (r : Nat) (rows : List (Nat × Int)) : Prop where
  ok : MOk m
  lv : live m r
  log : m.log = none
  own : ∀ p ∈ rows, m.os[p.1 / 8]? = some (r : Int) ∧ m.ws[p.1]? = some p.2
  sp : ∀ g, m.rg[r]? = some g → (∀ p ∈ rows, ¬ (g.pl ≤ p.1 ∧ p.1 < g.pl + g.rm)) ∧ ∀ i, g.pl ≤ i → i < g.pl + g.rm → m.os[i / 8]? = some (r : Int)
/-- a new cell's words, k of them written -/
structure CellS (m : Mm) (r : Nat) (rows : List (Nat × Int)) (ad w k : Nat) : Prop where
  le : ad + w ≤ m.ws.length
  own : ∀ j, j < w → m.os[(ad + j) / 8]? = some (r : Int) ∧ (k ≤ j → m.ws[ad + j]? = some 0)
  sp : ∀ g, m.rg[r]? = some g → ∀ j, j < w → ¬ (g.pl ≤ ad + j ∧ ad + j < g.pl + g.rm)
  rows : ∀ p ∈ rows, ¬ (ad + k ≤ p.1 ∧ p.1 < ad + w)
theorem addL_same {d : D} : (addL m d).ws = m.ws ∧ (addL m d).os = m.os ∧ (addL m d).rg = m.rg := ⟨rfl, rfl, rfl⟩
theorem free_get {os : List Int} {c p i : Nat} (h : freeAt os c p) (h1 : p ≤ i) (h2 : i < p + c) : os[i]? = some (-1) := by
  unfold freeAt at h
  have e : ((os.drop p).take c)[i - p]? = some (-1) := by rw [h, List.getElem?_replicate, if_pos (by omega)]
  rw [List.getElem?_take, if_pos (by omega), List.getElem?_drop] at e
  rw [show p + (i - p) = i by omega] at e
  exact e
/-- pages that were somebody's stay his; new ones were nobody's -/
theorem take_old {c i : Nat} {x : Int} (hc : 1 ≤ c) (hx : x ≠ -1) (h : m.os[i]? = some x) : (takeM m c r).os[i]? = some x ∧ ¬ (takeP m c ≤ i ∧ i < takeP m c + c) := by
  have hi := (List.getElem?_eq_some_iff.mp h).1
  have key : ¬ (takeP m c ≤ i ∧ i < takeP m c + c) := fun ⟨h1, h2⟩ => by
    rcases first_is (os := m.os) hc with ⟨z1, z2, _⟩ | ⟨z1, _⟩
    · have := free_get z2 h1 h2
      rw [h] at this
      exact hx (Option.some.inj this)
    · have z1 : takeP m c = m.os.length := z1
      omega
  refine ⟨?_, key⟩
  have e : (takeM m c r).os = setR (if takeP m c = m.os.length then m.os ++ List.replicate c (-1) else m.os) (takeP m c) c (r : Int) := rfl
  rw [e]
  by_cases hp : takeP m c = m.os.length
  · rw [if_pos hp, setR_get (by rw [List.length_append, List.length_replicate]; omega), if_neg key, List.getElem?_append_left hi]
    exact h
  · have hl : takeP m c + c ≤ m.os.length := by
      rcases first_is (os := m.os) hc with ⟨z, _⟩ | ⟨z, _⟩
      · exact z
      · exact absurd z hp
    rw [if_neg hp, setR_get hl, if_neg key]
    exact h
theorem take_new {c i : Nat} (hc : 1 ≤ c) (h1 : takeP m c ≤ i) (h2 : i < takeP m c + c) : (takeM m c r).os[i]? = some (r : Int) := by
  have e : (takeM m c r).os = setR (if takeP m c = m.os.length then m.os ++ List.replicate c (-1) else m.os) (takeP m c) c (r : Int) := rfl
  rw [e]
  by_cases hp : takeP m c = m.os.length
  · rw [if_pos hp, setR_get (by rw [List.length_append, List.length_replicate]; omega), if_pos ⟨h1, h2⟩]
  · have hl : takeP m c + c ≤ m.os.length := by
      rcases first_is (os := m.os) hc with ⟨z, _⟩ | ⟨z, _⟩
      · exact z
      · exact absurd z hp
    rw [if_neg hp, setR_get hl, if_pos ⟨h1, h2⟩]
theorem take_ws {c i : Nat} {x : Int} (h : m.ws[i]? = some x) : (takeM m c r).ws[i]? = some x := by
  show (if takeP m c = m.os.length then m.ws ++ List.replicate (c * 8) 0 else m.ws)[i]? = some x
  split
  · rw [List.getElem?_append_left (List.getElem?_eq_some_iff.mp h).1]
    exact h
  · exact h
theorem div8 {p a : Nat} : (a / 8 = p) ↔ (p * 8 ≤ a ∧ a < p * 8 + 8) := by omega
/-- where a cell goes: nothing that was written is touched -/
theorem spot_good (G : Good m r rows) (hg : m.rg[r]? = some g) (hw : 1 ≤ w) :
    (∀ p ∈ rows, (spotM m r w g).1.os[p.1 / 8]? = some (r : Int) ∧ (spotM m r w g).1.ws[p.1]? = some p.2 ∧ ¬ ((spotM m r w g).2.1 ≤ p.1 ∧ p.1 < (spotM m r w g).2.1 + w) ∧ ¬ ((spotM m r w g).2.2.pl ≤ p.1 ∧ p.1 < (spotM m r w g).2.2.pl + (spotM m r w g).2.2.rm)) ∧
    (∀ i, (spotM m r w g).2.2.pl ≤ i → i < (spotM m r w g).2.2.pl + (spotM m r w g).2.2.rm → (spotM m r w g).1.os[i / 8]? = some (r : Int)) ∧
    (∀ j, j < w → (spotM m r w g).1.os[((spotM m r w g).2.1 + j) / 8]? = some (r : Int) ∧ ¬ ((spotM m r w g).2.2.pl ≤ (spotM m r w g).2.1 + j ∧ (spotM m r w g).2.1 + j < (spotM m r w g).2.2.pl + (spotM m r w g).2.2.rm)) ∧
    (spotM m r w g).2.2.pl + (spotM m r w g).2.2.rm ≤ (spotM m r w g).1.ws.length ∧ (spotM m r w g).1.ws.length = (spotM m r w g).1.os.length * 8 := by
  obtain ⟨s1, s2⟩ := G.sp g hg
  have hx : (r : Int) ≠ -1 := by omega
  have hin := G.ok.sp g (List.mem_of_getElem? hg)
  have hlen := G.ok.len
  unfold spotM
  by_cases h8 : 8 < w
  · rw [if_pos h8]
    have hc : 1 ≤ (w + 7) / 8 := by omega
    obtain ⟨t1, t2, t3⟩ := takeP_in (r := r) hc G.ok
    have t4 := (takeM_ws (m := m) (c := (w + 7) / 8) (r := r)).2
    dsimp only
    refine ⟨fun p hp => ?_, fun i h1 h2 => (take_old hc hx (s2 i h1 h2)).1, fun j hj => ⟨take_new hc (by omega) (by omega), fun ⟨h1, h2⟩ => ?_⟩, by omega, t3⟩
    · obtain ⟨o1, o2⟩ := G.own p hp
      obtain ⟨u1, u2⟩ := take_old (r := r) hc hx o1
      exact ⟨u1, take_ws o2, fun ⟨h1, h2⟩ => u2 ⟨by omega, by omega⟩, s1 p hp⟩
    · have := (take_old (r := r) hc hx (s2 _ h1 h2)).2
      exact this ⟨by omega, by omega⟩
  · rw [if_neg h8]
    by_cases hr : g.rm < w
    · rw [if_pos hr]
      obtain ⟨t1, t2, t3⟩ := takeP_in (r := r) (c := 1) (by omega) G.ok
      dsimp only
      refine ⟨fun p hp => ?_, fun i h1 h2 => take_new (by omega) (by omega) (by omega), fun j hj => ⟨take_new (by omega) (by omega) (by omega), fun ⟨h1, h2⟩ => by omega⟩, by omega, t3⟩
      obtain ⟨o1, o2⟩ := G.own p hp
      obtain ⟨u1, u2⟩ := take_old (r := r) (c := 1) (by omega) hx o1
      exact ⟨u1, take_ws o2, fun ⟨h1, h2⟩ => u2 ⟨by omega, by omega⟩, fun ⟨h1, h2⟩ => u2 ⟨by omega, by omega⟩⟩
    · rw [if_neg hr]
      dsimp only
      refine ⟨fun p hp => ⟨(G.own p hp).1, (G.own p hp).2, fun ⟨h1, h2⟩ => s1 p hp ⟨h1, by omega⟩, fun ⟨h1, h2⟩ => s1 p hp ⟨by omega, by omega⟩⟩, fun i h1 h2 => s2 i (by omega) (by omega), fun j hj => ⟨s2 _ (by omega) (by omega), fun ⟨h1, h2⟩ => by omega⟩, by omega, hlen⟩
theorem sum_set : ∀ {l : List Rg} {r : Nat} {g g' : Rg}, l[r]? = some g → ((l.set r g').map (·.am)).sum + g.am = (l.map (·.am)).sum + g'.am
  | [], r, g, g', h => by simp at h
  | a :: l, 0, g, g', h => by
    simp at h
    subst h
    simp only [List.set_cons_zero, List.map_cons, List.sum_cons]
    omega
  | a :: l, r + 1, g, g', h => by
    have ih := sum_set (l := l) (r := r) (g' := g') (by simpa using h)
    simp only [List.set_cons_succ, List.map_cons, List.sum_cons]
    omega
theorem spot_more (hg : m.rg[r]? = some g) (hw : 1 ≤ w) : (spotM m r w g).2.2.lv = g.lv ∧ (spotM m r w g).2.2.am = g.am ∧ (spotM m r w g).1.os.length ≤ m.os.length + (w + 7) / 8 := by
  have tk : ∀ c, 1 ≤ c → (takeM m c r).os.length ≤ m.os.length + c := fun c hc => by
    have hs : (takeM m c r).os = setR (growM m c).os (takeP m c) c (r : Int) := rfl
    rw [hs, setR_len (growM_len hc)]
    exact growM_sz
  unfold spotM
  split
  · exact ⟨rfl, rfl, tk _ (by omega)⟩
  · split
    · refine ⟨rfl, rfl, ?_⟩
      have := tk 1 (by omega)
      show (takeM m 1 r).os.length ≤ _
      omega
    · refine ⟨rfl, rfl, ?_⟩
      show m.os.length ≤ _
      omega
theorem cell_good (G : Good m r rows) (hw : 1 ≤ w) : Good (cellM m r w).1 r rows ∧ CellS (cellM m r w).1 r rows (cellM m r w).2 w 0 ∧ ((cellM m r w).1.rg.map (·.am)).sum = (m.rg.map (·.am)).sum + w ∧ (cellM m r w).1.rg.length = m.rg.length ∧ (cellM m r w).1.os.length ≤ m.os.length + (w + 7) / 8 := by
  obtain ⟨g, hg, hglv, hr⟩ := G.lv.lt
  obtain ⟨a1, a2, a3, a4, a5⟩ := spot_good G hg hw
  obtain ⟨i1, i2, i3, i4⟩ := spotM_in G.ok hg hw
  obtain ⟨b1, b2, b3⟩ := spot_more hg hw
  have e1 : cellM m r w = (addL { (spotM m r w g).1 with ws := setR (spotM m r w g).1.ws (spotM m r w g).2.1 w 0, rg := (spotM m r w g).1.rg.set r { (spotM m r w g).2.2 with am := (spotM m r w g).2.2.am + w } } (entry "cell" r (spotM m r w g).2.1), (spotM m r w g).2.1) := by
    unfold cellM
    rw [getD_of hg]
  rw [e1, i3]
  generalize hsp : spotM m r w g = sp at a1 a2 a3 a4 a5 i1 i2 i3 i4 b1 b2 b3 ⊢
  obtain ⟨m1, ad, g1⟩ := sp
  dsimp only at *
  have hgr : (m.rg.set r { g1 with am := g1.am + w })[r]? = some { g1 with am := g1.am + w } := rg_at hg
  have one : ∀ u, (m.rg.set r { g1 with am := g1.am + w })[r]? = some u → u = { g1 with am := g1.am + w } := fun u hu => by rw [hgr] at hu; exact (Option.some.inj hu).symm
  refine ⟨⟨⟨?_, fun u hu => ?_⟩, ⟨_, hgr, by show g1.lv = true; rw [b1]; exact hglv⟩, ?_, fun p hp => ?_, fun u hu => ?_⟩, ⟨?_, fun j hj => ?_, fun u hu j hj => ?_, fun p hp => ?_⟩, ?_, ?_, b3⟩
  · show (setR m1.ws ad w 0).length = m1.os.length * 8
    rw [setR_len i1]; exact a5
  · show u.pl + u.rm ≤ (setR m1.ws ad w 0).length
    rw [setR_len i1]
    have hu : u ∈ m.rg.set r { g1 with am := g1.am + w } := hu
    rcases List.mem_or_eq_of_mem_set hu with h | h
    · have h1 := G.ok.sp u h
      have h2 : m.ws.length ≤ m1.ws.length := by
        have hm1 : m1 = (spotM m r w g).1 := by rw [hsp]
        rw [hm1]
        unfold spotM
        split
        · exact takeM_ws.2
        · split
          · exact takeM_ws.2
          · exact Nat.le_refl _
      omega
    · rw [h]; exact a4
  · show m1.log.map _ = none
    rw [i4, G.log]
    rfl
  · obtain ⟨c1, c2, c3, c4⟩ := a1 p hp
    refine ⟨c1, ?_⟩
    show (setR m1.ws ad w 0)[p.1]? = _
    rw [setR_get i1, if_neg c3]
    exact c2
  · rw [one u hu]
    exact ⟨fun p hp => (a1 p hp).2.2.2, a2⟩
  · show ad + w ≤ (setR m1.ws ad w 0).length
    rw [setR_len i1]; exact i1
  · refine ⟨(a3 j hj).1, fun _ => ?_⟩
    show (setR m1.ws ad w 0)[ad + j]? = _
    rw [setR_get i1, if_pos ⟨by omega, by omega⟩]
  · rw [one u hu]
    exact (a3 j hj).2
  · exact (a1 p hp).2.2.1
  · show ((m.rg.set r { g1 with am := g1.am + w }).map (·.am)).sum = _
    have := sum_set (g' := { g1 with am := g1.am + w }) hg
    rw [b2] at this ⊢
    have h2 : ({ g1 with am := g.am + w } : Rg).am = g.am + w := rfl
    rw [h2] at this
    omega
  · show (m.rg.set r _).length = _
    rw [List.length_set]
theorem owner_at {a : Nat} {x : Int} (mo : MOk m) (h : m.os[a / 8]? = some x) (ha : a < m.ws.length) : ownerM m a = x := by
  unfold ownerM
  rw [if_pos ⟨by omega, by omega⟩, show ((a : Int) / 8).toNat = a / 8 by omega, List.getD_eq_getElem?_getD, h]
  rfl
/-- a word of the new cell is written -/
theorem write_good {ad k : Nat} {x : Int} (G : Good m r rows) (C : CellS m r rows ad w k) (hk : k < w) :
    readV m ((ad + k : Nat) : Int) = 0 ∧ Good (writeM m ((ad + k : Nat) : Int) x) r (rows ++ [(ad + k, x)]) ∧ CellS (writeM m ((ad + k : Nat) : Int) x) r (rows ++ [(ad + k, x)]) ad w (k + 1) ∧ (writeM m ((ad + k : Nat) : Int) x).rg = m.rg ∧ (writeM m ((ad + k : Nat) : Int) x).os = m.os ∧ (writeM m ((ad + k : Nat) : Int) x).ws.length = m.ws.length := by
  have hle := C.le
  obtain ⟨o1, o2⟩ := C.own k hk
  have ho := owner_at G.ok o1 (by omega)
  have e : writeM m ((ad + k : Nat) : Int) x = { m with ws := m.ws.set (ad + k) x } := by
    unfold writeM
    rw [addL_no G.log, ho, if_pos (by omega), Int.toNat_natCast]
  have hget : ∀ i, (m.ws.set (ad + k) x)[i]? = if ad + k = i then some x else m.ws[i]? := fun i => by
    rw [List.getElem?_set]
    split
    · rename_i h
      rw [if_pos (by omega)]
    · rfl
  refine ⟨?_, ?_⟩
  · unfold readV
    rw [ho, if_neg (by omega), Int.toNat_natCast, List.getD_eq_getElem?_getD, o2 (Nat.le_refl _)]
    rfl
  rw [e]
  refine ⟨⟨⟨by show (m.ws.set _ x).length = _; rw [List.length_set]; exact G.ok.len, fun u hu => by show u.pl + u.rm ≤ (m.ws.set _ x).length; rw [List.length_set]; exact G.ok.sp u hu⟩, G.lv, G.log, fun p hp => ?_, fun u hu => ⟨fun p hp => ?_, (G.sp u hu).2⟩⟩, ⟨by show ad + w ≤ (m.ws.set _ x).length; rw [List.length_set]; exact hle, fun j hj => ⟨(C.own j hj).1, fun hkj => ?_⟩, C.sp, fun p hp => ?_⟩, rfl, rfl, List.length_set⟩
  · show _ ∧ (m.ws.set (ad + k) x)[p.1]? = some p.2
    rw [hget]
    rcases List.mem_append.mp hp with h | h
    · have h1 := C.rows p h
      rw [if_neg (by omega)]
      exact G.own p h
    · rw [List.mem_singleton.mp h]
      exact ⟨o1, by rw [if_pos rfl]⟩
  · rcases List.mem_append.mp hp with h | h
    · exact (G.sp u hu).1 p h
    · rw [List.mem_singleton.mp h]
      exact C.sp u hu k hk
  · show (m.ws.set (ad + k) x)[ad + j]? = _
    rw [hget, if_neg (by omega)]
    exact (C.own j hj).2 (by omega)
  · rcases List.mem_append.mp hp with h | h
    · have := C.rows p h
      omega
    · rw [List.mem_singleton.mp h]
      show ¬ (ad + (k + 1) ≤ ad + k ∧ ad + k < ad + w)
      omega
theorem read_good (G : Good m r rows) {p : Nat × Int} (hp : p ∈ rows) : readV m (p.1 : Nat) = p.2 ∧ ownerM m (p.1 : Nat) = (r : Int) := by
  obtain ⟨o1, o2⟩ := G.own p hp
  have ho := owner_at G.ok o1 (List.getElem?_eq_some_iff.mp o2).1
  refine ⟨?_, ho⟩
  unfold readV
  rw [ho, if_neg (by omega), Int.toNat_natCast, List.getD_eq_getElem?_getD, o2]
  rfl
end
/-! ### k50: the plain law -/
section
variable {m m2 : Mm} {r w : Nat} {g g2 : Rg}
theorem R50.ok2 (h : R50 m m2) : MOk m2 := by
  refine ⟨by rw [← h.ws, ← h.os]; exact h.ok.len, fun g2 hg => ?_⟩
  obtain ⟨r, hr⟩ := List.getElem?_of_mem hg
  have hl := (List.getElem?_eq_some_iff.mp hr).1
  rw [← h.rl] at hl
  obtain ⟨g3, e, _, e2, e3, _⟩ := h.rg r _ (List.getElem?_eq_getElem hl)
  rw [hr] at e
  cases e
  rw [e2, e3, ← h.ws]
  exact h.ok.sp _ (List.getElem_mem hl)
theorem R50.zero : R50 m0 m0 := ⟨⟨rfl, fun g hg => by cases hg⟩, rfl, rfl, rfl, rfl, fun r g h => by simp [m0] at h, fun r g h => by simp [m0] at h, fun i h => by simp [m0] at h, fun o h => by simp [m0] at h⟩
theorem R50.live (h : R50 m m2) (r : Nat) : live m r ↔ live m2 r := by
  constructor
  · rintro ⟨g, e, hl⟩
    obtain ⟨g2, e2, l2, _⟩ := h.rg r g e
    exact ⟨g2, e2, by rw [l2]; exact hl⟩
  · rintro ⟨g2, e, hl⟩
    have hr := (List.getElem?_eq_some_iff.mp e).1
    rw [← h.rl] at hr
    obtain ⟨g3, e2, l2, _⟩ := h.rg r _ (List.getElem?_eq_getElem hr)
    rw [e] at e2
    cases e2
    exact ⟨_, List.getElem?_eq_getElem hr, by rw [← l2]; exact hl⟩
theorem R50.owner (h : R50 m m2) (x : Int) : ownerM m x = ownerM m2 x := by unfold ownerM; rw [h.os, h.ws]
theorem R50.read (h : R50 m m2) (x : Int) : readV m x = readV m2 x := by unfold readV; rw [h.owner, h.ws]
theorem R50.begin_ (h : R50 m m2) : R50 (beginM m) { m2 with rg := m2.rg ++ [rg0] } := by
  obtain ⟨ok, log, os, ws, rl, rg, dead, zf, ob⟩ := h
  unfold beginM
  rw [addL_no (by exact log)]
  have at_ : ∀ {r : Nat} {g : Rg}, (m.rg ++ [rg0])[r]? = some g → (m.rg[r]? = some g ∧ r < m.rg.length) ∨ (r = m.rg.length ∧ g = rg0) := fun {r g} e => by
    by_cases hr : r < m.rg.length
    · rw [List.getElem?_append_left hr] at e
      exact .inl ⟨e, hr⟩
    · have hl := (List.getElem?_eq_some_iff.mp e).1
      rw [List.length_append] at hl
      have hl : r < m.rg.length + 1 := hl
      have hr2 : r = m.rg.length := by omega
      subst hr2
      rw [List.getElem?_append_right (Nat.le_refl _), Nat.sub_self] at e
      exact .inr ⟨rfl, (Option.some.inj e).symm⟩
  refine ⟨⟨ok.len, fun g hg => ?_⟩, log, os, ws, by show (m.rg ++ [rg0]).length = (m2.rg ++ [rg0]).length; rw [List.length_append, List.length_append, rl], fun r g e => ?_, fun r g e hl => ?_, zf, ob⟩
  · rcases List.mem_append.mp hg with h | h
    · exact ok.sp g h
    · rw [List.mem_singleton.mp h]
      exact Nat.zero_le _
  · rcases at_ e with ⟨e, hr⟩ | ⟨hr, hg⟩
    · obtain ⟨g2, e2, l⟩ := rg r g e
      exact ⟨g2, by show (m2.rg ++ [rg0])[r]? = _; rw [List.getElem?_append_left (by rw [← rl]; exact hr)]; exact e2, l⟩
    · subst hr hg
      exact ⟨rg0, by show (m2.rg ++ [rg0])[_]? = _; rw [rl, List.getElem?_append_right (Nat.le_refl _), Nat.sub_self]; rfl, rfl, rfl, rfl, fun _ => rfl⟩
  · rcases at_ e with ⟨e, hr⟩ | ⟨hr, hg⟩
    · exact dead r g e hl
    · rw [hg] at hl
      cases hl
theorem R50.write (h : R50 m m2) {x y : Int} : R50 (writeM m x y) (wrL m2 x y) := by
  have ho := h.owner x
  obtain ⟨ok, log, os, ws, rl, rg, dead, zf, ob⟩ := h
  unfold writeM wrL
  rw [addL_no log, ← ho, ← ws]
  refine ⟨⟨?_, fun g hg => ?_⟩, log, os, rfl, rl, rg, dead, fun i hi => ?_, ob⟩
  · show (if _ then m.ws.set x.toNat y else m.ws).length = _
    split
    · rw [List.length_set]; exact ok.len
    · exact ok.len
  · have := ok.sp g hg
    show _ ≤ (if _ then m.ws.set x.toNat y else m.ws).length
    split
    · rw [List.length_set]; exact this
    · exact this
  · show (if _ then m.ws.set x.toNat y else m.ws)[i]? = some 0
    have hz := zf i hi
    split
    · rename_i hw
      rw [List.getElem?_set, if_neg (fun z => ?_)]
      · exact hz
      · subst z
        unfold ownerM at hw
        split at hw
        · rename_i hx
          rw [show x / 8 = ((x.toNat / 8 : Nat) : Int) by omega, Int.toNat_natCast, List.getD_eq_getElem?_getD, hi] at hw
          exact absurd hw (by decide)
        · exact absurd hw (by decide)
    · exact hz
theorem zeroP_get {os : List Int} {r : Int} {ws : List Int} (h : ws.length = os.length * 8) (i : Nat) : ∀ n, n ≤ os.length → (zeroP os r ws n)[i]? = if i / 8 < n ∧ os[i / 8]? = some r then some 0 else ws[i]?
  | 0, _ => by rw [zeroP, if_neg (by omega)]
  | n + 1, hn => by
    have ih := zeroP_get (r := r) h i n (by omega)
    have hl := zeroP_len (r := r) h n (by omega)
    rw [zeroP]
    by_cases hr : os[n]? = some r
    · rw [if_pos hr, setR_get (by omega), ih]
      by_cases hi : i / 8 = n
      · rw [if_pos ⟨by omega, by omega⟩, if_pos ⟨by omega, by rw [hi]; exact hr⟩]
      · rw [if_neg (by omega)]
        by_cases h2 : i / 8 < n ∧ os[i / 8]? = some r
        · rw [if_pos h2, if_pos ⟨by omega, h2.2⟩]
        · rw [if_neg h2, if_neg (fun z => h2 ⟨by omega, z.2⟩)]
    · rw [if_neg hr, ih]
      by_cases h2 : i / 8 < n ∧ os[i / 8]? = some r
      · rw [if_pos h2, if_pos ⟨by omega, h2.2⟩]
      · rw [if_neg h2, if_neg (fun z => ?_)]
        by_cases hi : i / 8 = n
        · rw [hi] at z
          exact hr z.2
        · exact h2 ⟨by omega, z.2⟩
theorem R50.end_ (h : R50 m m2) (hr : _root_.U.live m r) : R50 (endM m r) (endL m2 r) := by
  obtain ⟨g, hg, hgl⟩ := hr
  obtain ⟨g2, hg2, l2, p2, rm2, am2⟩ := h.rg r g hg
  obtain ⟨ok, log, os, ws, rl, rg, dead, zf, ob⟩ := h
  have hgr := (List.getElem?_eq_some_iff.mp hg).1
  have eg : m.rg.getD r rg0 = g := by rw [List.getD_eq_getElem?_getD, hg]; rfl
  have eg2 : m2.rg.getD r rg0 = g2 := by rw [List.getD_eq_getElem?_getD, hg2]; rfl
  have hz := zeroP_len (r := ((r : Nat) : Int)) ok.len m.os.length (Nat.le_refl _)
  have hlen := ok.len
  unfold endM endL
  rw [eg, eg2, addL_no (by exact log), ← os, ← ws]
  refine ⟨⟨by show (zeroP _ _ _ _).length = (m.os.map _).length * 8; rw [hz, List.length_map]; exact hlen, fun g' hg' => ?_⟩, log, rfl, rfl, by show (m.rg.set _ _).length = (m2.rg.set _ _).length; rw [List.length_set, List.length_set, rl], fun r' g' e => ?_, fun r' g' e hl => ?_, fun i hi => ?_, fun o' ho' => ?_⟩
  · show _ ≤ (zeroP _ _ _ _).length
    rw [hz]
    rcases List.mem_or_eq_of_mem_set hg' with h | h
    · exact ok.sp g' h
    · rw [h]
      exact ok.sp g (List.mem_of_getElem? hg)
  · have e5 : (m.rg.set r { g with lv := false, am := 0 })[r']? = some g' := e
    clear e
    rw [List.getElem?_set] at e5
    split at e5
    · rename_i z
      subst z
      try rw [if_pos hgr] at e5
      cases e5
      exact ⟨{ g2 with lv := false }, by show (m2.rg.set r _)[r]? = _; rw [List.getElem?_set, if_pos rfl, if_pos (by rw [← rl]; exact hgr)], rfl, p2, rm2, fun z => by cases z⟩
    · rename_i z
      obtain ⟨g3, e3, l⟩ := rg r' g' e5
      exact ⟨g3, by show (m2.rg.set r _)[r']? = _; rw [List.getElem?_set, if_neg z]; exact e3, l⟩
  · have e5 : (m.rg.set r { g with lv := false, am := 0 })[r']? = some g' := e
    clear e
    rw [List.getElem?_set] at e5
    split at e5
    · try rw [if_pos hgr] at e5
      cases e5
      rfl
    · exact dead r' g' e5 hl
  · have hi : (m.os.map (giveP r))[i / 8]? = some (-1) := hi
    rw [List.getElem?_map] at hi
    show (zeroP _ _ _ _)[i]? = _
    rw [zeroP_get hlen i _ (Nat.le_refl _)]
    cases ho : m.os[i / 8]? with
    | none => rw [ho] at hi; cases hi
    | some o =>
      rw [ho] at hi
      have hil := (List.getElem?_eq_some_iff.mp ho).1
      have hi : giveP r o = -1 := Option.some.inj hi
      unfold giveP at hi
      by_cases hor : o = (r : Int)
      · rw [if_pos ⟨hil, by rw [hor]⟩]
      · rw [if_neg hor] at hi
        rw [if_neg (fun z => hor (Option.some.inj z.2))]
        exact zf i (by rw [ho, hi])
  · obtain ⟨o, ho, rfl⟩ := List.mem_map.mp ho'
    unfold giveP
    split
    · exact Int.le_refl _
    · exact ob o ho
theorem setR_self {xs : List Int} {p n : Nat} {x : Int} (h : p + n ≤ xs.length) (k : ∀ i, p ≤ i → i < p + n → xs[i]? = some x) : setR xs p n x = xs := by
  apply List.ext_getElem?
  intro i
  rw [setR_get h]
  split
  · rename_i hi
    exact (k i hi.1 hi.2).symm
  · rfl
/-- the pages taken hold zeros; what waits holds zeros -/
theorem take_zero {c : Nat} (ok : MOk m) (hc : 1 ≤ c) (zf : ∀ i : Nat, m.os[i / 8]? = some (-1) → m.ws[i]? = some 0) :
    (∀ i, takeP m c * 8 ≤ i → i < (takeP m c + c) * 8 → (takeM m c r).ws[i]? = some 0) ∧ ∀ i : Nat, (takeM m c r).os[i / 8]? = some (-1) → (takeM m c r).ws[i]? = some 0 := by
  have hlen := ok.len
  have hf := first_is (os := m.os) (c := c) hc
  unfold takeM
  rw [show takeP m c = firstFree m.os c from rfl]
  generalize firstFree m.os c = p at hf ⊢
  rcases hf with ⟨h1, h2, h3⟩ | ⟨h1, h2⟩
  · have hne : ¬ p = m.os.length := by omega
    rw [if_neg hne, if_neg hne]
    refine ⟨fun i hi1 hi2 => ?_, fun i hi => ?_⟩
    · exact zf i (free_get h2 (by omega) (by omega))
    · have hi : (setR m.os p c (r : Int))[i / 8]? = some (-1) := hi
      rw [setR_get h1] at hi
      split at hi
      · have := Option.some.inj hi
        omega
      · exact zf i hi
  · subst h1
    rw [if_pos rfl, if_pos rfl]
    have new : ∀ i, m.ws.length ≤ i → i < m.ws.length + c * 8 → (m.ws ++ List.replicate (c * 8) (0 : Int))[i]? = some 0 := fun i h1 h2 => by
      rw [List.getElem?_append_right h1, List.getElem?_replicate, if_pos (by omega)]
    refine ⟨fun i hi1 hi2 => new i (by omega) (by omega), fun i hi => ?_⟩
    have hi : (setR (m.os ++ List.replicate c (-1)) m.os.length c (r : Int))[i / 8]? = some (-1) := hi
    rw [setR_get (by rw [List.length_append, List.length_replicate]; omega)] at hi
    split at hi
    · have := Option.some.inj hi
      omega
    · rename_i hn
      by_cases hil : i / 8 < m.os.length
      · rw [List.getElem?_append_left hil] at hi
        show (m.ws ++ _)[i]? = _
        rw [List.getElem?_append_left (by omega)]
        exact zf i hi
      · have hl := (List.getElem?_eq_some_iff.mp hi).1
        rw [List.length_append, List.length_replicate] at hl
        omega
theorem setR_mem {α : Type} {xs : List α} {p n : Nat} {x y : α} (h : y ∈ setR xs p n x) : y ∈ xs ∨ y = x := by
  unfold setR at h
  rcases List.mem_append.mp h with h | h
  · rcases List.mem_append.mp h with h | h
    · exact .inl (List.mem_of_mem_take h)
    · exact .inr (List.eq_of_mem_replicate h)
  · exact .inl (List.mem_of_mem_drop h)
theorem take_ob {c : Nat} (ob : ∀ o ∈ m.os, -1 ≤ o) : ∀ o ∈ (takeM m c r).os, -1 ≤ o := by
  intro o ho
  unfold takeM at ho
  have ho : o ∈ setR (if takeP m c = m.os.length then m.os ++ List.replicate c (-1) else m.os) (takeP m c) c (r : Int) := ho
  rcases setR_mem ho with h | h
  · split at h
    · rcases List.mem_append.mp h with h | h
      · exact ob o h
      · rw [List.eq_of_mem_replicate h]
        exact Int.le_refl _
    · exact ob o h
  · omega
theorem spot_ob (ob : ∀ o ∈ m.os, -1 ≤ o) : ∀ o ∈ (spotM m r w g).1.os, -1 ≤ o := by
  unfold spotM
  split
  · exact take_ob ob
  · split
    · exact take_ob ob
    · exact ob
theorem R50.cell (h : R50 m m2) (hr : _root_.U.live m r) (hw : 1 ≤ w) : (cellM m r w).2 = (cellL m2 r w).2 ∧ R50 (cellM m r w).1 (cellL m2 r w).1 ∧ (cellM m r w).1.rg.length = m.rg.length ∧ (cellM m r w).1.os.length ≤ m.os.length + (w + 7) / 8 := by
  obtain ⟨g, hg, hgl⟩ := hr
  obtain ⟨g2, hg2, l2, p2, rm2, am2⟩ := h.rg r g hg
  obtain ⟨ok, log, os, ws, rl, rg, dead, zf, ob⟩ := h
  have hgr := (List.getElem?_eq_some_iff.mp hg).1
  have eg : m.rg.getD r rg0 = g := by rw [List.getD_eq_getElem?_getD, hg]; rfl
  have eg2 : m2.rg.getD r rg0 = g2 := by rw [List.getD_eq_getElem?_getD, hg2]; rfl
  obtain ⟨s1, s2, s3, s4⟩ := spotM_in ok hg hw
  have tp : ∀ c, takeP m2 c = takeP m c := fun c => by unfold takeP; rw [os]
  have to : ∀ c, (takeM m2 c r).os = (takeM m c r).os := fun c => by unfold takeM; rw [tp, os]
  have tw : ∀ c, (takeM m2 c r).ws = (takeM m c r).ws := fun c => by unfold takeM; rw [tp, os, ws]
  obtain ⟨sm1, sm2, sm3⟩ := spot_more (m := m) (r := r) (w := w) hg hw
  have more : (spotM m r w g).1.ws.length = (spotM m r w g).1.os.length * 8 ∧ (spotM m r w g).2.2.pl + (spotM m r w g).2.2.rm ≤ (spotM m r w g).1.ws.length ∧ m.ws.length ≤ (spotM m r w g).1.ws.length ∧
      (spotM m2 r w g2).1.os = (spotM m r w g).1.os ∧ (spotM m2 r w g2).1.ws = (spotM m r w g).1.ws ∧ (spotM m2 r w g2).1.rg = m2.rg ∧ (spotM m2 r w g2).2.1 = (spotM m r w g).2.1 ∧ (spotM m2 r w g2).2.2.pl = (spotM m r w g).2.2.pl ∧ (spotM m2 r w g2).2.2.rm = (spotM m r w g).2.2.rm ∧ (spotM m2 r w g2).2.2.lv = g2.lv ∧ (spotM m2 r w g2).2.2.am = g2.am ∧
      (∀ i : Nat, (spotM m r w g).1.os[i / 8]? = some (-1) → (spotM m r w g).1.ws[i]? = some 0) ∧ (8 < w → ∀ i, (spotM m r w g).2.1 ≤ i → i < (spotM m r w g).2.1 + w → (spotM m r w g).1.ws[i]? = some 0) := by
    have hsp := ok.sp g (List.mem_of_getElem? hg)
    unfold spotM
    rw [rm2]
    by_cases h8 : 8 < w
    · rw [if_pos h8, if_pos h8]
      have t := takeP_in (r := r) (c := (w + 7) / 8) (by omega) ok
      have t2 := takeM_ws (m := m) (c := (w + 7) / 8) (r := r)
      have tz := take_zero (r := r) (c := (w + 7) / 8) ok (by omega) zf
      exact ⟨t.2.2, Nat.le_trans hsp t2.2, t2.2, to _, tw _, rfl, by dsimp only; rw [tp], p2, rm2, rfl, rfl, tz.2, fun _ i h1 h2 => tz.1 i h1 (by dsimp only at h2; omega)⟩
    · rw [if_neg h8, if_neg h8]
      by_cases hrm : g.rm < w
      · rw [if_pos hrm, if_pos hrm]
        have t := takeP_in (r := r) (c := 1) (by omega) ok
        have t2 := takeM_ws (m := m) (c := 1) (r := r)
        have tz := take_zero (r := r) (c := 1) ok (by omega) zf
        refine ⟨t.2.2, ?_, t2.2, to _, tw _, rfl, by dsimp only; rw [tp], by dsimp only; rw [tp], rfl, rfl, rfl, tz.2, fun z => absurd z h8⟩
        show takeP m 1 * 8 + w + (8 - w) ≤ (takeM m 1 r).ws.length
        omega
      · rw [if_neg hrm, if_neg hrm]
        refine ⟨ok.len, ?_, Nat.le_refl _, os.symm, ws.symm, rfl, p2, by dsimp only; rw [p2], rfl, rfl, rfl, zf, fun z => absurd z h8⟩
        show g.pl + w + (g.rm - w) ≤ m.ws.length
        omega
  have zo := spot_ob (r := r) (w := w) (g := g) ob
  obtain ⟨m1, m3, m4, c1, c2, c3, c4, c5, c6, c7, c8, z1, z2⟩ := more
  unfold cellM cellL
  rw [eg, eg2]
  dsimp only
  rw [addL_no (by show (spotM m r w g).1.log = none; rw [s4, log]), c1, c2, c3, c4]
  have eW : (if 8 < w then (spotM m r w g).1.ws else setR (spotM m r w g).1.ws (spotM m r w g).2.1 w 0) = setR (spotM m r w g).1.ws (spotM m r w g).2.1 w 0 := by
    split
    · rename_i h8
      exact (setR_self s1 (z2 h8)).symm
    · rfl
  rw [eW]
  generalize spotM m r w g = q at *
  generalize (spotM m2 r w g2) = qq at *
  obtain ⟨q1, q2, q3⟩ := q
  dsimp only at *
  refine ⟨rfl, ⟨⟨by show (setR _ _ _ _).length = _; rw [setR_len s1]; exact m1, fun g' hg' => ?_⟩, by show q1.log = none; rw [s4, log], rfl, rfl, by show (q1.rg.set _ _).length = (m2.rg.set _ _).length; rw [List.length_set, List.length_set, s3, rl], fun r' g' e => ?_, fun r' g' e hl => ?_, fun i hi => ?_, zo⟩, by rw [List.length_set, s3], sm3⟩
  · show _ ≤ (setR q1.ws _ _ _).length
    rw [setR_len s1]
    rcases List.mem_or_eq_of_mem_set hg' with h | h
    · rw [s3] at h
      exact Nat.le_trans (ok.sp g' h) m4
    · rw [h]
      exact m3
  · have e5 : (q1.rg.set r { q3 with am := q3.am + w })[r']? = some g' := e
    clear e
    rw [List.getElem?_set, s3] at e5
    split at e5
    · rename_i z
      subst z
      try rw [if_pos hgr] at e5
      cases e5
      refine ⟨{ qq.2.2 with am := qq.2.2.am + w }, by show (m2.rg.set r _)[r]? = _; rw [List.getElem?_set, if_pos rfl, if_pos (by rw [← rl]; exact hgr)], by show qq.2.2.lv = q3.lv; rw [c7, l2, sm1], c5, c6, fun hl => ?_⟩
      show qq.2.2.am + w = q3.am + w
      rw [c8, sm2, am2 hgl]
    · rename_i z
      obtain ⟨g3, e3, l⟩ := rg r' g' e5
      exact ⟨g3, by show (m2.rg.set r _)[r']? = _; rw [List.getElem?_set, if_neg z]; exact e3, l⟩
  · have e5 : (q1.rg.set r { q3 with am := q3.am + w })[r']? = some g' := e
    clear e
    rw [List.getElem?_set, s3] at e5
    split at e5
    · try rw [if_pos hgr] at e5
      cases e5
      have hl : q3.lv = false := hl
      rw [sm1, hgl] at hl
      cases hl
    · exact dead r' g' e5 hl
  · show (setR q1.ws q2 w 0)[i]? = some 0
    rw [setR_get s1]
    split
    · rfl
    · exact z1 i hi
end
section
variable {K : PySem.W.Frag} {vs : List V} {H H' H2 H1 : Hp} {Q : VK} {E : XK} {n : Nat} {a w L W O R x p q : Addr} {S S' : List Addr} {m m2 m' : Mm} {rs : List Addr}
theorem rd_Watch___init__ (h : sp_Watch___init__ K vs H Q E) : t_Watch___init__ K { nx := fun _ H' => Q .non H', rt := Q } (start n_Watch___init__ vs) H := by
  obtain ⟨w, dw, a, rfl, hw, q⟩ := h
  unfold t_Watch___init__
  walk_at "u"
  refine sfield hw (by decide) fun H1 e1 k1 => ?_
  walk_at "u"
  refine ⟨szl (by simp), fun L hL => ?_⟩
  obtain ⟨H2, e2, s2, eL⟩ := lay_new (o := .lst []) hL
  rw [e2]
  walk_at "u"
  refine sfield (s2 _ _ e1) (show 1 < 1000 by decide) fun H3 e3 k3 => ?_
  refine q L H3 (fun b o hb e => by rw [k3 b hb]; exact s2 _ _ (by rw [k1 b hb]; exact e)) e3 ?_
  have hLw : L ≠ w := (ne_of_none e1 hL).symm
  rw [← k1 L hLw]
  exact hL
theorem rd_Watch___enter__ (h : sp_Watch___enter__ K vs H Q E) : t_Watch___enter__ K { nx := fun _ H' => Q .non H', rt := Q } (start n_Watch___enter__ vs) H := by
  obtain ⟨w, dw, a, L0, S, m, rfl, hw, ⟨W, O, R, rs, rfl, st⟩, hwt, hwS, q⟩ := h
  have ew : wl m = [] := by unfold wl; rw [hwt]; rfl
  rw [ew, List.nil_append] at hwS
  simp only [List.mem_cons, not_or] at hwS
  obtain ⟨wa, wW, wO, wR, wr⟩ := hwS
  unfold t_Watch___enter__
  walk_at "u"
  refine gfield hw rfl ?_
  walk_at "u"
  refine ⟨szl (by simp), fun L hL => ?_⟩
  obtain ⟨H2, e2, s2, eL⟩ := lay_new (o := .lst []) hL
  rw [e2]
  have st2 := st.same s2
  walk_at "u"
  refine sfield (s2 _ _ hw) (show 2 < 1000 by decide) fun H3 e3 k3 => ?_
  obtain ⟨⟨dx, i⟩, w1, o1, r1, nl, nd, rg, ne, na, lg⟩ := st2
  have wL : w ≠ L := ne_of_none hw hL
  have i3 : H3 a = some (.ins (He.ga K "Store") dx (stF W O R .non)) := by rw [k3 a (Ne.symm wa)]; rw [hwt] at i; exact i
  walk_at "u"
  refine sfield i3 (show 4 < 1000 by decide) fun H4 e4 k4 => ?_
  walk_at "u"
  have nS : ∀ {y o}, y ≠ w → y ≠ a → H2 y = some o → H4 y = some o := fun {y o} h1 h2 e => by rw [k4 y h2, k3 y h1]; exact e
  have aW : a ≠ W := fun z => by rw [z, w1] at i; cases i
  have aO : a ≠ O := fun z => by rw [z, o1] at i; cases i
  have aR : a ≠ R := fun z => by rw [z, r1] at i; cases i
  have aL : a ≠ L := fun z => by rw [z, eL] at i; cases i
  have no := st.new hL
  rw [ew, List.nil_append] at no
  simp only [List.mem_cons, not_or] at no
  refine q L H4 (fun b o hb hS e => ?_) hL ⟨W, O, R, rs, by rw [ew]; rfl, ⟨dx, e4⟩, nS (Ne.symm wW) aW.symm w1, nS (Ne.symm wO) aO.symm o1, nS (Ne.symm wR) aR.symm r1, nl, nd, fun i' x g e5 e6 => ?_, ne, na, fun z => (by cases z), fun w' L' z => ?_⟩
  · have hba : b ≠ a := fun z => hS (by rw [z, ew]; simp)
    exact nS hb hba (s2 _ _ e)
  · obtain ⟨d2, e7⟩ := rg i' x g e5 e6
    have hx := List.mem_of_getElem? e5
    exact ⟨d2, nS (fun z => wr (z ▸ hx)) (fun z => na (z ▸ hx)) e7⟩
  · cases z
    refine ⟨⟨dw, by rw [k4 w wa]; exact e3⟩, ⟨[], [], nS wL.symm aL.symm eL, rfl, .nil⟩, wa, wr, no.2.1, no.2.2.1, no.2.2.2.1⟩
theorem rd_Watch___exit__ (h : sp_Watch___exit__ K vs H Q E) : t_Watch___exit__ K { nx := fun _ H' => Q .non H', rt := Q } (start n_Watch___exit__ vs) H := by
  obtain ⟨w, dw, a, da, L, fs, rfl, hw, ha, hl, q⟩ := h
  unfold t_Watch___exit__
  walk_at "u"
  refine gfield hw rfl ?_
  walk_at "u"
  refine sfield ha (by omega) fun H1 e1 k1 => ?_
  exact q H1 k1
theorem rd_perform (h : sp_perform K vs H Q E) : t_perform K (fun cls d _ H => E cls d H) { nx := fun _ H' => Q .non H', rt := Q } (start n_perform vs) H := by
  obtain ⟨a, S, m, v, d, rfl, st0, td, lz, mo, ⟨hz1, hz2⟩, hsm, q1, q2⟩ := h
  unfold t_perform
  have go : ∀ {W O R rs}, S = wl m ++ a :: W :: O :: R :: rs → StX K H a W O R rs m → True := fun _ _ => trivial
  obtain ⟨W, O, R, rs, rfl, st⟩ := id st0
  cases d with
  | beg =>
    obtain ⟨t, us, rfl, s, td⟩ := td.inv
    cases td with
    | cons h0 td =>
      cases h0; cases td
      walk_at "u"
      refine st.meth (by decide +kernel) ?_
      walk_at "u"
      refine ⟨a, _, m, rfl, st0, lz, by omega, fun S' H1 st1 f1 => ?_⟩
      exact q1 trivial S' H1 st1 f1
  | cel r w =>
    obtain ⟨t, us, rfl, s, td⟩ := td.inv
    cases td with
    | cons h0 td => cases td with
      | cons h1 td => cases td with
        | cons h2 td =>
          cases h0; cases h1; cases h2; cases td
          have hsm : w ≤ 50 := hsm
          walk_at "u"
          refine st.meth (by decide +kernel) ?_
          walk_at "u"
          refine ⟨a, _, m, r, w, rfl, st0, lz, mo, ⟨by omega, by omega⟩, fun ok S' H1 st1 f1 => q1 ok S' H1 st1 f1, fun no => ?_, fun no => ?_⟩
          · exact q2 (fun z => no ⟨z.1, z.2.1⟩) _
          · exact q2 (fun z => by have := z.2.2; omega) _
  | en r =>
    obtain ⟨t, us, rfl, s, td⟩ := td.inv
    cases td with
    | cons h0 td => cases td with
      | cons h1 td =>
        cases h0; cases h1; cases td
        walk_at "u"
        refine st.meth (by decide +kernel) ?_
        walk_at "u"
        exact ⟨a, _, m, r, rfl, st0, lz, mo, ⟨by omega, by omega⟩, fun ok S' H1 st1 f1 => q1 ok S' H1 st1 f1, fun no => q2 no _⟩
  | rd y =>
    obtain ⟨t, us, rfl, s, td⟩ := td.inv
    cases td with
    | cons h0 td => cases td with
      | cons h1 td =>
        cases h0; cases h1; cases td
        walk_at "u"
        refine st.meth (by decide +kernel) ?_
        walk_at "u"
        exact ⟨a, _, m, y, rfl, st0, lz, mo, ⟨by omega, by omega⟩, fun S' H1 st1 f1 => q1 trivial S' H1 st1 f1⟩
  | wr y z =>
    obtain ⟨t, us, rfl, s, td⟩ := td.inv
    cases td with
    | cons h0 td => cases td with
      | cons h1 td => cases td with
        | cons h2 td =>
          cases h0; cases h1; cases h2; cases td
          walk_at "u"
          refine st.meth (by decide +kernel) ?_
          walk_at "u"
          exact ⟨a, _, m, y, z, rfl, st0, lz, mo, ⟨by omega, by omega⟩, fun S' H1 st1 f1 => q1 trivial S' H1 st1 f1⟩
end
/-! ### k51: the plain law -/
section
variable {m m2 : Mm} {r w c : Nat} {g : Rg}
def er (m : Mm) : Mm := { m with log := none, wt := none, ws := List.replicate m.ws.length 0 }
theorem setR_rep {n p k : Nat} (h : p + k ≤ n) : setR (List.replicate n (0 : Int)) p k 0 = List.replicate n 0 := by
  apply List.ext_getElem?
  intro i
  rw [setR_get (by rw [List.length_replicate]; exact h), List.getElem?_replicate]
  split
  · rw [if_pos (by omega)]
  · rfl
theorem er_take : takeM (er m) c r = er (takeM m c r) := by
  have e : (takeM (er m) c r).ws = List.replicate (takeM m c r).ws.length 0 := by
    show (if takeP m c = m.os.length then List.replicate m.ws.length 0 ++ List.replicate (c * 8) 0 else List.replicate m.ws.length 0) = List.replicate (if takeP m c = m.os.length then m.ws ++ List.replicate (c * 8) 0 else m.ws).length 0
    split
    · rw [List.replicate_append_replicate, List.length_append, List.length_replicate]
    · rfl
  show (⟨(takeM (er m) c r).ws, (takeM m c r).os, m.rg, none, none⟩ : Mm) = ⟨List.replicate (takeM m c r).ws.length 0, (takeM m c r).os, m.rg, none, none⟩
  rw [e]
theorem er_spot : spotM (er m) r w g = (er (spotM m r w g).1, (spotM m r w g).2.1, (spotM m r w g).2.2) := by
  unfold spotM
  split
  · rw [er_take]; rfl
  · split
    · rw [er_take]; rfl
    · rfl
theorem er_mok : MOk (er m) ↔ MOk m := by
  have e : (er m).ws.length = m.ws.length := List.length_replicate
  constructor
  · intro h
    exact ⟨by rw [← e]; exact h.len, fun g hg => by rw [← e]; exact h.sp g hg⟩
  · intro h
    exact ⟨by rw [e]; exact h.len, fun g hg => by rw [e]; exact h.sp g hg⟩
theorem er_cell (mo : MOk m) (hr : live m r) (hw : 1 ≤ w) : cellM (er m) r w = (er (cellM m r w).1, (cellM m r w).2) ∧ (cellM m r w).1.log = m.log.map (· ++ [entry "cell" r (cellM m r w).2]) ∧ (cellM m r w).1.wt = m.wt := by
  obtain ⟨g, hg, hl⟩ := hr
  have eg : m.rg.getD r rg0 = g := getD_of hg
  have eg2 : (er m).rg.getD r rg0 = g := eg
  obtain ⟨h1, h2, h3, h4⟩ := spotM_in mo hg hw
  have h5 := spotM_wt (m := m) (r := r) (w := w) (g := g)
  unfold cellM
  rw [eg, eg2]
  dsimp only
  rw [er_spot]
  dsimp only
  refine ⟨?_, ?_, h5⟩
  · have e1 : setR (er (spotM m r w g).1).ws (spotM m r w g).2.1 w 0 = List.replicate (setR (spotM m r w g).1.ws (spotM m r w g).2.1 w 0).length 0 := by
      rw [setR_len h1]
      exact setR_rep h1
    rw [e1]
    rfl
  · show (spotM m r w g).1.log.map _ = _
    rw [h4]
theorem zeroP_rep {os : List Int} {r : Int} {n : Nat} (h : n = os.length * 8) : ∀ k, k ≤ os.length → zeroP os r (List.replicate n 0) k = List.replicate n 0
  | 0, _ => rfl
  | k + 1, hk => by
    rw [zeroP, zeroP_rep h k (by omega)]
    split
    · exact setR_rep (by omega)
    · rfl
theorem er_end (mo : MOk m) : endM (er m) r = er (endM m r) := by
  have e1 : zeroP m.os r (List.replicate m.ws.length 0) m.os.length = List.replicate (zeroP m.os r m.ws m.os.length).length 0 := by
    rw [zeroP_rep mo.len _ (Nat.le_refl _), zeroP_len mo.len _ (Nat.le_refl _)]
  unfold endM
  show (⟨zeroP m.os r (List.replicate m.ws.length 0) m.os.length, _, _, _, _⟩ : Mm) = ⟨List.replicate (zeroP m.os r m.ws m.os.length).length 0, _, _, _, _⟩
  rw [e1]
  rfl
theorem er_write {x y : Int} : er (writeM m x y) = er m := by
  have e : (writeM m x y).ws.length = m.ws.length := by
    show (if 0 ≤ ownerM m x then m.ws.set x.toNat y else m.ws).length = _
    split
    · rw [List.length_set]
    · rfl
  show (⟨List.replicate (writeM m x y).ws.length 0, _, _, _, _⟩ : Mm) = ⟨_, _, _, _, _⟩
  rw [e]
  rfl
theorem er_owner {x : Int} : ownerM (er m) x = ownerM m x := by
  unfold ownerM
  rw [show (er m).ws.length = m.ws.length from List.length_replicate]
  rfl
theorem ok51 (h : R50 (er m) m2) (d : Dd) : okD m d ↔ okD m2 d := by
  cases d with
  | beg => exact Iff.rfl
  | cel r w => exact and_congr Iff.rfl (and_congr (h.live r.toNat) Iff.rfl)
  | en r => exact and_congr Iff.rfl (h.live r.toNat)
  | rd x => exact Iff.rfl
  | wr x y => exact Iff.rfl
theorem step51 (h : R50 (er m) m2) (d : Dd) (ok : okD m d) (sm : d.small) : R50 (er (stepM m d)) (nxtE m2 d) ∧ (stepM m d).log = m.log.map (· ++ [dueE m2 d]) ∧ (stepM m d).wt = m.wt ∧ (stepM m d).os.length ≤ m.os.length + 8 ∧ (stepM m d).rg.length ≤ m.rg.length + 1 := by
  have mo : MOk m := er_mok.mp h.ok
  cases d with
  | beg =>
    refine ⟨h.begin_, ?_, rfl, Nat.le_add_right _ _, ?_⟩
    · have e : m.rg.length = m2.rg.length := h.rl
      show m.log.map (· ++ [entry "begin" m.rg.length 0]) = m.log.map (· ++ [entry "begin" m2.rg.length 0])
      rw [e]
    · show (m.rg ++ [rg0]).length ≤ _
      rw [List.length_append]; exact Nat.le_refl _
  | cel r w =>
    obtain ⟨ok1, ok2, ok3⟩ := ok
    have sm : w ≤ 50 := sm
    have hw : 1 ≤ w.toNat := by omega
    obtain ⟨e1, e2, e3⟩ := er_cell mo ok2 hw
    obtain ⟨c1, c2, c3, c4⟩ := h.cell ok2 hw
    rw [e1] at c1 c2 c3 c4
    refine ⟨c2, ?_, e3, ?_, ?_⟩
    · rw [show stepM m (.cel r w) = (cellM m r.toNat w.toNat).1 from rfl, e2]
      have c1 : (cellM m r.toNat w.toNat).2 = (cellL m2 r.toNat w.toNat).2 := c1
      rw [c1]
      show _ = m.log.map (· ++ [entry "cell" r _])
      rw [Int.toNat_of_nonneg ok1]
    · have c4 : (cellM m r.toNat w.toNat).1.os.length ≤ m.os.length + (w.toNat + 7) / 8 := c4
      show (cellM m r.toNat w.toNat).1.os.length ≤ _
      omega
    · have c3 : (cellM m r.toNat w.toNat).1.rg.length = m.rg.length := c3
      show (cellM m r.toNat w.toNat).1.rg.length ≤ _
      omega
  | en r =>
    obtain ⟨ok1, ok2⟩ := ok
    refine ⟨?_, ?_, rfl, ?_, ?_⟩
    · show R50 (er (endM m r.toNat)) (endL m2 r.toNat)
      rw [← er_end mo]
      exact h.end_ ok2
    · show m.log.map (· ++ [entry "end" r.toNat 0]) = m.log.map (· ++ [entry "end" r 0])
      rw [Int.toNat_of_nonneg ok1]
    · show (m.os.map (giveP _)).length ≤ _
      rw [List.length_map]; omega
    · show (m.rg.set _ _).length ≤ _
      rw [List.length_set]; omega
  | rd x =>
    refine ⟨h, ?_, rfl, Nat.le_add_right _ _, Nat.le_add_right _ _⟩
    have e := h.owner x
    rw [er_owner] at e
    show m.log.map (· ++ [entry "read" (ownerM m x) x]) = m.log.map (· ++ [entry "read" (ownerM m2 x) x])
    rw [e]
  | wr x y =>
    refine ⟨?_, ?_, rfl, Nat.le_add_right _ _, Nat.le_add_right _ _⟩
    · show R50 (er (writeM m x y)) m2
      rw [er_write]; exact h
    · have e := h.owner x
      rw [er_owner] at e
      show m.log.map (· ++ [entry "write" (ownerM m x) x]) = m.log.map (· ++ [entry "write" (ownerM m2 x) x])
      rw [e]
theorem entL_yes {d : Dd} (ok : okD m d) : entL m d = some (dueE m d) ∧ nxtL m d = nxtE m d := ⟨if_pos ok, if_pos ok⟩
theorem entL_no {d : Dd} (ok : ¬ okD m d) : entL m d = none ∧ nxtL m d = m := ⟨if_neg ok, if_neg ok⟩
theorem dueL_cons {d : Dd} {ds : List Dd} : dueL m (d :: ds) = (entL m d).toList ++ dueL (nxtL m d) ds := rfl
theorem dueL_len : ∀ (ds : List Dd) (m : Mm), (dueL m ds).length ≤ ds.length
  | [], _ => Nat.le_refl _
  | d :: ds, m => by
    have ih := dueL_len ds (nxtL m d)
    rw [dueL_cons, List.length_append, List.length_cons]
    have : (entL m d).toList.length ≤ 1 := by
      cases entL m d with
      | none => exact Nat.zero_le _
      | some e => exact Nat.le_refl _
    omega
end
section
variable {K : PySem.W.Frag} {vs : List V} {H H' H2 H1 : Hp} {Q : VK} {E : XK} {n : Nat} {a w L W O R x p q : Addr} {S S' : List Addr} {m m2 m' : Mm} {rs : List Addr}
theorem StAt.keep0 (st : StAt K H a S m) (hw : m.wt = none) (k : ∀ x ∈ S, ∀ o, H x = some o → H' x = some o) : StAt K H' a S m := by
  obtain ⟨W, O, R, rs, rfl, st⟩ := st
  obtain ⟨dx, i⟩ := st.ins
  refine ⟨W, O, R, rs, rfl, ⟨⟨dx, k _ (by simp) _ i⟩, k _ (by simp) _ st.w, k _ (by simp) _ st.o, k _ (by simp) _ st.r, st.nl, st.nd, fun i x g e1 e2 => ?_, st.ne, st.na, st.log.1, fun w L e => by rw [hw] at e; cases e⟩⟩
  obtain ⟨d, e⟩ := st.rg i x g e1 e2
  exact ⟨d, k x (by simp [List.mem_of_getElem? e1]) _ e⟩
theorem StAt.new (st : StAt K H a S m) (hx : H x = none) : x ∉ S := by
  obtain ⟨W, O, R, rs, rfl, st⟩ := st
  exact st.new hx
theorem StAt.log_ (st : StAt K H a S m) (hw : m.wt = some (w, L)) : (∃ dw, H w = some (.ins (He.ga K "Watch") dw [("store", .ref a), ("log", .ref L)])) ∧ (∃ vs ds, H L = some (.lst vs) ∧ m.log = some ds ∧ TdL K H vs ds) ∧ (∃ da fs, H a = some (.ins (He.ga K "Store") da fs) ∧ fs.length ≤ 10) ∧ w ≠ a := by
  obtain ⟨W, O, R, rs, rfl, st⟩ := st
  obtain ⟨i, l, wa, _⟩ := st.log.2 w L hw
  obtain ⟨dx, e⟩ := st.ins
  exact ⟨i, l, ⟨dx, _, e, by show 4 ≤ 10; decide⟩, wa⟩
/-- what holds in the loop of replay, ahead of the k-th deed -/
structure J51 (K : PySem.W.Frag) (H0 : Hp) (ds : List Dd) (a w : Addr) (k : Nat) (H : Hp) : Prop where
  same : Same H0 H
  st : ∃ S m m2 L pre, StAt K H a S m ∧ (∀ x ∈ S, H0 x = none) ∧ m.wt = some (w, L) ∧ m.log = some pre ∧ pre.length ≤ k ∧ m.os.length ≤ 8 * k ∧ m.rg.length ≤ k ∧ R50 (er m) m2 ∧ dueL m0 ds = pre ++ dueL m2 (ds.drop k)
theorem rd_replay (kf : KF K) (h : sp_replay K vs H Q E) : t_replay K { nx := fun _ H' => Q .non H', rt := Q } (start n_replay vs) H := by
  obtain ⟨p, us, ds, rfl, hp, td, hl, hsm, q⟩ := h
  have hlen := td.len
  rw [List.length_map] at hlen
  unfold t_replay
  walk_at "u"
  intro a dx ha hdx hne
  refine ⟨a, dx, rfl, upd_same, fun S H1 st1 k1 nS => ⟨rfl, ?_⟩⟩
  have s1 : Same H H1 := fun b o e => by
    refine k1 b o (ne_of_none e ha) ?_
    rw [upd_ne (ne_of_none e ha), upd_ne (ne_of_none e hdx)]
    exact e
  have nS1 : ∀ x ∈ S, H x = none := fun x hx => by
    rcases nS x hx with e | e
    · rw [e]; exact ha
    · cases h : H x with
      | none => rfl
      | some o =>
        rw [upd_ne (ne_of_none h ha), upd_ne (ne_of_none h hdx), h] at e
        cases e
  walk_at "u"
  refine r_sq (r_with ?_)
  walk_at "u"
  intro w dw hw hdw hnw
  refine ⟨w, dw, a, rfl, upd_same, fun L0 H2 k2 e2 hL0 => ⟨rfl, ?_⟩⟩
  have hwS : w ∉ S := st1.new hw
  have s2 : Same H1 H2 := fun b o e => by
    refine k2 b o (ne_of_none e hw) ?_
    rw [upd_ne (ne_of_none e hw), upd_ne (ne_of_none e hdw)]
    exact e
  have st2 := st1.keep0 (H' := H2) rfl fun x _ o e => s2 _ _ e
  refine ⟨w, dw, _, rfl, e2, w, dw, a, L0, S, m0, rfl, e2, st2, rfl, hwS, fun L H3 k3 hL st3 => ?_⟩
  have hwH : H w = none := by
    cases h : H w with
    | none => rfl
    | some o => rw [s1 _ _ h] at hw; cases hw
  have s3 : Same H H3 := fun b o e => by
    refine k3 b o (ne_of_none e hwH) (fun z => ?_) (s2 _ _ (s1 _ _ e))
    rw [nS1 b z] at e
    cases e
  have nS3 : ∀ x ∈ L :: S, H x = none := fun x hx => by
    rcases List.mem_cons.mp hx with z | z
    · subst z
      cases h : H x with
      | none => rfl
      | some o => rw [s2 _ _ (s1 _ _ h)] at hL; cases hL
    · exact nS1 x z
  walk_at "u"
  refine it_list ?_
  walk_at "u"
  refine ⟨p, rfl, ⟨us, SqL.of (s3 _ _ hp)⟩, ?_⟩
  have j0 : J51 K H ds a w 0 H3 := ⟨s3, L :: S, _, m0, L, [], st3, nS3, rfl, rfl, Nat.le_refl _, Nat.le_refl _, Nat.le_refl _, R50.zero, rfl⟩
  refine f_list (xs := us) (fun k σ' H' => J51 K H ds a w k H' ∧ ∃ y3, σ' = [some (.ref p), some (.ref a), some (.ref w), y3]) ⟨j0, none, rfl⟩ (fun i σ' H' z => SqL.of (z.1.same _ _ hp)) ?_ ?_
  · rintro k v σ' H4 hv ⟨⟨s4, S4, m4, m2, L4, pre, st4, nS4, hwt, hlg, hpre, hos, hrg, R4, hdue⟩, y3, rfl⟩
    have hk := (List.getElem?_eq_some_iff.mp hv).1
    have hkd : k < ds.length := by omega
    obtain ⟨d', hd', tv⟩ := td.getV hv
    rw [List.getElem?_map, List.getElem?_eq_getElem hkd] at hd'
    cases hd'
    have hdr : ds.drop k = ds[k] :: ds.drop (k + 1) := List.drop_eq_getElem_cons hkd
    have hsk := hsm _ (List.getElem_mem hkd)
    generalize ds[k] = d at tv hdr hsk
    rw [hdr, dueL_cons] at hdue
    walk_at "u"
    refine ⟨a, S4, m4, v, d, rfl, st4, tv.k (Same.tk s4), (fun l e => by rw [hlg] at e; cases e; omega), er_mok.mp R4.ok, ⟨by omega, by omega⟩, hsk, fun ok S5 H5 st5 f5 => ?_, fun no z H5 dd s5 hdd => ?_⟩
    · obtain ⟨r1, r2, r3, r4, r5⟩ := step51 R4 d ok hsk
      obtain ⟨l1, l2⟩ := entL_yes ((ok51 R4 d).mp ok)
      rw [l1, l2] at hdue
      refine ⟨⟨fun b o e => ?_, S5, _, nxtE m2 d, L4, pre ++ [dueE m2 d], st5, fun x hx => ?_, r3.trans hwt, by rw [r2, hlg]; rfl, by rw [List.length_append]; exact Nat.succ_le_succ hpre, by omega, by omega, r1, by rw [hdue, List.append_assoc]; rfl⟩, _, rfl⟩
      · exact f5.fr b o (fun z => by rw [nS4 b z] at e; cases e) (s4 _ _ e)
      · rcases f5.mem hx with z | z
        · exact nS4 x z
        · cases h : H x with
          | none => rfl
          | some o => rw [s4 _ _ h] at z; cases z
    · refine r_wOnly kf.exm_StoreError_StoreError fun a2 ha2 => ?_
      have s6 := s5.trans (same_new (o := .xd [("reason", .str z)]) hdd)
      obtain ⟨l1, l2⟩ := entL_no (fun ok => no ((ok51 R4 d).mpr ok))
      rw [l1, l2] at hdue
      refine ⟨⟨s4.trans s6, S4, m4, m2, L4, pre, ?_, nS4, hwt, hlg, by omega, by omega, by omega, R4, hdue⟩, _, rfl⟩
      obtain ⟨W, O, R, rs, rfl, st⟩ := st4
      exact ⟨W, O, R, rs, rfl, st.same s6⟩
  · rintro σ' H4 ⟨⟨s4, S4, m4, m2, L4, pre, st4, nS4, hwt, hlg, hpre, hos, hrg, R4, hdue⟩, y3, rfl⟩
    rw [hlen, List.drop_length] at hdue
    have hdue : dueL m0 ds = pre := by rw [hdue]; exact List.append_nil _
    obtain ⟨⟨dw4, i4⟩, ⟨ws, es, l4, e4, t4⟩, ⟨da, fs, ia, hfs⟩, aw⟩ := st4.log_ hwt
    rw [hlg] at e4
    cases e4
    refine ⟨w, dw4, a, da, L4, fs, rfl, i4, ia, hfs, fun H5 k5 => ?_⟩
    have aL : L4 ≠ a := fun z => by rw [z, ia] at l4; cases l4
    have tk5 : Tk K H4 H5 := fun c ys t => by
      rcases t with (t | ⟨o, t⟩) | t
      · exact .inl (.inl (by rw [k5 c (fun n => by rw [n, ia] at t; cases t)]; exact t))
      · exact .inl (.inr ⟨o, by rw [k5 c (fun n => by rw [n, ia] at t; cases t)]; exact t⟩)
      · exact .inr t
    have haH : H a = none := ha
    have s5 : Same H H5 := fun b o e => by
      rw [k5 b (ne_of_none e haH)]
      exact s4 _ _ e
    walk_at "u"
    refine gfield (by rw [k5 w aw]; exact i4) rfl ?_
    refine r_listL (SqL.of (by rw [k5 L4 aL]; exact l4)) fun l hl6 => ?_
    obtain ⟨H6, e6, s6, el⟩ := lay_new (o := .lst ws) hl6
    rw [e6]
    have hlH : H l = none := by
      cases h : H l with
      | none => rfl
      | some o => rw [s5 _ _ h] at hl6; cases hl6
    rw [hdue] at q
    exact q l H6 ws (s5.trans s6) hlH el ((t4.k tk5).k (Same.tk s6))
end
section
variable {K : PySem.W.Frag} {vs : List V} {H H' H2 H1 : Hp} {Q : VK} {E : XK} {n : Nat} {a b o w v s am x c C p l : Addr} {S S' L L' : List Addr} {m m2 m' : Mm} {xs : List V} {ss : List Addr}
theorem MOk.sz (mo : MOk m) (h : m.os.length ≤ 100000) : m.ws.length ≤ 800000 := by
  have := mo.len
  omega
theorem rd_l_owner (h : sp_l_owner K vs H Q E) : t_l_owner K { nx := fun _ H' => Q .non H', rt := Q } (start n_l_owner vs) H := by
  obtain ⟨b, L, m, y, rfl, ⟨o, w, v, s, am, ss, rfl, md⟩, mo, ⟨hz1, hz2⟩, q⟩ := h
  have hws := mo.sz (by omega)
  have eb := md.eb
  have ew := md.ew
  have eo := md.eo
  unfold t_l_owner
  walk_at "ui"
  refine br_d (fun h0 => ?_) (fun h0 => ?_)
  · walk_at "u"
    rw [ownerM_out (x := y) (fun z => by omega)] at q
    exact q
  · walk_at "u"
    rw [List.length_map]
    refine br_d (fun h1 => ?_) (fun h1 => ?_)
    · walk_at "u"
      rw [ownerM_out (x := y) (fun z => by omega)] at q
      exact q
    · walk_at "u"
      obtain ⟨k, ho, e⟩ := ownerM_in (x := y) mo ⟨by omega, by omega⟩
      rw [show y / 8 = (((y / 8).toNat : Nat) : Int) by omega]
      refine r_ixL (SqL.of eo) (atI_nat (get_ints ho)) ?_
      rw [e] at q
      exact q
theorem MdAt.some_ (md : MdAt H b L m) : ∀ x ∈ L, ∃ o, H x = some o := by
  obtain ⟨o, w, v, s, am, ss, rfl, md⟩ := md
  intro x hx
  simp only [List.mem_cons] at hx
  rcases hx with rfl | rfl | rfl | rfl | rfl | rfl | hx
  · exact ⟨_, md.eb⟩
  · exact ⟨_, md.eo⟩
  · exact ⟨_, md.ew⟩
  · exact ⟨_, md.ev⟩
  · exact ⟨_, md.es⟩
  · exact ⟨_, md.ea⟩
  · obtain ⟨i, hi⟩ := List.getElem?_of_mem hx
    have hil := (List.getElem?_eq_some_iff.mp hi).1
    rw [md.nl] at hil
    exact ⟨_, md.sp i x _ hi (List.getElem?_eq_getElem hil)⟩
theorem MdAt.keep (md : MdAt H b L m) (k : ∀ x ∈ L, ∀ o, H x = some o → H' x = some o) : MdAt H' b L m := by
  obtain ⟨o, w, v, s, am, ss, rfl, md⟩ := md
  refine ⟨o, w, v, s, am, ss, rfl, ⟨k _ (by simp) _ md.eb, k _ (by simp) _ md.eo, k _ (by simp) _ md.ew, k _ (by simp) _ md.ev, k _ (by simp) _ md.es, k _ (by simp) _ md.ea, md.nl, fun i x g e1 e2 => k x (by simp [List.mem_of_getElem? e1]) _ (md.sp i x g e1 e2), md.nd⟩⟩
theorem MdAt.side (md : MdAt H b L m) (hx : x ∉ L) (k : ∀ c, c ≠ x → H' c = H c) : MdAt H' b L m := md.keep fun y hy o e => by rw [k y (fun z => hx (z ▸ hy))]; exact e
theorem MdAt.same (md : MdAt H b L m) (s : Same H H') : MdAt H' b L m := md.keep fun x _ o e => s _ _ e
theorem Dr.fr (h : Dr H p l) (k : ∀ b, b ≠ p → H' b = H b) : Fr p H H' := Fr.of k
theorem r_pw {k : Nat} {z : Int} {H : Hp} {Q : VK} (hk : k ≤ 60) (e : (2 : Int) ^ k = z) (h : Q (.int z) H) : uPow (.int 2) (.int k) H Q := by
  refine ⟨⟨by omega, by omega, by decide⟩, ?_⟩
  have : ((k : Int)).toNat = k := Int.toNat_natCast k
  rw [this, e]
  exact h
theorem rd_l_deed (h : sp_l_deed K vs H Q E) : t_l_deed K { nx := fun _ H' => Q .non H', rt := Q } (start n_l_deed vs) H := by
  obtain ⟨p, l, many, rfl, dr, hm1, hm2, q⟩ := h
  unfold t_l_deed
  walk_at "u"
  refine ⟨p, l, 7, rfl, by decide, by decide, dr, fun k H1 hk0 hk1 dr1 k1 => ?_⟩
  walk_at "u"
  refine ⟨p, l, many + 3, rfl, by omega, by omega, dr1, fun r H2 hr0 hr1 dr2 k2 => ?_⟩
  have f2 : Fr p H H2 := (Fr.of k1).trans (Fr.of k2)
  walk_at "u"
  have fin : ∀ {H3 : Hp} (us : List V) (ds : List D) (d : Dd), Dr H3 p l → Fr p H H3 → TdL K H3 us ds → d.d = .tup ds → us.length ≤ 10 → d.small → d.rng → us.length ≤ sizeLine ∧ ∀ t, H3 t = none → Q (.ref t) (upd H3 t (.tup us)) := fun {H3} us ds d dr3 f3 td e hl h1 h2 => by
    refine ⟨szl (by omega), fun t ht => ?_⟩
    refine q (.ref t) d _ (dr3.new ht) (f3.trans (Fr.new ht)) ?_ h1 h2
    rw [e]
    exact Td.newT td ht
  walk_at "ui"
  refine br_d (fun h0 => ?_) (fun h0 => ?_)
  · walk_at "u"
    exact fin _ _ .beg dr2 f2 (.cons (.str _) .nil) rfl (by simp) trivial trivial
  · walk_at "u"
    walk_at "ui"
    refine br_d (fun h3 => ?_) (fun h3 => ?_)
    · walk_at "u"
      refine ⟨p, l, 10, rfl, by decide, by decide, dr2, fun w H3 hw0 hw1 dr3 k3 => ?_⟩
      have f3 := f2.trans (Fr.of k3)
      walk_at "u"
      refine r_cut (fun σ' H' => Dr H' p l ∧ Fr p H H' ∧ ∃ w : Int, -1 ≤ w ∧ w ≤ 50 ∧ ∃ y5, σ' = [some (.ref p), some (.int many), some (.int k), some (.int (r - 1)), some (.int w), y5]) ?_ ?_
      · walk_at "u"
        refine ⟨p, l, 5, rfl, by decide, by decide, dr3, fun z H4 hz0 hz1 dr4 k4 => ?_⟩
        have f4 := f3.trans (Fr.of k4)
        walk_at "u"
        refine br_d (fun h5 => ?_) (fun h5 => ?_)
        · walk_at "u"
          refine ⟨p, l, 42, rfl, by decide, by decide, dr4, fun z2 H5 hz20 hz21 dr5 k5 => ?_⟩
          walk_at "u"
          exact ⟨dr5, f4.trans (Fr.of k5), _, by omega, by omega, _, rfl⟩
        · walk_at "u"
          exact ⟨dr4, f4, _, by omega, by omega, _, rfl⟩
      · rintro σ' H4 ⟨dr4, f4, w2, hw20, hw21, y5, rfl⟩
        walk_at "u"
        exact fin _ _ (.cel (r - 1) w2) dr4 f4 (.cons (.str _) (.cons (.int _) (.cons (.int _) .nil))) rfl (by simp) (by show w2 ≤ 50; omega) ⟨by omega, by omega⟩
    · walk_at "u"
      walk_at "ui"
      refine br_d (fun h4 => ?_) (fun h4 => ?_)
      · walk_at "u"
        exact fin _ _ (.en (r - 1)) dr2 f2 (.cons (.str _) (.cons (.int _) .nil)) rfl (by simp) trivial (by show (r - 1).natAbs ≤ 1000; omega)
      · walk_at "u"
        refine ⟨p, l, 120, rfl, by decide, by decide, dr2, fun x0 H3 hx0 hx1 dr3 k3 => ?_⟩
        have f3 := f2.trans (Fr.of k3)
        walk_at "u"
        refine r_cut (fun σ' H' => Dr H' p l ∧ Fr p H H' ∧ ∃ x : Int, x.natAbs ≤ 2 ^ 40 ∧ ∃ y4, σ' = [some (.ref p), some (.int many), some (.int k), some (.int (r - 1)), y4, some (.int x)]) ?_ ?_
        · walk_at "u"
          refine br_d (fun h5 => ?_) (fun h5 => ?_)
          · walk_at "u"
            refine r_pw (k := 40) (z := 1099511627776) (by decide) (by decide) ?_
            walk_at "u"
            refine ⟨p, l, 1099511627776, rfl, by decide, by decide, dr3, fun z H4 hz0 hz1 dr4 k4 => ?_⟩
            walk_at "u"
            refine r_pw (k := 39) (z := 549755813888) (by decide) (by decide) ?_
            walk_at "u"
            exact ⟨dr4, f3.trans (Fr.of k4), _, by omega, _, rfl⟩
          · walk_at "u"
            exact ⟨dr3, f3, _, by omega, _, rfl⟩
        · rintro σ' H4 ⟨dr4, f4, x, hx, y4, rfl⟩
          walk_at "ui"
          refine br_d (fun h6 => ?_) (fun h6 => ?_)
          · walk_at "u"
            exact fin _ _ (.rd x) dr4 f4 (.cons (.str _) (.cons (.int _) .nil)) rfl (by simp) trivial hx
          · walk_at "u"
            refine r_pw (k := 36) (z := 68719476736) (by decide) (by decide) ?_
            walk_at "u"
            refine ⟨p, l, 68719476736, rfl, by decide, by decide, dr4, fun z H5 hz0 hz1 dr5 k5 => ?_⟩
            walk_at "u"
            refine r_pw (k := 35) (z := 34359738368) (by decide) (by decide) ?_
            walk_at "u"
            exact fin _ _ (.wr x (z - 34359738368)) dr5 (f4.trans (Fr.of k5)) (.cons (.str _) (.cons (.int _) (.cons (.int _) .nil))) rfl (by simp) trivial ⟨hx, by omega⟩
theorem tdi {t : Addr} {us : List V} {ds : List D} (s : SqT K H t us) (td : TdL K H us ds) {i : Nat} {d : D} (e : ds[i]? = some d) (k : ∀ v, Td K H v d → Q v H) : uIx K (.ref t) (.int (i : Nat)) H Q := by
  obtain ⟨v, h1, h2⟩ := td.get e
  exact r_ixT s (atI_nat h1) (k v h2)
theorem inT {t : Addr} {x y z : Str} (h : H t = some (.tup [.str x, .str y])) (q : Q (.bl (decide (z = x ∨ z = y))) H) : uIn K id (.str z) (.ref t) H Q := by
  refine ⟨[.str x, .str y], .inr (SqT.of h), rfl, rfl, ?_⟩
  have e : inV (V.str z) [.str x, .str y] = decide (z = x ∨ z = y) := by
    unfold inV
    simp only [List.any_cons, List.any_nil, Bool.or_false]
    rw [Bool.decide_or, show eqV (V.str x) (V.str z) = decide (z = x) from by show (x == z) = _; rw [Bool.eq_iff_iff, beq_iff_eq, decide_eq_true_iff]; exact eq_comm, show eqV (V.str y) (V.str z) = decide (z = y) from by show (y == z) = _; rw [Bool.eq_iff_iff, beq_iff_eq, decide_eq_true_iff]; exact eq_comm]
  rw [show (id (inV (V.str z) [.str x, .str y])) = decide (z = x ∨ z = y) from e]
  exact q
theorem r_chk {r : Int} {y : V} {QB : Bool → Hp → Prop} (md : MdX H b o w v s am ss m) (hl : m.rg.length ≤ 1000) (yes : 0 ≤ r ∧ live m r.toNat → QB false H) (no : ¬ (0 ≤ r ∧ live m r.toNat) → QB true H) :
    tOr (tTest (tOp (uLt) (tVar 2) (tC (.int 0)))) (tOr (tTest (tOp (uGe) (tVar 2) (tCB (uLen K) (tCons (tOp (uIx K) (tVar 0) (tC (.int 2))) tNil)))) (tNot (uTru K (tOp (uIx K) (tOp (uIx K) (tVar 0) (tC (.int 2))) (tVar 2))))) [some (.ref b), some y, some (.int r)] H QB := by
  have eb := md.eb
  have ev := md.ev
  walk_at "u"
  refine br_d (fun h0 => ?_) (fun h0 => ?_)
  · refine no fun z => ?_
    omega
  · walk_at "u"
    rw [List.length_map]
    refine br_d (fun h1 => ?_) (fun h1 => ?_)
    · refine no fun z => ?_
      obtain ⟨_, g, e, hg⟩ := z
      have := (List.getElem?_eq_some_iff.mp e).1
      omega
    · walk_at "u"
      have hr : r.toNat < m.rg.length := by omega
      rw [show r = ((r.toNat : Nat) : Int) by omega]
      refine r_ixL (v := .bl (m.rg[r.toNat]).lv) (SqL.of ev) (atI_nat (by rw [List.getElem?_map, List.getElem?_eq_getElem hr]; rfl)) ?_
      walk_at "u"
      cases hv : (m.rg[r.toNat]).lv with
      | true => exact yes ⟨by omega, _, List.getElem?_eq_getElem hr, hv⟩
      | false =>
        refine no fun z => ?_
        obtain ⟨_, g, e, hg⟩ := z
        rw [List.getElem?_eq_getElem hr] at e
        cases e
        rw [hv] at hg
        cases hg
theorem rd_l_entry (h : sp_l_entry K vs H Q E) : t_l_entry K { nx := fun _ H' => Q .non H', rt := Q } (start n_l_entry vs) H := by
  obtain ⟨b, L, m, v, d, rfl, md, td, mo, ⟨hz1, hz2⟩, hrg, hsm, q⟩ := h
  unfold t_l_entry
  have fin : ∀ {H3 : Hp} {L' : List Addr} (us : List V) (z : Str) (i j : Int), us = [.str z, .int i, .int j] → okD m d → MdAt H3 b L' (nxtE m d) → StFr L L' H H3 → dueE m d = entry z i j → us.length ≤ sizeLine ∧ ∀ t, H3 t = none → Q (.ref t) (upd H3 t (.tup us)) := fun {H3 L'} us z i j e ok md3 f3 e2 => by
    subst e
    refine ⟨szl (by simp), fun t ht => ?_⟩
    obtain ⟨l1, l2⟩ := entL_yes ok
    refine q L' _ (.ref t) (by rw [l2]; exact md3.same (same_new ht)) (f3.trans (StFr.same (same_new ht))) ?_
    rw [l1, e2]
    exact Td.newT (.cons (.str _) (.cons (.int _) (.cons (.int _) .nil))) ht
  have bad : ¬ okD m d → Q .non H := fun no => by
    obtain ⟨l1, l2⟩ := entL_no no
    exact q L H .non (by rw [l2]; exact md) StFr.refl (by rw [l1]; rfl)
  have badS : ∀ {H3}, Same H H3 → ¬ okD m d → Q .non H3 := fun {H3} s no => by
    obtain ⟨l1, l2⟩ := entL_no no
    exact q L H3 .non (by rw [l2]; exact md.same s) (StFr.same s) (by rw [l1]; rfl)
  obtain ⟨t, us, rfl, s, td⟩ := (show Td K H v (.tup (match d with
    | .beg => [.str "begin"]
    | .cel r w => [.str "cell", .int r, .int w]
    | .en r => [.str "end", .int r]
    | .rd x => [.str "read", .int x]
    | .wr x y => [.str "write", .int x, .int y])) by cases d <;> exact td).inv
  cases d with
  | beg =>
    cases td with
    | cons h0 td =>
      cases h0; cases td
      walk_at "ui"
      refine ⟨b, L, m, rfl, md, by omega, fun L' H1 md1 f1 => ?_⟩
      walk_at "u"
      exact fin _ _ _ _ rfl trivial md1 f1 rfl
  | rd x =>
    cases td with
    | cons h0 td => cases td with
      | cons h1 td =>
        cases h0; cases h1; cases td
        walk_at "ui"
        walk_at "ui"
        refine ⟨szl (by simp), fun T hT => ?_⟩
        obtain ⟨H1, e1, s1, eT⟩ := lay_new (o := .tup [.str "read", .str "write"]) hT
        rw [e1]
        refine inT eT ?_
        have st := (Same.tk s1) _ _ s
        have md1 := md.same s1
        walk_at "u"
        refine ⟨b, L, m, x, rfl, md1, mo, ⟨by omega, by omega⟩, ?_⟩
        walk_at "u"
        exact fin _ _ _ _ rfl trivial md1 (StFr.same s1) rfl
  | wr x y =>
    cases td with
    | cons h0 td => cases td with
      | cons h1 td => cases td with
        | cons h2 td =>
          cases h0; cases h1; cases h2; cases td
          walk_at "ui"
          walk_at "ui"
          refine ⟨szl (by simp), fun T hT => ?_⟩
          obtain ⟨H1, e1, s1, eT⟩ := lay_new (o := .tup [.str "read", .str "write"]) hT
          rw [e1]
          refine inT eT ?_
          have st := (Same.tk s1) _ _ s
          have md1 := md.same s1
          walk_at "u"
          refine ⟨b, L, m, x, rfl, md1, mo, ⟨by omega, by omega⟩, ?_⟩
          walk_at "u"
          exact fin _ _ _ _ rfl trivial md1 (StFr.same s1) rfl
  | en r =>
    cases td with
    | cons h0 td => cases td with
      | cons h1 td =>
        cases h0; cases h1; cases td
        walk_at "ui"
        walk_at "ui"
        refine ⟨szl (by simp), fun T hT => ?_⟩
        obtain ⟨H1, e1, s1, eT⟩ := lay_new (o := .tup [.str "read", .str "write"]) hT
        rw [e1]
        refine inT eT ?_
        have st := (Same.tk s1) _ _ s
        have md1 := md.same s1
        obtain ⟨o, w, v, s', am, ss, rfl, mdx⟩ := id md1
        walk_at "u"
        refine r_sq (r_ifS (r_chk mdx (by omega) (fun ok => ?_) (fun no => ?_)))
        · walk_at "u"
          walk_at "ui"
          refine ⟨b, _, m, r.toNat, by rw [Int.toNat_of_nonneg ok.1], md1, ?_, mo, ⟨by omega, by omega⟩, fun L' H2 md2 f2 => ?_⟩
          · obtain ⟨g, e, _⟩ := ok.2
            exact (List.getElem?_eq_some_iff.mp e).1
          walk_at "u"
          exact fin _ _ _ _ rfl ok md2 ((StFr.same s1).trans f2) rfl
        · walk_at "u"
          exact badS s1 no
  | cel r w =>
    cases td with
    | cons h0 td => cases td with
      | cons h1 td => cases td with
        | cons h2 td =>
          cases h0; cases h1; cases h2; cases td
          have hsm : w ≤ 50 := hsm
          walk_at "ui"
          walk_at "ui"
          refine ⟨szl (by simp), fun T hT => ?_⟩
          obtain ⟨H1, e1, s1, eT⟩ := lay_new (o := .tup [.str "read", .str "write"]) hT
          rw [e1]
          refine inT eT ?_
          have st := (Same.tk s1) _ _ s
          have md1 := md.same s1
          obtain ⟨o, w', v, s', am, ss, rfl, mdx⟩ := id md1
          walk_at "u"
          refine r_sq (r_ifS (r_chk mdx (by omega) (fun ok => ?_) (fun no => ?_)))
          · walk_at "u"
            walk_at "ui"
            walk_at "ui"
            refine br_d (fun h1 => ?_) (fun h1 => ?_)
            · walk_at "u"
              exact badS s1 fun z => by have := z.2.2; omega
            · walk_at "u"
              refine ⟨b, _, m, r.toNat, w.toNat, by rw [Int.toNat_of_nonneg ok.1, Int.toNat_of_nonneg (by omega)], md1, ?_, by omega, mo, ⟨by omega, by omega⟩, fun L' H2 md2 f2 => ?_⟩
              · obtain ⟨g, e, _⟩ := ok.2
                exact (List.getElem?_eq_some_iff.mp e).1
              walk_at "u"
              exact fin _ _ _ _ rfl ⟨ok.1, ok.2, by omega⟩ md2 ((StFr.same s1).trans f2) rfl
          · walk_at "u"
            exact badS s1 fun z => no ⟨z.1, z.2.1⟩
end
section
variable {m m2 : Mm} {r w c : Nat} {g g2 : Rg}
/-- an entry that is due -/
def EntOk (e : D) : Prop := ∃ z : Str, ∃ i j : Int, e = entry z i j ∧ (z = "begin" ∨ z = "cell" ∨ z = "end" ∨ z = "read" ∨ z = "write") ∧ i.natAbs < 10 ^ 15 ∧ j.natAbs < 10 ^ 15
theorem short_int {i : Int} (h : i.natAbs < 10 ^ 15) : (PyData.int i).showable = true ∧ (PyData.int i).leavesShort 60 = true ∧ (PyData.int i).weight ≤ 60 := by
  have h64 : i.natAbs < 2 ^ 50 := Nat.lt_of_lt_of_le h (by decide)
  have hl : i.natAbs.log2 < 50 := PySem.Flt.log2_lt_of (by decide) h64
  refine ⟨?_, ?_, ?_⟩
  · simp only [PyData.showable, decide_eq_true_eq]; omega
  · have e2 : (PyData.int i).shown = Str.ofString (toString i) := by simp only [PyData.shown]
    simp only [PyData.leavesShort]
    refine decide_eq_true ?_
    rw [e2]
    have e := int_text_length_le (k := 50) (by decide) hl
    rw [PySem.ofString_length]
    omega
  · simp only [PyData.weight]
    split <;> omega
theorem EntOk.rep {e : D} (h : EntOk e) : repOk e ∧ D.fit 1 e = true := by
  obtain ⟨z, i, j, rfl, hz, hi, hj⟩ := h
  obtain ⟨a1, a2, a3⟩ := short_int hi
  obtain ⟨b1, b2, b3⟩ := short_int hj
  have z1 : (PyData.str z).leavesShort 60 = true ∧ (PyData.str z).weight ≤ 5 ∧ D.fit 0 (.str z) = true := by
    rcases hz with rfl | rfl | rfl | rfl | rfl <;> exact ⟨by decide +kernel, by decide +kernel, by decide +kernel⟩
  obtain ⟨z1, z2, z3⟩ := z1
  refine ⟨⟨?_, ?_, ?_, ?_, ?_⟩, ?_⟩
  · show PyData.showable (.tuple [.str z, .int i, .int j]) = true
    simp only [PyData.showable, PyData.showableAll] at a1 b1 ⊢
    rw [a1, b1]; rfl
  · show PyData.hasDict (.tuple [.str z, .int i, .int j]) = false
    simp [PyData.hasDict, PyData.hasDictAll]
  · show PyData.depth (.tuple [.str z, .int i, .int j]) ≤ 50
    simp [PyData.depth, PyData.depthAll]
  · show PyData.leavesShort 60 (.tuple [.str z, .int i, .int j]) = true
    rw [PyData.leavesShort, PyData.leavesShortAll, PyData.leavesShortAll, PyData.leavesShortAll, PyData.leavesShortAll, z1, a2, b2]; rfl
  · show PyData.weight (.tuple [.str z, .int i, .int j]) ≤ 200
    rw [PyData.weight, PyData.weightAll, PyData.weightAll, PyData.weightAll, PyData.weightAll]
    omega
  · exact D.fit_tup.mpr ⟨by show 3 ≤ 60000; decide, fun d hd => by
      simp only [List.mem_cons, List.not_mem_nil, or_false] at hd
      rcases hd with rfl | rfl | rfl
      · exact z3
      · exact D.fit_int
      · exact D.fit_int⟩
theorem take_all {P : Int → Prop} (ob : ∀ o ∈ m.os, P o) (h1 : P (-1)) (hr : P r) : ∀ o ∈ (takeM m c r).os, P o := fun o ho => by
  have ho : o ∈ setR (if takeP m c = m.os.length then m.os ++ List.replicate c (-1) else m.os) (takeP m c) c (r : Int) := ho
  rcases setR_mem ho with h | h
  · split at h
    · rcases List.mem_append.mp h with h | h
      · exact ob o h
      · rw [(List.mem_replicate.mp h).2]; exact h1
    · exact ob o h
  · rw [h]; exact hr
theorem spot_all {P : Int → Prop} (ob : ∀ o ∈ m.os, P o) (h1 : P (-1)) (hr : P r) : ∀ o ∈ (spotM m r w g).1.os, P o := by
  unfold spotM
  split
  · exact take_all ob h1 hr
  · split
    · exact take_all ob h1 hr
    · exact ob
structure G51 (m2 : Mm) (n : Nat) : Prop where
  re : ∃ m, R50 (er m) m2 ∧ m.os.length ≤ 8 * n ∧ m.rg.length ≤ n
  ob : ∀ o ∈ m2.os, o.natAbs ≤ 1000
theorem G51.zero : G51 m0 0 := ⟨⟨m0, R50.zero, Nat.le_refl _, Nat.le_refl _⟩, fun o h => by cases h⟩
theorem G51.sz {n : Nat} (h : G51 m2 n) : MOk m2 ∧ m2.os.length ≤ 8 * n ∧ m2.rg.length ≤ n := by
  obtain ⟨⟨m, R, h1, h2⟩, _⟩ := h
  exact ⟨R.ok2, by rw [← R.os]; exact h1, by rw [← R.rl]; exact h2⟩
theorem G51.next {n : Nat} (h : G51 m2 n) (hn : n ≤ 200) (d : Dd) (sm : d.small) (rn : d.rng) : G51 (nxtL m2 d) (n + 1) ∧ ∀ e, entL m2 d = some e → EntOk e := by
  obtain ⟨mo2, o2, g2⟩ := h.sz
  by_cases ok : okD m2 d
  · obtain ⟨l1, l2⟩ := entL_yes ok
    rw [l1, l2]
    obtain ⟨⟨m, R, h1, h2⟩, ob⟩ := h
    obtain ⟨r1, r2, r3, r4, r5⟩ := step51 R d ((ok51 R d).mpr ok) sm
    have own : ∀ x, (ownerM m2 x).natAbs ≤ 1000 := fun x => by
      unfold ownerM
      split
      · rw [List.getD_eq_getElem?_getD]
        cases e : m2.os[(x / 8).toNat]? with
        | none => decide
        | some o => exact ob o (List.mem_of_getElem? e)
      · decide
    refine ⟨⟨⟨_, r1, by omega, by omega⟩, ?_⟩, fun e he => ?_⟩
    · cases d with
      | beg => exact ob
      | cel r w =>
        obtain ⟨ok1, ok2, ok3⟩ := ok
        have rn : r.natAbs ≤ 1000 ∧ _ := rn
        exact spot_all ob (by decide) (by omega)
      | en r =>
        intro o ho
        obtain ⟨o', ho', rfl⟩ := List.mem_map.mp (show o ∈ m2.os.map (giveP _) from ho)
        unfold giveP
        split
        · decide
        · exact ob _ ho'
      | rd x => exact ob
      | wr x y => exact ob
    · cases he
      cases d with
      | beg => exact ⟨_, _, _, rfl, by simp, by omega, by decide⟩
      | cel r w =>
        obtain ⟨ok1, ⟨g, hg, _⟩, ok3⟩ := ok
        have rn : r.natAbs ≤ 1000 ∧ _ := rn
        have sm : w ≤ 50 := sm
        obtain ⟨i1, i2, _⟩ := spotM_in (w := w.toNat) mo2 hg (by omega)
        refine ⟨_, _, _, rfl, by simp, by omega, ?_⟩
        have hl := mo2.len
        have e : (cellL m2 r.toNat w.toNat).2 = (spotM m2 r.toNat w.toNat g).2.1 := by
          unfold cellL
          rw [getD_of hg]
        rw [e]
        omega
      | en r =>
        have rn : r.natAbs ≤ 1000 := rn
        exact ⟨_, _, _, rfl, by simp, by omega, by decide⟩
      | rd x =>
        have rn : x.natAbs ≤ 2 ^ 40 := rn
        have := own x
        exact ⟨_, _, _, rfl, by simp, by omega, by omega⟩
      | wr x y =>
        have rn : x.natAbs ≤ 2 ^ 40 ∧ _ := rn
        have := own x
        exact ⟨_, _, _, rfl, by simp, by omega, by omega⟩
  · obtain ⟨l1, l2⟩ := entL_no ok
    rw [l1, l2]
    obtain ⟨⟨m, R, h1, h2⟩, ob⟩ := h
    exact ⟨⟨⟨m, R, by omega, by omega⟩, ob⟩, fun e he => by cases he⟩
end
section
variable {K : PySem.W.Frag} {vs : List V} {H H' H2 H1 : Hp} {Q : VK} {E : XK} {n : Nat} {a b o w v s am x c C p l P U : Addr} {S S' L L' : List Addr} {m m2 m' : Mm} {xs us : List V} {ss : List Addr} {ds : List Dd}
theorem MdAt.nt (md : MdAt H b L m) : ∀ x ∈ L, Nt H x := by
  obtain ⟨o, w, v, s, am, ss, rfl, md⟩ := md
  intro x hx
  simp only [List.mem_cons] at hx
  rcases hx with rfl | rfl | rfl | rfl | rfl | rfl | hx
  · exact Nt.lst md.eb
  · exact Nt.lst md.eo
  · exact Nt.lst md.ew
  · exact Nt.lst md.ev
  · exact Nt.lst md.es
  · exact Nt.lst md.ea
  · obtain ⟨i, hi⟩ := List.getElem?_of_mem hx
    have hil := (List.getElem?_eq_some_iff.mp hi).1
    rw [md.nl] at hil
    exact Nt.lst (md.sp i x _ hi (List.getElem?_eq_getElem hil))
theorem FrN.tkS {ls : List Addr} (f : FrN ls H H') (h : ∀ a ∈ ls, Nt H a) : Tk K H H' := fun a ys e => by
  rcases e with (e | ⟨ob, e⟩) | e
  · exact .inl (.inl (f _ _ (fun m => (h a m).1 _ e) e))
  · exact .inl (.inr ⟨ob, f _ _ (fun m => (h a m).2 _ _ e) e⟩)
  · exact .inr e

/-- the deeds' list -/
structure DS (K : PySem.W.Frag) (H : Hp) (P : Addr) (us : List V) (ds : List Dd) : Prop where
  e : H P = some (.lst us)
  t : TdL K H us (ds.map Dd.d)
  ok : ∀ d ∈ ds, d.small ∧ d.rng
theorem DS.same (h : DS K H P us ds) (s : Same H H') : DS K H' P us ds := ⟨s _ _ h.e, h.t.k (Same.tk s), h.ok⟩
theorem DS.keep (h : DS K H P us ds) (e : H' P = some (.lst us)) (tk : Tk K H H') : DS K H' P us ds := ⟨e, h.t.k tk, h.ok⟩
theorem DS.len (h : DS K H P us ds) : us.length = ds.length := by have := h.t.len; rwa [List.length_map] at this
theorem DS.one {T : Addr} (hT : H1 T = some (.tup [.str "begin"])) (hP : H1 P = some (.lst [.ref T])) : DS K H1 P [.ref T] [.beg] :=
  ⟨hP, .one (.tup (SqT.of hT) (.one (.str _))), fun d hd => by rw [List.mem_singleton.mp hd]; exact ⟨trivial, trivial⟩⟩
theorem DS.nil (hP : H1 P = some (.lst [])) : DS K H1 P [] [] := ⟨hP, .nil, fun d hd => by cases hd⟩
theorem DS.fit (h : DS K H P us ds) : ∀ d ∈ ds.map Dd.d, D.fit 1 d = true := fun d hd => by
  obtain ⟨e, he, rfl⟩ := List.mem_map.mp hd
  have sz : ∀ z : Str, z = "begin" ∨ z = "cell" ∨ z = "end" ∨ z = "read" ∨ z = "write" → D.fit 0 (.str z) = true := fun z hz => by
    rcases hz with rfl | rfl | rfl | rfl | rfl <;> decide +kernel
  cases e with
  | beg => exact D.fit_tup.mpr ⟨by decide, fun x hx => by rw [List.mem_singleton.mp hx]; exact sz _ (by simp)⟩
  | cel r w =>
    refine D.fit_tup.mpr ⟨by show 3 ≤ 60000; decide, fun x hx => ?_⟩
    simp only [List.mem_cons, List.not_mem_nil, or_false] at hx
    rcases hx with rfl | rfl | rfl
    · exact sz _ (by simp)
    · exact D.fit_int
    · exact D.fit_int
  | en r =>
    refine D.fit_tup.mpr ⟨by show 2 ≤ 60000; decide, fun x hx => ?_⟩
    simp only [List.mem_cons, List.not_mem_nil, or_false] at hx
    rcases hx with rfl | rfl
    · exact sz _ (by simp)
    · exact D.fit_int
  | rd r =>
    refine D.fit_tup.mpr ⟨by show 2 ≤ 60000; decide, fun x hx => ?_⟩
    simp only [List.mem_cons, List.not_mem_nil, or_false] at hx
    rcases hx with rfl | rfl
    · exact sz _ (by simp)
    · exact D.fit_int
  | wr r w =>
    refine D.fit_tup.mpr ⟨by show 3 ≤ 60000; decide, fun x hx => ?_⟩
    simp only [List.mem_cons, List.not_mem_nil, or_false] at hx
    rcases hx with rfl | rfl | rfl
    · exact sz _ (by simp)
    · exact D.fit_int
    · exact D.fit_int
theorem Dd.name (d : Dd) : ∃ z r, d.d = .tup (.str z :: r) := by cases d <;> exact ⟨_, _, rfl⟩
theorem rd_law (h : sp_law K vs H Q E) : t_law K { nx := fun _ H' => Q .non H', rt := Q } (start n_law vs) H := by
  obtain ⟨a, ns, rfl, ha, hn, q⟩ := h
  have q' : ∀ H', Q (.bl true) H' := q
  unfold t_law
  walk_at "u"
  refine ⟨a, ns, rfl, ha, hn, fun p l H1 s1 hp dr1 => ?_⟩
  walk_at "u"
  refine ⟨szl (by simp), fun T hT => ?_⟩
  obtain ⟨H2, e2, s2, eT⟩ := lay_new (o := .tup [.str "begin"]) hT
  rw [e2]
  walk_at "u"
  refine ⟨szl (by simp), fun P0 hP0 => ?_⟩
  obtain ⟨H3, e3, s3, eP0⟩ := lay_new (o := .lst [.ref T]) hP0
  rw [e3]
  have dr3 := (dr1.same s2).same s3
  have np0 : P0 ≠ p := (dr1.same s2).nep hP0
  have nl0 : P0 ≠ l := (dr1.same s2).nel hP0
  walk_at "u"
  refine r_cut (fun σ' H' => ∃ P us ds, DS K H' P us ds ∧ ds.length ≤ 1 ∧ Dr H' p l ∧ P ≠ p ∧ P ≠ l ∧ σ' = [some (.ref a), some (.ref p), some (.ref P), none, none, none, none, none, none, none, none]) ?_ ?_
  · walk_at "u"
    refine ⟨p, l, 4, rfl, by decide, by decide, dr3, fun k H4 hk0 hk1 dr4 k4 => ?_⟩
    have f4 : Fr p H3 H4 := Fr.of k4
    walk_at "u"
    refine br_d (fun h1 => ?_) (fun h1 => ?_)
    · walk_at "u"
      refine ⟨szl (by simp), fun P hP => ?_⟩
      exact ⟨P, [], [], DS.nil upd_same, by decide, dr4.new hP, dr4.nep hP, dr4.nel hP, rfl⟩
    · walk_at "u"
      exact ⟨P0, _, [.beg], DS.one (T := T) (f4 _ _ (fun z => by rw [z] at eT; obtain ⟨ns', cur, seed, at_, hp', _⟩ := dr1.same s2; rw [hp'] at eT; cases eT) (s3 _ _ eT)) (f4 _ _ np0 eP0), by decide, dr4, np0, nl0, rfl⟩
  rintro σ' H4 ⟨P, us, ds, dS, hd1, dr4, np, nl, rfl⟩
  walk_at "u"
  refine r_cut (fun σ' H' => ∃ us ds, DS K H' P us ds ∧ ds.length ≤ 71 ∧ Dr H' p l ∧ ∃ y3 y4, σ' = [some (.ref a), some (.ref p), some (.ref P), y3, y4, none, none, none, none, none, none]) ?_ ?_
  · walk_at "u"
    refine ⟨p, l, 70, rfl, by decide, by decide, dr4, fun k H5 hk0 hk1 dr5 k5 => ?_⟩
    have f5 : Fr p H4 H5 := Fr.of k5
    walk_at "u"
    refine ⟨by omega, by omega, ?_⟩
    have tk5 : Tk K H4 H5 := dr4.tk f5
    refine f_range (fun t σ' H' => ∃ us ds, ∃ many : Int, DS K H' P us ds ∧ ds.length ≤ t + 1 ∧ Dr H' p l ∧ 1 ≤ many ∧ many ≤ t + 1 ∧ ∃ y4, σ' = [some (.ref a), some (.ref p), some (.ref P), some (.int many), y4, none, none, none, none, none, none]) ⟨us, ds, 1, dS.keep (f5 _ _ np dS.e) tk5, hd1, dr5, by decide, by decide, none, rfl⟩ ?_ ?_
    · rintro t σ H6 ht ⟨us6, ds6, many, dS6, hl6, dr6, hm1, hm2, y4, rfl⟩
      walk_at "u"
      refine ⟨.inl ⟨rfl, _, SqL.of dS6.e⟩, ?_⟩
      walk_at "u"
      refine ⟨p, l, many, rfl, dr6, hm1, by omega, fun v d H7 dr7 f7 tv h1 h2 => ?_⟩
      have eP7 := f7 _ _ np dS6.e
      have dS7 := dS6.keep eP7 (dr6.tk f7)
      have hlen := dS6.len
      walk_at "u"
      have tk8 : Tk K H7 (upd H7 P (.lst (us6 ++ [v]))) := Tk.lst eP7
      have dS8 : DS K (upd H7 P (.lst (us6 ++ [v]))) P (us6 ++ [v]) (ds6 ++ [d]) := ⟨upd_same, by rw [List.map_append]; exact (dS7.t.append (.one tv)).k tk8, fun x hx => by
        rcases List.mem_append.mp hx with z | z
        · exact dS7.ok x z
        · rw [List.mem_singleton.mp z]; exact ⟨h1, h2⟩⟩
      have dr8 : Dr (upd H7 P (.lst (us6 ++ [v]))) p l := dr7.upd np nl
      have tv8 := tv.k tk8
      generalize upd H7 P (.lst (us6 ++ [v])) = H8 at dS8 dr8 tv8 ⊢
      refine r_ixL (SqL.of dS8.e) (atI_last _ _) ?_
      obtain ⟨z, r, ed⟩ := d.name
      rw [ed] at tv8
      obtain ⟨T8, ws, rfl, sT, tT⟩ := tv8.inv
      refine r_c ?_
      refine tdi sT tT (i := 0) rfl fun y hy => ?_
      cases hy
      walk_at "u"
      refine ⟨_, _, _, dS8, by rw [List.length_append]; exact Nat.succ_le_succ hl6, dr8, ?_, ?_, _, rfl⟩
      · split <;> omega
      · split <;> omega
    · rintro σ H6 ⟨us6, ds6, many, dS6, hl6, dr6, hm1, hm2, y4, rfl⟩
      exact ⟨us6, ds6, dS6, by omega, dr6, _, _, rfl⟩
  clear dS hd1 us ds
  rintro σ' H5 ⟨us, ds, dS, hl, dr5, y3, y4, rfl⟩
  walk_at "u"
  refine ⟨rfl, fun b L H6 md6 s6 nL6 => ?_⟩
  have dS6 := dS.same s6
  walk_at "u"
  refine ⟨szl (by simp), fun U hU => ?_⟩
  obtain ⟨H7, e7, s7, eU⟩ := lay_new (o := .lst []) hU
  rw [e7]
  have dS7 := dS6.same s7
  have md7 := md6.same s7
  have hlen := dS.len
  walk_at "u"
  refine r_cut (fun σ' H' => DS K H' P us ds ∧ (∃ ws, H' U = some (.lst ws) ∧ TdL K H' ws (dueL m0 ds)) ∧ (∀ e ∈ dueL m0 ds, EntOk e) ∧ ∃ y7 y8, σ' = [some (.ref a), some (.ref p), some (.ref P), y3, y4, some (.ref b), some (.ref U), y7, y8, none, none]) ?_ ?_
  · refine r_for ?_
    refine it_list ?_
    walk_at "u"
    refine ⟨P, rfl, ⟨us, SqL.of dS7.e⟩, ?_⟩
    have nPL : P ∉ L := fun z => by have := nL6 P z; rw [dS.e] at this; cases this
    have nUL : U ∉ L := fun z => by
      obtain ⟨o, e⟩ := md6.some_ U z
      rw [hU] at e; cases e
    have nUP : U ≠ P := (ne_of_none dS6.e hU).symm
    refine f_list (xs := us) (fun k σ' H' => DS K H' P us ds ∧ (∃ L m2 ws pre, MdAt H' b L m2 ∧ P ∉ L ∧ U ∉ L ∧ H' U = some (.lst ws) ∧ TdL K H' ws pre ∧ pre.length ≤ k ∧ G51 m2 k ∧ (∀ e ∈ pre, EntOk e) ∧ dueL m0 ds = pre ++ dueL m2 (ds.drop k)) ∧ ∃ y7 y8, σ' = [some (.ref a), some (.ref p), some (.ref P), y3, y4, some (.ref b), some (.ref U), y7, y8, none, none])
      ⟨dS7, ⟨L, m0, [], [], md7, nPL, nUL, eU, .nil, Nat.le_refl _, G51.zero, (fun e h => by cases h), rfl⟩, none, none, rfl⟩ (fun i σ' H' z => SqL.of z.1.e) ?_ ?_
    · rintro k v σ' H8 hv ⟨dS8, ⟨L8, m2, ws, pre, md8, nP8, nU8, eU8, tU8, hpre, G8, hok, hdue⟩, y7, y8, rfl⟩
      have hk := (List.getElem?_eq_some_iff.mp hv).1
      have hkd : k < ds.length := by omega
      obtain ⟨d', hd', tv⟩ := dS8.t.getV hv
      rw [List.getElem?_map, List.getElem?_eq_getElem hkd] at hd'
      cases hd'
      have hdr : ds.drop k = ds[k] :: ds.drop (k + 1) := List.drop_eq_getElem_cons hkd
      obtain ⟨hsm, hrn⟩ := dS8.ok _ (List.getElem_mem hkd)
      generalize ds[k] = d at tv hdr hsm hrn
      rw [hdr, dueL_cons] at hdue
      obtain ⟨mo8, o8, g8⟩ := G8.sz
      obtain ⟨G9, ok9⟩ := G8.next (by omega) d hsm hrn
      walk_at "u"
      refine ⟨b, L8, m2, v, d, rfl, md8, tv, mo8, ⟨by omega, by omega⟩, by omega, hsm, fun L9 H9 v9 md9 f9 ev9 => ?_⟩
      have tk9 : Tk K H8 H9 := f9.fr.tkS md8.nt
      have dS9 := dS8.keep (f9.fr _ _ nP8 dS8.e) tk9
      have eU9 := f9.fr _ _ nU8 eU8
      have nP9 : P ∉ L9 := fun z => by
        rcases f9.mem z with z | z
        · exact nP8 z
        · rw [dS8.e] at z; cases z
      have nU9 : U ∉ L9 := fun z => by
        rcases f9.mem z with z | z
        · exact nU8 z
        · rw [eU8] at z; cases z
      have tU9 := tU8.k tk9
      walk_at "u"
      cases he : entL m2 d with
      | none =>
        rw [he] at ev9 hdue
        have ev9 : v9 = .non := ev9
        subst ev9
        walk_at "u"
        exact ⟨dS9, ⟨L9, _, ws, pre, md9, nP9, nU9, eU9, tU9, by omega, G9, hok, hdue⟩, _, _, rfl⟩
      | some e =>
        rw [he] at ev9 hdue
        have ev9 : Td K H9 v9 e := ev9
        have hee := ok9 e he
        obtain ⟨z, i, j, rfl, _⟩ := id hee
        obtain ⟨T9, ws9, rfl, sT9, tT9⟩ := ev9.inv
        have hl9 := tU9.len
        walk_at "u"
        have tkA : Tk K H9 (upd H9 U (.lst (ws ++ [.ref T9]))) := Tk.lst eU9
        refine ⟨dS9.keep (by rw [upd_ne nUP.symm]; exact dS9.e) tkA, ⟨L9, _, ws ++ [.ref T9], pre ++ [entry z i j], md9.side nU9 fun c hc => upd_ne hc, nP9, nU9, upd_same, (tU9.append (.one ev9)).k tkA, by rw [List.length_append]; exact Nat.succ_le_succ hpre, G9, fun x hx => ?_, by rw [hdue, List.append_assoc]; rfl⟩, _, _, rfl⟩
        rcases List.mem_append.mp hx with z | z
        · exact hok x z
        · rw [List.mem_singleton.mp z]; exact hee
    · rintro σ' H8 ⟨dS8, ⟨L8, m2, ws, pre, md8, nP8, nU8, eU8, tU8, hpre, G8, hok, hdue⟩, y7, y8, rfl⟩
      rw [hlen, List.drop_length] at hdue
      have hdue : dueL m0 ds = pre := by rw [hdue]; exact List.append_nil _
      rw [hdue]
      exact ⟨dS8, ⟨ws, eU8, tU8⟩, hok, _, _, rfl⟩
  rintro σ' H8 ⟨dS8, ⟨ws, eU8, tU8⟩, hok, y7, y8, rfl⟩
  have hdl := dueL_len ds m0
  walk_at "u"
  refine r_listL (SqL.of dS8.e) fun G hG => ?_
  obtain ⟨H9, e9, s9, eG⟩ := lay_new (o := .lst us) hG
  rw [e9]
  have dS9 := dS8.same s9
  have tU9 := tU8.k (Same.tk s9)
  have eU9 := s9 _ _ eU8
  walk_at "u"
  refine ⟨G, us, ds, rfl, eG, dS9.t, by omega, fun d hd => (dS9.ok d hd).1, fun A HA wa sA hA eA tA => ?_⟩
  have dSA := dS9.same sA
  have tUA := tU9.k (Same.tk sA)
  have eUA := sA _ _ eU9
  have eGA := sA _ _ eG
  have nAU : A ≠ U := (ne_of_none eU9 hA).symm
  have nAG : A ≠ G := (ne_of_none eG hA).symm
  have hrep : ∀ e ∈ dueL m0 ds, repOk e := fun e he => (hok e he).rep.1
  have hfit : ∀ e ∈ dueL m0 ds, D.fit 1 e = true := fun e he => (hok e he).rep.2
  walk_at "u"
  walk_at "ui"
  refine r_iL_list eA ?_
  walk_at "u"
  refine r_reprL (SqL.of eA) tA hrep (by omega) ?_
  walk_at "u"
  refine r_reprL (SqL.of eUA) tUA hrep (by omega) ?_
  walk_at "u"
  refine r_neLD (n := 1) (SqL.of eGA) (SqL.of dSA.e) dSA.t dSA.t dSA.fit dSA.fit (by decide) ?_
  rw [D.eqL_refl]
  walk_at "u"
  refine r_append eA (szt (by have := tA.len; omega)) ?_
  have tkB : Tk K HA (upd HA A (.lst (wa ++ [.non]))) := Tk.lst eA
  have dGB : upd HA A (.lst (wa ++ [.non])) G = some (.lst us) := by rw [upd_ne nAG.symm]; exact eGA
  have eUB : upd HA A (.lst (wa ++ [.non])) U = some (.lst ws) := by rw [upd_ne nAU.symm]; exact eUA
  have tB := dSA.t.k tkB
  have tUB := tUA.k tkB
  generalize upd HA A (.lst (wa ++ [.non])) = HB at tkB dGB eUB tB tUB ⊢
  walk_at "u"
  refine ⟨G, us, ds, rfl, dGB, tB, by omega, fun d hd => (dSA.ok d hd).1, fun Z HC wz sC hZ eZ tZ => ?_⟩
  walk_at "u"
  refine r_eqLD (n := 1) (SqL.of eZ) (SqL.of (sC _ _ eUB)) tZ (tUB.k (Same.tk sC)) hfit hfit (by decide) ?_
  rw [D.eqL_refl]
  exact q' _
end
section
variable {K : PySem.W.Frag} {vs : List V} {H : Hp} {Q : VK} {E : XK} {n : Nat}
theorem len_is_integer (h : sp_is_integer K vs H Q E) : vs.length = (["value"] : List Str).length := by
  first | (exact False.elim h) | (obtain ⟨rfl, _⟩ := h; rfl) | (obtain ⟨_, rfl, _⟩ := h; rfl) | (obtain ⟨_, _, rfl, _⟩ := h; rfl) | (obtain ⟨_, _, _, rfl, _⟩ := h; rfl) | (obtain ⟨_, _, _, _, rfl, _⟩ := h; rfl) | (obtain ⟨_, _, _, _, _, rfl, _⟩ := h; rfl) | (obtain ⟨_, _, _, _, _, _, rfl, _⟩ := h; rfl) | (obtain ⟨_, _, _, _, _, _, _, rfl, _⟩ := h; rfl) | (obtain ⟨_, _, _, _, _, _, _, _, rfl, _⟩ := h; rfl) | (obtain ⟨_, _, _, _, _, _, _, _, _, rfl, _⟩ := h; rfl) | (obtain ⟨_, _, _, _, _, _, _, _, _, _, rfl, _⟩ := h; rfl) | (obtain ⟨_, _, _, _, _, _, _, _, _, _, _, rfl, _⟩ := h; rfl) | (obtain ⟨_, _, _, _, _, _, _, _, _, _, _, _, rfl, _⟩ := h; rfl) | (obtain ⟨_, _, _, _, _, _, _, _, _, _, _, _, _, rfl, _⟩ := h; rfl) | (obtain ⟨_, _, _, _, _, _, _, _, _, _, _, _, _, _, rfl, _⟩ := h; rfl) | (obtain ⟨_, _, _, _, _, _, _, _, _, _, _, _, _, _, _, rfl, _⟩ := h; rfl) | (obtain ⟨_, _, _, _, _, _, _, _, _, _, _, _, _, _, _, _, rfl, _⟩ := h; rfl) | (obtain ⟨_, _, _, _, _, _, _, _, _, _, _, _, _, _, _, _, _, rfl, _⟩ := h; rfl)
theorem len_RegionState___init__ (h : sp_RegionState___init__ K vs H Q E) : vs.length = (["self"] : List Str).length := by
  first | (exact False.elim h) | (obtain ⟨rfl, _⟩ := h; rfl) | (obtain ⟨_, rfl, _⟩ := h; rfl) | (obtain ⟨_, _, rfl, _⟩ := h; rfl) | (obtain ⟨_, _, _, rfl, _⟩ := h; rfl) | (obtain ⟨_, _, _, _, rfl, _⟩ := h; rfl) | (obtain ⟨_, _, _, _, _, rfl, _⟩ := h; rfl) | (obtain ⟨_, _, _, _, _, _, rfl, _⟩ := h; rfl) | (obtain ⟨_, _, _, _, _, _, _, rfl, _⟩ := h; rfl) | (obtain ⟨_, _, _, _, _, _, _, _, rfl, _⟩ := h; rfl) | (obtain ⟨_, _, _, _, _, _, _, _, _, rfl, _⟩ := h; rfl) | (obtain ⟨_, _, _, _, _, _, _, _, _, _, rfl, _⟩ := h; rfl) | (obtain ⟨_, _, _, _, _, _, _, _, _, _, _, rfl, _⟩ := h; rfl) | (obtain ⟨_, _, _, _, _, _, _, _, _, _, _, _, rfl, _⟩ := h; rfl) | (obtain ⟨_, _, _, _, _, _, _, _, _, _, _, _, _, rfl, _⟩ := h; rfl) | (obtain ⟨_, _, _, _, _, _, _, _, _, _, _, _, _, _, rfl, _⟩ := h; rfl) | (obtain ⟨_, _, _, _, _, _, _, _, _, _, _, _, _, _, _, rfl, _⟩ := h; rfl) | (obtain ⟨_, _, _, _, _, _, _, _, _, _, _, _, _, _, _, _, rfl, _⟩ := h; rfl) | (obtain ⟨_, _, _, _, _, _, _, _, _, _, _, _, _, _, _, _, _, rfl, _⟩ := h; rfl)
theorem len_Store___init__ (h : sp_Store___init__ K vs H Q E) : vs.length = (["self"] : List Str).length := by
  first | (exact False.elim h) | (obtain ⟨rfl, _⟩ := h; rfl) | (obtain ⟨_, rfl, _⟩ := h; rfl) | (obtain ⟨_, _, rfl, _⟩ := h; rfl) | (obtain ⟨_, _, _, rfl, _⟩ := h; rfl) | (obtain ⟨_, _, _, _, rfl, _⟩ := h; rfl) | (obtain ⟨_, _, _, _, _, rfl, _⟩ := h; rfl) | (obtain ⟨_, _, _, _, _, _, rfl, _⟩ := h; rfl) | (obtain ⟨_, _, _, _, _, _, _, rfl, _⟩ := h; rfl) | (obtain ⟨_, _, _, _, _, _, _, _, rfl, _⟩ := h; rfl) | (obtain ⟨_, _, _, _, _, _, _, _, _, rfl, _⟩ := h; rfl) | (obtain ⟨_, _, _, _, _, _, _, _, _, _, rfl, _⟩ := h; rfl) | (obtain ⟨_, _, _, _, _, _, _, _, _, _, _, rfl, _⟩ := h; rfl) | (obtain ⟨_, _, _, _, _, _, _, _, _, _, _, _, rfl, _⟩ := h; rfl) | (obtain ⟨_, _, _, _, _, _, _, _, _, _, _, _, _, rfl, _⟩ := h; rfl) | (obtain ⟨_, _, _, _, _, _, _, _, _, _, _, _, _, _, rfl, _⟩ := h; rfl) | (obtain ⟨_, _, _, _, _, _, _, _, _, _, _, _, _, _, _, rfl, _⟩ := h; rfl) | (obtain ⟨_, _, _, _, _, _, _, _, _, _, _, _, _, _, _, _, rfl, _⟩ := h; rfl) | (obtain ⟨_, _, _, _, _, _, _, _, _, _, _, _, _, _, _, _, _, rfl, _⟩ := h; rfl)
theorem len_Store_record (h : sp_Store_record K vs H Q E) : vs.length = (["self", "what", "region", "address"] : List Str).length := by
  first | (exact False.elim h) | (obtain ⟨rfl, _⟩ := h; rfl) | (obtain ⟨_, rfl, _⟩ := h; rfl) | (obtain ⟨_, _, rfl, _⟩ := h; rfl) | (obtain ⟨_, _, _, rfl, _⟩ := h; rfl) | (obtain ⟨_, _, _, _, rfl, _⟩ := h; rfl) | (obtain ⟨_, _, _, _, _, rfl, _⟩ := h; rfl) | (obtain ⟨_, _, _, _, _, _, rfl, _⟩ := h; rfl) | (obtain ⟨_, _, _, _, _, _, _, rfl, _⟩ := h; rfl) | (obtain ⟨_, _, _, _, _, _, _, _, rfl, _⟩ := h; rfl) | (obtain ⟨_, _, _, _, _, _, _, _, _, rfl, _⟩ := h; rfl) | (obtain ⟨_, _, _, _, _, _, _, _, _, _, rfl, _⟩ := h; rfl) | (obtain ⟨_, _, _, _, _, _, _, _, _, _, _, rfl, _⟩ := h; rfl) | (obtain ⟨_, _, _, _, _, _, _, _, _, _, _, _, rfl, _⟩ := h; rfl) | (obtain ⟨_, _, _, _, _, _, _, _, _, _, _, _, _, rfl, _⟩ := h; rfl) | (obtain ⟨_, _, _, _, _, _, _, _, _, _, _, _, _, _, rfl, _⟩ := h; rfl) | (obtain ⟨_, _, _, _, _, _, _, _, _, _, _, _, _, _, _, rfl, _⟩ := h; rfl) | (obtain ⟨_, _, _, _, _, _, _, _, _, _, _, _, _, _, _, _, rfl, _⟩ := h; rfl) | (obtain ⟨_, _, _, _, _, _, _, _, _, _, _, _, _, _, _, _, _, rfl, _⟩ := h; rfl)
theorem len_Store_is_current (h : sp_Store_is_current K vs H Q E) : vs.length = (["self", "region"] : List Str).length := by
  first | (exact False.elim h) | (obtain ⟨rfl, _⟩ := h; rfl) | (obtain ⟨_, rfl, _⟩ := h; rfl) | (obtain ⟨_, _, rfl, _⟩ := h; rfl) | (obtain ⟨_, _, _, rfl, _⟩ := h; rfl) | (obtain ⟨_, _, _, _, rfl, _⟩ := h; rfl) | (obtain ⟨_, _, _, _, _, rfl, _⟩ := h; rfl) | (obtain ⟨_, _, _, _, _, _, rfl, _⟩ := h; rfl) | (obtain ⟨_, _, _, _, _, _, _, rfl, _⟩ := h; rfl) | (obtain ⟨_, _, _, _, _, _, _, _, rfl, _⟩ := h; rfl) | (obtain ⟨_, _, _, _, _, _, _, _, _, rfl, _⟩ := h; rfl) | (obtain ⟨_, _, _, _, _, _, _, _, _, _, rfl, _⟩ := h; rfl) | (obtain ⟨_, _, _, _, _, _, _, _, _, _, _, rfl, _⟩ := h; rfl) | (obtain ⟨_, _, _, _, _, _, _, _, _, _, _, _, rfl, _⟩ := h; rfl) | (obtain ⟨_, _, _, _, _, _, _, _, _, _, _, _, _, rfl, _⟩ := h; rfl) | (obtain ⟨_, _, _, _, _, _, _, _, _, _, _, _, _, _, rfl, _⟩ := h; rfl) | (obtain ⟨_, _, _, _, _, _, _, _, _, _, _, _, _, _, _, rfl, _⟩ := h; rfl) | (obtain ⟨_, _, _, _, _, _, _, _, _, _, _, _, _, _, _, _, rfl, _⟩ := h; rfl) | (obtain ⟨_, _, _, _, _, _, _, _, _, _, _, _, _, _, _, _, _, rfl, _⟩ := h; rfl)
theorem len_Store_begin (h : sp_Store_begin K vs H Q E) : vs.length = (["self"] : List Str).length := by
  first | (exact False.elim h) | (obtain ⟨rfl, _⟩ := h; rfl) | (obtain ⟨_, rfl, _⟩ := h; rfl) | (obtain ⟨_, _, rfl, _⟩ := h; rfl) | (obtain ⟨_, _, _, rfl, _⟩ := h; rfl) | (obtain ⟨_, _, _, _, rfl, _⟩ := h; rfl) | (obtain ⟨_, _, _, _, _, rfl, _⟩ := h; rfl) | (obtain ⟨_, _, _, _, _, _, rfl, _⟩ := h; rfl) | (obtain ⟨_, _, _, _, _, _, _, rfl, _⟩ := h; rfl) | (obtain ⟨_, _, _, _, _, _, _, _, rfl, _⟩ := h; rfl) | (obtain ⟨_, _, _, _, _, _, _, _, _, rfl, _⟩ := h; rfl) | (obtain ⟨_, _, _, _, _, _, _, _, _, _, rfl, _⟩ := h; rfl) | (obtain ⟨_, _, _, _, _, _, _, _, _, _, _, rfl, _⟩ := h; rfl) | (obtain ⟨_, _, _, _, _, _, _, _, _, _, _, _, rfl, _⟩ := h; rfl) | (obtain ⟨_, _, _, _, _, _, _, _, _, _, _, _, _, rfl, _⟩ := h; rfl) | (obtain ⟨_, _, _, _, _, _, _, _, _, _, _, _, _, _, rfl, _⟩ := h; rfl) | (obtain ⟨_, _, _, _, _, _, _, _, _, _, _, _, _, _, _, rfl, _⟩ := h; rfl) | (obtain ⟨_, _, _, _, _, _, _, _, _, _, _, _, _, _, _, _, rfl, _⟩ := h; rfl) | (obtain ⟨_, _, _, _, _, _, _, _, _, _, _, _, _, _, _, _, _, rfl, _⟩ := h; rfl)
theorem len_Store_take (h : sp_Store_take K vs H Q E) : vs.length = (["self", "count", "region"] : List Str).length := by
  first | (exact False.elim h) | (obtain ⟨rfl, _⟩ := h; rfl) | (obtain ⟨_, rfl, _⟩ := h; rfl) | (obtain ⟨_, _, rfl, _⟩ := h; rfl) | (obtain ⟨_, _, _, rfl, _⟩ := h; rfl) | (obtain ⟨_, _, _, _, rfl, _⟩ := h; rfl) | (obtain ⟨_, _, _, _, _, rfl, _⟩ := h; rfl) | (obtain ⟨_, _, _, _, _, _, rfl, _⟩ := h; rfl) | (obtain ⟨_, _, _, _, _, _, _, rfl, _⟩ := h; rfl) | (obtain ⟨_, _, _, _, _, _, _, _, rfl, _⟩ := h; rfl) | (obtain ⟨_, _, _, _, _, _, _, _, _, rfl, _⟩ := h; rfl) | (obtain ⟨_, _, _, _, _, _, _, _, _, _, rfl, _⟩ := h; rfl) | (obtain ⟨_, _, _, _, _, _, _, _, _, _, _, rfl, _⟩ := h; rfl) | (obtain ⟨_, _, _, _, _, _, _, _, _, _, _, _, rfl, _⟩ := h; rfl) | (obtain ⟨_, _, _, _, _, _, _, _, _, _, _, _, _, rfl, _⟩ := h; rfl) | (obtain ⟨_, _, _, _, _, _, _, _, _, _, _, _, _, _, rfl, _⟩ := h; rfl) | (obtain ⟨_, _, _, _, _, _, _, _, _, _, _, _, _, _, _, rfl, _⟩ := h; rfl) | (obtain ⟨_, _, _, _, _, _, _, _, _, _, _, _, _, _, _, _, rfl, _⟩ := h; rfl) | (obtain ⟨_, _, _, _, _, _, _, _, _, _, _, _, _, _, _, _, _, rfl, _⟩ := h; rfl)
theorem len_Store_cell (h : sp_Store_cell K vs H Q E) : vs.length = (["self", "region", "words"] : List Str).length := by
  first | (exact False.elim h) | (obtain ⟨rfl, _⟩ := h; rfl) | (obtain ⟨_, rfl, _⟩ := h; rfl) | (obtain ⟨_, _, rfl, _⟩ := h; rfl) | (obtain ⟨_, _, _, rfl, _⟩ := h; rfl) | (obtain ⟨_, _, _, _, rfl, _⟩ := h; rfl) | (obtain ⟨_, _, _, _, _, rfl, _⟩ := h; rfl) | (obtain ⟨_, _, _, _, _, _, rfl, _⟩ := h; rfl) | (obtain ⟨_, _, _, _, _, _, _, rfl, _⟩ := h; rfl) | (obtain ⟨_, _, _, _, _, _, _, _, rfl, _⟩ := h; rfl) | (obtain ⟨_, _, _, _, _, _, _, _, _, rfl, _⟩ := h; rfl) | (obtain ⟨_, _, _, _, _, _, _, _, _, _, rfl, _⟩ := h; rfl) | (obtain ⟨_, _, _, _, _, _, _, _, _, _, _, rfl, _⟩ := h; rfl) | (obtain ⟨_, _, _, _, _, _, _, _, _, _, _, _, rfl, _⟩ := h; rfl) | (obtain ⟨_, _, _, _, _, _, _, _, _, _, _, _, _, rfl, _⟩ := h; rfl) | (obtain ⟨_, _, _, _, _, _, _, _, _, _, _, _, _, _, rfl, _⟩ := h; rfl) | (obtain ⟨_, _, _, _, _, _, _, _, _, _, _, _, _, _, _, rfl, _⟩ := h; rfl) | (obtain ⟨_, _, _, _, _, _, _, _, _, _, _, _, _, _, _, _, rfl, _⟩ := h; rfl) | (obtain ⟨_, _, _, _, _, _, _, _, _, _, _, _, _, _, _, _, _, rfl, _⟩ := h; rfl)
theorem len_Store_end (h : sp_Store_end K vs H Q E) : vs.length = (["self", "region"] : List Str).length := by
  first | (exact False.elim h) | (obtain ⟨rfl, _⟩ := h; rfl) | (obtain ⟨_, rfl, _⟩ := h; rfl) | (obtain ⟨_, _, rfl, _⟩ := h; rfl) | (obtain ⟨_, _, _, rfl, _⟩ := h; rfl) | (obtain ⟨_, _, _, _, rfl, _⟩ := h; rfl) | (obtain ⟨_, _, _, _, _, rfl, _⟩ := h; rfl) | (obtain ⟨_, _, _, _, _, _, rfl, _⟩ := h; rfl) | (obtain ⟨_, _, _, _, _, _, _, rfl, _⟩ := h; rfl) | (obtain ⟨_, _, _, _, _, _, _, _, rfl, _⟩ := h; rfl) | (obtain ⟨_, _, _, _, _, _, _, _, _, rfl, _⟩ := h; rfl) | (obtain ⟨_, _, _, _, _, _, _, _, _, _, rfl, _⟩ := h; rfl) | (obtain ⟨_, _, _, _, _, _, _, _, _, _, _, rfl, _⟩ := h; rfl) | (obtain ⟨_, _, _, _, _, _, _, _, _, _, _, _, rfl, _⟩ := h; rfl) | (obtain ⟨_, _, _, _, _, _, _, _, _, _, _, _, _, rfl, _⟩ := h; rfl) | (obtain ⟨_, _, _, _, _, _, _, _, _, _, _, _, _, _, rfl, _⟩ := h; rfl) | (obtain ⟨_, _, _, _, _, _, _, _, _, _, _, _, _, _, _, rfl, _⟩ := h; rfl) | (obtain ⟨_, _, _, _, _, _, _, _, _, _, _, _, _, _, _, _, rfl, _⟩ := h; rfl) | (obtain ⟨_, _, _, _, _, _, _, _, _, _, _, _, _, _, _, _, _, rfl, _⟩ := h; rfl)
theorem len_Store_owner (h : sp_Store_owner K vs H Q E) : vs.length = (["self", "address"] : List Str).length := by
  first | (exact False.elim h) | (obtain ⟨rfl, _⟩ := h; rfl) | (obtain ⟨_, rfl, _⟩ := h; rfl) | (obtain ⟨_, _, rfl, _⟩ := h; rfl) | (obtain ⟨_, _, _, rfl, _⟩ := h; rfl) | (obtain ⟨_, _, _, _, rfl, _⟩ := h; rfl) | (obtain ⟨_, _, _, _, _, rfl, _⟩ := h; rfl) | (obtain ⟨_, _, _, _, _, _, rfl, _⟩ := h; rfl) | (obtain ⟨_, _, _, _, _, _, _, rfl, _⟩ := h; rfl) | (obtain ⟨_, _, _, _, _, _, _, _, rfl, _⟩ := h; rfl) | (obtain ⟨_, _, _, _, _, _, _, _, _, rfl, _⟩ := h; rfl) | (obtain ⟨_, _, _, _, _, _, _, _, _, _, rfl, _⟩ := h; rfl) | (obtain ⟨_, _, _, _, _, _, _, _, _, _, _, rfl, _⟩ := h; rfl) | (obtain ⟨_, _, _, _, _, _, _, _, _, _, _, _, rfl, _⟩ := h; rfl) | (obtain ⟨_, _, _, _, _, _, _, _, _, _, _, _, _, rfl, _⟩ := h; rfl) | (obtain ⟨_, _, _, _, _, _, _, _, _, _, _, _, _, _, rfl, _⟩ := h; rfl) | (obtain ⟨_, _, _, _, _, _, _, _, _, _, _, _, _, _, _, rfl, _⟩ := h; rfl) | (obtain ⟨_, _, _, _, _, _, _, _, _, _, _, _, _, _, _, _, rfl, _⟩ := h; rfl) | (obtain ⟨_, _, _, _, _, _, _, _, _, _, _, _, _, _, _, _, _, rfl, _⟩ := h; rfl)
theorem len_Store_read (h : sp_Store_read K vs H Q E) : vs.length = (["self", "address"] : List Str).length := by
  first | (exact False.elim h) | (obtain ⟨rfl, _⟩ := h; rfl) | (obtain ⟨_, rfl, _⟩ := h; rfl) | (obtain ⟨_, _, rfl, _⟩ := h; rfl) | (obtain ⟨_, _, _, rfl, _⟩ := h; rfl) | (obtain ⟨_, _, _, _, rfl, _⟩ := h; rfl) | (obtain ⟨_, _, _, _, _, rfl, _⟩ := h; rfl) | (obtain ⟨_, _, _, _, _, _, rfl, _⟩ := h; rfl) | (obtain ⟨_, _, _, _, _, _, _, rfl, _⟩ := h; rfl) | (obtain ⟨_, _, _, _, _, _, _, _, rfl, _⟩ := h; rfl) | (obtain ⟨_, _, _, _, _, _, _, _, _, rfl, _⟩ := h; rfl) | (obtain ⟨_, _, _, _, _, _, _, _, _, _, rfl, _⟩ := h; rfl) | (obtain ⟨_, _, _, _, _, _, _, _, _, _, _, rfl, _⟩ := h; rfl) | (obtain ⟨_, _, _, _, _, _, _, _, _, _, _, _, rfl, _⟩ := h; rfl) | (obtain ⟨_, _, _, _, _, _, _, _, _, _, _, _, _, rfl, _⟩ := h; rfl) | (obtain ⟨_, _, _, _, _, _, _, _, _, _, _, _, _, _, rfl, _⟩ := h; rfl) | (obtain ⟨_, _, _, _, _, _, _, _, _, _, _, _, _, _, _, rfl, _⟩ := h; rfl) | (obtain ⟨_, _, _, _, _, _, _, _, _, _, _, _, _, _, _, _, rfl, _⟩ := h; rfl) | (obtain ⟨_, _, _, _, _, _, _, _, _, _, _, _, _, _, _, _, _, rfl, _⟩ := h; rfl)
theorem len_Store_write (h : sp_Store_write K vs H Q E) : vs.length = (["self", "address", "word"] : List Str).length := by
  first | (exact False.elim h) | (obtain ⟨rfl, _⟩ := h; rfl) | (obtain ⟨_, rfl, _⟩ := h; rfl) | (obtain ⟨_, _, rfl, _⟩ := h; rfl) | (obtain ⟨_, _, _, rfl, _⟩ := h; rfl) | (obtain ⟨_, _, _, _, rfl, _⟩ := h; rfl) | (obtain ⟨_, _, _, _, _, rfl, _⟩ := h; rfl) | (obtain ⟨_, _, _, _, _, _, rfl, _⟩ := h; rfl) | (obtain ⟨_, _, _, _, _, _, _, rfl, _⟩ := h; rfl) | (obtain ⟨_, _, _, _, _, _, _, _, rfl, _⟩ := h; rfl) | (obtain ⟨_, _, _, _, _, _, _, _, _, rfl, _⟩ := h; rfl) | (obtain ⟨_, _, _, _, _, _, _, _, _, _, rfl, _⟩ := h; rfl) | (obtain ⟨_, _, _, _, _, _, _, _, _, _, _, rfl, _⟩ := h; rfl) | (obtain ⟨_, _, _, _, _, _, _, _, _, _, _, _, rfl, _⟩ := h; rfl) | (obtain ⟨_, _, _, _, _, _, _, _, _, _, _, _, _, rfl, _⟩ := h; rfl) | (obtain ⟨_, _, _, _, _, _, _, _, _, _, _, _, _, _, rfl, _⟩ := h; rfl) | (obtain ⟨_, _, _, _, _, _, _, _, _, _, _, _, _, _, _, rfl, _⟩ := h; rfl) | (obtain ⟨_, _, _, _, _, _, _, _, _, _, _, _, _, _, _, _, rfl, _⟩ := h; rfl) | (obtain ⟨_, _, _, _, _, _, _, _, _, _, _, _, _, _, _, _, _, rfl, _⟩ := h; rfl)
theorem len_Watch___init__ (h : sp_Watch___init__ K vs H Q E) : vs.length = (["self", "store"] : List Str).length := by
  first | (exact False.elim h) | (obtain ⟨rfl, _⟩ := h; rfl) | (obtain ⟨_, rfl, _⟩ := h; rfl) | (obtain ⟨_, _, rfl, _⟩ := h; rfl) | (obtain ⟨_, _, _, rfl, _⟩ := h; rfl) | (obtain ⟨_, _, _, _, rfl, _⟩ := h; rfl) | (obtain ⟨_, _, _, _, _, rfl, _⟩ := h; rfl) | (obtain ⟨_, _, _, _, _, _, rfl, _⟩ := h; rfl) | (obtain ⟨_, _, _, _, _, _, _, rfl, _⟩ := h; rfl) | (obtain ⟨_, _, _, _, _, _, _, _, rfl, _⟩ := h; rfl) | (obtain ⟨_, _, _, _, _, _, _, _, _, rfl, _⟩ := h; rfl) | (obtain ⟨_, _, _, _, _, _, _, _, _, _, rfl, _⟩ := h; rfl) | (obtain ⟨_, _, _, _, _, _, _, _, _, _, _, rfl, _⟩ := h; rfl) | (obtain ⟨_, _, _, _, _, _, _, _, _, _, _, _, rfl, _⟩ := h; rfl) | (obtain ⟨_, _, _, _, _, _, _, _, _, _, _, _, _, rfl, _⟩ := h; rfl) | (obtain ⟨_, _, _, _, _, _, _, _, _, _, _, _, _, _, rfl, _⟩ := h; rfl) | (obtain ⟨_, _, _, _, _, _, _, _, _, _, _, _, _, _, _, rfl, _⟩ := h; rfl) | (obtain ⟨_, _, _, _, _, _, _, _, _, _, _, _, _, _, _, _, rfl, _⟩ := h; rfl) | (obtain ⟨_, _, _, _, _, _, _, _, _, _, _, _, _, _, _, _, _, rfl, _⟩ := h; rfl)
theorem len_Watch___enter__ (h : sp_Watch___enter__ K vs H Q E) : vs.length = (["self"] : List Str).length := by
  first | (exact False.elim h) | (obtain ⟨rfl, _⟩ := h; rfl) | (obtain ⟨_, rfl, _⟩ := h; rfl) | (obtain ⟨_, _, rfl, _⟩ := h; rfl) | (obtain ⟨_, _, _, rfl, _⟩ := h; rfl) | (obtain ⟨_, _, _, _, rfl, _⟩ := h; rfl) | (obtain ⟨_, _, _, _, _, rfl, _⟩ := h; rfl) | (obtain ⟨_, _, _, _, _, _, rfl, _⟩ := h; rfl) | (obtain ⟨_, _, _, _, _, _, _, rfl, _⟩ := h; rfl) | (obtain ⟨_, _, _, _, _, _, _, _, rfl, _⟩ := h; rfl) | (obtain ⟨_, _, _, _, _, _, _, _, _, rfl, _⟩ := h; rfl) | (obtain ⟨_, _, _, _, _, _, _, _, _, _, rfl, _⟩ := h; rfl) | (obtain ⟨_, _, _, _, _, _, _, _, _, _, _, rfl, _⟩ := h; rfl) | (obtain ⟨_, _, _, _, _, _, _, _, _, _, _, _, rfl, _⟩ := h; rfl) | (obtain ⟨_, _, _, _, _, _, _, _, _, _, _, _, _, rfl, _⟩ := h; rfl) | (obtain ⟨_, _, _, _, _, _, _, _, _, _, _, _, _, _, rfl, _⟩ := h; rfl) | (obtain ⟨_, _, _, _, _, _, _, _, _, _, _, _, _, _, _, rfl, _⟩ := h; rfl) | (obtain ⟨_, _, _, _, _, _, _, _, _, _, _, _, _, _, _, _, rfl, _⟩ := h; rfl) | (obtain ⟨_, _, _, _, _, _, _, _, _, _, _, _, _, _, _, _, _, rfl, _⟩ := h; rfl)
theorem len_Watch___exit__ (h : sp_Watch___exit__ K vs H Q E) : vs.length = (["self", "kind", "value", "trace"] : List Str).length := by
  first | (exact False.elim h) | (obtain ⟨rfl, _⟩ := h; rfl) | (obtain ⟨_, rfl, _⟩ := h; rfl) | (obtain ⟨_, _, rfl, _⟩ := h; rfl) | (obtain ⟨_, _, _, rfl, _⟩ := h; rfl) | (obtain ⟨_, _, _, _, rfl, _⟩ := h; rfl) | (obtain ⟨_, _, _, _, _, rfl, _⟩ := h; rfl) | (obtain ⟨_, _, _, _, _, _, rfl, _⟩ := h; rfl) | (obtain ⟨_, _, _, _, _, _, _, rfl, _⟩ := h; rfl) | (obtain ⟨_, _, _, _, _, _, _, _, rfl, _⟩ := h; rfl) | (obtain ⟨_, _, _, _, _, _, _, _, _, rfl, _⟩ := h; rfl) | (obtain ⟨_, _, _, _, _, _, _, _, _, _, rfl, _⟩ := h; rfl) | (obtain ⟨_, _, _, _, _, _, _, _, _, _, _, rfl, _⟩ := h; rfl) | (obtain ⟨_, _, _, _, _, _, _, _, _, _, _, _, rfl, _⟩ := h; rfl) | (obtain ⟨_, _, _, _, _, _, _, _, _, _, _, _, _, rfl, _⟩ := h; rfl) | (obtain ⟨_, _, _, _, _, _, _, _, _, _, _, _, _, _, rfl, _⟩ := h; rfl) | (obtain ⟨_, _, _, _, _, _, _, _, _, _, _, _, _, _, _, rfl, _⟩ := h; rfl) | (obtain ⟨_, _, _, _, _, _, _, _, _, _, _, _, _, _, _, _, rfl, _⟩ := h; rfl) | (obtain ⟨_, _, _, _, _, _, _, _, _, _, _, _, _, _, _, _, _, rfl, _⟩ := h; rfl)
theorem len_perform (h : sp_perform K vs H Q E) : vs.length = (["store", "deed"] : List Str).length := by
  first | (exact False.elim h) | (obtain ⟨rfl, _⟩ := h; rfl) | (obtain ⟨_, rfl, _⟩ := h; rfl) | (obtain ⟨_, _, rfl, _⟩ := h; rfl) | (obtain ⟨_, _, _, rfl, _⟩ := h; rfl) | (obtain ⟨_, _, _, _, rfl, _⟩ := h; rfl) | (obtain ⟨_, _, _, _, _, rfl, _⟩ := h; rfl) | (obtain ⟨_, _, _, _, _, _, rfl, _⟩ := h; rfl) | (obtain ⟨_, _, _, _, _, _, _, rfl, _⟩ := h; rfl) | (obtain ⟨_, _, _, _, _, _, _, _, rfl, _⟩ := h; rfl) | (obtain ⟨_, _, _, _, _, _, _, _, _, rfl, _⟩ := h; rfl) | (obtain ⟨_, _, _, _, _, _, _, _, _, _, rfl, _⟩ := h; rfl) | (obtain ⟨_, _, _, _, _, _, _, _, _, _, _, rfl, _⟩ := h; rfl) | (obtain ⟨_, _, _, _, _, _, _, _, _, _, _, _, rfl, _⟩ := h; rfl) | (obtain ⟨_, _, _, _, _, _, _, _, _, _, _, _, _, rfl, _⟩ := h; rfl) | (obtain ⟨_, _, _, _, _, _, _, _, _, _, _, _, _, _, rfl, _⟩ := h; rfl) | (obtain ⟨_, _, _, _, _, _, _, _, _, _, _, _, _, _, _, rfl, _⟩ := h; rfl) | (obtain ⟨_, _, _, _, _, _, _, _, _, _, _, _, _, _, _, _, rfl, _⟩ := h; rfl) | (obtain ⟨_, _, _, _, _, _, _, _, _, _, _, _, _, _, _, _, _, rfl, _⟩ := h; rfl)
theorem len_replay (h : sp_replay K vs H Q E) : vs.length = (["deeds"] : List Str).length := by
  first | (exact False.elim h) | (obtain ⟨rfl, _⟩ := h; rfl) | (obtain ⟨_, rfl, _⟩ := h; rfl) | (obtain ⟨_, _, rfl, _⟩ := h; rfl) | (obtain ⟨_, _, _, rfl, _⟩ := h; rfl) | (obtain ⟨_, _, _, _, rfl, _⟩ := h; rfl) | (obtain ⟨_, _, _, _, _, rfl, _⟩ := h; rfl) | (obtain ⟨_, _, _, _, _, _, rfl, _⟩ := h; rfl) | (obtain ⟨_, _, _, _, _, _, _, rfl, _⟩ := h; rfl) | (obtain ⟨_, _, _, _, _, _, _, _, rfl, _⟩ := h; rfl) | (obtain ⟨_, _, _, _, _, _, _, _, _, rfl, _⟩ := h; rfl) | (obtain ⟨_, _, _, _, _, _, _, _, _, _, rfl, _⟩ := h; rfl) | (obtain ⟨_, _, _, _, _, _, _, _, _, _, _, rfl, _⟩ := h; rfl) | (obtain ⟨_, _, _, _, _, _, _, _, _, _, _, _, rfl, _⟩ := h; rfl) | (obtain ⟨_, _, _, _, _, _, _, _, _, _, _, _, _, rfl, _⟩ := h; rfl) | (obtain ⟨_, _, _, _, _, _, _, _, _, _, _, _, _, _, rfl, _⟩ := h; rfl) | (obtain ⟨_, _, _, _, _, _, _, _, _, _, _, _, _, _, _, rfl, _⟩ := h; rfl) | (obtain ⟨_, _, _, _, _, _, _, _, _, _, _, _, _, _, _, _, rfl, _⟩ := h; rfl) | (obtain ⟨_, _, _, _, _, _, _, _, _, _, _, _, _, _, _, _, _, rfl, _⟩ := h; rfl)
theorem len_l_start (h : sp_l_start K vs H Q E) : vs.length = (["_law_script"] : List Str).length := by
  first | (exact False.elim h) | (obtain ⟨rfl, _⟩ := h; rfl) | (obtain ⟨_, rfl, _⟩ := h; rfl) | (obtain ⟨_, _, rfl, _⟩ := h; rfl) | (obtain ⟨_, _, _, rfl, _⟩ := h; rfl) | (obtain ⟨_, _, _, _, rfl, _⟩ := h; rfl) | (obtain ⟨_, _, _, _, _, rfl, _⟩ := h; rfl) | (obtain ⟨_, _, _, _, _, _, rfl, _⟩ := h; rfl) | (obtain ⟨_, _, _, _, _, _, _, rfl, _⟩ := h; rfl) | (obtain ⟨_, _, _, _, _, _, _, _, rfl, _⟩ := h; rfl) | (obtain ⟨_, _, _, _, _, _, _, _, _, rfl, _⟩ := h; rfl) | (obtain ⟨_, _, _, _, _, _, _, _, _, _, rfl, _⟩ := h; rfl) | (obtain ⟨_, _, _, _, _, _, _, _, _, _, _, rfl, _⟩ := h; rfl) | (obtain ⟨_, _, _, _, _, _, _, _, _, _, _, _, rfl, _⟩ := h; rfl) | (obtain ⟨_, _, _, _, _, _, _, _, _, _, _, _, _, rfl, _⟩ := h; rfl) | (obtain ⟨_, _, _, _, _, _, _, _, _, _, _, _, _, _, rfl, _⟩ := h; rfl) | (obtain ⟨_, _, _, _, _, _, _, _, _, _, _, _, _, _, _, rfl, _⟩ := h; rfl) | (obtain ⟨_, _, _, _, _, _, _, _, _, _, _, _, _, _, _, _, rfl, _⟩ := h; rfl) | (obtain ⟨_, _, _, _, _, _, _, _, _, _, _, _, _, _, _, _, _, rfl, _⟩ := h; rfl)
theorem len_l_draw (h : sp_l_draw K vs H Q E) : vs.length = (["_law_state", "_law_many"] : List Str).length := by
  first | (exact False.elim h) | (obtain ⟨rfl, _⟩ := h; rfl) | (obtain ⟨_, rfl, _⟩ := h; rfl) | (obtain ⟨_, _, rfl, _⟩ := h; rfl) | (obtain ⟨_, _, _, rfl, _⟩ := h; rfl) | (obtain ⟨_, _, _, _, rfl, _⟩ := h; rfl) | (obtain ⟨_, _, _, _, _, rfl, _⟩ := h; rfl) | (obtain ⟨_, _, _, _, _, _, rfl, _⟩ := h; rfl) | (obtain ⟨_, _, _, _, _, _, _, rfl, _⟩ := h; rfl) | (obtain ⟨_, _, _, _, _, _, _, _, rfl, _⟩ := h; rfl) | (obtain ⟨_, _, _, _, _, _, _, _, _, rfl, _⟩ := h; rfl) | (obtain ⟨_, _, _, _, _, _, _, _, _, _, rfl, _⟩ := h; rfl) | (obtain ⟨_, _, _, _, _, _, _, _, _, _, _, rfl, _⟩ := h; rfl) | (obtain ⟨_, _, _, _, _, _, _, _, _, _, _, _, rfl, _⟩ := h; rfl) | (obtain ⟨_, _, _, _, _, _, _, _, _, _, _, _, _, rfl, _⟩ := h; rfl) | (obtain ⟨_, _, _, _, _, _, _, _, _, _, _, _, _, _, rfl, _⟩ := h; rfl) | (obtain ⟨_, _, _, _, _, _, _, _, _, _, _, _, _, _, _, rfl, _⟩ := h; rfl) | (obtain ⟨_, _, _, _, _, _, _, _, _, _, _, _, _, _, _, _, rfl, _⟩ := h; rfl) | (obtain ⟨_, _, _, _, _, _, _, _, _, _, _, _, _, _, _, _, _, rfl, _⟩ := h; rfl)
theorem len_l_new (h : sp_l_new K vs H Q E) : vs.length = ([] : List Str).length := by
  first | (exact False.elim h) | (obtain ⟨rfl, _⟩ := h; rfl) | (obtain ⟨_, rfl, _⟩ := h; rfl) | (obtain ⟨_, _, rfl, _⟩ := h; rfl) | (obtain ⟨_, _, _, rfl, _⟩ := h; rfl) | (obtain ⟨_, _, _, _, rfl, _⟩ := h; rfl) | (obtain ⟨_, _, _, _, _, rfl, _⟩ := h; rfl) | (obtain ⟨_, _, _, _, _, _, rfl, _⟩ := h; rfl) | (obtain ⟨_, _, _, _, _, _, _, rfl, _⟩ := h; rfl) | (obtain ⟨_, _, _, _, _, _, _, _, rfl, _⟩ := h; rfl) | (obtain ⟨_, _, _, _, _, _, _, _, _, rfl, _⟩ := h; rfl) | (obtain ⟨_, _, _, _, _, _, _, _, _, _, rfl, _⟩ := h; rfl) | (obtain ⟨_, _, _, _, _, _, _, _, _, _, _, rfl, _⟩ := h; rfl) | (obtain ⟨_, _, _, _, _, _, _, _, _, _, _, _, rfl, _⟩ := h; rfl) | (obtain ⟨_, _, _, _, _, _, _, _, _, _, _, _, _, rfl, _⟩ := h; rfl) | (obtain ⟨_, _, _, _, _, _, _, _, _, _, _, _, _, _, rfl, _⟩ := h; rfl) | (obtain ⟨_, _, _, _, _, _, _, _, _, _, _, _, _, _, _, rfl, _⟩ := h; rfl) | (obtain ⟨_, _, _, _, _, _, _, _, _, _, _, _, _, _, _, _, rfl, _⟩ := h; rfl) | (obtain ⟨_, _, _, _, _, _, _, _, _, _, _, _, _, _, _, _, _, rfl, _⟩ := h; rfl)
theorem len_l_begin (h : sp_l_begin K vs H Q E) : vs.length = (["_law_model"] : List Str).length := by
  first | (exact False.elim h) | (obtain ⟨rfl, _⟩ := h; rfl) | (obtain ⟨_, rfl, _⟩ := h; rfl) | (obtain ⟨_, _, rfl, _⟩ := h; rfl) | (obtain ⟨_, _, _, rfl, _⟩ := h; rfl) | (obtain ⟨_, _, _, _, rfl, _⟩ := h; rfl) | (obtain ⟨_, _, _, _, _, rfl, _⟩ := h; rfl) | (obtain ⟨_, _, _, _, _, _, rfl, _⟩ := h; rfl) | (obtain ⟨_, _, _, _, _, _, _, rfl, _⟩ := h; rfl) | (obtain ⟨_, _, _, _, _, _, _, _, rfl, _⟩ := h; rfl) | (obtain ⟨_, _, _, _, _, _, _, _, _, rfl, _⟩ := h; rfl) | (obtain ⟨_, _, _, _, _, _, _, _, _, _, rfl, _⟩ := h; rfl) | (obtain ⟨_, _, _, _, _, _, _, _, _, _, _, rfl, _⟩ := h; rfl) | (obtain ⟨_, _, _, _, _, _, _, _, _, _, _, _, rfl, _⟩ := h; rfl) | (obtain ⟨_, _, _, _, _, _, _, _, _, _, _, _, _, rfl, _⟩ := h; rfl) | (obtain ⟨_, _, _, _, _, _, _, _, _, _, _, _, _, _, rfl, _⟩ := h; rfl) | (obtain ⟨_, _, _, _, _, _, _, _, _, _, _, _, _, _, _, rfl, _⟩ := h; rfl) | (obtain ⟨_, _, _, _, _, _, _, _, _, _, _, _, _, _, _, _, rfl, _⟩ := h; rfl) | (obtain ⟨_, _, _, _, _, _, _, _, _, _, _, _, _, _, _, _, _, rfl, _⟩ := h; rfl)
theorem len_l_pages (h : sp_l_pages K vs H Q E) : vs.length = (["_law_model", "_law_many"] : List Str).length := by
  first | (exact False.elim h) | (obtain ⟨rfl, _⟩ := h; rfl) | (obtain ⟨_, rfl, _⟩ := h; rfl) | (obtain ⟨_, _, rfl, _⟩ := h; rfl) | (obtain ⟨_, _, _, rfl, _⟩ := h; rfl) | (obtain ⟨_, _, _, _, rfl, _⟩ := h; rfl) | (obtain ⟨_, _, _, _, _, rfl, _⟩ := h; rfl) | (obtain ⟨_, _, _, _, _, _, rfl, _⟩ := h; rfl) | (obtain ⟨_, _, _, _, _, _, _, rfl, _⟩ := h; rfl) | (obtain ⟨_, _, _, _, _, _, _, _, rfl, _⟩ := h; rfl) | (obtain ⟨_, _, _, _, _, _, _, _, _, rfl, _⟩ := h; rfl) | (obtain ⟨_, _, _, _, _, _, _, _, _, _, rfl, _⟩ := h; rfl) | (obtain ⟨_, _, _, _, _, _, _, _, _, _, _, rfl, _⟩ := h; rfl) | (obtain ⟨_, _, _, _, _, _, _, _, _, _, _, _, rfl, _⟩ := h; rfl) | (obtain ⟨_, _, _, _, _, _, _, _, _, _, _, _, _, rfl, _⟩ := h; rfl) | (obtain ⟨_, _, _, _, _, _, _, _, _, _, _, _, _, _, rfl, _⟩ := h; rfl) | (obtain ⟨_, _, _, _, _, _, _, _, _, _, _, _, _, _, _, rfl, _⟩ := h; rfl) | (obtain ⟨_, _, _, _, _, _, _, _, _, _, _, _, _, _, _, _, rfl, _⟩ := h; rfl) | (obtain ⟨_, _, _, _, _, _, _, _, _, _, _, _, _, _, _, _, _, rfl, _⟩ := h; rfl)
theorem len_l_pages_for (h : sp_l_pages_for K vs H Q E) : vs.length = (["_law_model", "_law_region", "_law_many"] : List Str).length := by
  first | (exact False.elim h) | (obtain ⟨rfl, _⟩ := h; rfl) | (obtain ⟨_, rfl, _⟩ := h; rfl) | (obtain ⟨_, _, rfl, _⟩ := h; rfl) | (obtain ⟨_, _, _, rfl, _⟩ := h; rfl) | (obtain ⟨_, _, _, _, rfl, _⟩ := h; rfl) | (obtain ⟨_, _, _, _, _, rfl, _⟩ := h; rfl) | (obtain ⟨_, _, _, _, _, _, rfl, _⟩ := h; rfl) | (obtain ⟨_, _, _, _, _, _, _, rfl, _⟩ := h; rfl) | (obtain ⟨_, _, _, _, _, _, _, _, rfl, _⟩ := h; rfl) | (obtain ⟨_, _, _, _, _, _, _, _, _, rfl, _⟩ := h; rfl) | (obtain ⟨_, _, _, _, _, _, _, _, _, _, rfl, _⟩ := h; rfl) | (obtain ⟨_, _, _, _, _, _, _, _, _, _, _, rfl, _⟩ := h; rfl) | (obtain ⟨_, _, _, _, _, _, _, _, _, _, _, _, rfl, _⟩ := h; rfl) | (obtain ⟨_, _, _, _, _, _, _, _, _, _, _, _, _, rfl, _⟩ := h; rfl) | (obtain ⟨_, _, _, _, _, _, _, _, _, _, _, _, _, _, rfl, _⟩ := h; rfl) | (obtain ⟨_, _, _, _, _, _, _, _, _, _, _, _, _, _, _, rfl, _⟩ := h; rfl) | (obtain ⟨_, _, _, _, _, _, _, _, _, _, _, _, _, _, _, _, rfl, _⟩ := h; rfl) | (obtain ⟨_, _, _, _, _, _, _, _, _, _, _, _, _, _, _, _, _, rfl, _⟩ := h; rfl)
theorem len_l_cell (h : sp_l_cell K vs H Q E) : vs.length = (["_law_model", "_law_region", "_law_words"] : List Str).length := by
  first | (exact False.elim h) | (obtain ⟨rfl, _⟩ := h; rfl) | (obtain ⟨_, rfl, _⟩ := h; rfl) | (obtain ⟨_, _, rfl, _⟩ := h; rfl) | (obtain ⟨_, _, _, rfl, _⟩ := h; rfl) | (obtain ⟨_, _, _, _, rfl, _⟩ := h; rfl) | (obtain ⟨_, _, _, _, _, rfl, _⟩ := h; rfl) | (obtain ⟨_, _, _, _, _, _, rfl, _⟩ := h; rfl) | (obtain ⟨_, _, _, _, _, _, _, rfl, _⟩ := h; rfl) | (obtain ⟨_, _, _, _, _, _, _, _, rfl, _⟩ := h; rfl) | (obtain ⟨_, _, _, _, _, _, _, _, _, rfl, _⟩ := h; rfl) | (obtain ⟨_, _, _, _, _, _, _, _, _, _, rfl, _⟩ := h; rfl) | (obtain ⟨_, _, _, _, _, _, _, _, _, _, _, rfl, _⟩ := h; rfl) | (obtain ⟨_, _, _, _, _, _, _, _, _, _, _, _, rfl, _⟩ := h; rfl) | (obtain ⟨_, _, _, _, _, _, _, _, _, _, _, _, _, rfl, _⟩ := h; rfl) | (obtain ⟨_, _, _, _, _, _, _, _, _, _, _, _, _, _, rfl, _⟩ := h; rfl) | (obtain ⟨_, _, _, _, _, _, _, _, _, _, _, _, _, _, _, rfl, _⟩ := h; rfl) | (obtain ⟨_, _, _, _, _, _, _, _, _, _, _, _, _, _, _, _, rfl, _⟩ := h; rfl) | (obtain ⟨_, _, _, _, _, _, _, _, _, _, _, _, _, _, _, _, _, rfl, _⟩ := h; rfl)
theorem len_l_end (h : sp_l_end K vs H Q E) : vs.length = (["_law_model", "_law_region"] : List Str).length := by
  first | (exact False.elim h) | (obtain ⟨rfl, _⟩ := h; rfl) | (obtain ⟨_, rfl, _⟩ := h; rfl) | (obtain ⟨_, _, rfl, _⟩ := h; rfl) | (obtain ⟨_, _, _, rfl, _⟩ := h; rfl) | (obtain ⟨_, _, _, _, rfl, _⟩ := h; rfl) | (obtain ⟨_, _, _, _, _, rfl, _⟩ := h; rfl) | (obtain ⟨_, _, _, _, _, _, rfl, _⟩ := h; rfl) | (obtain ⟨_, _, _, _, _, _, _, rfl, _⟩ := h; rfl) | (obtain ⟨_, _, _, _, _, _, _, _, rfl, _⟩ := h; rfl) | (obtain ⟨_, _, _, _, _, _, _, _, _, rfl, _⟩ := h; rfl) | (obtain ⟨_, _, _, _, _, _, _, _, _, _, rfl, _⟩ := h; rfl) | (obtain ⟨_, _, _, _, _, _, _, _, _, _, _, rfl, _⟩ := h; rfl) | (obtain ⟨_, _, _, _, _, _, _, _, _, _, _, _, rfl, _⟩ := h; rfl) | (obtain ⟨_, _, _, _, _, _, _, _, _, _, _, _, _, rfl, _⟩ := h; rfl) | (obtain ⟨_, _, _, _, _, _, _, _, _, _, _, _, _, _, rfl, _⟩ := h; rfl) | (obtain ⟨_, _, _, _, _, _, _, _, _, _, _, _, _, _, _, rfl, _⟩ := h; rfl) | (obtain ⟨_, _, _, _, _, _, _, _, _, _, _, _, _, _, _, _, rfl, _⟩ := h; rfl) | (obtain ⟨_, _, _, _, _, _, _, _, _, _, _, _, _, _, _, _, _, rfl, _⟩ := h; rfl)
theorem len_l_owner (h : sp_l_owner K vs H Q E) : vs.length = (["_law_model", "_law_address"] : List Str).length := by
  first | (exact False.elim h) | (obtain ⟨rfl, _⟩ := h; rfl) | (obtain ⟨_, rfl, _⟩ := h; rfl) | (obtain ⟨_, _, rfl, _⟩ := h; rfl) | (obtain ⟨_, _, _, rfl, _⟩ := h; rfl) | (obtain ⟨_, _, _, _, rfl, _⟩ := h; rfl) | (obtain ⟨_, _, _, _, _, rfl, _⟩ := h; rfl) | (obtain ⟨_, _, _, _, _, _, rfl, _⟩ := h; rfl) | (obtain ⟨_, _, _, _, _, _, _, rfl, _⟩ := h; rfl) | (obtain ⟨_, _, _, _, _, _, _, _, rfl, _⟩ := h; rfl) | (obtain ⟨_, _, _, _, _, _, _, _, _, rfl, _⟩ := h; rfl) | (obtain ⟨_, _, _, _, _, _, _, _, _, _, rfl, _⟩ := h; rfl) | (obtain ⟨_, _, _, _, _, _, _, _, _, _, _, rfl, _⟩ := h; rfl) | (obtain ⟨_, _, _, _, _, _, _, _, _, _, _, _, rfl, _⟩ := h; rfl) | (obtain ⟨_, _, _, _, _, _, _, _, _, _, _, _, _, rfl, _⟩ := h; rfl) | (obtain ⟨_, _, _, _, _, _, _, _, _, _, _, _, _, _, rfl, _⟩ := h; rfl) | (obtain ⟨_, _, _, _, _, _, _, _, _, _, _, _, _, _, _, rfl, _⟩ := h; rfl) | (obtain ⟨_, _, _, _, _, _, _, _, _, _, _, _, _, _, _, _, rfl, _⟩ := h; rfl) | (obtain ⟨_, _, _, _, _, _, _, _, _, _, _, _, _, _, _, _, _, rfl, _⟩ := h; rfl)
theorem len_l_deed (h : sp_l_deed K vs H Q E) : vs.length = (["_law_state", "_law_many"] : List Str).length := by
  first | (exact False.elim h) | (obtain ⟨rfl, _⟩ := h; rfl) | (obtain ⟨_, rfl, _⟩ := h; rfl) | (obtain ⟨_, _, rfl, _⟩ := h; rfl) | (obtain ⟨_, _, _, rfl, _⟩ := h; rfl) | (obtain ⟨_, _, _, _, rfl, _⟩ := h; rfl) | (obtain ⟨_, _, _, _, _, rfl, _⟩ := h; rfl) | (obtain ⟨_, _, _, _, _, _, rfl, _⟩ := h; rfl) | (obtain ⟨_, _, _, _, _, _, _, rfl, _⟩ := h; rfl) | (obtain ⟨_, _, _, _, _, _, _, _, rfl, _⟩ := h; rfl) | (obtain ⟨_, _, _, _, _, _, _, _, _, rfl, _⟩ := h; rfl) | (obtain ⟨_, _, _, _, _, _, _, _, _, _, rfl, _⟩ := h; rfl) | (obtain ⟨_, _, _, _, _, _, _, _, _, _, _, rfl, _⟩ := h; rfl) | (obtain ⟨_, _, _, _, _, _, _, _, _, _, _, _, rfl, _⟩ := h; rfl) | (obtain ⟨_, _, _, _, _, _, _, _, _, _, _, _, _, rfl, _⟩ := h; rfl) | (obtain ⟨_, _, _, _, _, _, _, _, _, _, _, _, _, _, rfl, _⟩ := h; rfl) | (obtain ⟨_, _, _, _, _, _, _, _, _, _, _, _, _, _, _, rfl, _⟩ := h; rfl) | (obtain ⟨_, _, _, _, _, _, _, _, _, _, _, _, _, _, _, _, rfl, _⟩ := h; rfl) | (obtain ⟨_, _, _, _, _, _, _, _, _, _, _, _, _, _, _, _, _, rfl, _⟩ := h; rfl)
theorem len_l_entry (h : sp_l_entry K vs H Q E) : vs.length = (["_law_model", "_law_deed_here"] : List Str).length := by
  first | (exact False.elim h) | (obtain ⟨rfl, _⟩ := h; rfl) | (obtain ⟨_, rfl, _⟩ := h; rfl) | (obtain ⟨_, _, rfl, _⟩ := h; rfl) | (obtain ⟨_, _, _, rfl, _⟩ := h; rfl) | (obtain ⟨_, _, _, _, rfl, _⟩ := h; rfl) | (obtain ⟨_, _, _, _, _, rfl, _⟩ := h; rfl) | (obtain ⟨_, _, _, _, _, _, rfl, _⟩ := h; rfl) | (obtain ⟨_, _, _, _, _, _, _, rfl, _⟩ := h; rfl) | (obtain ⟨_, _, _, _, _, _, _, _, rfl, _⟩ := h; rfl) | (obtain ⟨_, _, _, _, _, _, _, _, _, rfl, _⟩ := h; rfl) | (obtain ⟨_, _, _, _, _, _, _, _, _, _, rfl, _⟩ := h; rfl) | (obtain ⟨_, _, _, _, _, _, _, _, _, _, _, rfl, _⟩ := h; rfl) | (obtain ⟨_, _, _, _, _, _, _, _, _, _, _, _, rfl, _⟩ := h; rfl) | (obtain ⟨_, _, _, _, _, _, _, _, _, _, _, _, _, rfl, _⟩ := h; rfl) | (obtain ⟨_, _, _, _, _, _, _, _, _, _, _, _, _, _, rfl, _⟩ := h; rfl) | (obtain ⟨_, _, _, _, _, _, _, _, _, _, _, _, _, _, _, rfl, _⟩ := h; rfl) | (obtain ⟨_, _, _, _, _, _, _, _, _, _, _, _, _, _, _, _, rfl, _⟩ := h; rfl) | (obtain ⟨_, _, _, _, _, _, _, _, _, _, _, _, _, _, _, _, _, rfl, _⟩ := h; rfl)
theorem len_law (h : sp_law K vs H Q E) : vs.length = (["_law_script"] : List Str).length := by
  first | (exact False.elim h) | (obtain ⟨rfl, _⟩ := h; rfl) | (obtain ⟨_, rfl, _⟩ := h; rfl) | (obtain ⟨_, _, rfl, _⟩ := h; rfl) | (obtain ⟨_, _, _, rfl, _⟩ := h; rfl) | (obtain ⟨_, _, _, _, rfl, _⟩ := h; rfl) | (obtain ⟨_, _, _, _, _, rfl, _⟩ := h; rfl) | (obtain ⟨_, _, _, _, _, _, rfl, _⟩ := h; rfl) | (obtain ⟨_, _, _, _, _, _, _, rfl, _⟩ := h; rfl) | (obtain ⟨_, _, _, _, _, _, _, _, rfl, _⟩ := h; rfl) | (obtain ⟨_, _, _, _, _, _, _, _, _, rfl, _⟩ := h; rfl) | (obtain ⟨_, _, _, _, _, _, _, _, _, _, rfl, _⟩ := h; rfl) | (obtain ⟨_, _, _, _, _, _, _, _, _, _, _, rfl, _⟩ := h; rfl) | (obtain ⟨_, _, _, _, _, _, _, _, _, _, _, _, rfl, _⟩ := h; rfl) | (obtain ⟨_, _, _, _, _, _, _, _, _, _, _, _, _, rfl, _⟩ := h; rfl) | (obtain ⟨_, _, _, _, _, _, _, _, _, _, _, _, _, _, rfl, _⟩ := h; rfl) | (obtain ⟨_, _, _, _, _, _, _, _, _, _, _, _, _, _, _, rfl, _⟩ := h; rfl) | (obtain ⟨_, _, _, _, _, _, _, _, _, _, _, _, _, _, _, _, rfl, _⟩ := h; rfl) | (obtain ⟨_, _, _, _, _, _, _, _, _, _, _, _, _, _, _, _, _, rfl, _⟩ := h; rfl)
end
theorem law_in {K : PySem.W.Frag} {H : Hp} (a : Addr) (ns : List Int) (hl : ns.length ≤ 63) (h : SqL K H a (ns.map V.int)) : sp_law K [.ref a] H (fun v _ => v = .bl true) (fun _ _ _ => False) := ⟨a, ns, rfl, h, hl, fun _ => rfl⟩
abbrev n_wall : List Str := ["k"]
theorem sc_wall : FnScope n_wall ["k"] (defScope s_wall) := ⟨rfl, rfl, rfl, by decide +kernel, rfl, by decide +kernel, by decide +kernel⟩
theorem sc_is_integer : FnScope n_is_integer ["value"] (defScope s_is_integer) := ⟨rfl, rfl, rfl, by decide +kernel, rfl, by decide +kernel, by decide +kernel⟩
theorem sc_RegionState___init__ : FnScope n_RegionState___init__ ["self"] (defScope s_RegionState___init__) := ⟨rfl, rfl, rfl, by decide +kernel, rfl, by decide +kernel, by decide +kernel⟩
theorem sc_Store___init__ : FnScope n_Store___init__ ["self"] (defScope s_Store___init__) := ⟨rfl, rfl, rfl, by decide +kernel, rfl, by decide +kernel, by decide +kernel⟩
theorem sc_Store_record : FnScope n_Store_record ["self", "what", "region", "address"] (defScope s_Store_record) := ⟨rfl, rfl, rfl, by decide +kernel, rfl, by decide +kernel, by decide +kernel⟩
theorem sc_Store_is_current : FnScope n_Store_is_current ["self", "region"] (defScope s_Store_is_current) := ⟨rfl, rfl, rfl, by decide +kernel, rfl, by decide +kernel, by decide +kernel⟩
theorem sc_Store_begin : FnScope n_Store_begin ["self"] (defScope s_Store_begin) := ⟨rfl, rfl, rfl, by decide +kernel, rfl, by decide +kernel, by decide +kernel⟩
theorem sc_Store_take : FnScope n_Store_take ["self", "count", "region"] (defScope s_Store_take) := ⟨rfl, rfl, rfl, by decide +kernel, rfl, by decide +kernel, by decide +kernel⟩
theorem sc_Store_cell : FnScope n_Store_cell ["self", "region", "words"] (defScope s_Store_cell) := ⟨rfl, rfl, rfl, by decide +kernel, rfl, by decide +kernel, by decide +kernel⟩
theorem sc_Store_end : FnScope n_Store_end ["self", "region"] (defScope s_Store_end) := ⟨rfl, rfl, rfl, by decide +kernel, rfl, by decide +kernel, by decide +kernel⟩
theorem sc_Store_owner : FnScope n_Store_owner ["self", "address"] (defScope s_Store_owner) := ⟨rfl, rfl, rfl, by decide +kernel, rfl, by decide +kernel, by decide +kernel⟩
theorem sc_Store_read : FnScope n_Store_read ["self", "address"] (defScope s_Store_read) := ⟨rfl, rfl, rfl, by decide +kernel, rfl, by decide +kernel, by decide +kernel⟩
theorem sc_Store_write : FnScope n_Store_write ["self", "address", "word"] (defScope s_Store_write) := ⟨rfl, rfl, rfl, by decide +kernel, rfl, by decide +kernel, by decide +kernel⟩
theorem sc_Store_current : GScope n_Store_current ["self"] (defScope s_Store_current) := ⟨rfl, rfl, rfl, by decide +kernel, rfl, by decide +kernel, by decide +kernel⟩
abbrev n_Store_held : List Str := ["self"]
theorem sc_Store_held : FnScope n_Store_held ["self"] (defScope s_Store_held) := ⟨rfl, rfl, rfl, by decide +kernel, rfl, by decide +kernel, by decide +kernel⟩
abbrev n_Store_pages : List Str := ["self"]
theorem sc_Store_pages : FnScope n_Store_pages ["self"] (defScope s_Store_pages) := ⟨rfl, rfl, rfl, by decide +kernel, rfl, by decide +kernel, by decide +kernel⟩
abbrev n_Store_waiting : List Str := ["self"]
theorem sc_Store_waiting : FnScope n_Store_waiting ["self"] (defScope s_Store_waiting) := ⟨rfl, rfl, rfl, by decide +kernel, rfl, by decide +kernel, by decide +kernel⟩
abbrev n_Store___len__ : List Str := ["self"]
theorem sc_Store___len__ : FnScope n_Store___len__ ["self"] (defScope s_Store___len__) := ⟨rfl, rfl, rfl, by decide +kernel, rfl, by decide +kernel, by decide +kernel⟩
abbrev n_Store___iter__ : List Str := ["self"]
theorem sc_Store___iter__ : FnScope n_Store___iter__ ["self"] (defScope s_Store___iter__) := ⟨rfl, rfl, rfl, by decide +kernel, rfl, by decide +kernel, by decide +kernel⟩
abbrev n_Store___contains__ : List Str := ["self", "address"]
theorem sc_Store___contains__ : FnScope n_Store___contains__ ["self", "address"] (defScope s_Store___contains__) := ⟨rfl, rfl, rfl, by decide +kernel, rfl, by decide +kernel, by decide +kernel⟩
theorem sc_Watch___init__ : FnScope n_Watch___init__ ["self", "store"] (defScope s_Watch___init__) := ⟨rfl, rfl, rfl, by decide +kernel, rfl, by decide +kernel, by decide +kernel⟩
theorem sc_Watch___enter__ : FnScope n_Watch___enter__ ["self"] (defScope s_Watch___enter__) := ⟨rfl, rfl, rfl, by decide +kernel, rfl, by decide +kernel, by decide +kernel⟩
theorem sc_Watch___exit__ : FnScope n_Watch___exit__ ["self", "kind", "value", "trace"] (defScope s_Watch___exit__) := ⟨rfl, rfl, rfl, by decide +kernel, rfl, by decide +kernel, by decide +kernel⟩
theorem sc_perform : FnScope n_perform ["store", "deed"] (defScope s_perform) := ⟨rfl, rfl, rfl, by decide +kernel, rfl, by decide +kernel, by decide +kernel⟩
theorem sc_replay : FnScope n_replay ["deeds"] (defScope s_replay) := ⟨rfl, rfl, rfl, by decide +kernel, rfl, by decide +kernel, by decide +kernel⟩
theorem sc_l_start : FnScope n_l_start ["_law_script"] (defScope s_l_start) := ⟨rfl, rfl, rfl, by decide +kernel, rfl, by decide +kernel, by decide +kernel⟩
theorem sc_l_draw : FnScope n_l_draw ["_law_state", "_law_many"] (defScope s_l_draw) := ⟨rfl, rfl, rfl, by decide +kernel, rfl, by decide +kernel, by decide +kernel⟩
theorem sc_l_new : FnScope n_l_new [] (defScope s_l_new) := ⟨rfl, rfl, rfl, by decide +kernel, rfl, by decide +kernel, by decide +kernel⟩
theorem sc_l_begin : FnScope n_l_begin ["_law_model"] (defScope s_l_begin) := ⟨rfl, rfl, rfl, by decide +kernel, rfl, by decide +kernel, by decide +kernel⟩
theorem sc_l_pages : FnScope n_l_pages ["_law_model", "_law_many"] (defScope s_l_pages) := ⟨rfl, rfl, rfl, by decide +kernel, rfl, by decide +kernel, by decide +kernel⟩
theorem sc_l_pages_for : FnScope n_l_pages_for ["_law_model", "_law_region", "_law_many"] (defScope s_l_pages_for) := ⟨rfl, rfl, rfl, by decide +kernel, rfl, by decide +kernel, by decide +kernel⟩
theorem sc_l_cell : FnScope n_l_cell ["_law_model", "_law_region", "_law_words"] (defScope s_l_cell) := ⟨rfl, rfl, rfl, by decide +kernel, rfl, by decide +kernel, by decide +kernel⟩
theorem sc_l_end : FnScope n_l_end ["_law_model", "_law_region"] (defScope s_l_end) := ⟨rfl, rfl, rfl, by decide +kernel, rfl, by decide +kernel, by decide +kernel⟩
theorem sc_l_owner : FnScope n_l_owner ["_law_model", "_law_address"] (defScope s_l_owner) := ⟨rfl, rfl, rfl, by decide +kernel, rfl, by decide +kernel, by decide +kernel⟩
theorem sc_l_deed : FnScope n_l_deed ["_law_state", "_law_many"] (defScope s_l_deed) := ⟨rfl, rfl, rfl, by decide +kernel, rfl, by decide +kernel, by decide +kernel⟩
theorem sc_l_entry : FnScope n_l_entry ["_law_model", "_law_deed_here"] (defScope s_l_entry) := ⟨rfl, rfl, rfl, by decide +kernel, rfl, by decide +kernel, by decide +kernel⟩
theorem sc_law : FnScope n_law ["_law_script"] (defScope s_law) := ⟨rfl, rfl, rfl, by decide +kernel, rfl, by decide +kernel, by decide +kernel⟩
/-- what the top has left -/
structure Txt (K : PySem.W.Frag) (mg : Str → Option Value) : Prop where
  b_isinstance : mg "isinstance" = none
  b_int : mg "int" = none
  b_bool : mg "bool" = none
  k_RegionState : Cls K (He.ga K "RegionState")
  n_RegionState_lives : NoAttr K (He.ga K "RegionState") "lives"
  n_RegionState_amount : NoAttr K (He.ga K "RegionState") "amount"
  n_RegionState_place : NoAttr K (He.ga K "RegionState") "place"
  n_RegionState_room : NoAttr K (He.ga K "RegionState") "room"
  k_Store : Cls K (He.ga K "Store")
  n_Store_words : NoAttr K (He.ga K "Store") "words"
  n_Store_owners : NoAttr K (He.ga K "Store") "owners"
  n_Store_regions : NoAttr K (He.ga K "Store") "regions"
  n_Store_watch : NoAttr K (He.ga K "Store") "watch"
  k_Watch : Cls K (He.ga K "Watch")
  n_Watch_log : NoAttr K (He.ga K "Watch") "log"
  b_len : mg "len" = none
  b_range : mg "range" = none
  c_PAGE_WORDS : ∃ t, mg "PAGE_WORDS" = some (.int 8 t)
  b_enumerate : mg "enumerate" = none
  b_list : mg "list" = none
  n_Watch_store : NoAttr K (He.ga K "Watch") "store"
  a_StoreError : mg "StoreError" = some (.ref (He.ga K "StoreError"))
  b_abs : mg "abs" = none
  b_repr : mg "repr" = none
  gc_RegionState : mg "RegionState" = some (.ref (He.ga K "RegionState"))
  mk_RegionState : Mk K (He.ga K "RegionState") (He.ma K (He.ga K "RegionState") "__init__")
  gc_Store : mg "Store" = some (.ref (He.ga K "Store"))
  mk_Store : Mk K (He.ga K "Store") (He.ma K (He.ga K "Store") "__init__")
  m_Store_record : Meth K (He.ga K "Store") "record" (He.ma K (He.ga K "Store") "record")
  m_Store_is_current : Meth K (He.ga K "Store") "is_current" (He.ma K (He.ga K "Store") "is_current")
  m_Store_begin : Meth K (He.ga K "Store") "begin" (He.ma K (He.ga K "Store") "begin")
  m_Store_take : Meth K (He.ga K "Store") "take" (He.ma K (He.ga K "Store") "take")
  m_Store_cell : Meth K (He.ga K "Store") "cell" (He.ma K (He.ga K "Store") "cell")
  m_Store_end : Meth K (He.ga K "Store") "end" (He.ma K (He.ga K "Store") "end")
  m_Store_owner : Meth K (He.ga K "Store") "owner" (He.ma K (He.ga K "Store") "owner")
  m_Store_read : Meth K (He.ga K "Store") "read" (He.ma K (He.ga K "Store") "read")
  m_Store_write : Meth K (He.ga K "Store") "write" (He.ma K (He.ga K "Store") "write")
  gc_Watch : mg "Watch" = some (.ref (He.ga K "Watch"))
  mk_Watch : Mk K (He.ga K "Watch") (He.ma K (He.ga K "Watch") "__init__")
  m_Watch___enter__ : Meth K (He.ga K "Watch") "__enter__" (He.ma K (He.ga K "Watch") "__enter__")
  m_Watch___exit__ : Meth K (He.ga K "Watch") "__exit__" (He.ma K (He.ga K "Watch") "__exit__")
  b_super : mg "super" = none
  kf : KF K
  F_RegionState___init__ : ∃ fd, FunD K "__init__" "RegionState.__init__" (defArgs s_RegionState___init__) (defBody s_RegionState___init__) (defScope s_RegionState___init__) [] [] (He.ma K (He.ga K "RegionState") "__init__") fd
  F_Store___init__ : ∃ fd, FunD K "__init__" "Store.__init__" (defArgs s_Store___init__) (defBody s_Store___init__) (defScope s_Store___init__) [] [] (He.ma K (He.ga K "Store") "__init__") fd
  F_Store_record : ∃ fd, FunD K "record" "Store.record" (defArgs s_Store_record) (defBody s_Store_record) (defScope s_Store_record) [] [] (He.ma K (He.ga K "Store") "record") fd
  F_Store_is_current : ∃ fd, FunD K "is_current" "Store.is_current" (defArgs s_Store_is_current) (defBody s_Store_is_current) (defScope s_Store_is_current) [] [] (He.ma K (He.ga K "Store") "is_current") fd
  F_Store_begin : ∃ fd, FunD K "begin" "Store.begin" (defArgs s_Store_begin) (defBody s_Store_begin) (defScope s_Store_begin) [] [] (He.ma K (He.ga K "Store") "begin") fd
  F_Store_take : ∃ fd, FunD K "take" "Store.take" (defArgs s_Store_take) (defBody s_Store_take) (defScope s_Store_take) [] [] (He.ma K (He.ga K "Store") "take") fd
  F_Store_cell : ∃ fd, FunD K "cell" "Store.cell" (defArgs s_Store_cell) (defBody s_Store_cell) (defScope s_Store_cell) [] [] (He.ma K (He.ga K "Store") "cell") fd
  F_Store_end : ∃ fd, FunD K "end" "Store.end" (defArgs s_Store_end) (defBody s_Store_end) (defScope s_Store_end) [] [] (He.ma K (He.ga K "Store") "end") fd
  F_Store_owner : ∃ fd, FunD K "owner" "Store.owner" (defArgs s_Store_owner) (defBody s_Store_owner) (defScope s_Store_owner) [] [] (He.ma K (He.ga K "Store") "owner") fd
  F_Store_read : ∃ fd, FunD K "read" "Store.read" (defArgs s_Store_read) (defBody s_Store_read) (defScope s_Store_read) [] [] (He.ma K (He.ga K "Store") "read") fd
  F_Store_write : ∃ fd, FunD K "write" "Store.write" (defArgs s_Store_write) (defBody s_Store_write) (defScope s_Store_write) [] [] (He.ma K (He.ga K "Store") "write") fd
  F_Watch___init__ : ∃ fd, FunD K "__init__" "Watch.__init__" (defArgs s_Watch___init__) (defBody s_Watch___init__) (defScope s_Watch___init__) [] [] (He.ma K (He.ga K "Watch") "__init__") fd
  F_Watch___enter__ : ∃ fd, FunD K "__enter__" "Watch.__enter__" (defArgs s_Watch___enter__) (defBody s_Watch___enter__) (defScope s_Watch___enter__) [] [] (He.ma K (He.ga K "Watch") "__enter__") fd
  F_Watch___exit__ : ∃ fd, FunD K "__exit__" "Watch.__exit__" (defArgs s_Watch___exit__) (defBody s_Watch___exit__) (defScope s_Watch___exit__) [] [] (He.ma K (He.ga K "Watch") "__exit__") fd
  g_wall : mg "_wall" = some (.ref (He.ga K "_wall"))
  F_wall : ∃ fd, FunD K "_wall" "_wall" (defArgs s_wall) (defBody s_wall) (defScope s_wall) [] [] (He.ga K "_wall") fd
  g_is_integer : mg "is_integer" = some (.ref (He.ga K "is_integer"))
  F_is_integer : ∃ fd, FunD K "is_integer" "is_integer" (defArgs s_is_integer) (defBody s_is_integer) (defScope s_is_integer) [] [] (He.ga K "is_integer") fd
  g_perform : mg "perform" = some (.ref (He.ga K "perform"))
  F_perform : ∃ fd, FunD K "perform" "perform" (defArgs s_perform) (defBody s_perform) (defScope s_perform) [] [] (He.ga K "perform") fd
  g_replay : mg "replay" = some (.ref (He.ga K "replay"))
  F_replay : ∃ fd, FunD K "replay" "replay" (defArgs s_replay) (defBody s_replay) (defScope s_replay) [] [] (He.ga K "replay") fd
  g_l_start : mg "_law_start" = some (.ref (He.ga K "_law_start"))
  F_l_start : ∃ fd, FunD K "_law_start" "_law_start" (defArgs s_l_start) (defBody s_l_start) (defScope s_l_start) [] [] (He.ga K "_law_start") fd
  g_l_draw : mg "_law_draw" = some (.ref (He.ga K "_law_draw"))
  F_l_draw : ∃ fd, FunD K "_law_draw" "_law_draw" (defArgs s_l_draw) (defBody s_l_draw) (defScope s_l_draw) [] [] (He.ga K "_law_draw") fd
  g_l_new : mg "_law_new" = some (.ref (He.ga K "_law_new"))
  F_l_new : ∃ fd, FunD K "_law_new" "_law_new" (defArgs s_l_new) (defBody s_l_new) (defScope s_l_new) [] [] (He.ga K "_law_new") fd
  g_l_begin : mg "_law_begin" = some (.ref (He.ga K "_law_begin"))
  F_l_begin : ∃ fd, FunD K "_law_begin" "_law_begin" (defArgs s_l_begin) (defBody s_l_begin) (defScope s_l_begin) [] [] (He.ga K "_law_begin") fd
  g_l_pages : mg "_law_pages" = some (.ref (He.ga K "_law_pages"))
  F_l_pages : ∃ fd, FunD K "_law_pages" "_law_pages" (defArgs s_l_pages) (defBody s_l_pages) (defScope s_l_pages) [] [] (He.ga K "_law_pages") fd
  g_l_pages_for : mg "_law_pages_for" = some (.ref (He.ga K "_law_pages_for"))
  F_l_pages_for : ∃ fd, FunD K "_law_pages_for" "_law_pages_for" (defArgs s_l_pages_for) (defBody s_l_pages_for) (defScope s_l_pages_for) [] [] (He.ga K "_law_pages_for") fd
  g_l_cell : mg "_law_cell" = some (.ref (He.ga K "_law_cell"))
  F_l_cell : ∃ fd, FunD K "_law_cell" "_law_cell" (defArgs s_l_cell) (defBody s_l_cell) (defScope s_l_cell) [] [] (He.ga K "_law_cell") fd
  g_l_end : mg "_law_end" = some (.ref (He.ga K "_law_end"))
  F_l_end : ∃ fd, FunD K "_law_end" "_law_end" (defArgs s_l_end) (defBody s_l_end) (defScope s_l_end) [] [] (He.ga K "_law_end") fd
  g_l_owner : mg "_law_owner" = some (.ref (He.ga K "_law_owner"))
  F_l_owner : ∃ fd, FunD K "_law_owner" "_law_owner" (defArgs s_l_owner) (defBody s_l_owner) (defScope s_l_owner) [] [] (He.ga K "_law_owner") fd
  g_l_deed : mg "_law_deed" = some (.ref (He.ga K "_law_deed"))
  F_l_deed : ∃ fd, FunD K "_law_deed" "_law_deed" (defArgs s_l_deed) (defBody s_l_deed) (defScope s_l_deed) [] [] (He.ga K "_law_deed") fd
  g_l_entry : mg "_law_entry" = some (.ref (He.ga K "_law_entry"))
  F_l_entry : ∃ fd, FunD K "_law_entry" "_law_entry" (defArgs s_l_entry) (defBody s_l_entry) (defScope s_l_entry) [] [] (He.ga K "_law_entry") fd
  g_law : mg "law" = some (.ref (He.ga K "law"))
  F_law : ∃ fd, FunD K "law" "law" (defArgs s_law) (defBody s_law) (defScope s_law) [] [] (He.ga K "law") fd
section
variable {P : Program} {w : World} {K : PySem.W.Frag} {mg : Str → Option Value} {base : Heap}
theorem err_StoreError {fI : Addr} {fd : FuncData} (T : Txt K mg) (X : ErrF P K mg de_StoreError (He.ga K "StoreError") fI fd) : ErrOk P w K mg base "StoreError" (He.ga K "StoreError") ["reason"] :=
  err1 X rfl (NdefX.nscope_by (by decide +kernel)) rfl rfl (by rfl) T.b_super rfl (fun _ => rfl) (fun _ _ _ _ _ _ _ _ _ => rfl) (pss_one (ps_ost (pv 0) (pv 1)))
theorem ok_is_integer (T : Txt K mg)  : OkF P w K mg base 1 "is_integer" ["value"] (sp_is_integer K) := by
  obtain ⟨fd, F⟩ := T.F_is_integer
  refine ⟨_, fd, T.g_is_integer, F.ok sc_is_integer (fun vs H Q E h => len_is_integer h) (fun cdv A outer s H vs Q E hr h => ⟨t_is_integer K, PSs.nox ?_, rd_is_integer h⟩), FunD.bindsN F fun _ _ _ _ _ _ us hl => match us, hl with | [_], _ => rfl, F.kp⟩
  exact (pss_one (ps_ret (pe_and (pe_callB c_isi (by rfl) T.b_isinstance (by decide +kernel) (pa_cons (pv 0) (pa_cons (pe_ty rfl T.b_int (by decide +kernel)) pa_nil))) (pe_one (pe_not (pe_callB c_isi (by rfl) T.b_isinstance (by decide +kernel) (pa_cons (pv 0) (pa_cons (pe_ty rfl T.b_bool (by decide +kernel)) pa_nil))))))))
theorem ok_RegionState___init__ (T : Txt K mg)  : OkC P w K mg base 1 "RegionState" (He.ga K "RegionState") ["self"] (sp_RegionState___init__ K) := by
  obtain ⟨fd, F⟩ := T.F_RegionState___init__
  refine ⟨_, fd, T.gc_RegionState, T.mk_RegionState, F.ok sc_RegionState___init__ (fun vs H Q E h => len_RegionState___init__ h) (fun cdv A outer s H vs Q E hr h => ⟨t_RegionState___init__ K, PSs.nox ?_, rd_RegionState___init__ h⟩), FunD.bindsN F fun _ _ _ _ _ _ us hl => match us, hl with | [_], _ => rfl⟩
  exact (pss_c (ps_fldC T.k_RegionState T.n_RegionState_lives (pv 0) pe_bl rfl)
    (pss_c (ps_fldC T.k_RegionState T.n_RegionState_amount (pv 0) pe_int rfl)
    (pss_c (ps_fldC T.k_RegionState T.n_RegionState_place (pv 0) pe_int rfl)
    (pss_one (ps_fldC T.k_RegionState T.n_RegionState_room (pv 0) pe_int rfl)))))
theorem ok_Store___init__ (T : Txt K mg)  : OkC P w K mg base 1 "Store" (He.ga K "Store") ["self"] (sp_Store___init__ K) := by
  obtain ⟨fd, F⟩ := T.F_Store___init__
  refine ⟨_, fd, T.gc_Store, T.mk_Store, F.ok sc_Store___init__ (fun vs H Q E h => len_Store___init__ h) (fun cdv A outer s H vs Q E hr h => ⟨t_Store___init__ K, PSs.nox ?_, rd_Store___init__ h⟩), FunD.bindsN F fun _ _ _ _ _ _ us hl => match us, hl with | [_], _ => rfl⟩
  exact (pss_c (ps_fldC T.k_Store T.n_Store_words (pv 0) (pe_lst pa_nil) rfl)
    (pss_c (ps_fldC T.k_Store T.n_Store_owners (pv 0) (pe_lst pa_nil) rfl)
    (pss_c (ps_fldC T.k_Store T.n_Store_regions (pv 0) (pe_lst pa_nil) rfl)
    (pss_one (ps_fldC T.k_Store T.n_Store_watch (pv 0) pe_non rfl)))))
theorem ok_Store_record (T : Txt K mg)  : OkM P w K mg base 1 (He.ga K "Store") "record" ["self", "what", "region", "address"] (sp_Store_record K) := by
  obtain ⟨fd, F⟩ := T.F_Store_record
  refine ⟨_, fd, T.k_Store, T.m_Store_record, F.ok sc_Store_record (fun vs H Q E h => len_Store_record h) (fun cdv A outer s H vs Q E hr h => ⟨t_Store_record K, PSs.nox ?_, rd_Store_record h⟩), FunD.bindsN F fun _ _ _ _ _ _ us hl => match us, hl with | [_, _, _, _], _ => rfl⟩
  exact (pss_one (ps_if (pt_cmpR o_isNot (pe_fldC T.k_Store T.n_Store_watch (pv 0) (by rfl)) pe_non (nomark _)) (pss_one (ps_expr (pe_bm PySem.F.plainAttrs_list PySem.F.slot_list_append PySem.F.type_list_append m_append (pe_fldC T.k_Watch T.n_Watch_log (pe_fldC T.k_Store T.n_Store_watch (pv 0) (by rfl)) (by rfl)) (pa_cons (pe_tup (pa_cons (pv 1) (pa_cons (pv 2) (pa_cons (pv 3) pa_nil)))) pa_nil)))) pss_nil))
theorem ok_Store_is_current (T : Txt K mg) (O_is_integer : OkF P w K mg base 1 "is_integer" ["value"] (sp_is_integer K)) : OkM P w K mg base 2 (He.ga K "Store") "is_current" ["self", "region"] (sp_Store_is_current K) := by
  obtain ⟨fd, F⟩ := T.F_Store_is_current
  refine ⟨_, fd, T.k_Store, T.m_Store_is_current, F.ok sc_Store_is_current (fun vs H Q E h => len_Store_is_current h) (fun cdv A outer s H vs Q E hr h => ⟨t_Store_is_current K, PSs.nox ?_, rd_Store_is_current h⟩), FunD.bindsN F fun _ _ _ _ _ _ us hl => match us, hl with | [_, _], _ => rfl⟩
  exact (pss_one (ps_ret (pe_and (pe_fn O_is_integer (hr.mono (by omega)) rfl (pa_cons (pv 1) pa_nil)) (pe_and (pe_chain o_le o_lt pe_int (pv 1) (pe_callB c_len (by rfl) T.b_len (by decide +kernel) (pa_cons (pe_fldC T.k_Store T.n_Store_regions (pv 0) (by rfl)) pa_nil))) (pe_one (pe_fldC T.k_RegionState T.n_RegionState_lives (pe_ix i_x (pe_fldC T.k_Store T.n_Store_regions (pv 0) (by rfl)) (pv 1) (fun _ _ => rfl)) (by rfl)))))))
theorem ok_Store_begin (T : Txt K mg) (O_RegionState___init__ : OkC P w K mg base 1 "RegionState" (He.ga K "RegionState") ["self"] (sp_RegionState___init__ K)) (O_Store_record : OkM P w K mg base 1 (He.ga K "Store") "record" ["self", "what", "region", "address"] (sp_Store_record K)) : OkM P w K mg base 3 (He.ga K "Store") "begin" ["self"] (sp_Store_begin K) := by
  obtain ⟨fd, F⟩ := T.F_Store_begin
  refine ⟨_, fd, T.k_Store, T.m_Store_begin, F.ok sc_Store_begin (fun vs H Q E h => len_Store_begin h) (fun cdv A outer s H vs Q E hr h => ⟨t_Store_begin K, PSs.nox ?_, rd_Store_begin h⟩), FunD.bindsN F fun _ _ _ _ _ _ us hl => match us, hl with | [_], _ => rfl⟩
  exact (pss_c (ps_set (i := 1) sc_Store_begin.nd rfl (Or.inl rfl) (pe_callB c_len (by rfl) T.b_len (by decide +kernel) (pa_cons (pe_fldC T.k_Store T.n_Store_regions (pv 0) (by rfl)) pa_nil)))
    (pss_c (ps_expr (pe_bm PySem.F.plainAttrs_list PySem.F.slot_list_append PySem.F.type_list_append m_append (pe_fldC T.k_Store T.n_Store_regions (pv 0) (by rfl)) (pa_cons (pe_mk0 O_RegionState___init__ (hr.mono (by omega)) rfl) pa_nil)))
    (pss_c (ps_expr (pe_mth O_Store_record (pv 0) (hr.mono (by omega)) (pa_cons pe_str (pa_cons (pv 1) (pa_cons pe_int pa_nil)))))
    (pss_one (ps_ret (pv 1))))))
theorem ok_Store_take (T : Txt K mg)  : OkM P w K mg base 1 (He.ga K "Store") "take" ["self", "count", "region"] (sp_Store_take K) := by
  obtain ⟨fd, F⟩ := T.F_Store_take
  refine ⟨_, fd, T.k_Store, T.m_Store_take, F.ok sc_Store_take (fun vs H Q E h => len_Store_take h) (fun cdv A outer s H vs Q E hr h => ⟨t_Store_take K, PSs.nox ?_, rd_Store_take h⟩), FunD.bindsN F fun _ _ _ _ _ _ us hl => match us, hl with | [_, _, _], _ => rfl⟩
  exact (pss_c (ps_set (i := 3) sc_Store_take.nd rfl (Or.inl rfl) (pe_callB c_len (by rfl) T.b_len (by decide +kernel) (pa_cons (pe_fldC T.k_Store T.n_Store_owners (pv 0) (by rfl)) pa_nil)))
    (pss_c (ps_for PassesOwn.never rfl (pi_range3 rfl T.b_range (pa_cons (pe_op o_sub (pe_callB c_len (by rfl) T.b_len (by decide +kernel) (pa_cons (pe_fldC T.k_Store T.n_Store_owners (pv 0) (by rfl)) pa_nil)) (pv 1)) (pa_cons (pe_un u_neg pe_int) (pa_cons (pe_un u_neg pe_int) pa_nil)))) (pg_name (i := 4) sc_Store_take.nd rfl (Or.inl rfl)) (pss_one (ps_if (pt_cmpR (o_eq hr.units) (pe_slice s_l (pe_fldC T.k_Store T.n_Store_owners (pv 0) (by rfl)) (po_some (pv 4)) (po_some (pe_op o_add (pv 4) (pv 1)))) (pe_op o_mul (pe_lst (pa_cons (pe_un u_neg pe_int) pa_nil)) (pv 1)) (nomark _)) (pss_one (ps_set (i := 3) sc_Store_take.nd rfl (Or.inl rfl) (pv 4))) pss_nil)))
    (pss_c (ps_if (pt_cmpR (o_eq hr.units) (pv 3) (pe_callB c_len (by rfl) T.b_len (by decide +kernel) (pa_cons (pe_fldC T.k_Store T.n_Store_owners (pv 0) (by rfl)) pa_nil)) (nomark _)) (pss_c (ps_expr (pe_bm PySem.F.plainAttrs_list PySem.F.slot_list_extend PySem.F.type_list_extend m_extend (pe_fldC T.k_Store T.n_Store_owners (pv 0) (by rfl)) (pa_cons (pe_op o_mul (pe_lst (pa_cons (pe_un u_neg pe_int) pa_nil)) (pv 1)) pa_nil)))
    (pss_one (ps_expr (pe_bm PySem.F.plainAttrs_list PySem.F.slot_list_extend PySem.F.type_list_extend m_extend (pe_fldC T.k_Store T.n_Store_words (pv 0) (by rfl)) (pa_cons (pe_op o_mul (pe_lst (pa_cons pe_int pa_nil)) (pe_op o_mul (pv 1) (pe_gint rfl T.c_PAGE_WORDS))) pa_nil))))) pss_nil)
    (pss_c (ps_for PassesOwn.never rfl (pi_range2 rfl T.b_range (pa_cons (pv 3) (pa_cons (pe_op o_add (pv 3) (pv 1)) pa_nil))) (pg_name (i := 4) sc_Store_take.nd rfl (Or.inl rfl)) (pss_one (ps_asg (pv 2) (pg_sub (pe_fldC T.k_Store T.n_Store_owners (pv 0) (by rfl)) (pv 4) p_list))))
    (pss_one (ps_ret (pv 3)))))))
theorem ok_Store_cell (T : Txt K mg) (O_Store_is_current : OkM P w K mg base 2 (He.ga K "Store") "is_current" ["self", "region"] (sp_Store_is_current K)) (O_StoreError : ErrOk P w K mg base "StoreError" (He.ga K "StoreError") ["reason"]) (O_Store_take : OkM P w K mg base 1 (He.ga K "Store") "take" ["self", "count", "region"] (sp_Store_take K)) (O_Store_record : OkM P w K mg base 1 (He.ga K "Store") "record" ["self", "what", "region", "address"] (sp_Store_record K)) : OkMX P w K mg base 4 (He.ga K "Store") "cell" ["self", "region", "words"] (sp_Store_cell K) := by
  obtain ⟨fd, F⟩ := T.F_Store_cell
  refine ⟨_, fd, T.k_Store, T.m_Store_cell, F.ok sc_Store_cell (fun vs H Q E h => len_Store_cell h) (fun cdv A outer s H vs Q E hr h => ⟨t_Store_cell K (fun cls d _ H => E cls d H), ?_, rd_Store_cell h⟩), FunD.bindsN F fun _ _ _ _ _ _ us hl => match us, hl with | [_, _, _], _ => rfl⟩
  exact (pss_c (ps_if (pt_not (pt_tru (pe_mth O_Store_is_current (pv 0) (hr.mono (by omega)) (pa_cons (pv 1) pa_nil)))) (pss_one (ps_raiseT rfl (takes_of rfl rfl rfl rfl) (pmk_err O_StoreError (hr.mono (by omega)) rfl (pa_cons pe_str pa_nil)))) pss_nil)
    (pss_c (ps_if (pt_cmpR o_lt (pv 2) pe_int (nomark _)) (pss_one (ps_raiseT rfl (takes_of rfl rfl rfl rfl) (pmk_err O_StoreError (hr.mono (by omega)) rfl (pa_cons pe_str pa_nil)))) pss_nil)
    (pss_c (ps_set (i := 3) sc_Store_cell.nd rfl (Or.inl rfl) (pe_ix i_x (pe_fldC T.k_Store T.n_Store_regions (pv 0) (by rfl)) (pv 1) (fun _ _ => rfl)))
    (pss_c (ps_if (pt_cmpR o_gt (pv 2) (pe_gint rfl T.c_PAGE_WORDS) (nomark _)) (pss_c (ps_set (i := 4) sc_Store_cell.nd rfl (Or.inl rfl) (pe_op o_fdiv (pe_op o_sub (pe_op o_add (pv 2) (pe_gint rfl T.c_PAGE_WORDS)) pe_int) (pe_gint rfl T.c_PAGE_WORDS)))
    (pss_one (ps_set (i := 5) sc_Store_cell.nd rfl (Or.inl rfl) (pe_op o_mul (pe_mth O_Store_take (pv 0) (hr.mono (by omega)) (pa_cons (pv 4) (pa_cons (pv 1) pa_nil))) (pe_gint rfl T.c_PAGE_WORDS))))) (pss_c (ps_if (pt_cmpR o_lt (pe_fldC T.k_RegionState T.n_RegionState_room (pv 3) (by rfl)) (pv 2) (nomark _)) (pss_c (ps_fldC T.k_RegionState T.n_RegionState_place (pv 3) (pe_op o_mul (pe_mth O_Store_take (pv 0) (hr.mono (by omega)) (pa_cons pe_int (pa_cons (pv 1) pa_nil))) (pe_gint rfl T.c_PAGE_WORDS)) rfl)
    (pss_one (ps_fldC T.k_RegionState T.n_RegionState_room (pv 3) (pe_gint rfl T.c_PAGE_WORDS) rfl))) pss_nil)
    (pss_c (ps_set (i := 5) sc_Store_cell.nd rfl (Or.inl rfl) (pe_fldC T.k_RegionState T.n_RegionState_place (pv 3) (by rfl)))
    (pss_c (ps_fldaugC T.k_RegionState T.n_RegionState_place (pv 3) (pv 2) a_add)
    (pss_one (ps_fldaugC T.k_RegionState T.n_RegionState_room (pv 3) (pv 2) a_sub))))))
    (pss_c (ps_asg (pe_op o_mul (pe_lst (pa_cons pe_int pa_nil)) (pv 2)) (pg_slc (pe_fldC T.k_Store T.n_Store_words (pv 0) (by rfl)) (pv 5) (pe_op o_add (pv 5) (pv 2))))
    (pss_c (ps_fldaugC T.k_RegionState T.n_RegionState_amount (pv 3) (pv 2) a_add)
    (pss_c (ps_expr (pe_mth O_Store_record (pv 0) (hr.mono (by omega)) (pa_cons pe_str (pa_cons (pv 1) (pa_cons (pv 5) pa_nil)))))
    (pss_one (ps_ret (pv 5))))))))))
theorem ok_Store_end (T : Txt K mg) (O_Store_is_current : OkM P w K mg base 2 (He.ga K "Store") "is_current" ["self", "region"] (sp_Store_is_current K)) (O_StoreError : ErrOk P w K mg base "StoreError" (He.ga K "StoreError") ["reason"]) (O_Store_record : OkM P w K mg base 1 (He.ga K "Store") "record" ["self", "what", "region", "address"] (sp_Store_record K)) : OkMX P w K mg base 4 (He.ga K "Store") "end" ["self", "region"] (sp_Store_end K) := by
  obtain ⟨fd, F⟩ := T.F_Store_end
  refine ⟨_, fd, T.k_Store, T.m_Store_end, F.ok sc_Store_end (fun vs H Q E h => len_Store_end h) (fun cdv A outer s H vs Q E hr h => ⟨t_Store_end K (fun cls d _ H => E cls d H), ?_, rd_Store_end h⟩), FunD.bindsN F fun _ _ _ _ _ _ us hl => match us, hl with | [_, _], _ => rfl⟩
  exact (pss_c (ps_if (pt_not (pt_tru (pe_mth O_Store_is_current (pv 0) (hr.mono (by omega)) (pa_cons (pv 1) pa_nil)))) (pss_one (ps_raiseT rfl (takes_of rfl rfl rfl rfl) (pmk_err O_StoreError (hr.mono (by omega)) rfl (pa_cons pe_str pa_nil)))) pss_nil)
    (pss_c (ps_set (i := 2) sc_Store_end.nd rfl (Or.inl rfl) (pe_ix i_x (pe_fldC T.k_Store T.n_Store_regions (pv 0) (by rfl)) (pv 1) (fun _ _ => rfl)))
    (pss_c (ps_fldC T.k_RegionState T.n_RegionState_lives (pv 2) pe_bl rfl)
    (pss_c (ps_fldC T.k_RegionState T.n_RegionState_amount (pv 2) pe_int rfl)
    (pss_c (ps_for (passes_of rfl) rfl (pi_enum rfl T.b_enumerate (pa_cons (pe_callTy c_list (by rfl) T.b_list (by decide +kernel) (pa_cons (pe_fldC T.k_Store T.n_Store_owners (pv 0) (by rfl)) pa_nil)) pa_nil)) (pg_tup rfl (pgs_cons (pg_name (i := 3) sc_Store_end.nd rfl (Or.inl rfl)) (pgs_cons (pg_name (i := 4) sc_Store_end.nd rfl (Or.inl rfl)) pgs_nil))) (pss_one (ps_if (pt_cmpR (o_eq hr.units) (pv 4) (pv 1) (nomark _)) (pss_c (ps_asg (pe_un u_neg pe_int) (pg_sub (pe_fldC T.k_Store T.n_Store_owners (pv 0) (by rfl)) (pv 3) p_list))
    (pss_c (ps_set (i := 5) sc_Store_end.nd rfl (Or.inl rfl) (pe_op o_mul (pv 3) (pe_gint rfl T.c_PAGE_WORDS)))
    (pss_one (ps_asg (pe_op o_mul (pe_lst (pa_cons pe_int pa_nil)) (pe_gint rfl T.c_PAGE_WORDS)) (pg_slc (pe_fldC T.k_Store T.n_Store_words (pv 0) (by rfl)) (pv 5) (pe_op o_add (pv 5) (pe_gint rfl T.c_PAGE_WORDS))))))) pss_nil)))
    (pss_one (ps_expr (pe_mth O_Store_record (pv 0) (hr.mono (by omega)) (pa_cons pe_str (pa_cons (pv 1) (pa_cons pe_int pa_nil)))))))))))
theorem ok_Store_owner (T : Txt K mg)  : OkM P w K mg base 1 (He.ga K "Store") "owner" ["self", "address"] (sp_Store_owner K) := by
  obtain ⟨fd, F⟩ := T.F_Store_owner
  refine ⟨_, fd, T.k_Store, T.m_Store_owner, F.ok sc_Store_owner (fun vs H Q E h => len_Store_owner h) (fun cdv A outer s H vs Q E hr h => ⟨t_Store_owner K, PSs.nox ?_, rd_Store_owner h⟩), FunD.bindsN F fun _ _ _ _ _ _ us hl => match us, hl with | [_, _], _ => rfl⟩
  exact (pss_c (ps_if (pt_chain o_le o_lt pe_int (pv 1) (pe_callB c_len (by rfl) T.b_len (by decide +kernel) (pa_cons (pe_fldC T.k_Store T.n_Store_words (pv 0) (by rfl)) pa_nil))) (pss_one (ps_ret (pe_ix i_x (pe_fldC T.k_Store T.n_Store_owners (pv 0) (by rfl)) (pe_op o_fdiv (pv 1) (pe_gint rfl T.c_PAGE_WORDS)) (fun _ _ => rfl)))) pss_nil)
    (pss_one (ps_ret (pe_un u_neg pe_int))))
theorem ok_Store_read (T : Txt K mg) (O_Store_owner : OkM P w K mg base 1 (He.ga K "Store") "owner" ["self", "address"] (sp_Store_owner K)) (O_Store_record : OkM P w K mg base 1 (He.ga K "Store") "record" ["self", "what", "region", "address"] (sp_Store_record K)) : OkM P w K mg base 2 (He.ga K "Store") "read" ["self", "address"] (sp_Store_read K) := by
  obtain ⟨fd, F⟩ := T.F_Store_read
  refine ⟨_, fd, T.k_Store, T.m_Store_read, F.ok sc_Store_read (fun vs H Q E h => len_Store_read h) (fun cdv A outer s H vs Q E hr h => ⟨t_Store_read K, PSs.nox ?_, rd_Store_read h⟩), FunD.bindsN F fun _ _ _ _ _ _ us hl => match us, hl with | [_, _], _ => rfl⟩
  exact (pss_c (ps_set (i := 2) sc_Store_read.nd rfl (Or.inl rfl) (pe_mth O_Store_owner (pv 0) (hr.mono (by omega)) (pa_cons (pv 1) pa_nil)))
    (pss_c (ps_expr (pe_mth O_Store_record (pv 0) (hr.mono (by omega)) (pa_cons pe_str (pa_cons (pv 2) (pa_cons (pv 1) pa_nil)))))
    (pss_c (ps_if (pt_cmpR o_lt (pv 2) pe_int (nomark _)) (pss_one (ps_ret pe_int)) pss_nil)
    (pss_one (ps_ret (pe_ix i_x (pe_fldC T.k_Store T.n_Store_words (pv 0) (by rfl)) (pv 1) (fun _ _ => rfl)))))))
theorem ok_Store_write (T : Txt K mg) (O_Store_owner : OkM P w K mg base 1 (He.ga K "Store") "owner" ["self", "address"] (sp_Store_owner K)) (O_Store_record : OkM P w K mg base 1 (He.ga K "Store") "record" ["self", "what", "region", "address"] (sp_Store_record K)) : OkM P w K mg base 2 (He.ga K "Store") "write" ["self", "address", "word"] (sp_Store_write K) := by
  obtain ⟨fd, F⟩ := T.F_Store_write
  refine ⟨_, fd, T.k_Store, T.m_Store_write, F.ok sc_Store_write (fun vs H Q E h => len_Store_write h) (fun cdv A outer s H vs Q E hr h => ⟨t_Store_write K, PSs.nox ?_, rd_Store_write h⟩), FunD.bindsN F fun _ _ _ _ _ _ us hl => match us, hl with | [_, _, _], _ => rfl⟩
  exact (pss_c (ps_set (i := 3) sc_Store_write.nd rfl (Or.inl rfl) (pe_mth O_Store_owner (pv 0) (hr.mono (by omega)) (pa_cons (pv 1) pa_nil)))
    (pss_c (ps_expr (pe_mth O_Store_record (pv 0) (hr.mono (by omega)) (pa_cons pe_str (pa_cons (pv 3) (pa_cons (pv 1) pa_nil)))))
    (pss_one (ps_if (pt_cmpR o_ge (pv 3) pe_int (nomark _)) (pss_one (ps_asg (pv 2) (pg_sub (pe_fldC T.k_Store T.n_Store_words (pv 0) (by rfl)) (pv 1) p_list))) pss_nil))))
theorem ok_Watch___init__ (T : Txt K mg)  : OkC P w K mg base 1 "Watch" (He.ga K "Watch") ["self", "store"] (sp_Watch___init__ K) := by
  obtain ⟨fd, F⟩ := T.F_Watch___init__
  refine ⟨_, fd, T.gc_Watch, T.mk_Watch, F.ok sc_Watch___init__ (fun vs H Q E h => len_Watch___init__ h) (fun cdv A outer s H vs Q E hr h => ⟨t_Watch___init__ K, PSs.nox ?_, rd_Watch___init__ h⟩), FunD.bindsN F fun _ _ _ _ _ _ us hl => match us, hl with | [_, _], _ => rfl⟩
  exact (pss_c (ps_fldC T.k_Watch T.n_Watch_store (pv 0) (pv 1) rfl)
    (pss_one (ps_fldC T.k_Watch T.n_Watch_log (pv 0) (pe_lst pa_nil) rfl)))
theorem ok_Watch___enter__ (T : Txt K mg)  : OkM P w K mg base 1 (He.ga K "Watch") "__enter__" ["self"] (sp_Watch___enter__ K) := by
  obtain ⟨fd, F⟩ := T.F_Watch___enter__
  refine ⟨_, fd, T.k_Watch, T.m_Watch___enter__, F.ok sc_Watch___enter__ (fun vs H Q E h => len_Watch___enter__ h) (fun cdv A outer s H vs Q E hr h => ⟨t_Watch___enter__ K, PSs.nox ?_, rd_Watch___enter__ h⟩), FunD.bindsN F fun _ _ _ _ _ _ us hl => match us, hl with | [_], _ => rfl⟩
  exact (pss_c (ps_set (i := 1) sc_Watch___enter__.nd rfl (Or.inl rfl) (pe_fldC T.k_Watch T.n_Watch_store (pv 0) (by rfl)))
    (pss_c (ps_fldC T.k_Watch T.n_Watch_log (pv 0) (pe_lst pa_nil) rfl)
    (pss_c (ps_fldC T.k_Store T.n_Store_watch (pv 1) (pv 0) rfl)
    (pss_one (ps_ret (pv 0))))))
theorem ok_Watch___exit__ (T : Txt K mg)  : OkM P w K mg base 1 (He.ga K "Watch") "__exit__" ["self", "kind", "value", "trace"] (sp_Watch___exit__ K) := by
  obtain ⟨fd, F⟩ := T.F_Watch___exit__
  refine ⟨_, fd, T.k_Watch, T.m_Watch___exit__, F.ok sc_Watch___exit__ (fun vs H Q E h => len_Watch___exit__ h) (fun cdv A outer s H vs Q E hr h => ⟨t_Watch___exit__ K, PSs.nox ?_, rd_Watch___exit__ h⟩), FunD.bindsN F fun _ _ _ _ _ _ us hl => match us, hl with | [_, _, _, _], _ => rfl⟩
  exact (pss_c (ps_set (i := 4) sc_Watch___exit__.nd rfl (Or.inl rfl) (pe_fldC T.k_Watch T.n_Watch_store (pv 0) (by rfl)))
    (pss_one (ps_fldC T.k_Store T.n_Store_watch (pv 4) pe_non rfl)))
theorem ok_perform (T : Txt K mg) (O_Store_begin : OkM P w K mg base 3 (He.ga K "Store") "begin" ["self"] (sp_Store_begin K)) (O_Store_cell : OkMX P w K mg base 4 (He.ga K "Store") "cell" ["self", "region", "words"] (sp_Store_cell K)) (O_Store_end : OkMX P w K mg base 4 (He.ga K "Store") "end" ["self", "region"] (sp_Store_end K)) (O_Store_read : OkM P w K mg base 2 (He.ga K "Store") "read" ["self", "address"] (sp_Store_read K)) (O_Store_write : OkM P w K mg base 2 (He.ga K "Store") "write" ["self", "address", "word"] (sp_Store_write K)) : OkX P w K mg base 5 "perform" ["store", "deed"] (sp_perform K) := by
  obtain ⟨fd, F⟩ := T.F_perform
  refine ⟨_, fd, T.g_perform, F.ok sc_perform (fun vs H Q E h => len_perform h) (fun cdv A outer s H vs Q E hr h => ⟨t_perform K (fun cls d _ H => E cls d H), ?_, rd_perform h⟩), FunD.bindsN F fun _ _ _ _ _ _ us hl => match us, hl with | [_, _], _ => rfl, F.kp⟩
  exact (pss_one (ps_if (pt_cmpR (o_eq hr.units) (pe_ix i_x (pv 1) pe_int (fun _ _ => rfl)) pe_str (nomark _)) (pss_one (ps_expr (pe_mth0 O_Store_begin (pv 0) (hr.mono (by omega))))) (pss_one (ps_if (pt_cmpR (o_eq hr.units) (pe_ix i_x (pv 1) pe_int (fun _ _ => rfl)) pe_str (nomark _)) (pss_one (ps_expr (pe_mthX O_Store_cell (takes_of rfl rfl rfl rfl) (pv 0) (hr.mono (by omega)) (pa_cons (pe_ix i_x (pv 1) pe_int (fun _ _ => rfl)) (pa_cons (pe_ix i_x (pv 1) pe_int (fun _ _ => rfl)) pa_nil))))) (pss_one (ps_if (pt_cmpR (o_eq hr.units) (pe_ix i_x (pv 1) pe_int (fun _ _ => rfl)) pe_str (nomark _)) (pss_one (ps_expr (pe_mthX O_Store_end (takes_of rfl rfl rfl rfl) (pv 0) (hr.mono (by omega)) (pa_cons (pe_ix i_x (pv 1) pe_int (fun _ _ => rfl)) pa_nil)))) (pss_one (ps_if (pt_cmpR (o_eq hr.units) (pe_ix i_x (pv 1) pe_int (fun _ _ => rfl)) pe_str (nomark _)) (pss_one (ps_expr (pe_mth O_Store_read (pv 0) (hr.mono (by omega)) (pa_cons (pe_ix i_x (pv 1) pe_int (fun _ _ => rfl)) pa_nil)))) (pss_one (ps_expr (pe_mth O_Store_write (pv 0) (hr.mono (by omega)) (pa_cons (pe_ix i_x (pv 1) pe_int (fun _ _ => rfl)) (pa_cons (pe_ix i_x (pv 1) pe_int (fun _ _ => rfl)) pa_nil)))))))))))))
theorem ok_replay (T : Txt K mg) (O_Store___init__ : OkC P w K mg base 1 "Store" (He.ga K "Store") ["self"] (sp_Store___init__ K)) (O_Watch___enter__ : OkM P w K mg base 1 (He.ga K "Watch") "__enter__" ["self"] (sp_Watch___enter__ K)) (O_Watch___exit__ : OkM P w K mg base 1 (He.ga K "Watch") "__exit__" ["self", "kind", "value", "trace"] (sp_Watch___exit__ K)) (O_Watch___init__ : OkC P w K mg base 1 "Watch" (He.ga K "Watch") ["self", "store"] (sp_Watch___init__ K)) (O_perform : OkX P w K mg base 5 "perform" ["store", "deed"] (sp_perform K)) : OkF P w K mg base 6 "replay" ["deeds"] (sp_replay K) := by
  obtain ⟨fd, F⟩ := T.F_replay
  refine ⟨_, fd, T.g_replay, F.ok sc_replay (fun vs H Q E h => len_replay h) (fun cdv A outer s H vs Q E hr h => ⟨t_replay K, PSs.nox ?_, rd_replay T.kf h⟩), FunD.bindsN F fun _ _ _ _ _ _ us hl => match us, hl with | [_], _ => rfl, F.kp⟩
  exact (pss_c (ps_set (i := 1) sc_replay.nd rfl (Or.inl rfl) (pe_mk0 O_Store___init__ (hr.mono (by omega)) rfl))
    (pss_c (ps_with O_Watch___enter__.op O_Watch___exit__.op (hr.mono (by omega)) (hr.mono (by omega)) (pe_mk O_Watch___init__ (hr.mono (by omega)) rfl (pa_cons (pv 1) pa_nil)) ((pg_name (i := 2) sc_replay.nd rfl (Or.inl rfl))) (pss_one (ps_for PassesOwn.never rfl (pi_any (pv 0)) (pg_name (i := 3) sc_replay.nd rfl (Or.inl rfl)) (pss_one (ps_tryOnly rfl rfl ⟨rfl, by decide, .inl T.a_StoreError⟩ takes0 (fun W pn xe tk own => (pss_one (ps_expr (pe_fnX O_perform tk (hr.mono (by omega)) rfl (pa_cons (pv 1) (pa_cons (pv 3) pa_nil)))))) (fun a oe cls d pn hz hf => (pss_one ps_continue)))))))
    (pss_one (ps_ret (pe_callTy c_list (by rfl) T.b_list (by decide +kernel) (pa_cons (pe_fldC T.k_Watch T.n_Watch_log (pv 2) (by rfl)) pa_nil))))))
theorem ok_l_start (T : Txt K mg)  : OkF P w K mg base 1 "_law_start" ["_law_script"] (sp_l_start K) := by
  obtain ⟨fd, F⟩ := T.F_l_start
  refine ⟨_, fd, T.g_l_start, F.ok sc_l_start (fun vs H Q E h => len_l_start h) (fun cdv A outer s H vs Q E hr h => ⟨t_l_start K, PSs.nox ?_, rd_l_start h⟩), FunD.bindsN F fun _ _ _ _ _ _ us hl => match us, hl with | [_], _ => rfl, F.kp⟩
  exact (pss_c (ps_set (i := 1) sc_l_start.nd rfl (Or.inl rfl) pe_int)
    (pss_c (ps_for PassesOwn.never rfl (pi_any (pv 0)) (pg_name (i := 2) sc_l_start.nd rfl (Or.inl rfl)) (pss_one (ps_set (i := 1) sc_l_start.nd rfl (Or.inl rfl) (pe_op o_add (pe_op o_mod (pe_callTy c_int (by rfl) T.b_int (by decide +kernel) (pa_cons (pe_op o_add (pe_op o_mul (pv 1) pe_int) (pv 2)) pa_nil)) pe_int) pe_int))))
    (pss_one (ps_ret (pe_lst (pa_cons (pe_callTy c_list (by rfl) T.b_list (by decide +kernel) (pa_cons (pv 0) pa_nil)) (pa_cons pe_int (pa_cons pe_int (pa_cons (pv 1) pa_nil)))))))))
theorem ok_l_draw (T : Txt K mg)  : OkF P w K mg base 1 "_law_draw" ["_law_state", "_law_many"] (sp_l_draw K) := by
  obtain ⟨fd, F⟩ := T.F_l_draw
  refine ⟨_, fd, T.g_l_draw, F.ok sc_l_draw (fun vs H Q E h => len_l_draw h) (fun cdv A outer s H vs Q E hr h => ⟨t_l_draw K, PSs.nox ?_, rd_l_draw h⟩), FunD.bindsN F fun _ _ _ _ _ _ us hl => match us, hl with | [_, _], _ => rfl, F.kp⟩
  exact (pss_c (ps_if (PW.pt (pw_and (pt_cmpR (o_eq hr.units) (pe_ix i_x (pv 0) pe_int (fun _ _ => rfl)) pe_int (nomark _)) (pw_and1 (pt_cmpR o_ge (pe_ix i_x (pv 0) pe_int (fun _ _ => rfl)) (pe_callB c_len (by rfl) T.b_len (by decide +kernel) (pa_cons (pe_ix i_x (pv 0) pe_int (fun _ _ => rfl)) pa_nil)) (nomark _))))) (pss_c (ps_asg (pe_op o_mod (pe_callTy c_int (by rfl) T.b_int (by decide +kernel) (pa_cons (pe_op o_add (pe_op o_mul (pe_ix i_x (pv 0) pe_int (fun _ _ => rfl)) pe_int) pe_int) pa_nil)) pe_int) (pg_sub (pv 0) pe_int p_list))
    (pss_one (ps_ret (pe_op o_mod (pe_callTy c_int (by rfl) T.b_int (by decide +kernel) (pa_cons (pe_op o_fdiv (pe_ix i_x (pv 0) pe_int (fun _ _ => rfl)) pe_int) pa_nil)) (pv 1))))) pss_nil)
    (pss_c (ps_if (pt_cmpR (o_eq hr.units) (pe_ix i_x (pv 0) pe_int (fun _ _ => rfl)) pe_int (nomark _)) (pss_c (ps_asg (pe_callB c_abs (by rfl) T.b_abs (by decide +kernel) (pa_cons (pe_ix i_x (pe_ix i_x (pv 0) pe_int (fun _ _ => rfl)) (pe_ix i_x (pv 0) pe_int (fun _ _ => rfl)) (fun _ _ => rfl)) pa_nil)) (pg_sub (pv 0) pe_int p_list))
    (pss_one (ps_asg (pe_op o_add (pe_ix i_x (pv 0) pe_int (fun _ _ => rfl)) pe_int) (pg_sub (pv 0) pe_int p_list)))) pss_nil)
    (pss_c (ps_set (i := 2) sc_l_draw.nd rfl (Or.inl rfl) (pe_op o_mod (pe_callTy c_int (by rfl) T.b_int (by decide +kernel) (pa_cons (pe_ix i_x (pv 0) pe_int (fun _ _ => rfl)) pa_nil)) (pv 1)))
    (pss_c (ps_asg (pe_op o_fdiv (pe_ix i_x (pv 0) pe_int (fun _ _ => rfl)) (pv 1)) (pg_sub (pv 0) pe_int p_list))
    (pss_one (ps_ret (pv 2)))))))
theorem ok_l_new (T : Txt K mg)  : OkF P w K mg base 1 "_law_new" [] (sp_l_new K) := by
  obtain ⟨fd, F⟩ := T.F_l_new
  refine ⟨_, fd, T.g_l_new, F.ok sc_l_new (fun vs H Q E h => len_l_new h) (fun cdv A outer s H vs Q E hr h => ⟨t_l_new K, PSs.nox ?_, rd_l_new h⟩), FunD.bindsN F fun _ _ _ _ _ _ us hl => match us, hl with | [], _ => rfl, F.kp⟩
  exact (pss_one (ps_ret (pe_lst (pa_cons (pe_lst pa_nil) (pa_cons (pe_lst pa_nil) (pa_cons (pe_lst pa_nil) (pa_cons (pe_lst pa_nil) (pa_cons (pe_lst pa_nil) pa_nil))))))))
theorem ok_l_begin (T : Txt K mg)  : OkF P w K mg base 1 "_law_begin" ["_law_model"] (sp_l_begin K) := by
  obtain ⟨fd, F⟩ := T.F_l_begin
  refine ⟨_, fd, T.g_l_begin, F.ok sc_l_begin (fun vs H Q E h => len_l_begin h) (fun cdv A outer s H vs Q E hr h => ⟨t_l_begin K, PSs.nox ?_, rd_l_begin h⟩), FunD.bindsN F fun _ _ _ _ _ _ us hl => match us, hl with | [_], _ => rfl, F.kp⟩
  exact (pss_c (ps_expr (pe_bm PySem.F.plainAttrs_list PySem.F.slot_list_append PySem.F.type_list_append m_append (pe_ix i_x (pv 0) pe_int (fun _ _ => rfl)) (pa_cons pe_bl pa_nil)))
    (pss_c (ps_expr (pe_bm PySem.F.plainAttrs_list PySem.F.slot_list_append PySem.F.type_list_append m_append (pe_ix i_x (pv 0) pe_int (fun _ _ => rfl)) (pa_cons (pe_lst (pa_cons pe_int (pa_cons pe_int pa_nil))) pa_nil)))
    (pss_c (ps_expr (pe_bm PySem.F.plainAttrs_list PySem.F.slot_list_append PySem.F.type_list_append m_append (pe_ix i_x (pv 0) pe_int (fun _ _ => rfl)) (pa_cons pe_int pa_nil)))
    (pss_one (ps_ret (pe_op o_sub (pe_callB c_len (by rfl) T.b_len (by decide +kernel) (pa_cons (pe_ix i_x (pv 0) pe_int (fun _ _ => rfl)) pa_nil)) pe_int))))))
theorem ok_l_pages (T : Txt K mg)  : OkF P w K mg base 1 "_law_pages" ["_law_model", "_law_many"] (sp_l_pages K) := by
  obtain ⟨fd, F⟩ := T.F_l_pages
  refine ⟨_, fd, T.g_l_pages, F.ok sc_l_pages (fun vs H Q E h => len_l_pages h) (fun cdv A outer s H vs Q E hr h => ⟨t_l_pages K, PSs.nox ?_, rd_l_pages h⟩), FunD.bindsN F fun _ _ _ _ _ _ us hl => match us, hl with | [_, _], _ => rfl, F.kp⟩
  exact (pss_c (ps_set (i := 2) sc_l_pages.nd rfl (Or.inl rfl) (pe_ix i_x (pv 0) pe_int (fun _ _ => rfl)))
    (pss_c (ps_for PassesOwn.never rfl (pi_range1 rfl T.b_range (pa_cons (pe_callB c_len (by rfl) T.b_len (by decide +kernel) (pa_cons (pv 2) pa_nil)) pa_nil)) (pg_name (i := 3) sc_l_pages.nd rfl (Or.inl rfl)) (pss_one (ps_if (pt_cmpR (o_eq hr.units) (pe_slice s_l (pv 2) (po_some (pv 3)) (po_some (pe_op o_add (pv 3) (pv 1)))) (pe_lc (own := [("_law_k", 4)]) (g := (gName 4)) (tt := tYes) rfl sc_l_pages.nd (pi_range1 rfl T.b_range (pa_cons (pv 1) pa_nil)) (blkOk_by (own := [("_law_k", 4)]) (N := n_l_pages) (sc := defScope s_l_pages) (by first | decide +kernel | rfl)) (fun _ _ _ _ _ => pg_name (i := 4) sc_l_pages.nd rfl (Or.inl rfl)) (fun _ _ _ _ _ => pts_nil) (fun _ _ _ _ _ => (pe_un u_neg pe_int))) (nomark _)) (pss_one (ps_ret (pv 3))) pss_nil)))
    (pss_c (ps_set (i := 3) sc_l_pages.nd rfl (Or.inl rfl) (pe_callB c_len (by rfl) T.b_len (by decide +kernel) (pa_cons (pv 2) pa_nil)))
    (pss_c (ps_for PassesOwn.never rfl (pi_range1 rfl T.b_range (pa_cons (pv 1) pa_nil)) (pg_name (i := 4) sc_l_pages.nd rfl (Or.inl rfl)) (pss_c (ps_expr (pe_bm PySem.F.plainAttrs_list PySem.F.slot_list_append PySem.F.type_list_append m_append (pv 2) (pa_cons (pe_un u_neg pe_int) pa_nil)))
    (pss_one (ps_expr (pe_bm PySem.F.plainAttrs_list PySem.F.slot_list_extend PySem.F.type_list_extend m_extend (pe_ix i_x (pv 0) pe_int (fun _ _ => rfl)) (pa_cons (pe_lc (own := [("_law_j", 5)]) (g := (gName 5)) (tt := tYes) rfl sc_l_pages.nd (pi_range1 rfl T.b_range (pa_cons pe_int pa_nil)) (blkOk_by (own := [("_law_j", 5)]) (N := n_l_pages) (sc := defScope s_l_pages) (by first | decide +kernel | rfl)) (fun _ _ _ _ _ => pg_name (i := 5) sc_l_pages.nd rfl (Or.inl rfl)) (fun _ _ _ _ _ => pts_nil) (fun _ _ _ _ _ => pe_int)) pa_nil))))))
    (pss_one (ps_ret (pv 3)))))))
theorem ok_l_pages_for (T : Txt K mg) (O_l_pages : OkF P w K mg base 1 "_law_pages" ["_law_model", "_law_many"] (sp_l_pages K)) : OkF P w K mg base 2 "_law_pages_for" ["_law_model", "_law_region", "_law_many"] (sp_l_pages_for K) := by
  obtain ⟨fd, F⟩ := T.F_l_pages_for
  refine ⟨_, fd, T.g_l_pages_for, F.ok sc_l_pages_for (fun vs H Q E h => len_l_pages_for h) (fun cdv A outer s H vs Q E hr h => ⟨t_l_pages_for K, PSs.nox ?_, rd_l_pages_for h⟩), FunD.bindsN F fun _ _ _ _ _ _ us hl => match us, hl with | [_, _, _], _ => rfl, F.kp⟩
  exact (pss_c (ps_set (i := 3) sc_l_pages_for.nd rfl (Or.inl rfl) (pe_fn O_l_pages (hr.mono (by omega)) rfl (pa_cons (pv 0) (pa_cons (pv 2) pa_nil))))
    (pss_c (ps_for PassesOwn.never rfl (pi_range1 rfl T.b_range (pa_cons (pv 2) pa_nil)) (pg_name (i := 4) sc_l_pages_for.nd rfl (Or.inl rfl)) (pss_one (ps_asg (pv 1) (pg_sub (pe_ix i_x (pv 0) pe_int (fun _ _ => rfl)) (pe_op o_add (pv 3) (pv 4)) p_list))))
    (pss_one (ps_ret (pe_op o_mul pe_int (pv 3))))))
theorem ok_l_cell (T : Txt K mg) (O_l_pages_for : OkF P w K mg base 2 "_law_pages_for" ["_law_model", "_law_region", "_law_many"] (sp_l_pages_for K)) : OkF P w K mg base 3 "_law_cell" ["_law_model", "_law_region", "_law_words"] (sp_l_cell K) := by
  obtain ⟨fd, F⟩ := T.F_l_cell
  refine ⟨_, fd, T.g_l_cell, F.ok sc_l_cell (fun vs H Q E h => len_l_cell h) (fun cdv A outer s H vs Q E hr h => ⟨t_l_cell K, PSs.nox ?_, rd_l_cell h⟩), FunD.bindsN F fun _ _ _ _ _ _ us hl => match us, hl with | [_, _, _], _ => rfl, F.kp⟩
  exact (pss_c (ps_set (i := 3) sc_l_cell.nd rfl (Or.inl rfl) (pe_ix i_x (pe_ix i_x (pv 0) pe_int (fun _ _ => rfl)) (pv 1) (fun _ _ => rfl)))
    (pss_c (ps_asg (pe_op o_add (pe_ix i_x (pe_ix i_x (pv 0) pe_int (fun _ _ => rfl)) (pv 1) (fun _ _ => rfl)) (pv 2)) (pg_sub (pe_ix i_x (pv 0) pe_int (fun _ _ => rfl)) (pv 1) p_list))
    (pss_c (ps_if (pt_cmpR o_gt (pv 2) pe_int (nomark _)) (pss_one (ps_ret (pe_fn O_l_pages_for (hr.mono (by omega)) rfl (pa_cons (pv 0) (pa_cons (pv 1) (pa_cons (pe_op o_fdiv (pe_op o_add (pv 2) pe_int) pe_int) pa_nil)))))) pss_nil)
    (pss_c (ps_if (pt_cmpR o_lt (pe_ix i_x (pv 3) pe_int (fun _ _ => rfl)) (pv 2) (nomark _)) (pss_c (ps_asg (pe_fn O_l_pages_for (hr.mono (by omega)) rfl (pa_cons (pv 0) (pa_cons (pv 1) (pa_cons pe_int pa_nil)))) (pg_sub (pv 3) pe_int p_list))
    (pss_one (ps_asg pe_int (pg_sub (pv 3) pe_int p_list)))) pss_nil)
    (pss_c (ps_asg (pe_op o_add (pe_ix i_x (pv 3) pe_int (fun _ _ => rfl)) (pv 2)) (pg_sub (pv 3) pe_int p_list))
    (pss_c (ps_asg (pe_op o_sub (pe_ix i_x (pv 3) pe_int (fun _ _ => rfl)) (pv 2)) (pg_sub (pv 3) pe_int p_list))
    (pss_c (ps_set (i := 4) sc_l_cell.nd rfl (Or.inl rfl) (pe_ix i_x (pv 0) pe_int (fun _ _ => rfl)))
    (pss_c (ps_for PassesOwn.never rfl (pi_range2 rfl T.b_range (pa_cons (pe_op o_sub (pe_ix i_x (pv 3) pe_int (fun _ _ => rfl)) (pv 2)) (pa_cons (pe_ix i_x (pv 3) pe_int (fun _ _ => rfl)) pa_nil))) (pg_name (i := 5) sc_l_cell.nd rfl (Or.inl rfl)) (pss_one (ps_asg pe_int (pg_sub (pv 4) (pv 5) p_list))))
    (pss_one (ps_ret (pe_op o_sub (pe_ix i_x (pv 3) pe_int (fun _ _ => rfl)) (pv 2))))))))))))
theorem ok_l_end (T : Txt K mg)  : OkF P w K mg base 1 "_law_end" ["_law_model", "_law_region"] (sp_l_end K) := by
  obtain ⟨fd, F⟩ := T.F_l_end
  refine ⟨_, fd, T.g_l_end, F.ok sc_l_end (fun vs H Q E h => len_l_end h) (fun cdv A outer s H vs Q E hr h => ⟨t_l_end K, PSs.nox ?_, rd_l_end h⟩), FunD.bindsN F fun _ _ _ _ _ _ us hl => match us, hl with | [_, _], _ => rfl, F.kp⟩
  exact (pss_c (ps_asg pe_bl (pg_sub (pe_ix i_x (pv 0) pe_int (fun _ _ => rfl)) (pv 1) p_list))
    (pss_one (ps_for PassesOwn.never rfl (pi_range1 rfl T.b_range (pa_cons (pe_callB c_len (by rfl) T.b_len (by decide +kernel) (pa_cons (pe_ix i_x (pv 0) pe_int (fun _ _ => rfl)) pa_nil)) pa_nil)) (pg_name (i := 2) sc_l_end.nd rfl (Or.inl rfl)) (pss_one (ps_if (pt_cmpR (o_eq hr.units) (pe_ix i_x (pe_ix i_x (pv 0) pe_int (fun _ _ => rfl)) (pv 2) (fun _ _ => rfl)) (pv 1) (nomark _)) (pss_c (ps_asg (pe_un u_neg pe_int) (pg_sub (pe_ix i_x (pv 0) pe_int (fun _ _ => rfl)) (pv 2) p_list))
    (pss_one (ps_for PassesOwn.never rfl (pi_range1 rfl T.b_range (pa_cons pe_int pa_nil)) (pg_name (i := 3) sc_l_end.nd rfl (Or.inl rfl)) (pss_one (ps_asg pe_int (pg_sub (pe_ix i_x (pv 0) pe_int (fun _ _ => rfl)) (pe_op o_add (pe_op o_mul pe_int (pv 2)) (pv 3)) p_list)))))) pss_nil)))))
theorem ok_l_owner (T : Txt K mg)  : OkF P w K mg base 1 "_law_owner" ["_law_model", "_law_address"] (sp_l_owner K) := by
  obtain ⟨fd, F⟩ := T.F_l_owner
  refine ⟨_, fd, T.g_l_owner, F.ok sc_l_owner (fun vs H Q E h => len_l_owner h) (fun cdv A outer s H vs Q E hr h => ⟨t_l_owner K, PSs.nox ?_, rd_l_owner h⟩), FunD.bindsN F fun _ _ _ _ _ _ us hl => match us, hl with | [_, _], _ => rfl, F.kp⟩
  exact (pss_c (ps_if (PW.pt (pw_or (pt_cmpR o_lt (pv 1) pe_int (nomark _)) (pw_or1 (pt_cmpR o_ge (pv 1) (pe_callB c_len (by rfl) T.b_len (by decide +kernel) (pa_cons (pe_ix i_x (pv 0) pe_int (fun _ _ => rfl)) pa_nil)) (nomark _))))) (pss_one (ps_ret (pe_un u_neg pe_int))) pss_nil)
    (pss_one (ps_ret (pe_ix i_x (pe_ix i_x (pv 0) pe_int (fun _ _ => rfl)) (pe_op o_fdiv (pv 1) pe_int) (fun _ _ => rfl)))))
theorem ok_l_deed (T : Txt K mg) (O_l_draw : OkF P w K mg base 1 "_law_draw" ["_law_state", "_law_many"] (sp_l_draw K)) : OkF P w K mg base 2 "_law_deed" ["_law_state", "_law_many"] (sp_l_deed K) := by
  obtain ⟨fd, F⟩ := T.F_l_deed
  refine ⟨_, fd, T.g_l_deed, F.ok sc_l_deed (fun vs H Q E h => len_l_deed h) (fun cdv A outer s H vs Q E hr h => ⟨t_l_deed K, PSs.nox ?_, rd_l_deed h⟩), FunD.bindsN F fun _ _ _ _ _ _ us hl => match us, hl with | [_, _], _ => rfl, F.kp⟩
  exact (pss_c (ps_set (i := 2) sc_l_deed.nd rfl (Or.inl rfl) (pe_fn O_l_draw (hr.mono (by omega)) rfl (pa_cons (pv 0) (pa_cons pe_int pa_nil))))
    (pss_c (ps_set (i := 3) sc_l_deed.nd rfl (Or.inl rfl) (pe_op o_sub (pe_fn O_l_draw (hr.mono (by omega)) rfl (pa_cons (pv 0) (pa_cons (pe_op o_add (pv 1) pe_int) pa_nil))) pe_int))
    (pss_c (ps_if (pt_cmpR (o_eq hr.units) (pv 2) pe_int (nomark _)) (pss_one (ps_ret (pe_tup (pa_cons pe_str pa_nil)))) pss_nil)
    (pss_c (ps_if (pt_cmpR o_lt (pv 2) pe_int (nomark _)) (pss_c (ps_set (i := 4) sc_l_deed.nd rfl (Or.inl rfl) (pe_op o_add pe_int (pe_fn O_l_draw (hr.mono (by omega)) rfl (pa_cons (pv 0) (pa_cons pe_int pa_nil)))))
    (pss_c (ps_if (pt_cmpR (o_eq hr.units) (pe_fn O_l_draw (hr.mono (by omega)) rfl (pa_cons (pv 0) (pa_cons pe_int pa_nil))) pe_int (nomark _)) (pss_one (ps_set (i := 4) sc_l_deed.nd rfl (Or.inl rfl) (pe_op o_sub (pe_fn O_l_draw (hr.mono (by omega)) rfl (pa_cons (pv 0) (pa_cons pe_int pa_nil))) pe_int))) pss_nil)
    (pss_one (ps_ret (pe_tup (pa_cons pe_str (pa_cons (pv 3) (pa_cons (pv 4) pa_nil)))))))) pss_nil)
    (pss_c (ps_if (pt_cmpR (o_eq hr.units) (pv 2) pe_int (nomark _)) (pss_one (ps_ret (pe_tup (pa_cons pe_str (pa_cons (pv 3) pa_nil))))) pss_nil)
    (pss_c (ps_set (i := 5) sc_l_deed.nd rfl (Or.inl rfl) (pe_op o_sub (pe_fn O_l_draw (hr.mono (by omega)) rfl (pa_cons (pv 0) (pa_cons pe_int pa_nil))) pe_int))
    (pss_c (ps_if (pt_cmpR (o_eq hr.units) (pv 2) pe_int (nomark _)) (pss_one (ps_set (i := 5) sc_l_deed.nd rfl (Or.inl rfl) (pe_op o_sub (pe_fn O_l_draw (hr.mono (by omega)) rfl (pa_cons (pv 0) (pa_cons (pe_op o_pow pe_int pe_int) pa_nil))) (pe_op o_pow pe_int pe_int)))) pss_nil)
    (pss_c (ps_if (pt_cmpR o_lt (pv 2) pe_int (nomark _)) (pss_one (ps_ret (pe_tup (pa_cons pe_str (pa_cons (pv 5) pa_nil))))) pss_nil)
    (pss_one (ps_ret (pe_tup (pa_cons pe_str (pa_cons (pv 5) (pa_cons (pe_op o_sub (pe_fn O_l_draw (hr.mono (by omega)) rfl (pa_cons (pv 0) (pa_cons (pe_op o_pow pe_int pe_int) pa_nil))) (pe_op o_pow pe_int pe_int)) pa_nil))))))))))))))
theorem ok_l_entry (T : Txt K mg) (O_l_begin : OkF P w K mg base 1 "_law_begin" ["_law_model"] (sp_l_begin K)) (O_l_owner : OkF P w K mg base 1 "_law_owner" ["_law_model", "_law_address"] (sp_l_owner K)) (O_l_end : OkF P w K mg base 1 "_law_end" ["_law_model", "_law_region"] (sp_l_end K)) (O_l_cell : OkF P w K mg base 3 "_law_cell" ["_law_model", "_law_region", "_law_words"] (sp_l_cell K)) : OkF P w K mg base 4 "_law_entry" ["_law_model", "_law_deed_here"] (sp_l_entry K) := by
  obtain ⟨fd, F⟩ := T.F_l_entry
  refine ⟨_, fd, T.g_l_entry, F.ok sc_l_entry (fun vs H Q E h => len_l_entry h) (fun cdv A outer s H vs Q E hr h => ⟨t_l_entry K, PSs.nox ?_, rd_l_entry h⟩), FunD.bindsN F fun _ _ _ _ _ _ us hl => match us, hl with | [_, _], _ => rfl, F.kp⟩
  exact (pss_c (ps_if (pt_cmpR (o_eq hr.units) (pe_ix i_x (pv 1) pe_int (fun _ _ => rfl)) pe_str (nomark _)) (pss_one (ps_ret (pe_tup (pa_cons pe_str (pa_cons (pe_fn O_l_begin (hr.mono (by omega)) rfl (pa_cons (pv 0) pa_nil)) (pa_cons pe_int pa_nil)))))) pss_nil)
    (pss_c (ps_if (pt_cmpR o_in (pe_ix i_x (pv 1) pe_int (fun _ _ => rfl)) (pe_tup (pa_cons pe_str (pa_cons pe_str pa_nil))) (by rfl)) (pss_one (ps_ret (pe_tup (pa_cons (pe_ix i_x (pv 1) pe_int (fun _ _ => rfl)) (pa_cons (pe_fn O_l_owner (hr.mono (by omega)) rfl (pa_cons (pv 0) (pa_cons (pe_ix i_x (pv 1) pe_int (fun _ _ => rfl)) pa_nil))) (pa_cons (pe_ix i_x (pv 1) pe_int (fun _ _ => rfl)) pa_nil)))))) pss_nil)
    (pss_c (ps_set (i := 2) sc_l_entry.nd rfl (Or.inl rfl) (pe_ix i_x (pv 1) pe_int (fun _ _ => rfl)))
    (pss_c (ps_if (PW.pt (pw_or (pt_cmpR o_lt (pv 2) pe_int (nomark _)) (pw_or (pt_cmpR o_ge (pv 2) (pe_callB c_len (by rfl) T.b_len (by decide +kernel) (pa_cons (pe_ix i_x (pv 0) pe_int (fun _ _ => rfl)) pa_nil)) (nomark _)) (pw_or1 (pt_not (pt_tru (pe_ix i_x (pe_ix i_x (pv 0) pe_int (fun _ _ => rfl)) (pv 2) (fun _ _ => rfl)))))))) (pss_one (ps_ret pe_non)) pss_nil)
    (pss_c (ps_if (pt_cmpR (o_eq hr.units) (pe_ix i_x (pv 1) pe_int (fun _ _ => rfl)) pe_str (nomark _)) (pss_c (ps_expr (pe_fn O_l_end (hr.mono (by omega)) rfl (pa_cons (pv 0) (pa_cons (pv 2) pa_nil))))
    (pss_one (ps_ret (pe_tup (pa_cons pe_str (pa_cons (pv 2) (pa_cons pe_int pa_nil))))))) pss_nil)
    (pss_c (ps_if (pt_cmpR o_lt (pe_ix i_x (pv 1) pe_int (fun _ _ => rfl)) pe_int (nomark _)) (pss_one (ps_ret pe_non)) pss_nil)
    (pss_one (ps_ret (pe_tup (pa_cons pe_str (pa_cons (pv 2) (pa_cons (pe_fn O_l_cell (hr.mono (by omega)) rfl (pa_cons (pv 0) (pa_cons (pv 2) (pa_cons (pe_ix i_x (pv 1) pe_int (fun _ _ => rfl)) pa_nil)))) pa_nil))))))))))))
theorem okf_law (T : Txt K mg) (O_l_start : OkF P w K mg base 1 "_law_start" ["_law_script"] (sp_l_start K)) (O_l_draw : OkF P w K mg base 1 "_law_draw" ["_law_state", "_law_many"] (sp_l_draw K)) (O_l_deed : OkF P w K mg base 2 "_law_deed" ["_law_state", "_law_many"] (sp_l_deed K)) (O_l_new : OkF P w K mg base 1 "_law_new" [] (sp_l_new K)) (O_l_entry : OkF P w K mg base 4 "_law_entry" ["_law_model", "_law_deed_here"] (sp_l_entry K)) (O_replay : OkF P w K mg base 6 "replay" ["deeds"] (sp_replay K)) {fd : FuncData} (F : FunD K "law" "law" (defArgs s_law) (defBody s_law) (defScope s_law) [] [] (He.ga K "law") fd) : FnG P w K mg base 7 (He.ga K "law") fd ["_law_script"] (sp_law K) := by
  refine FunD.okG F sc_law (fun vs H Q E h => len_law h) (fun cdv A s H vs Q E hr hg h => ⟨t_law K, PSs.nox ?_, rd_law h⟩)
  exact (pss_c (ps_set (i := 1) sc_law.nd rfl (Or.inl rfl) (pe_fn O_l_start (hr.mono (by omega)) rfl (pa_cons (pv 0) pa_nil)))
    (pss_c (ps_set (i := 2) sc_law.nd rfl (Or.inl rfl) (pe_lst (pa_cons (pe_tup (pa_cons pe_str pa_nil)) pa_nil)))
    (pss_c (ps_if (pt_cmpR (o_eq hr.units) (pe_fn O_l_draw (hr.mono (by omega)) rfl (pa_cons (pv 1) (pa_cons pe_int pa_nil))) pe_int (nomark _)) (pss_one (ps_set (i := 2) sc_law.nd rfl (Or.inl rfl) (pe_lst pa_nil))) pss_nil)
    (pss_c (ps_set (i := 3) sc_law.nd rfl (Or.inl rfl) pe_int)
    (pss_c (ps_for PassesOwn.never rfl (pi_range1 rfl T.b_range (pa_cons (pe_fn O_l_draw (hr.mono (by omega)) rfl (pa_cons (pv 1) (pa_cons pe_int pa_nil))) pa_nil)) (pg_name (i := 4) sc_law.nd rfl (Or.inl rfl)) (pss_c (ps_expr (pe_bm PySem.F.plainAttrs_list PySem.F.slot_list_append PySem.F.type_list_append m_append (pv 2) (pa_cons (pe_fn O_l_deed (hr.mono (by omega)) rfl (pa_cons (pv 1) (pa_cons (pv 3) pa_nil))) pa_nil)))
    (pss_one (ps_set (i := 3) sc_law.nd rfl (Or.inl rfl) (pe_op o_add (pv 3) (pe_callTy c_int (by rfl) T.b_int (by decide +kernel) (pa_cons (pe_cmpR (o_eq hr.units) (pe_ix i_x (pe_ix i_x (pv 2) (pe_un u_neg pe_int) (fun _ _ => rfl)) pe_int (fun _ _ => rfl)) pe_str (nomark _)) pa_nil)))))))
    (pss_c (ps_set (i := 5) sc_law.nd rfl (Or.inl rfl) (pe_fn0 O_l_new (hr.mono (by omega)) rfl))
    (pss_c (ps_set (i := 6) sc_law.nd rfl (Or.inl rfl) (pe_lst pa_nil))
    (pss_c (ps_for PassesOwn.never rfl (pi_any (pv 2)) (pg_name (i := 7) sc_law.nd rfl (Or.inl rfl)) (pss_c (ps_set (i := 8) sc_law.nd rfl (Or.inl rfl) (pe_fn O_l_entry (hr.mono (by omega)) rfl (pa_cons (pv 5) (pa_cons (pv 7) pa_nil))))
    (pss_one (ps_if (pt_cmpR o_isNot (pv 8) pe_non (nomark _)) (pss_one (ps_expr (pe_bm PySem.F.plainAttrs_list PySem.F.slot_list_append PySem.F.type_list_append m_append (pv 6) (pa_cons (pv 8) pa_nil)))) pss_nil))))
    (pss_c (ps_set (i := 9) sc_law.nd rfl (Or.inl rfl) (pe_callTy c_list (by rfl) T.b_list (by decide +kernel) (pa_cons (pv 2) pa_nil)))
    (pss_c (ps_set (i := 10) sc_law.nd rfl (Or.inl rfl) (pe_fn O_replay (hr.mono (by omega)) rfl (pa_cons (pv 9) pa_nil)))
    (pss_c (ps_if (PW.pt (pw_or (pt_not (pt_tru (pe_callB c_isi (by rfl) T.b_isinstance (by decide +kernel) (pa_cons (pv 10) (pa_cons (pe_ty rfl T.b_list (by decide +kernel)) pa_nil))))) (pw_or (pt_cmpR (o_ne hr.units) (pe_callB (c_repr hg hr) (by rfl) T.b_repr (by decide +kernel) (pa_cons (pv 10) pa_nil)) (pe_callB (c_repr hg hr) (by rfl) T.b_repr (by decide +kernel) (pa_cons (pv 6) pa_nil)) (nomark _)) (pw_or1 (pt_cmpR (o_ne hr.units) (pv 9) (pv 2) (nomark _)))))) (pss_one (ps_ret pe_bl)) pss_nil)
    (pss_c (ps_expr (pe_bm PySem.F.plainAttrs_list PySem.F.slot_list_append PySem.F.type_list_append m_append (pv 10) (pa_cons pe_non pa_nil)))
    (pss_one (ps_ret (pe_cmpR (o_eq hr.units) (pe_fn O_replay (hr.mono (by omega)) rfl (pa_cons (pv 9) pa_nil)) (pv 6) (nomark _))))))))))))))))
end
theorem txt {K : PySem.W.Frag} {h : Heap} {mg : Str → Option Value} (X : K.In h) (G : h.Ns mainGlobals mg) (c : SaysU fil fa fn en tst K) : Txt K mg :=
  ⟨He.free_ok X G (c.d.fact 0 (f := .free "isinstance") rfl),
   He.free_ok X G (c.d.fact 1 (f := .free "int") rfl),
   He.free_ok X G (c.d.fact 2 (f := .free "bool") rfl),
   He.cls_ok (c.d.fact 3 (f := .cls "RegionState") rfl),
   He.noat_ok (c.d.fact 4 (f := .noat "RegionState" "lives") rfl),
   He.noat_ok (c.d.fact 5 (f := .noat "RegionState" "amount") rfl),
   He.noat_ok (c.d.fact 6 (f := .noat "RegionState" "place") rfl),
   He.noat_ok (c.d.fact 7 (f := .noat "RegionState" "room") rfl),
   He.cls_ok (c.d.fact 8 (f := .cls "Store") rfl),
   He.noat_ok (c.d.fact 9 (f := .noat "Store" "words") rfl),
   He.noat_ok (c.d.fact 10 (f := .noat "Store" "owners") rfl),
   He.noat_ok (c.d.fact 11 (f := .noat "Store" "regions") rfl),
   He.noat_ok (c.d.fact 12 (f := .noat "Store" "watch") rfl),
   He.cls_ok (c.d.fact 13 (f := .cls "Watch") rfl),
   He.noat_ok (c.d.fact 14 (f := .noat "Watch" "log") rfl),
   He.free_ok X G (c.d.fact 15 (f := .free "len") rfl),
   He.free_ok X G (c.d.fact 16 (f := .free "range") rfl),
   He.int_ok X G (c.d.fact 17 (f := .int "PAGE_WORDS" 8) rfl),
   He.free_ok X G (c.d.fact 18 (f := .free "enumerate") rfl),
   He.free_ok X G (c.d.fact 19 (f := .free "list") rfl),
   He.noat_ok (c.d.fact 20 (f := .noat "Watch" "store") rfl),
   He.glo_ok X G (c.d.fact 21 (f := .glo "StoreError") rfl),
   He.free_ok X G (c.d.fact 22 (f := .free "abs") rfl),
   He.free_ok X G (c.d.fact 23 (f := .free "repr") rfl),
   He.glo_ok X G (c.d.fact 24 (f := .glo "RegionState") rfl),
   He.mkr_ok (c.d.fact 25 (f := .mkr "RegionState") rfl),
   He.glo_ok X G (c.d.fact 26 (f := .glo "Store") rfl),
   He.mkr_ok (c.d.fact 27 (f := .mkr "Store") rfl),
   He.meth_ok (c.d.fact 28 (f := .meth "Store" "record") rfl),
   He.meth_ok (c.d.fact 29 (f := .meth "Store" "is_current") rfl),
   He.meth_ok (c.d.fact 30 (f := .meth "Store" "begin") rfl),
   He.meth_ok (c.d.fact 31 (f := .meth "Store" "take") rfl),
   He.meth_ok (c.d.fact 32 (f := .meth "Store" "cell") rfl),
   He.meth_ok (c.d.fact 33 (f := .meth "Store" "end") rfl),
   He.meth_ok (c.d.fact 34 (f := .meth "Store" "owner") rfl),
   He.meth_ok (c.d.fact 35 (f := .meth "Store" "read") rfl),
   He.meth_ok (c.d.fact 36 (f := .meth "Store" "write") rfl),
   He.glo_ok X G (c.d.fact 37 (f := .glo "Watch") rfl),
   He.mkr_ok (c.d.fact 38 (f := .mkr "Watch") rfl),
   He.meth_ok (c.d.fact 39 (f := .meth "Watch" "__enter__") rfl),
   He.meth_ok (c.d.fact 40 (f := .meth "Watch" "__exit__") rfl),
   He.free_ok X G (c.d.fact 41 (f := .free "super") rfl),
   ⟨of_decide_eq_true (c.tfact 0)⟩,
   c.d.def_ 0 (d := d_RegionState___init__) rfl,
   c.d.def_ 1 (d := d_Store___init__) rfl,
   c.d.def_ 2 (d := d_Store_record) rfl,
   c.d.def_ 3 (d := d_Store_is_current) rfl,
   c.d.def_ 4 (d := d_Store_begin) rfl,
   c.d.def_ 5 (d := d_Store_take) rfl,
   c.d.def_ 6 (d := d_Store_cell) rfl,
   c.d.def_ 7 (d := d_Store_end) rfl,
   c.d.def_ 8 (d := d_Store_owner) rfl,
   c.d.def_ 9 (d := d_Store_read) rfl,
   c.d.def_ 10 (d := d_Store_write) rfl,
   c.d.def_ 11 (d := d_Watch___init__) rfl,
   c.d.def_ 12 (d := d_Watch___enter__) rfl,
   c.d.def_ 13 (d := d_Watch___exit__) rfl,
   He.glo_ok X G (c.d.fact 42 (f := .glo "_wall") rfl),
   c.d.def_ 14 (d := d_wall) rfl,
   He.glo_ok X G (c.d.fact 43 (f := .glo "is_integer") rfl),
   c.d.def_ 15 (d := d_is_integer) rfl,
   He.glo_ok X G (c.d.fact 44 (f := .glo "perform") rfl),
   c.d.def_ 16 (d := d_perform) rfl,
   He.glo_ok X G (c.d.fact 45 (f := .glo "replay") rfl),
   c.d.def_ 17 (d := d_replay) rfl,
   He.glo_ok X G (c.d.fact 46 (f := .glo "_law_start") rfl),
   c.d.def_ 18 (d := d_l_start) rfl,
   He.glo_ok X G (c.d.fact 47 (f := .glo "_law_draw") rfl),
   c.d.def_ 19 (d := d_l_draw) rfl,
   He.glo_ok X G (c.d.fact 48 (f := .glo "_law_new") rfl),
   c.d.def_ 20 (d := d_l_new) rfl,
   He.glo_ok X G (c.d.fact 49 (f := .glo "_law_begin") rfl),
   c.d.def_ 21 (d := d_l_begin) rfl,
   He.glo_ok X G (c.d.fact 50 (f := .glo "_law_pages") rfl),
   c.d.def_ 22 (d := d_l_pages) rfl,
   He.glo_ok X G (c.d.fact 51 (f := .glo "_law_pages_for") rfl),
   c.d.def_ 23 (d := d_l_pages_for) rfl,
   He.glo_ok X G (c.d.fact 52 (f := .glo "_law_cell") rfl),
   c.d.def_ 24 (d := d_l_cell) rfl,
   He.glo_ok X G (c.d.fact 53 (f := .glo "_law_end") rfl),
   c.d.def_ 25 (d := d_l_end) rfl,
   He.glo_ok X G (c.d.fact 54 (f := .glo "_law_owner") rfl),
   c.d.def_ 26 (d := d_l_owner) rfl,
   He.glo_ok X G (c.d.fact 55 (f := .glo "_law_deed") rfl),
   c.d.def_ 27 (d := d_l_deed) rfl,
   He.glo_ok X G (c.d.fact 56 (f := .glo "_law_entry") rfl),
   c.d.def_ 28 (d := d_l_entry) rfl,
   He.glo_ok X G (c.d.fact 57 (f := .glo "law") rfl),
   c.d.def_ 29 (d := d_law) rfl⟩
theorem facts {P : Program} {w : World} {K : PySem.W.Frag} {h : Heap} {mg : Str → Option Value} {f : Addr} (hP : P.main.file = fil) (hs : (P.main.scope.names.lookup ("super" : Str)).isSome = false) (X : K.In h) (G : h.Ns mainGlobals mg) (hfa : mg ("law" : Str) = some (.ref f)) (c : SaysU fil fa fn en tst K) :
    ∃ fd : FuncData, (∀ (s : Shared) (v : Value), BindsTo s fd ⟨[v], []⟩ [("_law_script", v)]) ∧ ∀ base : Heap, K.In base → base.Ns mainGlobals mg → FnG P w K mg base 7 f fd ["_law_script"] (sp_law K) := by
  have T : Txt K mg := txt X G c
  obtain ⟨fd_StoreError, X_StoreError⟩ := SaysU.err (P := P) (by rw [hP]; exact c) X G hs 0 (d := de_StoreError) rfl
  obtain ⟨fd, F⟩ := T.F_law
  have e := hfa.symm.trans T.g_law
  cases e
  have b := FunD.bindsA (ps := ["_law_script"]) F fun _ _ _ _ _ _ us hl => match us, hl with | [_], _ => rfl
  refine ⟨fd, fun s v => b s [v] rfl, fun base _ _ => ?_⟩
  have O_l_start : OkF P w K mg base 1 "_law_start" ["_law_script"] (sp_l_start K) := ok_l_start T 
  have O_l_draw : OkF P w K mg base 1 "_law_draw" ["_law_state", "_law_many"] (sp_l_draw K) := ok_l_draw T 
  have O_l_deed : OkF P w K mg base 2 "_law_deed" ["_law_state", "_law_many"] (sp_l_deed K) := ok_l_deed T O_l_draw
  have O_l_new : OkF P w K mg base 1 "_law_new" [] (sp_l_new K) := ok_l_new T 
  have O_l_begin : OkF P w K mg base 1 "_law_begin" ["_law_model"] (sp_l_begin K) := ok_l_begin T 
  have O_l_owner : OkF P w K mg base 1 "_law_owner" ["_law_model", "_law_address"] (sp_l_owner K) := ok_l_owner T 
  have O_l_end : OkF P w K mg base 1 "_law_end" ["_law_model", "_law_region"] (sp_l_end K) := ok_l_end T 
  have O_l_pages : OkF P w K mg base 1 "_law_pages" ["_law_model", "_law_many"] (sp_l_pages K) := ok_l_pages T 
  have O_l_pages_for : OkF P w K mg base 2 "_law_pages_for" ["_law_model", "_law_region", "_law_many"] (sp_l_pages_for K) := ok_l_pages_for T O_l_pages
  have O_l_cell : OkF P w K mg base 3 "_law_cell" ["_law_model", "_law_region", "_law_words"] (sp_l_cell K) := ok_l_cell T O_l_pages_for
  have O_l_entry : OkF P w K mg base 4 "_law_entry" ["_law_model", "_law_deed_here"] (sp_l_entry K) := ok_l_entry T O_l_begin O_l_owner O_l_end O_l_cell
  have O_Store___init__ : OkC P w K mg base 1 "Store" (He.ga K "Store") ["self"] (sp_Store___init__ K) := ok_Store___init__ T 
  have O_Watch___enter__ : OkM P w K mg base 1 (He.ga K "Watch") "__enter__" ["self"] (sp_Watch___enter__ K) := ok_Watch___enter__ T 
  have O_Watch___exit__ : OkM P w K mg base 1 (He.ga K "Watch") "__exit__" ["self", "kind", "value", "trace"] (sp_Watch___exit__ K) := ok_Watch___exit__ T 
  have O_Watch___init__ : OkC P w K mg base 1 "Watch" (He.ga K "Watch") ["self", "store"] (sp_Watch___init__ K) := ok_Watch___init__ T 
  have O_RegionState___init__ : OkC P w K mg base 1 "RegionState" (He.ga K "RegionState") ["self"] (sp_RegionState___init__ K) := ok_RegionState___init__ T 
  have O_Store_record : OkM P w K mg base 1 (He.ga K "Store") "record" ["self", "what", "region", "address"] (sp_Store_record K) := ok_Store_record T 
  have O_Store_begin : OkM P w K mg base 3 (He.ga K "Store") "begin" ["self"] (sp_Store_begin K) := ok_Store_begin T O_RegionState___init__ O_Store_record
  have O_is_integer : OkF P w K mg base 1 "is_integer" ["value"] (sp_is_integer K) := ok_is_integer T 
  have O_Store_is_current : OkM P w K mg base 2 (He.ga K "Store") "is_current" ["self", "region"] (sp_Store_is_current K) := ok_Store_is_current T O_is_integer
  have O_StoreError : ErrOk P w K mg base "StoreError" (He.ga K "StoreError") ["reason"] := err_StoreError T X_StoreError
  have O_Store_take : OkM P w K mg base 1 (He.ga K "Store") "take" ["self", "count", "region"] (sp_Store_take K) := ok_Store_take T 
  have O_Store_cell : OkMX P w K mg base 4 (He.ga K "Store") "cell" ["self", "region", "words"] (sp_Store_cell K) := ok_Store_cell T O_Store_is_current O_StoreError O_Store_take O_Store_record
  have O_Store_end : OkMX P w K mg base 4 (He.ga K "Store") "end" ["self", "region"] (sp_Store_end K) := ok_Store_end T O_Store_is_current O_StoreError O_Store_record
  have O_Store_owner : OkM P w K mg base 1 (He.ga K "Store") "owner" ["self", "address"] (sp_Store_owner K) := ok_Store_owner T 
  have O_Store_read : OkM P w K mg base 2 (He.ga K "Store") "read" ["self", "address"] (sp_Store_read K) := ok_Store_read T O_Store_owner O_Store_record
  have O_Store_write : OkM P w K mg base 2 (He.ga K "Store") "write" ["self", "address", "word"] (sp_Store_write K) := ok_Store_write T O_Store_owner O_Store_record
  have O_perform : OkX P w K mg base 5 "perform" ["store", "deed"] (sp_perform K) := ok_perform T O_Store_begin O_Store_cell O_Store_end O_Store_read O_Store_write
  have O_replay : OkF P w K mg base 6 "replay" ["deeds"] (sp_replay K) := ok_replay T O_Store___init__ O_Watch___enter__ O_Watch___exit__ O_Watch___init__ O_perform
  exact okf_law (base := base) (P := P) (w := w) T O_l_start O_l_draw O_l_deed O_l_new O_l_entry O_replay F
end U
open PySem PySem.W PySem.Calls PyProof.Rows
theorem PySem.Challenge.cw_escheat_k51_replayed_log_holds : PySem.Challenge.rw_escheat_k51_replayed_log.Holds := by
  refine U.early fun P w K h mg f hP hs X G hfa c => ?_
  obtain ⟨fd, hb, hF⟩ := U.facts (P := P) (w := w) hP hs X G hfa c
  exact ⟨fd, hb, U.sp_law K, fun H a ns hl hS => U.law_in a ns hl hS, hF⟩


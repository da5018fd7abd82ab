import PyProof.Rows.All
import Wide.All
import OpenK.AllK
import Wide.FinOn
import HandS.ForMost
import HandS.Flow
import HandS.Wide
import HandS.IsInst
import HandS.TupAny
import HandS.StrMore
import HandS.SortInts
import HandS.Walk
import HandS.Style
import HandS.More
import HandS.HeadHook1
import HandS.Nested
import HandS.Exc
import HandS.ExcInit
import HandS.ExcSuper
import HandS.ExcOwn
import HandS.TryOnly
import HandS.ExcField
import HandS.ExcIs
import HandS.WordsExc
import HandS.HeadHook2
import KE.KExcSuper
import HandS.HotCalls
import HandS.Property
import KE.KIsAll
import HandS.SlotsOwn
import HandS.Zip
import HandS.SetFor
import KE.GoesEnum
import KE.KDictZip
import HandS.CallLocal
import HandS.Rev
import HandS.Defaults
import KE.GoesMore
import HandS.Small
import HandS.GenList
import HandS.GenYield
import HandS.IterVal
import HandS.OwnIter
import KE.KWithOwn
import PyProof.ReprRoads
import KE.GoesEnumKw
import HandS.Head0
import HandS.Head1
import HandS.Head2
import HandS.HeadEnd
import PySem.Challenge.RW_escheat_k18_shared_cells
set_option Elab.async false
set_option linter.all false
set_option maxRecDepth 100000
set_option maxHeartbeats 4000000
/-! U: operators by value, as functions of the values' shapes (so that a reading computes), and the steps of a reading. -/
namespace U
open PySem PySem.Spec PyProof.Rows L2

/-! ### operators by value -/
section
variable {X : Cx}
def uAdd (K : PySem.W.Frag) : R2 := fun x y H Q => match x, y with
  | .int i, .int j => Q (.int (i + j)) H
  | .str a, .str b => a.length + b.length ≤ sizeLine ∧ Q (.str (a ++ b)) H
  | .ref a, .ref b => (∃ xs ys, H a = some (.lst xs) ∧ H b = some (.lst ys) ∧ xs.length + ys.length ≤ sizeLine ∧ ∀ p, H p = none → Q (.ref p) (upd H p (.lst (xs ++ ys)))) ∨ rCatA K x y H Q
  | _, _ => False
theorem o_add : OpR X (binaryOp .Add) (uAdd X.K) := by
  intro pins s σ H x y v u Q I rx ry h
  cases x <;> cases y <;> first | exact (show False from h).elim | skip
  · exact op_add pins s σ H _ _ v u Q I rx ry ⟨_, _, rfl, rfl, h⟩
  · exact op_add_str pins s σ H _ _ v u Q I rx ry ⟨_, _, rfl, rfl, h.1, h.2⟩
  · rcases h with h | h
    · obtain ⟨xs, ys, h1, h2, h3, h4⟩ := h
      exact op_cat pins s σ H _ _ v u Q I rx ry ⟨_, _, xs, ys, rfl, rfl, h1, h2, h3, h4⟩
    · exact op_catA pins s σ H _ _ v u Q I rx ry h
def uSub : R2 := fun x y H Q => match x, y with
  | .int i, .int j => Q (.int (i - j)) H
  | _, _ => False
theorem o_sub : OpR X (binaryOp .Sub) uSub := by
  intro pins s σ H x y v u Q I rx ry h
  cases x <;> cases y <;> first | exact (show False from h).elim | skip
  exact op_sub pins s σ H _ _ v u Q I rx ry ⟨_, _, rfl, rfl, h⟩
def uMul : R2 := fun x y H Q => match x, y with
  | .int i, .int j => (CMul i j ∨ CMulW i j) ∧ Q (.int (i * j)) H
  | .str z, .int k => z.length * k.toNat ≤ 1000000 ∧ k ≤ 1000000 ∧ -(2 ^ 63) ≤ k ∧ Q (.str (Txt.mul z k)) H
  | .ref a, .int k => ∃ xs, H a = some (.lst xs) ∧ -(2 ^ 63) ≤ k ∧ k < 2 ^ 63 ∧ xs.length * k.toNat ≤ sizeLine ∧ ∀ p, H p = none → Q (.ref p) (upd H p (.lst (List.replicate k.toNat xs).flatten))
  | _, _ => False
theorem o_mul : OpR X (binaryOp .Mult) uMul := by
  intro pins s σ H x y v u Q I rx ry h
  cases x <;> cases y <;> first | exact (show False from h).elim | skip
  · rcases h.1 with c | c
    · exact op_mul pins s σ H _ _ v u Q I rx ry ⟨_, _, rfl, rfl, c, h.2⟩
    · exact op_mulW pins s σ H _ _ v u Q I rx ry ⟨_, _, rfl, rfl, c, h.2⟩
  · rename_i z k
    obtain ⟨h1, h2, h3, q⟩ := h
    obtain ⟨t, rfl⟩ := rx
    obtain ⟨t', rfl⟩ := ry
    have hok : PySem.MulOk z k := by
      refine ⟨?_, fun h _ => ?_, fun h _ => ?_⟩
      · have a1 : ¬ k < -(2 ^ 63 : Int) := by omega
        have a2 : ¬ k ≥ (2 ^ 63 : Int) := by omega
        rw [decide_eq_false a1, decide_eq_false a2]; rfl
      · have hpos : 0 < k := by omega
        have e : ((z.length * k.toNat : Nat) : Int) = (z.length : Int) * k := by
          rw [Int.natCast_mul, Int.toNat_of_nonneg (by omega)]
        have h3 : (z.length : Int) * k ≤ 2 ^ 63 - 1 := by rw [← e]; omega
        have h4 : (z.length : Int) ≤ (2 ^ 63 - 1) / k := (Int.le_ediv_iff_mul_le hpos).mpr h3
        omega
      · exact PyProof.Rows.short24 (by omega)
    exact SB.mul hok fun t' n => ⟨.str _, H, I.tok _, ⟨_, rfl⟩, q⟩
  · obtain ⟨xs, h1, h2, h3, h4, h5⟩ := h
    exact op_rep pins s σ H _ _ v u Q I rx ry ⟨_, _, xs, rfl, rfl, h1, h2, h3, h4, h5⟩
def uFdiv : R2 := fun x y H Q => match x, y with
  | .int i, .int j => CDivW i j ∧ Q (.int (i / j)) H
  | _, _ => False
theorem o_fdiv : OpR X (binaryOp .FloorDiv) uFdiv := by
  intro pins s σ H x y v u Q I rx ry h
  cases x <;> cases y <;> first | exact (show False from h).elim | skip
  exact op_fdivW pins s σ H _ _ v u Q I rx ry ⟨_, _, rfl, rfl, h.1, h.2⟩
def uMod : R2 := fun x y H Q => match x, y with
  | .int i, .int j => 0 < j ∧ Q (.int (i % j)) H
  | _, _ => False
theorem o_mod : OpR X (binaryOp .Mod) uMod := by
  intro pins s σ H x y v u Q I rx ry h
  cases x <;> cases y <;> first | exact (show False from h).elim | skip
  exact op_mod pins s σ H _ _ v u Q I rx ry ⟨_, _, rfl, rfl, h.1, h.2⟩
def uPow : R2 := fun x y H Q => match x, y with
  | .int i, .int j => CPow i j ∧ Q (.int (i ^ j.toNat)) H
  | _, _ => False
theorem o_pow : OpR X (binaryOp .Pow) uPow := by
  intro pins s σ H x y v u Q I rx ry h
  cases x <;> cases y <;> first | exact (show False from h).elim | skip
  exact op_pow pins s σ H _ _ v u Q I rx ry ⟨_, _, rfl, rfl, h.1, h.2⟩
def uNeg : V → Hp → VK → Prop := fun x H Q => match x with
  | .int i => Q (.int (-i)) H
  | _ => False
theorem u_neg : UnR X (unaryOp .USub) uNeg := by
  intro pins s σ H x v Q I rx h
  cases x <;> first | exact (show False from h).elim | skip
  exact un_neg pins s σ H _ v Q I rx ⟨_, rfl, h⟩
/-! comparisons -/
def uEq (K : PySem.W.Frag) : R2 := fun x y H Q => (scal x y = true ∧ Q (.bl (decide (x = y))) H) ∨ rEqD K x y H Q
theorem o_eq (hu : X.A.units + 64 < cLine) : OpR X (compareOp .Eq) (uEq X.K) := op_eq.or (op_eqD hu)
def uNe (K : PySem.W.Frag) : R2 := fun x y H Q => (scal x y = true ∧ Q (.bl (!decide (x = y))) H) ∨ rNeD K x y H Q
theorem o_ne (hu : X.A.units + 64 < cLine) : OpR X (compareOp .NotEq) (uNe X.K) := op_ne.or (op_neD hu)
def uCmpI (p : Int → Int → Bool) : R2 := fun x y H Q => match x, y with
  | .int i, .int j => Q (.bl (p i j)) H
  | _, _ => False
abbrev uLt : R2 := uCmpI fun i j => decide (i < j)
abbrev uLe : R2 := uCmpI fun i j => decide (i ≤ j)
abbrev uGt : R2 := uCmpI fun i j => decide (j < i)
abbrev uGe : R2 := uCmpI fun i j => decide (j ≤ i)
theorem o_lt : OpR X (compareOp .Lt) uLt := by
  intro pins s σ H x y v u Q I rx ry h
  cases x <;> cases y <;> first | exact (show False from h).elim | skip
  exact op_lt pins s σ H _ _ v u Q I rx ry ⟨_, _, rfl, rfl, h⟩
theorem o_le : OpR X (compareOp .LtE) uLe := by
  intro pins s σ H x y v u Q I rx ry h
  cases x <;> cases y <;> first | exact (show False from h).elim | skip
  exact op_le pins s σ H _ _ v u Q I rx ry ⟨_, _, rfl, rfl, h⟩
theorem o_gt : OpR X (compareOp .Gt) uGt := by
  intro pins s σ H x y v u Q I rx ry h
  cases x <;> cases y <;> first | exact (show False from h).elim | skip
  exact op_gt pins s σ H _ _ v u Q I rx ry ⟨_, _, rfl, rfl, h⟩
theorem o_ge : OpR X (compareOp .GtE) uGe := by
  intro pins s σ H x y v u Q I rx ry h
  cases x <;> cases y <;> first | exact (show False from h).elim | skip
  exact op_ge pins s σ H _ _ v u Q I rx ry ⟨_, _, rfl, rfl, h⟩
/-- one sign in a text | a flat thing in a list, a tuple -/
def uIn (K : PySem.W.Frag) (f : Bool → Bool) : R2 := fun x y H Q => match y with
  | .str z => ∃ c : Nat, x = .str ⟨#[c]⟩ ∧ Q (.bl (f (decide (c ∈ z.cps.toList)))) H
  | .ref p => ∃ xs, (SqL K H p xs ∨ SqT K H p xs) ∧ flatV x = true ∧ xs.all flatV = true ∧ Q (.bl (f (inV x xs))) H
  | _ => False
theorem o_in : OpR X (compareOp .In) (uIn X.K id) := by
  intro pins s σ H x y v u Q I rx ry h
  cases y <;> first | exact (show False from h).elim | skip
  · obtain ⟨c, e, q⟩ := h
    exact op_in_sign pins s σ H _ _ v u Q I rx ry ⟨c, _, e, rfl, q⟩
  · obtain ⟨xs, h1, h2, h3, q⟩ := h
    exact op_in_seq pins s σ H _ _ v u Q I rx ry ⟨_, xs, rfl, h1, h2, h3, q⟩
theorem o_notIn : OpR X (compareOp .NotIn) (uIn X.K not) := by
  intro pins s σ H x y v u Q I rx ry h
  cases y <;> first | exact (show False from h).elim | skip
  · obtain ⟨c, e, q⟩ := h
    exact op_notIn_sign pins s σ H _ _ v u Q I rx ry ⟨c, _, e, rfl, q⟩
  · obtain ⟨xs, h1, h2, h3, q⟩ := h
    exact op_notIn_seq pins s σ H _ _ v u Q I rx ry ⟨_, xs, rfl, h1, h2, h3, q⟩
/-- is None (the right one), by the left one's shape -/
def isNonV : V → Bool
  | .non => true
  | _ => false
theorem isNonV_eq (x : V) : isNonV x = decide (x = .non) := by cases x <;> simp [isNonV]
def uIsN (f : Bool → Bool) : R2 := fun x y H Q => match y with
  | .non => Q (.bl (f (isNonV x))) H
  | _ => False
theorem o_is : OpR X (compareOp .Is) (uIsN id) := by
  intro pins s σ H x y v u Q I rx ry h
  cases y <;> first | exact (show False from h).elim | skip
  exact op_isN pins s σ H _ _ v u Q I rx ry ⟨rfl, by rw [← isNonV_eq]; exact h⟩
theorem o_isNot : OpR X (compareOp .IsNot) (uIsN not) := by
  intro pins s σ H x y v u Q I rx ry h
  cases y <;> first | exact (show False from h).elim | skip
  exact op_notN pins s σ H _ _ v u Q I rx ry ⟨rfl, by rw [← isNonV_eq]; exact h⟩
/-! subscripts -/
def uIx (K : PySem.W.Frag) : R2 := fun x y H Q => match x, y with
  | .ref a, .int i => ∃ xs v, (SqL K H a xs ∨ SqT K H a xs) ∧ atI xs i = some v ∧ Q v H
  | .str z, .int i => ∃ c, z.length ≤ sizeLine ∧ atI z.cps.toList i = some c ∧ Q (.str ⟨#[c]⟩) H
  | _, _ => False
theorem i_x : IxR X (uIx X.K) := by
  intro value slice pins s σ H x y v u Q I rx ry h hs
  cases x <;> cases y <;> first | exact (show False from h).elim | skip
  · obtain ⟨c, h1, h2, q⟩ := h
    exact ix_str value slice pins s σ H _ _ v u Q I rx ry ⟨_, _, c, rfl, rfl, h1, h2, q⟩ hs
  · obtain ⟨xs, w, h1, h2, q⟩ := h
    rcases h1 with h1 | h1
    · exact ix_list value slice pins s σ H _ _ v u Q I rx ry ⟨_, xs, _, w, rfl, rfl, h1, h2, q⟩ hs
    · exact ix_tup value slice pins s σ H _ _ v u Q I rx ry ⟨_, xs, _, w, rfl, rfl, h1, h2, q⟩ hs
def uSl (K : PySem.W.Frag) : V → Option Int → Option Int → Hp → VK → Prop := fun x lo hi H Q => match x with
  | .str z => z.length ≤ sizeLine ∧ Q (.str (cutS z lo hi)) H
  | .ref _ => rSlL K x lo hi H Q ∨ rSlA K x lo hi H Q
  | _ => False
theorem s_l : SlR X (uSl X.K) := by
  intro pins s σ H x v vl vu lo hi sl Q I rx hs pl pu q
  cases x <;> first | exact (show False from q).elim | skip
  · exact sl_str pins s σ H _ v vl vu lo hi sl Q I rx hs pl pu ⟨_, rfl, q.1, q.2⟩
  · rcases q with q | q
    · exact sl_list pins s σ H _ v vl vu lo hi sl Q I rx hs pl pu q
    · exact sl_tupA pins s σ H _ v vl vu lo hi sl Q I rx hs pl pu q
/-! calls of built-ins -/
abbrev RC : Type := List V → Hp → VK → Prop
def uLen (K : PySem.W.Frag) : RC := fun xs H Q => match xs with
  | [.str z] => z.length ≤ sizeLine ∧ Q (.int (z.length : Int)) H
  | [.ref a] => ∃ ys, (SqL K H a ys ∨ SqT K H a ys) ∧ Q (.int (ys.length : Int)) H
  | _ => False
theorem c_len : CallR X (.builtin "len") (uLen X.K) := by
  intro pins s σ H xs us Q I r h
  unfold uLen at h
  split at h
  · exact call_len_str pins s σ H _ us Q I r ⟨_, rfl, h.1, h.2⟩
  · obtain ⟨ys, h1, q⟩ := h
    exact call_len_seq pins s σ H _ us Q I r ⟨_, ys, rfl, h1, q⟩
  · exact h.elim
def uAbs : RC := fun xs H Q => match xs with
  | [.int i] => Q (.int (i.natAbs : Int)) H
  | _ => False
theorem abs_ite (i : Int) : (if i < 0 then -i else i) = (i.natAbs : Int) := by split <;> omega
theorem c_abs : CallR X (.builtin "abs") uAbs := by
  intro pins s σ H xs us Q I r h
  unfold uAbs at h
  split at h
  · exact call_abs pins s σ H _ us Q I r ⟨_, rfl, by rw [abs_ite]; exact h⟩
  · exact h.elim
def uInt : RC := fun xs H Q => match xs with
  | [.int i] => Q (.int i) H
  | [.bl k] => Q (.int (if k then 1 else 0)) H
  | [.str a] => a.length ≤ 640 ∧ ∃ n, PySem.intText? a = some n ∧ Q (.int n) H
  | _ => False
theorem c_int : CallR X (.type "int") uInt := by
  intro pins s σ H xs us Q I r h
  unfold uInt at h
  split at h
  · exact call_int1 pins s σ H _ us Q I r (.inl ⟨_, rfl, h⟩)
  · exact call_int1 pins s σ H _ us Q I r (.inr ⟨_, rfl, h⟩)
  · obtain ⟨h1, n, h2, q⟩ := h
    exact call_int_str pins s σ H _ us Q I r ⟨_, n, rfl, h2, h1, q⟩
  · exact h.elim
def uStr : RC := fun xs H Q => match xs with
  | [.int i] => i.natAbs.log2 < 1920 ∧ Q (.str (toString i)) H
  | [.bl b] => Q (.str (if b then "True" else "False")) H
  | [.non] => Q (.str "None") H
  | _ => False
theorem c_str : CallR X (.type "str") uStr := by
  intro pins s σ H xs us Q I r h
  unfold uStr at h
  split at h
  · exact call_str_int pins s σ H _ us Q I r ⟨_, rfl, h.1, h.2⟩
  · rename_i b
    obtain ⟨u, rfl, r1⟩ := vals1 r
    cases r1
    exact PySem.P.str_of_bool ⟨.str _, H, I.tok _, ⟨_, rfl⟩, h⟩
  · obtain ⟨u, rfl, r1⟩ := vals1 r
    cases r1
    exact PySem.P.str_of_none ⟨.str _, H, I.tok _, ⟨_, rfl⟩, h⟩
  · exact h.elim
def uList (K : PySem.W.Frag) : RC := fun xs H Q => match xs with
  | [.ref p] => ∃ ys, (SqL K H p ys ∨ SqT K H p ys) ∧ ∀ l, H l = none → Q (.ref l) (upd H l (.lst ys))
  | _ => False
theorem c_list : CallR X (.type "list") (uList X.K) := by
  intro pins s σ H xs us Q I r h
  unfold uList at h
  split at h
  · obtain ⟨ys, h1, q⟩ := h
    exact call_list_of pins s σ H _ us Q I r ⟨_, ys, rfl, h1, q⟩
  · exact h.elim
def uTuple (K : PySem.W.Frag) : RC := fun xs H Q => match xs with
  | [.ref p] => ∃ ys, (SqL K H p ys ∧ ∀ l, H l = none → Q (.ref l) (upd H l (.tup ys))) ∨ (SqT K H p ys ∧ Q (.ref p) H)
  | _ => False
theorem c_tuple : CallR X (.type "tuple") (uTuple X.K) := by
  intro pins s σ H xs us Q I r h
  unfold uTuple at h
  split at h
  · obtain ⟨ys, h⟩ := h
    exact call_tuple_of pins s σ H _ us Q I r ⟨_, ys, rfl, h⟩
  · exact h.elim
def uAll (K : PySem.W.Frag) : RC := fun xs H Q => match xs with
  | [.ref a] => ∃ bs : List Bool, SqL K H a (bs.map V.bl) ∧ Q (.bl (bs.all id)) H
  | _ => False
theorem c_all (hc : X.calm = true) : CallR X (.builtin "all") (uAll X.K) := by
  intro pins s σ H xs us Q I r h
  unfold uAll at h
  split at h
  · obtain ⟨bs, h1, q⟩ := h
    exact cr_all hc pins s σ H _ us Q I r ⟨_, bs, rfl, h1, q⟩
  · exact h.elim
def uAny (K : PySem.W.Frag) : RC := fun xs H Q => match xs with
  | [.ref a] => ∃ bs : List Bool, SqL K H a (bs.map V.bl) ∧ Q (.bl (bs.any id)) H
  | _ => False
theorem c_any (hc : X.calm = true) : CallR X (.builtin "any") (uAny X.K) := by
  intro pins s σ H xs us Q I r h
  unfold uAny at h
  split at h
  · obtain ⟨bs, h1, q⟩ := h
    exact cr_any hc pins s σ H _ us Q I r ⟨_, bs, rfl, h1, q⟩
  · exact h.elim
def uSum (K : PySem.W.Frag) : RC := fun xs H Q => match xs with
  | [.ref a] => ∃ ns : List Int, SqL K H a (ns.map V.int) ∧ Q (.int ns.sum) H
  | _ => False
theorem c_sum (hc : X.calm = true) : CallR X (.builtin "sum") (uSum X.K) := by
  intro pins s σ H xs us Q I r h
  unfold uSum at h
  split at h
  · obtain ⟨bs, h1, q⟩ := h
    exact cr_sum hc pins s σ H _ us Q I r ⟨_, bs, rfl, h1, q⟩
  · exact h.elim
def uMax : RC := fun xs H Q => match xs with
  | [.int i, .int j] => Q (.int (max i j)) H
  | _ => False
theorem c_max (hc : X.calm = true) : CallR X (.builtin "max") uMax := by
  intro pins s σ H xs us Q I r h
  unfold uMax at h
  split at h
  · rename_i i j
    refine call_max2 hc pins s σ H _ us Q I r ⟨_, _, rfl, ?_⟩
    have e : (if j > i then j else i) = max i j := by
      rw [Int.max_def]; split <;> split <;> omega
    rw [e]; exact h
  · exact h.elim
def uMin : RC := fun xs H Q => match xs with
  | [.int i, .int j] => Q (.int (min i j)) H
  | _ => False
theorem c_min (hc : X.calm = true) : CallR X (.builtin "min") uMin := by
  intro pins s σ H xs us Q I r h
  unfold uMin at h
  split at h
  · rename_i i j
    refine call_min2 hc pins s σ H _ us Q I r ⟨_, _, rfl, ?_⟩
    have e : (if j < i then j else i) = min i j := by
      rw [Int.min_def]; split <;> split <;> omega
    rw [e]; exact h
  · exact h.elim
/-- isinstance(x, T), T a built-in type: by the value's shape; an object's type is told -/
def tyName : V → Option String
  | .non => some "NoneType"
  | .bl _ => some "bool"
  | .int _ => some "int"
  | .str _ => some "str"
  | _ => none
def uIsi (K : PySem.W.Frag) : RC := fun xs H Q => match xs with
  | [x, .ty T] => ∃ t b, (match tyName x with | some n => t = n | none => TyX K H x (.type t)) ∧ kitB t T = some b ∧ Q (.bl b) H
  | [x, .ref C] => ∃ t b, TyX K H x t ∧ PySem.W.kitOne K t (.ref C) = some b ∧ Q (.bl b) H
  | _ => False
theorem c_isi : CallR X (.builtin "isinstance") (uIsi X.K) := by
  intro pins s σ H xs us Q I r h
  unfold uIsi at h
  split at h
  · rename_i x T
    obtain ⟨t, b, h1, h2, q⟩ := h
    have ty : TyX X.K H x (.type t) := by
      cases x with
      | non => have e : t = "NoneType" := h1; subst e; exact .base .non
      | bl b => have e : t = "bool" := h1; subst e; exact .base (.bl b)
      | int i => have e : t = "int" := h1; subst e; exact .base (.int i)
      | str z => have e : t = "str" := h1; subst e; exact .base (.str z)
      | _ => exact h1
    exact call_isi pins s σ H _ us Q I r ⟨x, _, _, _, b, rfl, .ty T, ty, kit_ty h2, q⟩
  · obtain ⟨t, b, h1, h2, q⟩ := h
    exact call_isi pins s σ H _ us Q I r ⟨_, _, t, _, b, rfl, .own _, h1, h2, q⟩
  · exact h.elim
/-! methods of built-in types -/
abbrev RM : Type := V → List V → Hp → VK → Prop
def uStarts : RM := fun x xs H Q => match x, xs with
  | .str a, [.str b] => Q (.bl (Txt.startswith a b)) H
  | _, _ => False
theorem m_starts : MtR X "str.startswith" uStarts := by
  intro pins s σ H x xs v us Q I rx rs h
  unfold uStarts at h
  split at h
  · exact mt_startswith pins s σ H _ _ v us Q I rx rs ⟨_, _, rfl, rfl, h⟩
  · exact h.elim
def uJoin (K : PySem.W.Frag) : RM := fun x xs H Q => match x, xs with
  | .str a, [.ref p] => ∃ ys : List Str, (SqL K H p (ys.map V.str) ∨ SqT K H p (ys.map V.str)) ∧ (ys.map (·.length)).sum + ys.length * a.length ≤ 16777216 ∧ Q (.str (Txt.join a ys)) H
  | _, _ => False
theorem m_join : MtR X "str.join" (uJoin X.K) := by
  intro pins s σ H x xs v us Q I rx rs h
  unfold uJoin at h
  split at h
  · obtain ⟨ys, h1, h2, q⟩ := h
    exact mt_join pins s σ H _ _ v us Q I rx rs ⟨_, _, ys, rfl, rfl, h1, h2, q⟩
  · exact h.elim
def uAppend : RM := fun x vs H Q => match x, vs with
  | .ref l, [y] => ∃ xs, H l = some (.lst xs) ∧ xs.length < sizeLine ∧ Q .non (upd H l (.lst (xs ++ [y])))
  | _, _ => False
theorem m_append : MtM X "list.append" uAppend := by
  intro pins s σ H x xs v us Q I rx rs h
  unfold uAppend at h
  split at h
  · obtain ⟨ys, h1, h2, q⟩ := h
    exact mt_append pins s σ H _ _ v us Q I rx rs ⟨_, ys, _, rfl, rfl, h1, h2, q⟩
  · exact h.elim
end
end U
/-! R: the steps of a reading (each a row that holds by what its left side means). -/
namespace U
open PySem PySem.Spec L2
section
variable {σ : St} {H : Hp} {Q : VK} {D : Ends} {v x y : V} {ta tb tc te tv : TE} {K : PySem.W.Frag} {t u : TT} {QB : Bool → Hp → Prop}
theorem szl {n : Nat} (h : n ≤ 16777216) : n ≤ sizeLine := by rw [sizeLine_eq]; exact h
theorem szt {n : Nat} (h : n < 16777216) : n < sizeLine := by rw [sizeLine_eq]; exact h
/-! statements -/
theorem r_seq {s1 s2 : TS} (h : s1 { D with nx := s2 D } σ H) : tSeq s1 s2 D σ H := h
theorem r_next (h : D.nx σ H) : tNext D σ H := h
theorem r_brk (h : D.bk σ H) : tBreak D σ H := h
theorem r_cont (h : D.ct σ H) : tCont D σ H := h
theorem r_drop (h : te σ H fun _ H1 => D.nx σ H1) : tDrop te D σ H := h
theorem r_ret (h : te σ H D.rt) : tRet te D σ H := h
theorem r_retN (h : D.rt .non H) : tRetN D σ H := h
theorem r_ifS {c : TT} {s1 s2 : TS} (h : c σ H fun b H1 => if b = true then s1 D σ H1 else s2 D σ H1) : tIfS c s1 s2 D σ H := h
theorem r_asg {g : TG} (h : te σ H fun x H1 => g x σ H1 D.nx) : tAsg te g D σ H := h
theorem r_gname {i : Nat} {R : St → Hp → Prop} (h : R (σ.set i (some v)) H) : gName i v σ H R := h
theorem r_aug {i : Nat} {ti : TIp} (hx : σ[i]? = some (some x)) (h : te σ H fun y H1 => ti x y H1 fun z H2 => D.nx (σ.set i (some z)) H2) : tAug i te ti D σ H := ⟨x, hx, h⟩
theorem r_nx {a : St → Hp → Prop} {b : VK} {c d : St → Hp → Prop} (h : a σ H) : (Ends.mk a b c d).nx σ H := h
theorem r_rt {a : St → Hp → Prop} {b : VK} {c d : St → Hp → Prop} (h : b v H) : (Ends.mk a b c d).rt v H := h
/-! expressions -/
theorem r_var {i : Nat} (hx : σ[i]? = some (some v)) (h : Q v H) : tVar i σ H Q := ⟨v, hx, h⟩
theorem r_c (h : Q v H) : tC v σ H Q := h
theorem r_op {r : R2} (h : ta σ H fun x H1 => tb σ H1 fun y H2 => r x y H2 Q) : tOp r ta tb σ H Q := h
theorem r_un {r : V → Hp → VK → Prop} (h : ta σ H fun x H1 => r x H1 Q) : tUn r ta σ H Q := h
theorem r_cons {tr : TA} {QA : List V → Hp → Prop} (h : ta σ H fun x H1 => tr σ H1 fun xs H2 => QA (x :: xs) H2) : tCons ta tr σ H QA := h
theorem r_nil {QA : List V → Hp → Prop} (h : QA [] H) : tNil σ H QA := h
theorem r_cb {r : RC} {t : TA} (h : t σ H fun vs H1 => r vs H1 Q) : tCB r t σ H Q := h
theorem r_bm {T : String} {r : RM} {t : TA} (h : ta σ H fun x H1 => tyV K T x H1 ∧ t σ H1 fun xs H2 => r x xs H2 Q) : tBM K T r ta t σ H Q := h
theorem r_bm0 {T : String} {r : RM} (h : ta σ H fun x H1 => tyV K T x H1 ∧ r x [] H1 Q) : tBM0 K T r ta σ H Q := h
theorem r_sl {r : V → Option Int → Option Int → Hp → VK → Prop} {tl th : TO} (h : te σ H fun x H1 => tl σ H1 fun l H2 => th σ H2 fun u H3 => r x l u H3 Q) : tSl r te tl th σ H Q := h
theorem r_nop {QO : Option Int → Hp → Prop} (h : QO none H) : tNoPart σ H QO := h
theorem r_part {QO : Option Int → Hp → Prop} (h : te σ H fun x H1 => ∃ i, x = .int i ∧ QO (some i) H1) : tPart te σ H QO := h
theorem r_partI {i : Int} {P : Int → Prop} (h : P i) : ∃ j, V.int i = .int j ∧ P j := ⟨i, rfl, h⟩
theorem r_tup {ta : TA} (h : ta σ H fun xs H1 => xs.length ≤ sizeLine ∧ ∀ p, H1 p = none → Q (.ref p) (upd H1 p (.tup xs))) : tTup ta σ H Q := h
theorem r_lst {ta : TA} (h : ta σ H fun xs H1 => xs.length ≤ sizeLine ∧ ∀ p, H1 p = none → Q (.ref p) (upd H1 p (.lst xs))) : tLst ta σ H Q := h
theorem r_if {c : TT} (h : c σ H fun b H1 => if b = true then ta σ H1 Q else tb σ H1 Q) : tIf c ta tb σ H Q := h
theorem r_call {sp : Sp} {E : XK} {t : TA} (h : t σ H fun vs H1 => sp vs H1 Q E) : tCall sp [] E t σ H Q := by
  have e : (fun vs H1 => sp (vs ++ []) H1 Q E) = fun vs H1 => sp vs H1 Q E := by
    funext vs H1
    rw [List.append_nil]
  show t σ H fun vs H1 => sp (vs ++ []) H1 Q E
  rw [e]
  exact h
theorem r_andV (h : ta σ H fun x H1 => ∃ c, x = .bl c ∧ if c = true then tb σ H1 Q else Q (.bl false) H1) : tAndV ta tb σ H Q := h
theorem r_orV (h : ta σ H fun x H1 => ∃ c, x = .bl c ∧ if c = true then Q (.bl true) H1 else tb σ H1 Q) : tOrV ta tb σ H Q := h
theorem r_notV (h : ta σ H fun x H1 => ∃ c, x = .bl c ∧ Q (.bl (!c)) H1) : tNotV ta σ H Q := h
theorem r_bl {c : Bool} {P : Bool → Prop} (h : P c) : ∃ k, V.bl c = .bl k ∧ P k := ⟨c, rfl, h⟩
theorem r_chain {r r' : R2} (h : ta σ H fun x H1 => tb σ H1 fun y H2 => r x y H2 fun z H3 => ∃ k, z = .bl k ∧ (if k = true then tc σ H3 fun w' H4 => r' y w' H4 Q else Q (.bl false) H3)) : tChain r r' ta tb tc σ H Q := h
/-! tests -/
theorem r_test (h : te σ H fun x H' => ∃ k, x = .bl k ∧ QB k H') : tTest te σ H QB := h
theorem r_tb (h : te σ H fun x H' => ∃ k, x = .bl k ∧ QB k H') : tB te σ H QB := h
theorem r_and (h : t σ H fun c H1 => if c = true then u σ H1 QB else QB false H1) : tAnd t u σ H QB := h
theorem r_or (h : t σ H fun c H1 => if c = true then QB true H1 else u σ H1 QB) : tOr t u σ H QB := h
theorem r_not (h : t σ H fun c H1 => QB (!c) H1) : tNot t σ H QB := h
/-! truth of a value -/
def uTru (K : PySem.W.Frag) (te : TE) : TT := fun σ H Q => te σ H fun x H' => ∃ k, TruV K x H' k ∧ Q k H'
theorem pt_tru {X : Cx} {a : Expr} {ta : TE} (ha : PE X a ta) (he : ∀ whole, isTrue a X.env whole = (do let v ← whole; standAt a.pos; holding [v] (truthy v)) := by intro _; rfl) : PT X a (uTru X.K ta) := pt_truth ha he
theorem r_tru (h : te σ H fun x H' => ∃ k, TruV K x H' k ∧ QB k H') : uTru K te σ H QB := h
theorem r_truBl {c : Bool} {P : Bool → Prop} (h : P c) : ∃ k, TruV K (.bl c) H k ∧ P k := ⟨c, rfl, h⟩
theorem r_truInt {i : Int} {P : Bool → Prop} (h : P (decide (i ≠ 0))) : ∃ k, TruV K (.int i) H k ∧ P k := ⟨_, by simp [TruV, bne, Bool.beq_eq_decide_eq], h⟩
theorem r_truNon {P : Bool → Prop} (h : P false) : ∃ k, TruV K .non H k ∧ P k := ⟨_, rfl, h⟩
/-! operators -/
variable {i j : Int} {a b : Str}
theorem r_addI (h : Q (.int (i + j)) H) : uAdd K (.int i) (.int j) H Q := h
theorem r_addS (hl : a.length + b.length ≤ sizeLine) (h : Q (.str (a ++ b)) H) : uAdd K (.str a) (.str b) H Q := ⟨hl, h⟩
theorem r_sub (h : Q (.int (i - j)) H) : uSub (.int i) (.int j) H Q := h
theorem r_mul (hc : CMul i j ∨ CMulW i j) (h : Q (.int (i * j)) H) : uMul (.int i) (.int j) H Q := ⟨hc, h⟩
theorem r_fdiv (hc : CDivW i j) (h : Q (.int (i / j)) H) : uFdiv (.int i) (.int j) H Q := ⟨hc, h⟩
theorem r_mod (hc : 0 < j) (h : Q (.int (i % j)) H) : uMod (.int i) (.int j) H Q := ⟨hc, h⟩
theorem r_neg (h : Q (.int (-i)) H) : uNeg (.int i) H Q := h
theorem r_cmpI {p : Int → Int → Bool} (h : Q (.bl (p i j)) H) : uCmpI p (.int i) (.int j) H Q := h
theorem dec_int : decide (V.int i = .int j) = decide (i = j) := by simp
theorem dec_str : decide (V.str a = .str b) = decide (a = b) := by simp
theorem dec_bl {c d : Bool} : decide (V.bl c = .bl d) = decide (c = d) := by simp
theorem r_eqI (h : Q (.bl (decide (i = j))) H) : uEq K (.int i) (.int j) H Q := .inl ⟨rfl, by rw [dec_int]; exact h⟩
theorem r_eqS (h : Q (.bl (decide (a = b))) H) : uEq K (.str a) (.str b) H Q := .inl ⟨rfl, by rw [dec_str]; exact h⟩
theorem r_eqB {c d : Bool} (h : Q (.bl (decide (c = d))) H) : uEq K (.bl c) (.bl d) H Q := .inl ⟨rfl, by rw [dec_bl]; exact h⟩
theorem r_neI (h : Q (.bl (!decide (i = j))) H) : uNe K (.int i) (.int j) H Q := .inl ⟨rfl, by rw [dec_int]; exact h⟩
theorem r_neS (h : Q (.bl (!decide (a = b))) H) : uNe K (.str a) (.str b) H Q := .inl ⟨rfl, by rw [dec_str]; exact h⟩
theorem r_neB {c d : Bool} (h : Q (.bl (!decide (c = d))) H) : uNe K (.bl c) (.bl d) H Q := .inl ⟨rfl, by rw [dec_bl]; exact h⟩
theorem r_isNN (h : Q (.bl true) H) : uIsN id .non .non H Q := h
theorem r_isNI (h : Q (.bl false) H) : uIsN id (.int i) .non H Q := h
theorem r_isNB {c : Bool} (h : Q (.bl false) H) : uIsN id (.bl c) .non H Q := h
theorem r_isNS (h : Q (.bl false) H) : uIsN id (.str a) .non H Q := h
theorem r_isNR {p : Addr} (h : Q (.bl false) H) : uIsN id (.ref p) .non H Q := h
theorem r_notNN (h : Q (.bl false) H) : uIsN not .non .non H Q := h
theorem r_notNI (h : Q (.bl true) H) : uIsN not (.int i) .non H Q := h
theorem r_notNB {c : Bool} (h : Q (.bl true) H) : uIsN not (.bl c) .non H Q := h
theorem r_notNS (h : Q (.bl true) H) : uIsN not (.str a) .non H Q := h
theorem r_notNR {p : Addr} (h : Q (.bl true) H) : uIsN not (.ref p) .non H Q := h
theorem r_inC {c : Nat} (h : Q (.bl (decide (c ∈ a.cps.toList))) H) : uIn K id (.str ⟨#[c]⟩) (.str a) H Q := ⟨c, rfl, h⟩
theorem r_notInC {c : Nat} (h : Q (.bl (!decide (c ∈ a.cps.toList))) H) : uIn K not (.str ⟨#[c]⟩) (.str a) H Q := ⟨c, rfl, h⟩
theorem r_mulS {k : Int} (h1 : a.length * k.toNat ≤ 1000000) (h2 : k ≤ 1000000) (h3 : -(2 ^ 63) ≤ k) (h : Q (.str (Txt.mul a k)) H) : uMul (.str a) (.int k) H Q := ⟨h1, h2, h3, h⟩
theorem r_ixS {c : Nat} (h1 : a.length ≤ sizeLine) (h2 : atI a.cps.toList i = some c) (h : Q (.str ⟨#[c]⟩) H) : uIx K (.str a) (.int i) H Q := ⟨c, h1, h2, h⟩
theorem r_ixL {p : Addr} {xs : List V} (h1 : SqL K H p xs) (h2 : atI xs i = some v) (h : Q v H) : uIx K (.ref p) (.int i) H Q := ⟨xs, v, .inl h1, h2, h⟩
theorem r_ixT {p : Addr} {xs : List V} (h1 : SqT K H p xs) (h2 : atI xs i = some v) (h : Q v H) : uIx K (.ref p) (.int i) H Q := ⟨xs, v, .inr h1, h2, h⟩
theorem r_slS {lo hi : Option Int} (hl : a.length ≤ sizeLine) (h : Q (.str (cutS a lo hi)) H) : uSl K (.str a) lo hi H Q := ⟨hl, h⟩
theorem r_lenL {p : Addr} {xs : List V} (h1 : SqL K H p xs) (h : Q (.int (xs.length : Int)) H) : uLen K [.ref p] H Q := ⟨xs, .inl h1, h⟩
theorem r_lenT {p : Addr} {xs : List V} (h1 : SqT K H p xs) (h : Q (.int (xs.length : Int)) H) : uLen K [.ref p] H Q := ⟨xs, .inr h1, h⟩
theorem r_allL {p : Addr} {bs : List Bool} (h1 : SqL K H p (bs.map V.bl)) (h : Q (.bl (bs.all id)) H) : uAll K [.ref p] H Q := ⟨bs, h1, h⟩
theorem r_listL {p : Addr} {xs : List V} (h1 : SqL K H p xs) (h : ∀ l, H l = none → Q (.ref l) (upd H l (.lst xs))) : uList K [.ref p] H Q := ⟨xs, .inl h1, h⟩
theorem r_listT {p : Addr} {xs : List V} (h1 : SqT K H p xs) (h : ∀ l, H l = none → Q (.ref l) (upd H l (.lst xs))) : uList K [.ref p] H Q := ⟨xs, .inr h1, h⟩
theorem r_tupleL {p : Addr} {xs : List V} (h1 : SqL K H p xs) (h : ∀ l, H l = none → Q (.ref l) (upd H l (.tup xs))) : uTuple K [.ref p] H Q := ⟨xs, .inl ⟨h1, h⟩⟩
theorem r_append {p : Addr} {xs : List V} (h1 : H p = some (.lst xs)) (h2 : xs.length < sizeLine) (h : Q .non (upd H p (.lst (xs ++ [v])))) : uAppend (.ref p) [v] H Q := ⟨xs, h1, h2, h⟩
theorem r_tyStr {A : Prop} (h : A) : tyV K "str" (.str a) H ∧ A := ⟨rfl, h⟩
theorem r_tyLst {p : Addr} {xs : List V} {A : Prop} (h1 : H p = some (.lst xs)) (h : A) : tyV K "list" (.ref p) H ∧ A := ⟨.inl ⟨rfl, _, SqL.of h1⟩, h⟩
theorem r_lenS (hl : a.length ≤ sizeLine) (h : Q (.int (a.length : Int)) H) : uLen K [.str a] H Q := ⟨hl, h⟩
theorem r_abs (h : Q (.int (i.natAbs : Int)) H) : uAbs [.int i] H Q := h
theorem r_intI (h : Q (.int i) H) : uInt [.int i] H Q := h
theorem r_intB {c : Bool} (h : Q (.int (if c then 1 else 0)) H) : uInt [.bl c] H Q := h
theorem r_strI (hl : i.natAbs.log2 < 1920) (h : Q (.str (toString i)) H) : uStr [.int i] H Q := ⟨hl, h⟩
theorem r_maxI (h : Q (.int (max i j)) H) : uMax [.int i, .int j] H Q := h
theorem r_minI (h : Q (.int (min i j)) H) : uMin [.int i, .int j] H Q := h
theorem r_starts (h : Q (.bl (Txt.startswith a b)) H) : uStarts (.str a) [.str b] H Q := h
theorem r_iI_int (h : Q (.bl true) H) : uIsi K [(.int i), .ty "int"] H Q := ⟨"int", true, rfl, by decide +kernel, h⟩
theorem r_iI_bool (h : Q (.bl false) H) : uIsi K [(.int i), .ty "bool"] H Q := ⟨"int", false, rfl, by decide +kernel, h⟩
theorem r_iI_str (h : Q (.bl false) H) : uIsi K [(.int i), .ty "str"] H Q := ⟨"int", false, rfl, by decide +kernel, h⟩
theorem r_iI_tuple (h : Q (.bl false) H) : uIsi K [(.int i), .ty "tuple"] H Q := ⟨"int", false, rfl, by decide +kernel, h⟩
theorem r_iI_list (h : Q (.bl false) H) : uIsi K [(.int i), .ty "list"] H Q := ⟨"int", false, rfl, by decide +kernel, h⟩
theorem r_iB_int {d : Bool} (h : Q (.bl true) H) : uIsi K [(.bl d), .ty "int"] H Q := ⟨"bool", true, rfl, by decide +kernel, h⟩
theorem r_iB_bool {d : Bool} (h : Q (.bl true) H) : uIsi K [(.bl d), .ty "bool"] H Q := ⟨"bool", true, rfl, by decide +kernel, h⟩
theorem r_iB_str {d : Bool} (h : Q (.bl false) H) : uIsi K [(.bl d), .ty "str"] H Q := ⟨"bool", false, rfl, by decide +kernel, h⟩
theorem r_iB_tuple {d : Bool} (h : Q (.bl false) H) : uIsi K [(.bl d), .ty "tuple"] H Q := ⟨"bool", false, rfl, by decide +kernel, h⟩
theorem r_iB_list {d : Bool} (h : Q (.bl false) H) : uIsi K [(.bl d), .ty "list"] H Q := ⟨"bool", false, rfl, by decide +kernel, h⟩
theorem r_iS_int (h : Q (.bl false) H) : uIsi K [(.str a), .ty "int"] H Q := ⟨"str", false, rfl, by decide +kernel, h⟩
theorem r_iS_bool (h : Q (.bl false) H) : uIsi K [(.str a), .ty "bool"] H Q := ⟨"str", false, rfl, by decide +kernel, h⟩
theorem r_iS_str (h : Q (.bl true) H) : uIsi K [(.str a), .ty "str"] H Q := ⟨"str", true, rfl, by decide +kernel, h⟩
theorem r_iS_tuple (h : Q (.bl false) H) : uIsi K [(.str a), .ty "tuple"] H Q := ⟨"str", false, rfl, by decide +kernel, h⟩
theorem r_iS_list (h : Q (.bl false) H) : uIsi K [(.str a), .ty "list"] H Q := ⟨"str", false, rfl, by decide +kernel, h⟩
theorem r_iN_int (h : Q (.bl false) H) : uIsi K [.non, .ty "int"] H Q := ⟨"NoneType", false, rfl, by decide +kernel, h⟩
theorem r_iN_bool (h : Q (.bl false) H) : uIsi K [.non, .ty "bool"] H Q := ⟨"NoneType", false, rfl, by decide +kernel, h⟩
theorem r_iN_str (h : Q (.bl false) H) : uIsi K [.non, .ty "str"] H Q := ⟨"NoneType", false, rfl, by decide +kernel, h⟩
theorem r_iN_tuple (h : Q (.bl false) H) : uIsi K [.non, .ty "tuple"] H Q := ⟨"NoneType", false, rfl, by decide +kernel, h⟩
theorem r_iN_list (h : Q (.bl false) H) : uIsi K [.non, .ty "list"] H Q := ⟨"NoneType", false, rfl, by decide +kernel, h⟩
theorem r_iT_int {p : Addr} {xs : List V} (hp : H p = some (.tup xs)) (h : Q (.bl false) H) : uIsi K [.ref p, .ty "int"] H Q := ⟨"tuple", false, .base (.tup hp), by decide +kernel, h⟩
theorem r_iL_int {p : Addr} {xs : List V} (hp : H p = some (.lst xs)) (h : Q (.bl false) H) : uIsi K [.ref p, .ty "int"] H Q := ⟨"list", false, .base (.lst hp), by decide +kernel, h⟩
theorem r_iT_bool {p : Addr} {xs : List V} (hp : H p = some (.tup xs)) (h : Q (.bl false) H) : uIsi K [.ref p, .ty "bool"] H Q := ⟨"tuple", false, .base (.tup hp), by decide +kernel, h⟩
theorem r_iL_bool {p : Addr} {xs : List V} (hp : H p = some (.lst xs)) (h : Q (.bl false) H) : uIsi K [.ref p, .ty "bool"] H Q := ⟨"list", false, .base (.lst hp), by decide +kernel, h⟩
theorem r_iT_str {p : Addr} {xs : List V} (hp : H p = some (.tup xs)) (h : Q (.bl false) H) : uIsi K [.ref p, .ty "str"] H Q := ⟨"tuple", false, .base (.tup hp), by decide +kernel, h⟩
theorem r_iL_str {p : Addr} {xs : List V} (hp : H p = some (.lst xs)) (h : Q (.bl false) H) : uIsi K [.ref p, .ty "str"] H Q := ⟨"list", false, .base (.lst hp), by decide +kernel, h⟩
theorem r_iT_tuple {p : Addr} {xs : List V} (hp : H p = some (.tup xs)) (h : Q (.bl true) H) : uIsi K [.ref p, .ty "tuple"] H Q := ⟨"tuple", true, .base (.tup hp), by decide +kernel, h⟩
theorem r_iL_tuple {p : Addr} {xs : List V} (hp : H p = some (.lst xs)) (h : Q (.bl false) H) : uIsi K [.ref p, .ty "tuple"] H Q := ⟨"list", false, .base (.lst hp), by decide +kernel, h⟩
theorem r_iT_list {p : Addr} {xs : List V} (hp : H p = some (.tup xs)) (h : Q (.bl false) H) : uIsi K [.ref p, .ty "list"] H Q := ⟨"tuple", false, .base (.tup hp), by decide +kernel, h⟩
theorem r_iL_list {p : Addr} {xs : List V} (hp : H p = some (.lst xs)) (h : Q (.bl true) H) : uIsi K [.ref p, .ty "list"] H Q := ⟨"list", true, .base (.lst hp), by decide +kernel, h⟩
/-! branches -/
theorem br_t {A B : Prop} (h : A) : if true = true then A else B := by rw [if_pos rfl]; exact h
theorem br_f {A B : Prop} (h : B) : if false = true then A else B := by rw [if_neg Bool.false_ne_true]; exact h
theorem br {c : Bool} {A B : Prop} (h1 : c = true → A) (h2 : c = false → B) : if c = true then A else B := by
  cases c with
  | true => exact br_t (h1 rfl)
  | false => exact br_f (h2 rfl)
theorem br_y {p : Prop} [Decidable p] {A B : Prop} (hp : p) (h : A) : if decide p = true then A else B := by rw [decide_eq_true hp]; exact br_t h
theorem br_n {p : Prop} [Decidable p] {A B : Prop} (hp : ¬ p) (h : B) : if decide p = true then A else B := by rw [decide_eq_false hp]; exact br_f h
theorem br_ny {p : Prop} [Decidable p] {A B : Prop} (hp : p) (h : B) : if (!decide p) = true then A else B := by rw [decide_eq_true hp]; exact br_f h
theorem br_nn {p : Prop} [Decidable p] {A B : Prop} (hp : ¬ p) (h : A) : if (!decide p) = true then A else B := by rw [decide_eq_false hp]; exact br_t h
theorem br_nt {A B : Prop} (h : B) : if (!true) = true then A else B := br_f h
theorem br_nf {A B : Prop} (h : A) : if (!false) = true then A else B := br_t h
/-- a bool by its two ways (an open test) -/
theorem br_d {p : Prop} [Decidable p] {A B : Prop} (h1 : p → A) (h2 : ¬ p → B) : if decide p = true then A else B := by
  by_cases h : p
  · rw [decide_eq_true h]; exact br_t (h1 h)
  · rw [decide_eq_false h]; exact br_f (h2 h)
theorem br_nd {p : Prop} [Decidable p] {A B : Prop} (h1 : ¬ p → A) (h2 : p → B) : if (!decide p) = true then A else B := by
  by_cases h : p
  · rw [decide_eq_true h]; exact br_f (h2 h)
  · rw [decide_eq_false h]; exact br_t (h1 h)
end
end U
/-! U2: a def taken by name; constants; stores; loops and comprehensions over what yields one thing after another. -/
namespace U
open PySem PySem.Spec L2
section
variable {X : Cx} {x : Str} {p pos : Pos} {e : Expr} {es : List Expr} {t : TA}
/-- a def of the module's, by its name: where it stands, that it keeps its promise -/
structure OkF (P : Program) (w : World) (K : PySem.W.Frag) (mg : Str → Option Value) (base : Heap) (k : Nat) (x : Str) (ps : List Str) (sp : Sp) : Prop where
  ex : ∃ (f : Addr) (fd : FuncData), mg x = some (.ref f) ∧ FnOk P w K mg base CX0 k f fd ps sp ∧ Binds K fd ps [] ∧ PySem.W.keepIn K (.ref f) = true
theorem pe_fn {k : Nat} {ps : List Str} {sp : Sp} (O : OkF X.prog X.w X.K X.mg X.base k x ps sp) (hr : Room k X.A) (hg : Gl X x) (ha : PA X (e :: es) t) (hdb : (x == ("__debug__" : Str)) = false := by decide)
    (he : starEach (e :: es) X.env = (false, eval e X.env) :: starEach es X.env := by rfl) (hpl : (backTo pos (starEach es X.env)).any (·.1) = false := by rfl) : PE X (.Call (.Name x p) (e :: es) [] pos) (tCall sp [] E0 t) := by
  obtain ⟨f, fd, hm, F, hb, hk⟩ := O.ex
  exact pe_call F hr hg hm hk hb .nil pass0 ha hdb he hpl
theorem pe_fn0 {k : Nat} {ps : List Str} {sp : Sp} (O : OkF X.prog X.w X.K X.mg X.base k x ps sp) (hr : Room k X.A) (hg : Gl X x) (hdb : (x == ("__debug__" : Str)) = false := by decide) : PE X (.Call (.Name x p) [] [] pos) (tCall sp [] E0 tNil) := by
  obtain ⟨f, fd, hm, F, hb, hk⟩ := O.ex
  exact pe_call0 F hr hg hm hk hb .nil pass0 hdb
theorem pe_gint {i : Int} (hg : Gl X x) (h : ∃ t, X.mg x = some (.int i t)) (hd : (x == ("__debug__" : Str)) = false := by decide) : PE X (.Name x pos) (tC (.int i)) := by
  obtain ⟨t, h⟩ := h
  exact pe_glob hg h ⟨_, rfl⟩ hd
theorem pe_gstr {z : Str} (hg : Gl X x) (h : ∃ t, X.mg x = some (.str z t)) (hd : (x == ("__debug__" : Str)) = false := by decide) : PE X (.Name x pos) (tC (.str z)) := by
  obtain ⟨t, h⟩ := h
  exact pe_glob hg h ⟨_, rfl⟩ hd
theorem pe_gref {a : Addr} (hg : Gl X x) (h : X.mg x = some (.ref a)) (hd : (x == ("__debug__" : Str)) = false := by decide) : PE X (.Name x pos) (tC (.ref a)) := pe_glob hg h rfl hd
theorem pe_ty {T : String} (hg : Gl X x) (hm : X.mg x = none) (hv : bootBuiltins x = some (.type T)) (hn : x ≠ "__name__" := by decide) (hd : (x == ("__debug__" : Str)) = false := by decide) : PE X (.Name x pos) (tC (.ty T)) := pe_bltn hg hm hv rfl hn hd
/-- a block: what holds between its first statement and the rest -/
def tSq (t u : TS) : TS := fun D σ H => ∃ M : St → Hp → Prop, t { D with nx := M } σ H ∧ ∀ σ' H', M σ' H' → u D σ' H'
theorem pss_c {st : Stmt} {rest : List Stmt} {t u : TS} (h1 : PS X st t) (h2 : PSs X rest u) : PSs X (st :: rest) (tSq t u) := by
  refine ⟨fun pins s σ H D I h => ?_⟩
  obtain ⟨M, hm, hu⟩ := h
  refine wpAny_execs_cons (thn (h1.run pins s σ H { D with nx := M } I hm) fun f s1 q => ?_)
  cases f with
  | next =>
    obtain ⟨σ', H', I', q⟩ := q
    exact h2.run pins s1 σ' H' D I' (hu σ' H' q)
  | ret v => exact q
  | brk => exact q
  | cont => exact q
/-- what is walked: a list, a tuple, a text -/
def uIt (K : PySem.W.Frag) (te : TE) : TI := fun σ H R => iList K te σ H R ∨ iTup K te σ H R ∨ iStr te σ H R
theorem pi_any {tg : Expr} {te : TE} (he : PE X e te) : PI X tg e (uIt X.K te) := ⟨fun pins s σ H R I h => by
  rcases h with h | h | h
  · exact (pi_list he).run pins s σ H R I h
  · exact (pi_tup he).run pins s σ H R I h
  · exact (pi_str he).run pins s σ H R I h⟩
/-- isinstance(x, (T1, T2, ..)), built-in types -/
def kitL (t : String) : List String → Option Bool
  | [] => some false
  | T :: Ts => match kitB t T with
    | some true => some true
    | some false => kitL t Ts
    | none => none
theorem kitL_any {K : PySem.W.Frag} {t : String} : ∀ {Ts : List String} {b : Bool}, kitL t Ts = some b → PySem.W.kitAny K (.type t) (Ts.map Value.type) = some b
  | [], b, h => by cases h; rfl
  | T :: Ts, b, h => by
    unfold kitL at h
    cases e : kitB t T with
    | none => rw [e] at h; cases h
    | some c =>
      rw [e] at h
      cases c with
      | true => cases h; exact kitAny_cons (b := true) (kit_ty e) (fun z => by cases z) (fun _ => rfl)
      | false => exact kitAny_cons (b := false) (kit_ty e) (fun _ => kitL_any h) (fun z => by cases z)
theorem clsL : ∀ Ts : List String, Paired ClsV (Ts.map V.ty) (Ts.map Value.type)
  | [] => .nil
  | T :: Ts => .cons (.ty T) (clsL Ts)
def uIsiT (K : PySem.W.Frag) : RC := fun xs H Q => match xs with
  | [x, .ref p] => ∃ (t : String) (Ts : List String) (b : Bool), H p = some (.tup (Ts.map V.ty)) ∧ (match tyName x with | some n => t = n | none => TyX K H x (.type t)) ∧ kitL t Ts = some b ∧ Q (.bl b) H
  | _ => False
theorem c_isiT : CallR X (.builtin "isinstance") (uIsiT X.K) := by
  intro pins s σ H xs us Q I r h
  unfold uIsiT at h
  split at h
  · rename_i x p
    obtain ⟨t, Ts, b, h0, h1, h2, q⟩ := h
    have ty : TyX X.K H x (.type t) := by
      cases x with
      | non => have e : t = "NoneType" := h1; subst e; exact .base .non
      | bl b => have e : t = "bool" := h1; subst e; exact .base (.bl b)
      | int i => have e : t = "int" := h1; subst e; exact .base (.int i)
      | str z => have e : t = "str" := h1; subst e; exact .base (.str z)
      | _ => exact h1
    exact call_isiT pins s σ H _ us Q I r ⟨x, p, _, _, _, b, rfl, h0, clsL Ts, ty, kitL_any h2, q⟩
  · exact h.elim
/-! stores -/
def uGetL (K : PySem.W.Frag) (o i : V) (H : Hp) (Q : VK) : Prop := match o, i with
  | .ref a, .int k => ∃ xs v, SqL K H a xs ∧ 0 ≤ k ∧ xs[k.toNat]? = some v ∧ Q v H
  | _, _ => False
theorem g_list : PGet X (uGetL X.K) := by
  intro pins s σ H o i ov iv Q I r1 r2 h
  cases o <;> cases i <;> first | exact (show False from h).elim | skip
  obtain ⟨xs, v, h1, h2, h3, q⟩ := h
  cases r1
  obtain ⟨t, rfl⟩ := r2
  obtain ⟨its, r, pl, hz⟩ := I.list h1
  obtain ⟨w, ew, rw'⟩ := r.get h3
  have hl := line63
  have hj := (List.getElem?_eq_some_iff.mp h3).1
  exact wpAny_getItem_list pl.isList h2 (by omega) (by simpa using ew) ⟨v, H, I, rw', q⟩
def uSetL (o i v : V) (H : Hp) (Q : Hp → Prop) : Prop := match o, i with
  | .ref a, .int k => ∃ xs j, H a = some (.lst xs) ∧ ixN xs.length k = some j ∧ Q (upd H a (.lst (xs.set j v)))
  | _, _ => False
theorem p_list : PSet X uSetL := by
  intro pins s σ H o i v ov iv u Q I r1 r2 r3 h
  cases o <;> cases i <;> first | exact (show False from h).elim | skip
  obtain ⟨xs, j, h1, h2, q⟩ := h
  exact set_list pins s σ H _ _ v ov iv u Q I r1 r2 r3 ⟨_, xs, _, j, rfl, rfl, h1, h2, q⟩
def uIpI (f : Int → Int → Int) (x y : V) (H : Hp) (Q : VK) : Prop := match x, y with
  | .int i, .int j => Q (.int (f i j)) H
  | _, _ => False
theorem a_add : PIp X .Add (uIpI fun i j => i + j) := by
  intro pins s σ H x y v u Q I r1 r2 h
  cases x <;> cases y <;> first | exact (show False from h).elim | skip
  exact ip_add pins s σ H _ _ v u Q I r1 r2 ⟨_, _, rfl, rfl, h⟩
theorem a_sub : PIp X .Sub (uIpI fun i j => i - j) := by
  intro pins s σ H x y v u Q I r1 r2 h
  cases x <;> cases y <;> first | exact (show False from h).elim | skip
  exact ip_sub pins s σ H _ _ v u Q I r1 r2 ⟨_, _, rfl, rfl, h⟩
end
section
variable {σ : St} {H : Hp} {Q : VK} {D : Ends} {K : PySem.W.Frag} {i j : Int}
theorem r_sq {t u : TS} (h : t { D with nx := u D } σ H) : tSq t u D σ H := ⟨u D, h, fun _ _ x => x⟩
theorem r_cut {t u : TS} (M : St → Hp → Prop) (h : t { D with nx := M } σ H) (k : ∀ σ' H', M σ' H' → u D σ' H') : tSq t u D σ H := ⟨M, h, k⟩
theorem r_sqA {te : TE} {g : TG} {u : TS} (h : te σ H fun x H1 => g x σ H1 (u D)) : tSq (tAsg te g) u D σ H := r_sq h
theorem r_sqD {te : TE} {u : TS} (h : te σ H fun _ H1 => u D σ H1) : tSq (tDrop te) u D σ H := r_sq h
theorem r_sqG {x : V} {i : Nat} {te : TE} {ti : TIp} {u : TS} (hx : σ[i]? = some (some x)) (h : te σ H fun y H1 => ti x y H1 fun z H2 => u D (σ.set i (some z)) H2) : tSq (tAug i te ti) u D σ H := r_sq ⟨x, hx, h⟩
theorem r_sqS {to ti te : TE} {tg : V → V → Hp → VK → Prop} {tp : TIp} {ts : TSet} {u : TS} (h : to σ H fun o H1 => ti σ H1 fun k H2 => tg o k H2 fun x H3 => te σ H3 fun y H4 => tp x y H4 fun z H5 => ts o k z H5 fun H6 => u D σ H6) : tSq (tAugS to ti te tg tp ts) u D σ H := r_sq h
theorem r_yes {QB : Bool → Hp → Prop} (h : QB true H) : tYes σ H QB := h
theorem same_new {p : Addr} {o : HO} (h : H p = none) : Same H (upd H p o) := fun b x e => by
  rw [upd_ne (ne_of_none e h)]
  exact e
theorem same_mut {H' : Hp} {p : Addr} {o : HO} (e : Same H H') (h : H p = none) : Same H (upd H' p o) := fun b x eb => by
  rw [upd_ne (ne_of_none eb h)]
  exact e b x eb
theorem r_sub3 {to ti : TE} {ts : TSet} {v : V} {R : St → Hp → Prop} (h : to σ H fun o H1 => ti σ H1 fun k H2 => ts o k v H2 fun H3 => R σ H3) : gSub to ti ts v σ H R := h
theorem r_augS {to ti te : TE} {tg : V → V → Hp → VK → Prop} {tp : TIp} {ts : TSet} (h : to σ H fun o H1 => ti σ H1 fun k H2 => tg o k H2 fun x H3 => te σ H3 fun y H4 => tp x y H4 fun z H5 => ts o k z H5 fun H6 => D.nx σ H6) : tAugS to ti te tg tp ts D σ H := h
theorem r_ipI {f : Int → Int → Int} (h : Q (.int (f i j)) H) : uIpI f (.int i) (.int j) H Q := h
theorem r_getL {a : Addr} {k : Int} {xs : List V} {v : V} (h1 : SqL K H a xs) (h2 : 0 ≤ k) (h3 : xs[k.toNat]? = some v) (h : Q v H) : uGetL K (.ref a) (.int k) H Q := ⟨xs, v, h1, h2, h3, h⟩
theorem r_setL {a : Addr} {k : Int} {xs : List V} {m : Nat} {v : V} {R : Hp → Prop} (h1 : H a = some (.lst xs)) (h2 : ixN xs.length k = some m) (h : R (upd H a (.lst (xs.set m v)))) : uSetL (.ref a) (.int k) v H R := ⟨xs, m, h1, h2, h⟩
/-! loops -/
/-- a loop over n things: P holds ahead of each turn -/
theorem l_for {J : It} {n : Nat} {g : TG} {tb : TS} (P : Nat → St → Hp → Prop) (h0 : P 0 σ H) (go : ∀ i σ H, i < n → P i σ H → J.go i H) (stop : ∀ σ H, P n σ H → J.stop n H)
    (step : ∀ i σ H, i < n → P i σ H → ∀ x H', J.yld i H x H' → g x σ H' fun σ2 H2 => tb { D with nx := P (i + 1), ct := P (i + 1), bk := D.nx } σ2 H2) (done : ∀ σ H, P n σ H → D.nx σ H) :
    ∃ W : Nat → Nat → St → Hp → Prop, (∃ m, W 0 m σ H) ∧ ∀ i m σ H, W i m σ H →
      (J.stop i H ∧ D.nx σ H) ∨ (J.go i H ∧ ∃ N : St → Hp → Prop, (∀ σ' H', N σ' H' → ∃ m', m' < m ∧ W (i + 1) m' σ' H') ∧ ∀ x H', J.yld i H x H' → g x σ H' fun σ2 H2 => tb { D with nx := N, ct := N, bk := D.nx } σ2 H2) := by
  refine ⟨fun i m σ H => m = n - i ∧ i ≤ n ∧ P i σ H, ⟨n, by simp, Nat.zero_le _, h0⟩, ?_⟩
  rintro i m σ H ⟨rfl, hi, p⟩
  by_cases hlt : i < n
  · exact .inr ⟨go i σ H hlt p, P (i + 1), fun σ' H' p' => ⟨n - (i + 1), by omega, rfl, hlt, p'⟩, fun x H' y => step i σ H hlt p x H' y⟩
  · have e : i = n := by omega
    subst e
    exact .inl ⟨stop σ H p, done σ H p⟩
theorem r_for {wi : TI} {g : TG} {tb : TS} (h : wi σ H fun J H1 => ∃ W : Nat → Nat → St → Hp → Prop, (∃ m, W 0 m σ H1) ∧ ∀ i m σ H, W i m σ H →
  (J.stop i H ∧ D.nx σ H) ∨ (J.go i H ∧ ∃ N : St → Hp → Prop, (∀ σ' H', N σ' H' → ∃ m', m' < m ∧ W (i + 1) m' σ' H') ∧ ∀ x H', J.yld i H x H' → g x σ H' fun σ2 H2 => tb { D with nx := N, ct := N, bk := D.nx } σ2 H2)) : tFor wi g tb D σ H := h
theorem it_list {te : TE} {R : It → Hp → Prop} (h : te σ H fun x H1 => ∃ a, x = .ref a ∧ (∃ xs, SqL K H1 a xs) ∧ R (Itl K a) H1) : uIt K te σ H R := .inl h
theorem it_tup {te : TE} {R : It → Hp → Prop} (h : te σ H fun x H1 => ∃ a, x = .ref a ∧ (∃ xs, SqT K H1 a xs) ∧ R (Itt K a) H1) : uIt K te σ H R := .inr (.inl h)
theorem it_str {te : TE} {R : It → Hp → Prop} (h : te σ H fun v H1 => ∃ x, v = .str x ∧ R (Its x) H1) : uIt K te σ H R := .inr (.inr h)
theorem r_rng1 {ta : TA} {R : It → Hp → Prop} (h : ta σ H fun vs H1 => ∃ j : Int, vs = [.int j] ∧ -(2 ^ 62) ≤ j ∧ j < 2 ^ 62 ∧ R (Itr 0 j.toNat) H1) : iRng1 ta σ H R := h
theorem r_rng1v {k : Int} {P : Int → Prop} (h : P k) : ∃ j : Int, [V.int k] = [V.int j] ∧ P j := ⟨k, rfl, h⟩
theorem r_rng2 {ta : TA} {R : It → Hp → Prop} (h : ta σ H fun vs H1 => ∃ i j : Int, vs = [.int i, .int j] ∧ (-(2 ^ 62) ≤ i ∧ i < 2 ^ 62 ∧ -(2 ^ 62) ≤ j ∧ j < 2 ^ 62) ∧ R (Itr i (j - i).toNat) H1) : iRng2 ta σ H R := h
theorem r_rng2v {a b : Int} {P : Int → Int → Prop} (h : P a b) : ∃ i j : Int, [V.int a, V.int b] = [V.int i, V.int j] ∧ P i j := ⟨a, b, rfl, h⟩
/-- over a range that is told by its number of turns -/
theorem f_range {lo : Int} {n : Nat} {g : TG} {tb : TS} (P : Nat → St → Hp → Prop) (h0 : P 0 σ H)
    (step : ∀ i σ H, i < n → P i σ H → g (.int (lo + i)) σ H fun σ2 H2 => tb { D with nx := P (i + 1), ct := P (i + 1), bk := D.nx } σ2 H2) (done : ∀ σ H, P n σ H → D.nx σ H) :
    ∃ W : Nat → Nat → St → Hp → Prop, (∃ m, W 0 m σ H) ∧ ∀ i m σ H, W i m σ H →
      ((Itr lo n).stop i H ∧ D.nx σ H) ∨ ((Itr lo n).go i H ∧ ∃ N : St → Hp → Prop, (∀ σ' H', N σ' H' → ∃ m', m' < m ∧ W (i + 1) m' σ' H') ∧ ∀ x H', (Itr lo n).yld i H x H' → g x σ H' fun σ2 H2 => tb { D with nx := N, ct := N, bk := D.nx } σ2 H2) :=
  l_for P h0 (fun i σ H h _ => h) (fun _ _ _ => Nat.le_refl _) (fun i σ H h p x H' y => by
    obtain ⟨e1, e2⟩ := y
    subst e1 e2
    exact step i σ H' h p) done
/-- over a text, sign by sign -/
theorem f_str {z : Str} {g : TG} {tb : TS} (P : Nat → St → Hp → Prop) (h0 : P 0 σ H)
    (step : ∀ i (c : Nat) σ H, z.cps.toList[i]? = some c → P i σ H → g (.str ⟨#[c]⟩) σ H fun σ2 H2 => tb { D with nx := P (i + 1), ct := P (i + 1), bk := D.nx } σ2 H2) (done : ∀ σ H, P z.cps.toList.length σ H → D.nx σ H) :
    ∃ W : Nat → Nat → St → Hp → Prop, (∃ m, W 0 m σ H) ∧ ∀ i m σ H, W i m σ H →
      ((Its z).stop i H ∧ D.nx σ H) ∨ ((Its z).go i H ∧ ∃ N : St → Hp → Prop, (∀ σ' H', N σ' H' → ∃ m', m' < m ∧ W (i + 1) m' σ' H') ∧ ∀ x H', (Its z).yld i H x H' → g x σ H' fun σ2 H2 => tb { D with nx := N, ct := N, bk := D.nx } σ2 H2) :=
  l_for P h0 (fun i σ H h _ => by show i < z.cps.size; simpa using h) (fun _ _ _ => by show z.cps.size ≤ _; simp) (fun i σ H h p x H' y => by
    obtain ⟨e1, c, e, e2⟩ := y
    subst e1 e2
    exact step i c σ H' (by simpa using e) p) done
/-- over a list that stays -/
theorem f_list {a : Addr} {xs : List V} {g : TG} {tb : TS} (P : Nat → St → Hp → Prop) (h0 : P 0 σ H) (hl : ∀ i σ H, P i σ H → SqL K H a xs)
    (step : ∀ i x σ H, xs[i]? = some x → P i σ H → g x σ H fun σ2 H2 => tb { D with nx := P (i + 1), ct := P (i + 1), bk := D.nx } σ2 H2) (done : ∀ σ H, P xs.length σ H → D.nx σ H) :
    ∃ W : Nat → Nat → St → Hp → Prop, (∃ m, W 0 m σ H) ∧ ∀ i m σ H, W i m σ H →
      ((Itl K a).stop i H ∧ D.nx σ H) ∨ ((Itl K a).go i H ∧ ∃ N : St → Hp → Prop, (∀ σ' H', N σ' H' → ∃ m', m' < m ∧ W (i + 1) m' σ' H') ∧ ∀ x H', (Itl K a).yld i H x H' → g x σ H' fun σ2 H2 => tb { D with nx := N, ct := N, bk := D.nx } σ2 H2) :=
  for_list P h0 (fun i σ H _ p => hl i σ H p) step done
theorem f_tup {a : Addr} {xs : List V} {g : TG} {tb : TS} (P : Nat → St → Hp → Prop) (h0 : P 0 σ H) (hl : ∀ i σ H, P i σ H → SqT K H a xs)
    (step : ∀ i x σ H, xs[i]? = some x → P i σ H → g x σ H fun σ2 H2 => tb { D with nx := P (i + 1), ct := P (i + 1), bk := D.nx } σ2 H2) (done : ∀ σ H, P xs.length σ H → D.nx σ H) :
    ∃ W : Nat → Nat → St → Hp → Prop, (∃ m, W 0 m σ H) ∧ ∀ i m σ H, W i m σ H →
      ((Itt K a).stop i H ∧ D.nx σ H) ∨ ((Itt K a).go i H ∧ ∃ N : St → Hp → Prop, (∀ σ' H', N σ' H' → ∃ m', m' < m ∧ W (i + 1) m' σ' H') ∧ ∀ x H', (Itt K a).yld i H x H' → g x σ H' fun σ2 H2 => tb { D with nx := N, ct := N, bk := D.nx } σ2 H2) :=
  for_tup P h0 (fun i σ H _ p => hl i σ H p) step done
/-! comprehensions: P by the turn and what the new list holds so far -/
/-- what is wanted behind an element -/
abbrev LcEnd (D : Addr) (N : Hp → Prop) (y : V) (H4 : Hp) : Prop := ∃ acc, H4 D = some (.lst acc) ∧ acc.length < sizeLine ∧ N (upd H4 D (.lst (acc ++ [y])))
theorem l_lc {J : It} {n : Nat} {g : TG} {tt : TT} {te : TE} {vs : List Nat} {D : Addr} {H1 : Hp} {Qd : Hp → Prop} (P : Nat → Hp → Prop) (h0 : P 0 (upd H1 D (.lst [])))
    (go : ∀ i H, i < n → P i H → J.go i H) (stop : ∀ H, P n H → J.stop n H)
    (step : ∀ i H, i < n → P i H → ∀ x H', J.yld i H x H' → g x (wipe σ vs) H' fun σ2 H2 => wipe σ2 vs = wipe σ vs ∧ tt σ2 H2 fun b H3 => if b = true then te σ2 H3 (LcEnd D (P (i + 1))) else P (i + 1) H3) (done : ∀ H, P n H → Qd H) :
    ∃ W : Nat → Nat → Hp → Prop, (∃ m, W 0 m (upd H1 D (.lst []))) ∧ ∀ i m H, W i m H →
      (J.stop i H ∧ Qd H) ∨ (J.go i H ∧ ∃ Nx : Hp → Prop, (∀ H', Nx H' → ∃ m', m' < m ∧ W (i + 1) m' H') ∧ ∀ x H', J.yld i H x H' → g x (wipe σ vs) H' fun σ2 H2 => wipe σ2 vs = wipe σ vs ∧ tt σ2 H2 fun b H3 =>
        if b = true then te σ2 H3 fun y H4 => ∃ acc, H4 D = some (.lst acc) ∧ acc.length < sizeLine ∧ Nx (upd H4 D (.lst (acc ++ [y]))) else Nx H3) := by
  refine ⟨fun i m H => m = n - i ∧ i ≤ n ∧ P i H, ⟨n, by simp, Nat.zero_le _, h0⟩, ?_⟩
  rintro i m H ⟨rfl, hi, p⟩
  by_cases hlt : i < n
  · exact .inr ⟨go i H hlt p, P (i + 1), fun H' p' => ⟨n - (i + 1), by omega, rfl, hlt, p'⟩, fun x H' y => step i H hlt p x H' y⟩
  · have e : i = n := by omega
    subst e
    exact .inl ⟨stop H p, done H p⟩
theorem r_lc {wi : TI} {g : TG} {tt : TT} {te : TE} {vs : List Nat} (h : wi σ H fun J H1 => ∀ D, H1 D = none → ∃ W : Nat → Nat → Hp → Prop, (∃ m, W 0 m (upd H1 D (.lst []))) ∧ ∀ i m H, W i m H →
  (J.stop i H ∧ Q (.ref D) H) ∨ (J.go i H ∧ ∃ Nx : Hp → Prop, (∀ H', Nx H' → ∃ m', m' < m ∧ W (i + 1) m' H') ∧ ∀ x H', J.yld i H x H' → g x (wipe σ vs) H' fun σ2 H2 => wipe σ2 vs = wipe σ vs ∧ tt σ2 H2 fun b H3 =>
    if b = true then te σ2 H3 fun y H4 => ∃ acc, H4 D = some (.lst acc) ∧ acc.length < sizeLine ∧ Nx (upd H4 D (.lst (acc ++ [y]))) else Nx H3)) : tLc wi g tt te vs σ H Q := h
/-- a comprehension over a range of n turns -/
theorem c_range {lo : Int} {n : Nat} {g : TG} {tt : TT} {te : TE} {vs : List Nat} {D : Addr} {H1 : Hp} {Qd : Hp → Prop} (P : Nat → Hp → Prop) (h0 : P 0 (upd H1 D (.lst [])))
    (step : ∀ i H, i < n → P i H → g (.int (lo + i)) (wipe σ vs) H fun σ2 H2 => wipe σ2 vs = wipe σ vs ∧ tt σ2 H2 fun b H3 => if b = true then te σ2 H3 (LcEnd D (P (i + 1))) else P (i + 1) H3) (done : ∀ H, P n H → Qd H) :
    ∃ W : Nat → Nat → Hp → Prop, (∃ m, W 0 m (upd H1 D (.lst []))) ∧ ∀ i m H, W i m H →
      ((Itr lo n).stop i H ∧ Qd H) ∨ ((Itr lo n).go i H ∧ ∃ Nx : Hp → Prop, (∀ H', Nx H' → ∃ m', m' < m ∧ W (i + 1) m' H') ∧ ∀ x H', (Itr lo n).yld i H x H' → g x (wipe σ vs) H' fun σ2 H2 => wipe σ2 vs = wipe σ vs ∧ tt σ2 H2 fun b H3 =>
        if b = true then te σ2 H3 fun y H4 => ∃ acc, H4 D = some (.lst acc) ∧ acc.length < sizeLine ∧ Nx (upd H4 D (.lst (acc ++ [y]))) else Nx H3) :=
  l_lc P h0 (fun i H h _ => h) (fun _ _ => Nat.le_refl _) (fun i H h p x H' y => by
    obtain ⟨e1, e2⟩ := y
    subst e1 e2
    exact step i H' h p) done
theorem c_strs {z : Str} {g : TG} {tt : TT} {te : TE} {vs : List Nat} {D : Addr} {H1 : Hp} {Qd : Hp → Prop} (P : Nat → Hp → Prop) (h0 : P 0 (upd H1 D (.lst [])))
    (step : ∀ i (c : Nat) H, z.cps.toList[i]? = some c → P i H → g (.str ⟨#[c]⟩) (wipe σ vs) H fun σ2 H2 => wipe σ2 vs = wipe σ vs ∧ tt σ2 H2 fun b H3 => if b = true then te σ2 H3 (LcEnd D (P (i + 1))) else P (i + 1) H3) (done : ∀ H, P z.cps.toList.length H → Qd H) :
    ∃ W : Nat → Nat → Hp → Prop, (∃ m, W 0 m (upd H1 D (.lst []))) ∧ ∀ i m H, W i m H →
      ((Its z).stop i H ∧ Qd H) ∨ ((Its z).go i H ∧ ∃ Nx : Hp → Prop, (∀ H', Nx H' → ∃ m', m' < m ∧ W (i + 1) m' H') ∧ ∀ x H', (Its z).yld i H x H' → g x (wipe σ vs) H' fun σ2 H2 => wipe σ2 vs = wipe σ vs ∧ tt σ2 H2 fun b H3 =>
        if b = true then te σ2 H3 fun y H4 => ∃ acc, H4 D = some (.lst acc) ∧ acc.length < sizeLine ∧ Nx (upd H4 D (.lst (acc ++ [y]))) else Nx H3) :=
  l_lc P h0 (fun i H h _ => by show i < z.cps.size; simpa using h) (fun _ _ => by show z.cps.size ≤ _; simp) (fun i H h p x H' y => by
    obtain ⟨e1, c, e, e2⟩ := y
    subst e1 e2
    exact step i c H' (by simpa using e) p) done
theorem c_lists {a : Addr} {xs : List V} {g : TG} {tt : TT} {te : TE} {vs : List Nat} {D : Addr} {H1 : Hp} {Qd : Hp → Prop} (P : Nat → Hp → Prop) (h0 : P 0 (upd H1 D (.lst []))) (hl : ∀ i H, P i H → SqL K H a xs)
    (step : ∀ i x H, xs[i]? = some x → P i H → g x (wipe σ vs) H fun σ2 H2 => wipe σ2 vs = wipe σ vs ∧ tt σ2 H2 fun b H3 => if b = true then te σ2 H3 (LcEnd D (P (i + 1))) else P (i + 1) H3) (done : ∀ H, P xs.length H → Qd H) :
    ∃ W : Nat → Nat → Hp → Prop, (∃ m, W 0 m (upd H1 D (.lst []))) ∧ ∀ i m H, W i m H →
      ((Itl K a).stop i H ∧ Qd H) ∨ ((Itl K a).go i H ∧ ∃ Nx : Hp → Prop, (∀ H', Nx H' → ∃ m', m' < m ∧ W (i + 1) m' H') ∧ ∀ x H', (Itl K a).yld i H x H' → g x (wipe σ vs) H' fun σ2 H2 => wipe σ2 vs = wipe σ vs ∧ tt σ2 H2 fun b H3 =>
        if b = true then te σ2 H3 fun y H4 => ∃ acc, H4 D = some (.lst acc) ∧ acc.length < sizeLine ∧ Nx (upd H4 D (.lst (acc ++ [y]))) else Nx H3) :=
  l_lc P h0 (fun i H h p => ⟨xs, xs[i], hl i H p, by simp [h]⟩) (fun H p => ⟨xs, hl _ H p, Nat.le_refl _⟩) (fun i H h p x H' y => by
    obtain ⟨e1, e2⟩ := y
    subst e1
    exact step i x H' (e2 xs (hl i _ p)) p) done
theorem c_tups {a : Addr} {xs : List V} {g : TG} {tt : TT} {te : TE} {vs : List Nat} {D : Addr} {H1 : Hp} {Qd : Hp → Prop} (P : Nat → Hp → Prop) (h0 : P 0 (upd H1 D (.lst []))) (hl : ∀ i H, P i H → SqT K H a xs)
    (step : ∀ i x H, xs[i]? = some x → P i H → g x (wipe σ vs) H fun σ2 H2 => wipe σ2 vs = wipe σ vs ∧ tt σ2 H2 fun b H3 => if b = true then te σ2 H3 (LcEnd D (P (i + 1))) else P (i + 1) H3) (done : ∀ H, P xs.length H → Qd H) :
    ∃ W : Nat → Nat → Hp → Prop, (∃ m, W 0 m (upd H1 D (.lst []))) ∧ ∀ i m H, W i m H →
      ((Itt K a).stop i H ∧ Qd H) ∨ ((Itt K a).go i H ∧ ∃ Nx : Hp → Prop, (∀ H', Nx H' → ∃ m', m' < m ∧ W (i + 1) m' H') ∧ ∀ x H', (Itt K a).yld i H x H' → g x (wipe σ vs) H' fun σ2 H2 => wipe σ2 vs = wipe σ vs ∧ tt σ2 H2 fun b H3 =>
        if b = true then te σ2 H3 fun y H4 => ∃ acc, H4 D = some (.lst acc) ∧ acc.length < sizeLine ∧ Nx (upd H4 D (.lst (acc ++ [y]))) else Nx H3) :=
  l_lc P h0 (fun i H h p => ⟨xs, xs[i], hl i H p, by simp [h]⟩) (fun H p => ⟨xs, hl _ H p, Nat.le_refl _⟩) (fun i H h p x H' y => by
    obtain ⟨e1, e2⟩ := y
    subst e1
    exact step i x H' (e2 xs (hl i _ p)) p) done
end
end U
/-! U3: data of tuples, and how a heap bears them. -/
namespace U
open PySem PySem.Spec L2
/-- data of tuples -/
inductive D where
  | non | bl (b : Bool) | int (i : Int) | str (x : Str) | tup (ds : List D)
mutual
def D.py : D → PyData
  | .non => .none
  | .bl b => .bool b
  | .int i => .int i
  | .str x => .str x
  | .tup ds => .tuple (D.pyL ds)
def D.pyL : List D → List PyData
  | [] => []
  | d :: ds => D.py d :: D.pyL ds
end
theorem D.pyL_map : ∀ ds : List D, D.pyL ds = ds.map D.py
  | [] => rfl
  | d :: ds => by rw [D.pyL, D.pyL_map ds]; rfl
mutual
inductive Td (K : PySem.W.Frag) (H : Hp) : V → D → Prop
  | non : Td K H .non .non
  | bl (b : Bool) : Td K H (.bl b) (.bl b)
  | int (i : Int) : Td K H (.int i) (.int i)
  | str (x : Str) : Td K H (.str x) (.str x)
  | tup {a : Addr} {vs : List V} {ds : List D} : SqT K H a vs → TdL K H vs ds → Td K H (.ref a) (.tup ds)
inductive TdL (K : PySem.W.Frag) (H : Hp) : List V → List D → Prop
  | nil : TdL K H [] []
  | cons {v : V} {vs : List V} {d : D} {ds : List D} : Td K H v d → TdL K H vs ds → TdL K H (v :: vs) (d :: ds)
end
/-- the tuples stay -/
def Tk (K : PySem.W.Frag) (H H' : Hp) : Prop := ∀ a xs, SqT K H a xs → SqT K H' a xs
section
variable {K : PySem.W.Frag} {H H' H2 : Hp}
theorem Tk.refl : Tk K H H := fun _ _ h => h
theorem Tk.trans (a : Tk K H H') (b : Tk K H' H2) : Tk K H H2 := fun x xs h => b x xs (a x xs h)
theorem Same.tk (e : Same H H') : Tk K H H' := fun a xs h => by
  rcases h with (h | ⟨o, h⟩) | h
  · exact .inl (.inl (e _ _ h))
  · exact .inl (.inr ⟨o, e _ _ h⟩)
  · exact .inr h
/-- what is no tuple may change -/
theorem Tk.mut {p : Addr} {o : HO} (h1 : ∀ xs, H p ≠ some (.tup xs)) (h2 : ∀ ob xs, H p ≠ some (.frz ob (.tup xs))) : Tk K H (upd H p o) := fun a xs h => by
  rcases h with (h | ⟨ob, h⟩) | h
  · have n : a ≠ p := fun e => h1 xs (e ▸ h)
    exact .inl (.inl (by rw [upd_ne n]; exact h))
  · have n : a ≠ p := fun e => h2 ob xs (e ▸ h)
    exact .inl (.inr ⟨ob, by rw [upd_ne n]; exact h⟩)
  · exact .inr h
theorem Tk.new {p : Addr} {o : HO} (h : H p = none) : Tk K H (upd H p o) := Tk.mut (fun xs e => by rw [h] at e; cases e) (fun _ xs e => by rw [h] at e; cases e)
theorem Tk.lst {p : Addr} {xs : List V} {o : HO} (h : H p = some (.lst xs)) : Tk K H (upd H p o) := Tk.mut (fun ys e => by rw [h] at e; cases e) (fun _ ys e => by rw [h] at e; cases e)
theorem Tk.dK {p : Addr} {xs : List (Key × V)} {o : HO} (h : H p = some (.dK xs)) : Tk K H (upd H p o) := Tk.mut (fun ys e => by rw [h] at e; cases e) (fun _ ys e => by rw [h] at e; cases e)
theorem Tk.ins {p C dx : Addr} {fs : List (Str × V)} {o : HO} (h : H p = some (.ins C dx fs)) : Tk K H (upd H p o) := Tk.mut (fun ys e => by rw [h] at e; cases e) (fun _ ys e => by rw [h] at e; cases e)
mutual
theorem Td.mono (e : Tk K H H') : ∀ (d : D) (v : V), Td K H v d → Td K H' v d
  | .non, _, h => by cases h; exact .non
  | .bl _, _, h => by cases h; exact .bl _
  | .int _, _, h => by cases h; exact .int _
  | .str _, _, h => by cases h; exact .str _
  | .tup ds, _, h => by
    cases h with
    | tup h1 h2 => exact .tup (e _ _ h1) (TdL.mono e ds _ h2)
theorem TdL.mono (e : Tk K H H') : ∀ (ds : List D) (vs : List V), TdL K H vs ds → TdL K H' vs ds
  | [], _, h => by cases h; exact .nil
  | d :: ds, _, h => by
    cases h with
    | cons h1 h2 => exact .cons (Td.mono e d _ h1) (TdL.mono e ds _ h2)
end
theorem Td.k {d : D} {v : V} (h : Td K H v d) (e : Tk K H H') : Td K H' v d := Td.mono e d v h
theorem TdL.k {ds : List D} {vs : List V} (h : TdL K H vs ds) (e : Tk K H H') : TdL K H' vs ds := TdL.mono e ds vs h
mutual
theorem Td.dp : ∀ (d : D) (v : V), Td K H v d → Dp K H v d.py
  | .non, _, h => by cases h; exact .non
  | .bl _, _, h => by cases h; exact .bl _
  | .int _, _, h => by cases h; exact .int _
  | .str _, _, h => by cases h; exact .str _
  | .tup ds, _, h => by
    cases h with
    | tup h1 h2 => rw [D.py]; exact .tup h1 (TdL.dp ds _ h2)
theorem TdL.dp : ∀ (ds : List D) (vs : List V), TdL K H vs ds → DpAll K H vs (D.pyL ds)
  | [], _, h => by cases h; exact .nil
  | d :: ds, _, h => by
    cases h with
    | cons h1 h2 => rw [D.pyL]; exact .cons (Td.dp d _ h1) (TdL.dp ds _ h2)
end
theorem TdL.len : ∀ {vs : List V} {ds : List D}, TdL K H vs ds → vs.length = ds.length
  | _, _, .nil => rfl
  | _, _, .cons _ t => by rw [List.length_cons, List.length_cons, TdL.len t]
theorem TdL.get : ∀ {vs : List V} {ds : List D} {i : Nat} {d : D}, TdL K H vs ds → ds[i]? = some d → ∃ v, vs[i]? = some v ∧ Td K H v d
  | _, _, i, _, .nil, h => by simp at h
  | _, _, 0, _, .cons h t, e => by simp at e; subst e; exact ⟨_, rfl, h⟩
  | _, _, i + 1, _, .cons h t, e => by
    obtain ⟨v, h1, h2⟩ := TdL.get (i := i) t (by simpa using e)
    exact ⟨v, by simpa using h1, h2⟩
theorem TdL.append : ∀ {vs ws : List V} {ds es : List D}, TdL K H vs ds → TdL K H ws es → TdL K H (vs ++ ws) (ds ++ es)
  | _, _, _, _, .nil, s => s
  | _, _, _, _, .cons h t, s => .cons h (TdL.append t s)
theorem TdL.take : ∀ {vs : List V} {ds : List D} (n : Nat), TdL K H vs ds → TdL K H (vs.take n) (ds.take n)
  | _, _, 0, _ => .nil
  | _, _, _ + 1, .nil => .nil
  | _, _, n + 1, .cons h t => .cons h (TdL.take n t)
theorem TdL.drop : ∀ {vs : List V} {ds : List D} (n : Nat), TdL K H vs ds → TdL K H (vs.drop n) (ds.drop n)
  | _, _, 0, r => r
  | _, _, _ + 1, .nil => .nil
  | _, _, n + 1, .cons _ t => TdL.drop n t
theorem TdL.one {v : V} {d : D} (h : Td K H v d) : TdL K H [v] [d] := .cons h .nil
/-- a tuple that was just made -/
theorem Td.made {p : Addr} {vs : List V} {ds : List D} (h : TdL K H vs ds) (hp : H p = some (.tup vs)) : Td K H (.ref p) (.tup ds) := .tup (SqT.of hp) h
theorem Td.newT {p : Addr} {vs : List V} {ds : List D} (h : TdL K H vs ds) (hp : H p = none) : Td K (upd H p (.tup vs)) (.ref p) (.tup ds) := .tup (SqT.of upd_same) (h.k (Tk.new hp))
end
/-! equality -/
mutual
def D.eqb : D → D → Bool
  | .non, .non => true
  | .bl a, .bl b => a == b
  | .bl a, .int j => (if a then 1 else 0) == j
  | .int i, .bl b => i == (if b then 1 else 0)
  | .int i, .int j => i == j
  | .str x, .str y => x == y
  | .tup xs, .tup ys => D.eqL xs ys
  | _, _ => false
def D.eqL : List D → List D → Bool
  | [], [] => true
  | x :: xs, y :: ys => D.eqb x y && D.eqL xs ys
  | _, _ => false
end
mutual
theorem D.eqb_py : ∀ a b : D, PyData.eqv a.py b.py = D.eqb a b
  | .non, b => by cases b <;> simp [D.py, PyData.eqv, D.eqb]
  | .bl _, b => by cases b <;> simp [D.py, PyData.eqv, D.eqb]
  | .int _, b => by cases b <;> simp [D.py, PyData.eqv, D.eqb]
  | .str _, b => by cases b <;> simp [D.py, PyData.eqv, D.eqb]
  | .tup xs, b => by
    cases b with
    | tup ys => rw [D.py, D.py, PyData.eqv, D.eqb, D.eqL_py xs ys]
    | _ => simp [D.py, PyData.eqv, D.eqb]
theorem D.eqL_py : ∀ xs ys : List D, PyData.eqvAll (D.pyL xs) (D.pyL ys) = D.eqL xs ys
  | [], [] => by simp [D.pyL, PyData.eqvAll, D.eqL]
  | [], _ :: _ => by simp [D.pyL, PyData.eqvAll, D.eqL]
  | _ :: _, [] => by simp [D.pyL, PyData.eqvAll, D.eqL]
  | x :: xs, y :: ys => by rw [D.pyL, D.pyL, PyData.eqvAll, D.eqL, D.eqb_py x y, D.eqL_py xs ys]
end
/-! fit to be compared: sound texts, no deeper than n, no wider than 60000 -/
mutual
def D.fit : Nat → D → Bool
  | _, .str x => PyData.strOk x && decide (x.length ≤ 60000)
  | 0, .tup _ => false
  | n + 1, .tup ds => decide (ds.length ≤ 60000) && D.fitL n ds
  | _, _ => true
def D.fitL : Nat → List D → Bool
  | _, [] => true
  | n, d :: ds => D.fit n d && D.fitL n ds
end
theorem D.fitL_iff {n : Nat} : ∀ {ds : List D}, D.fitL n ds = true ↔ ∀ d ∈ ds, D.fit n d = true
  | [] => by simp [D.fitL]
  | d :: ds => by rw [D.fitL, Bool.and_eq_true, D.fitL_iff (ds := ds)]; simp
theorem D.fit_tup {n : Nat} {ds : List D} : D.fit (n + 1) (.tup ds) = true ↔ ds.length ≤ 60000 ∧ ∀ d ∈ ds, D.fit n d = true := by
  rw [D.fit, Bool.and_eq_true, decide_eq_true_eq, D.fitL_iff]
theorem D.fit_str {n : Nat} {x : Str} : D.fit n (.str x) = true ↔ PyData.strOk x = true ∧ x.length ≤ 60000 := by
  cases n <;> rw [D.fit, Bool.and_eq_true, decide_eq_true_eq]
theorem D.fit_int {n : Nat} {i : Int} : D.fit n (.int i) = true := by cases n <;> rfl
theorem D.fit_bl {n : Nat} {b : Bool} : D.fit n (.bl b) = true := by cases n <;> rfl
theorem D.fit_non {n : Nat} : D.fit n .non = true := by cases n <;> rfl
mutual
theorem D.fit_lay : ∀ (d : D) (n : Nat), D.fit n d = true → d.py.canLay0 = true ∧ d.py.depth ≤ n + 1
  | .non, n, _ => by simp [D.py, PyData.canLay0, PyData.depth]
  | .bl _, n, _ => by simp [D.py, PyData.canLay0, PyData.depth]
  | .int _, n, _ => by simp [D.py, PyData.canLay0, PyData.depth]
  | .str x, n, h => by
    have h' : PyData.strOk x = true := (D.fit_str.mp h).1
    simp [D.py, PyData.canLay0, PyData.depth, h']
  | .tup ds, 0, h => by simp [D.fit] at h
  | .tup ds, n + 1, h => by
    have h' : D.fitL n ds = true := by
      rw [D.fit, Bool.and_eq_true] at h
      exact h.2
    obtain ⟨h1, h2⟩ := D.fitL_lay ds n h'
    simp only [D.py, PyData.canLay0, PyData.depth]
    exact ⟨h1, by omega⟩
theorem D.fitL_lay : ∀ (ds : List D) (n : Nat), D.fitL n ds = true → PyData.canLayAll0 (D.pyL ds) = true ∧ PyData.depthAll (D.pyL ds) ≤ n + 1
  | [], n, _ => by simp [D.pyL, PyData.canLayAll0, PyData.depthAll]
  | d :: ds, n, h => by
    have h' : (D.fit n d && D.fitL n ds) = true := by simpa [D.fitL] using h
    obtain ⟨a, b⟩ := Bool.and_eq_true_iff.mp h'
    obtain ⟨a1, a2⟩ := D.fit_lay d n a
    obtain ⟨b1, b2⟩ := D.fitL_lay ds n b
    simp only [D.pyL, PyData.canLayAll0, PyData.depthAll, a1, b1]
    exact ⟨rfl, by omega⟩
end
theorem D.shaped {d : D} {n : Nat} (h : D.fit n d = true) (hn : n ≤ 63) : SeqAt.shaped d.py = true := by
  obtain ⟨a, b⟩ := D.fit_lay d n h
  exact Bool.and_eq_true_iff.mpr ⟨a, decide_eq_true (by omega)⟩
mutual
theorem D.fit_mono : ∀ (d : D) {n m : Nat}, n ≤ m → D.fit n d = true → D.fit m d = true
  | .non, _, _, _, _ => D.fit_non
  | .bl _, _, _, _, _ => D.fit_bl
  | .int _, _, _, _, _ => D.fit_int
  | .str x, _, _, _, h => D.fit_str.mpr (D.fit_str.mp h)
  | .tup ds, 0, _, _, h => by simp [D.fit] at h
  | .tup ds, n + 1, 0, l, h => by omega
  | .tup ds, n + 1, m + 1, l, h => by
    rw [D.fit, Bool.and_eq_true] at h ⊢
    exact ⟨h.1, D.fitL_mono ds (by omega) h.2⟩
theorem D.fitL_mono : ∀ (ds : List D) {n m : Nat}, n ≤ m → D.fitL n ds = true → D.fitL m ds = true
  | [], _, _, _, _ => by simp [D.fitL]
  | d :: ds, n, m, l, h => by
    rw [D.fitL, Bool.and_eq_true] at h ⊢
    exact ⟨D.fit_mono d l h.1, D.fitL_mono ds l h.2⟩
end
/-! kinds of data -/
def D.isI : D → Bool
  | .bl _ => true
  | .int _ => true
  | _ => false
def D.isB : D → Bool
  | .bl _ => true
  | _ => false
def D.isS : D → Bool
  | .str _ => true
  | _ => false
def D.isT : D → Bool
  | .tup _ => true
  | _ => false
def D.isN : D → Bool
  | .non => true
  | _ => false
theorem sqT_ty {K : PySem.W.Frag} {H : Hp} {a : Addr} {vs : List V} (h : SqT K H a vs) : TyX K H (.ref a) (.type "tuple") := by
  rcases h with (h | ⟨o, h⟩) | ⟨o, its, n, h1, h2, _⟩
  · exact .base (.tup h)
  · exact .fTuple h
  · exact .kTuple h1 h2
section
variable {K : PySem.W.Frag} {H : Hp} {Q : VK} {v w : V} {a b d : D}
theorem r_isD0_int (h : Td K H v d) (q : Q (.bl d.isI) H) : uIsi K [v, .ty "int"] H Q := by
  cases h with
  | tup h1 h2 => exact ⟨"tuple", false, sqT_ty h1, by decide +kernel, q⟩
  | non => exact ⟨"NoneType", false, rfl, by decide +kernel, q⟩
  | bl b => exact ⟨"bool", true, rfl, by decide +kernel, q⟩
  | int b => exact ⟨"int", true, rfl, by decide +kernel, q⟩
  | str b => exact ⟨"str", false, rfl, by decide +kernel, q⟩
theorem r_isD0_bool (h : Td K H v d) (q : Q (.bl d.isB) H) : uIsi K [v, .ty "bool"] H Q := by
  cases h with
  | tup h1 h2 => exact ⟨"tuple", false, sqT_ty h1, by decide +kernel, q⟩
  | non => exact ⟨"NoneType", false, rfl, by decide +kernel, q⟩
  | bl b => exact ⟨"bool", true, rfl, by decide +kernel, q⟩
  | int b => exact ⟨"int", false, rfl, by decide +kernel, q⟩
  | str b => exact ⟨"str", false, rfl, by decide +kernel, q⟩
theorem r_isD0_str (h : Td K H v d) (q : Q (.bl d.isS) H) : uIsi K [v, .ty "str"] H Q := by
  cases h with
  | tup h1 h2 => exact ⟨"tuple", false, sqT_ty h1, by decide +kernel, q⟩
  | non => exact ⟨"NoneType", false, rfl, by decide +kernel, q⟩
  | bl b => exact ⟨"bool", false, rfl, by decide +kernel, q⟩
  | int b => exact ⟨"int", false, rfl, by decide +kernel, q⟩
  | str b => exact ⟨"str", true, rfl, by decide +kernel, q⟩
theorem r_isD0_tuple (h : Td K H v d) (q : Q (.bl d.isT) H) : uIsi K [v, .ty "tuple"] H Q := by
  cases h with
  | tup h1 h2 => exact ⟨"tuple", true, sqT_ty h1, by decide +kernel, q⟩
  | non => exact ⟨"NoneType", false, rfl, by decide +kernel, q⟩
  | bl b => exact ⟨"bool", false, rfl, by decide +kernel, q⟩
  | int b => exact ⟨"int", false, rfl, by decide +kernel, q⟩
  | str b => exact ⟨"str", false, rfl, by decide +kernel, q⟩
theorem r_isD_list (h : Td K H v d) (q : Q (.bl false) H) : uIsi K [v, .ty "list"] H Q := by
  cases h with
  | tup h1 h2 => exact ⟨"tuple", false, sqT_ty h1, by decide +kernel, q⟩
  | non => exact ⟨"NoneType", false, rfl, by decide +kernel, q⟩
  | bl b => exact ⟨"bool", false, rfl, by decide +kernel, q⟩
  | int b => exact ⟨"int", false, rfl, by decide +kernel, q⟩
  | str b => exact ⟨"str", false, rfl, by decide +kernel, q⟩
theorem r_isD_int (b : Bool) (h : Td K H v d) (e : d.isI = b) (q : Q (.bl b) H) : uIsi K [v, .ty "int"] H Q := r_isD0_int h (e ▸ q)
theorem r_isD_bool (b : Bool) (h : Td K H v d) (e : d.isB = b) (q : Q (.bl b) H) : uIsi K [v, .ty "bool"] H Q := r_isD0_bool h (e ▸ q)
theorem r_isD_str (b : Bool) (h : Td K H v d) (e : d.isS = b) (q : Q (.bl b) H) : uIsi K [v, .ty "str"] H Q := r_isD0_str h (e ▸ q)
theorem r_isD_tuple (b : Bool) (h : Td K H v d) (e : d.isT = b) (q : Q (.bl b) H) : uIsi K [v, .ty "tuple"] H Q := r_isD0_tuple h (e ▸ q)
/-- isinstance(x, (int, str)) -/
theorem r_isD_intstr {p : Addr} (hp : H p = some (.tup [.ty "int", .ty "str"])) (h : Td K H v d) (q : Q (.bl (d.isI || d.isS)) H) : uIsiT K [v, .ref p] H Q := by
  cases h with
  | tup h1 h2 => exact ⟨"tuple", ["int", "str"], false, hp, sqT_ty h1, by decide +kernel, q⟩
  | non => exact ⟨"NoneType", ["int", "str"], false, hp, rfl, by decide +kernel, q⟩
  | bl b => exact ⟨"bool", ["int", "str"], true, hp, rfl, by decide +kernel, q⟩
  | int b => exact ⟨"int", ["int", "str"], true, hp, rfl, by decide +kernel, q⟩
  | str b => exact ⟨"str", ["int", "str"], true, hp, rfl, by decide +kernel, q⟩
theorem Td.inv {ds : List D} (h : Td K H v (.tup ds)) : ∃ a vs, v = .ref a ∧ SqT K H a vs ∧ TdL K H vs ds := by
  cases h with
  | tup h1 h2 => exact ⟨_, _, rfl, h1, h2⟩
theorem Td.invI {i : Int} (h : Td K H v (.int i)) : v = .int i := by cases h; rfl
theorem Td.invB {i : Bool} (h : Td K H v (.bl i)) : v = .bl i := by cases h; rfl
theorem Td.invS {i : Str} (h : Td K H v (.str i)) : v = .str i := by cases h; rfl
theorem Td.invN (h : Td K H v .non) : v = .non := by cases h; rfl
theorem r_ixD {ds : List D} {k : Nat} (h : Td K H v (.tup ds)) (e : ds[k]? = some d) (q : ∀ u, Td K H u d → Q u H) : uIx K v (.int (k : Int)) H Q := by
  obtain ⟨a, vs, rfl, h1, h2⟩ := h.inv
  obtain ⟨u, h3, h4⟩ := h2.get e
  exact ⟨vs, u, .inr h1, atI_nat h3, q u h4⟩
theorem r_lenD {ds : List D} (h : Td K H v (.tup ds)) (q : Q (.int (ds.length : Int)) H) : uLen K [v] H Q := by
  obtain ⟨a, vs, rfl, h1, h2⟩ := h.inv
  exact ⟨vs, .inr h1, by rw [h2.len]; exact q⟩
theorem r_eqD {n : Nat} (h1 : Td K H v a) (h2 : Td K H w b) (f1 : a.fit n = true) (f2 : b.fit n = true) (hn : n ≤ 63) (h : Q (.bl (D.eqb a b)) H) : uEq K v w H Q :=
  .inr ⟨_, _, Td.dp _ _ h1, Td.dp _ _ h2, D.shaped f1 hn, D.shaped f2 hn, by rw [D.eqb_py]; exact h⟩
theorem r_neD {n : Nat} (h1 : Td K H v a) (h2 : Td K H w b) (f1 : a.fit n = true) (f2 : b.fit n = true) (hn : n ≤ 63) (h : Q (.bl (!D.eqb a b)) H) : uNe K v w H Q :=
  .inr ⟨_, _, Td.dp _ _ h1, Td.dp _ _ h2, D.shaped f1 hn, D.shaped f2 hn, by rw [D.eqb_py]; exact h⟩
/-- a tuple laid: what stands stays -/
theorem r_tupA {vs : List V} {R : Addr → Hp → Prop} (q : ∀ p H', H p = none → Same H H' → H' p = some (.tup vs) → R p H') : ∀ p, H p = none → R p (upd H p (.tup vs)) :=
  fun p hp => q p _ hp (same_new hp) upd_same
theorem r_lstA {vs : List V} {R : Addr → Hp → Prop} (q : ∀ p H', H p = none → Same H H' → H' p = some (.lst vs) → R p H') : ∀ p, H p = none → R p (upd H p (.lst vs)) :=
  fun p hp => q p _ hp (same_new hp) upd_same
/-- a tuple of data laid -/
theorem r_tupD {vs : List V} {ds : List D} {R : V → Hp → Prop} (hd : TdL K H vs ds) (q : ∀ u H', Same H H' → Td K H' u (.tup ds) → R u H') : ∀ p, H p = none → R (.ref p) (upd H p (.tup vs)) :=
  fun p hp => q _ _ (same_new hp) (Td.newT hd hp)
theorem r_tupleD {p : Addr} {vs : List V} {ds : List D} (hp : SqL K H p vs) (hd : TdL K H vs ds) (q : ∀ u H', Same H H' → Td K H' u (.tup ds) → Q u H') : uTuple K [.ref p] H Q :=
  ⟨vs, .inl ⟨hp, fun l hl => q _ _ (same_new hl) (Td.newT hd hl)⟩⟩
theorem r_catD {ds es : List D} (h1 : Td K H v (.tup ds)) (h2 : Td K H w (.tup es)) (hl : ds.length + es.length ≤ sizeLine) (q : ∀ u H', Same H H' → Td K H' u (.tup (ds ++ es)) → Q u H') : uAdd K v w H Q := by
  obtain ⟨x, vs, rfl, s1, t1⟩ := h1.inv
  obtain ⟨y, ws, rfl, s2, t2⟩ := h2.inv
  have nil : ∀ {us : List V} {fs : List D}, TdL K H us fs → us = [] → fs = [] := fun t e => by
    have := t.len
    rw [e] at this
    exact List.eq_nil_of_length_eq_zero this.symm
  refine .inr ⟨x, y, vs, ws, rfl, rfl, s1, s2, by rw [t1.len, t2.len]; exact hl, fun e => ?_, fun _ e => ?_, fun _ _ p hp => ?_⟩
  · have := nil t1 e
    subst this
    exact q _ _ (Same.refl _) h2
  · have := nil t2 e
    subst this
    refine q _ _ (Same.refl _) ?_
    rw [List.append_nil]
    exact h1
  · exact q _ _ (same_new hp) (Td.newT (t1.append t2) hp)
def cutD (ds : List D) (lo hi : Option Int) : List D := (ds.drop (HT.sIx ds.length 0 lo)).take (HT.sIx ds.length ds.length hi - HT.sIx ds.length 0 lo)
theorem r_slD {ds : List D} {lo hi : Option Int} (h1 : Td K H v (.tup ds)) (q : ∀ u H', Same H H' → Td K H' u (.tup (cutD ds lo hi)) → Q u H') : uSl K v lo hi H Q := by
  obtain ⟨x, vs, rfl, s1, t1⟩ := h1.inv
  refine .inr ⟨x, vs, rfl, s1, fun e => ?_, fun _ p hp => ?_⟩
  · have e2 : cutD ds lo hi = ds := by
      unfold cutD
      rw [← t1.len, e.1, e.2, List.drop_zero, Nat.sub_zero, t1.len, List.take_length]
    refine q _ _ (Same.refl _) ?_
    rw [e2]
    exact h1
  · refine q _ _ (same_new hp) (Td.newT ?_ hp)
    unfold cutD cutV
    rw [← t1.len]
    exact (t1.drop _).take _
/-- a text in a written tuple of texts -/
theorem inV_str {z : Str} : ∀ {ss : List Str}, inV (.str z) (ss.map V.str) = decide (z ∈ ss)
  | [] => rfl
  | s :: ss => by
    have ih := inV_str (z := z) (ss := ss)
    unfold inV at ih ⊢
    rw [List.map_cons, List.any_cons, ih]
    show ((s == z) || decide (z ∈ ss)) = _
    by_cases e : z = s
    · subst e
      rw [decide_eq_true (List.mem_cons_self ..)]
      rw [show (z == z) = true from beq_self_eq_true z]
      rfl
    · rw [show (s == z) = false from beq_eq_false_iff_ne.mpr (fun c => e c.symm), Bool.false_or]
      exact decide_eq_decide.mpr ⟨fun h => List.mem_cons_of_mem _ h, fun h => (List.mem_cons.mp h).resolve_left e⟩
theorem flat_strs {ss : List Str} : (ss.map V.str).all flatV = true := by
  induction ss with
  | nil => rfl
  | cons s r ih => rw [List.map_cons, List.all_cons, ih]; rfl
theorem r_inS {p : Addr} {z : Str} {ss : List Str} (hp : SqT K H p (ss.map V.str)) (q : Q (.bl (decide (z ∈ ss))) H) : uIn K id (.str z) (.ref p) H Q := ⟨_, .inr hp, rfl, flat_strs, by rw [inV_str]; exact q⟩
theorem r_niS {p : Addr} {z : Str} {ss : List Str} (hp : SqT K H p (ss.map V.str)) (q : Q (.bl (!decide (z ∈ ss))) H) : uIn K not (.str z) (.ref p) H Q := ⟨_, .inr hp, rfl, flat_strs, by rw [inV_str]; exact q⟩
end
end U
/-! U4: what stays around one cell; texts; data built up in a comprehension; the state of the draws. -/
namespace U
open PySem PySem.Spec L2
/-- all but p stays -/
def Fr (p : Addr) (H H' : Hp) : Prop := ∀ b x, b ≠ p → H b = some x → H' b = some x
section
variable {K : PySem.W.Frag} {H H' H2 : Hp} {p l x : Addr} {o : HO}
theorem Fr.refl : Fr p H H := fun _ _ _ h => h
theorem Fr.trans (a : Fr p H H') (b : Fr p H' H2) : Fr p H H2 := fun c o h e => b c o h (a c o h e)
theorem Fr.of (h : ∀ b, b ≠ p → H' b = H b) : Fr p H H' := fun b x hb e => by rw [h b hb]; exact e
theorem Fr.same (h : Same H H') : Fr p H H' := fun b x _ e => h b x e
theorem Fr.new (h : H x = none) : Fr p H (upd H x o) := .same (same_new h)
theorem Fr.mut (f : Fr p H H') (h : H x = none) : Fr p H (upd H' x o) := fun b y hb e => by
  rw [upd_ne (ne_of_none e h)]
  exact f b y hb e
theorem Fr.self (f : Fr p H H') : Fr p H (upd H' p o) := fun b y hb e => by
  rw [upd_ne hb]
  exact f b y hb e
theorem Fr.tk {xs : List V} (f : Fr p H H') (hp : H p = some (.lst xs)) : Tk K H H' := fun a ys h => by
  rcases h with (h | ⟨ob, h⟩) | h
  · exact .inl (.inl (f _ _ (fun e => by rw [e, hp] at h; cases h) h))
  · exact .inl (.inr ⟨ob, f _ _ (fun e => by rw [e, hp] at h; cases h) h⟩)
  · exact .inr h
theorem Fr.tkD {xs : List (Key × V)} (f : Fr p H H') (hp : H p = some (.dK xs)) : Tk K H H' := fun a ys h => by
  rcases h with (h | ⟨ob, h⟩) | h
  · exact .inl (.inl (f _ _ (fun e => by rw [e, hp] at h; cases h) h))
  · exact .inl (.inr ⟨ob, f _ _ (fun e => by rw [e, hp] at h; cases h) h⟩)
  · exact .inr h
end
/-! texts -/
theorem str_len (w : Str) : w.length = w.cps.toList.length := Array.length_toList.symm
theorem str_eq {a b : Str} : a = b ↔ a.cps.toList = b.cps.toList := by
  constructor
  · intro e; rw [e]
  · intro e
    cases a; cases b
    simp only at e
    congr 1
    exact Array.toList_inj.mp e
theorem str_cat (a b : Str) : (a ++ b).length = a.length + b.length := by
  show (a.cps ++ b.cps).size = _
  rw [Array.size_append]; rfl
theorem str_catL (a b : Str) : (a ++ b).cps.toList = a.cps.toList ++ b.cps.toList := by
  show (a.cps ++ b.cps).toList = _
  rw [Array.toList_append]
theorem str_num_len {i : Int} (h : i.natAbs < 10 ^ 11) : 0 < (Str.ofString (toString i)).length ∧ (Str.ofString (toString i)).length ≤ 12 := by
  have nat : ∀ n : Nat, n < 10 ^ 11 → 0 < (Str.ofString (toString (n : Int))).length ∧ (Str.ofString (toString (n : Int))).length ≤ 11 := fun n hn => by
    refine ⟨?_, PyProof.Rows.toString_length_le (by omega) (by decide) (by omega)⟩
    rw [str_len]
    show 0 < (TL.tl (Str.ofString (toString (n : Int)))).length
    rw [TL.tl_num]
    exact Nat.pos_of_ne_zero (fun e => TL.numL_ne n (List.eq_nil_of_length_eq_zero e))
  cases i with
  | ofNat n =>
    have := nat n (by simpa using h)
    exact ⟨this.1, by have := this.2; show (Str.ofString (toString (n : Int))).length ≤ 12; omega⟩
  | negSucc n =>
    have h1 := nat (n + 1) (by simpa using h)
    have e : toString (Int.negSucc n) = "-" ++ toString ((n + 1 : Nat) : Int) := rfl
    rw [e]
    have e2 : (Str.ofString ("-" ++ toString ((n + 1 : Nat) : Int))).length = 1 + (Str.ofString (toString ((n + 1 : Nat) : Int))).length := by
      rw [PyProof.Rows.ofString_length, PyProof.Rows.ofString_length]
      simp [Nat.add_comm]
    rw [e2]
    omega
theorem log_ok {i : Int} (h : i.natAbs < 10 ^ 11) : i.natAbs.log2 < 1920 := Nat.lt_of_lt_of_le (PySem.Flt.log2_lt_of (k := 64) (by decide) (by omega)) (by decide)
/-! the state of the draws as a list: at p, its script at l -/
def Dr (H : Hp) (p l : Addr) : Prop := ∃ (ns : List Int) (cur seed : Int) (at_ : Nat), H p = some (.lst [.ref l, .int cur, .int at_, .int seed]) ∧ H l = some (.lst (ns.map V.int)) ∧ l ≠ p ∧ 0 ≤ cur
section
variable {K : PySem.W.Frag} {H H' : Hp} {p l x : Addr} {o : HO}
theorem Dr.upd (h : Dr H p l) (h1 : x ≠ p) (h2 : x ≠ l) : Dr (upd H x o) p l := by
  obtain ⟨ns, cur, seed, at_, hp, hl, hne, h0⟩ := h
  exact ⟨ns, cur, seed, at_, by rw [upd_ne h1.symm]; exact hp, by rw [upd_ne h2.symm]; exact hl, hne, h0⟩
theorem Dr.nep (h : Dr H p l) (hx : H x = none) : x ≠ p := by
  obtain ⟨ns, cur, seed, at_, hp, hl, hne, h0⟩ := h
  exact (ne_of_none hp hx).symm
theorem Dr.nel (h : Dr H p l) (hx : H x = none) : x ≠ l := by
  obtain ⟨ns, cur, seed, at_, hp, hl, hne, h0⟩ := h
  exact (ne_of_none hl hx).symm
theorem Dr.new (h : Dr H p l) (hx : H x = none) : Dr (L2.upd H x o) p l := h.upd (h.nep hx) (h.nel hx)
theorem Dr.same (h : Dr H p l) (s : Same H H') : Dr H' p l := by
  obtain ⟨ns, cur, seed, at_, hp, hl, hne, h0⟩ := h
  exact ⟨ns, cur, seed, at_, s _ _ hp, s _ _ hl, hne, h0⟩
theorem Dr.tk (h : Dr H p l) (f : Fr p H H') : Tk K H H' := by
  obtain ⟨ns, cur, seed, at_, hp, hl, hne, h0⟩ := h
  exact f.tk hp
end
abbrev spStartL (K : PySem.W.Frag) : Sp := fun vs H Q _ => ∃ (a : Addr) (ns : List Int), vs = [.ref a] ∧ SqL K H a (ns.map V.int) ∧ ns.length ≤ 63 ∧ ∀ p l H', Same H H' → H p = none → Dr H' p l → Q (.ref p) H'
abbrev spDrawL (K : PySem.W.Frag) : Sp := fun vs H Q _ => ∃ (p l : Addr) (m : Int), vs = [.ref p, .int m] ∧ 0 < m ∧ m < 2 ^ 64 ∧ Dr H p l ∧ ∀ (n : Int) H', 0 ≤ n → n < m → Dr H' p l → (∀ b, b ≠ p → H' b = H b) → Q (.int n) H'
abbrev spLaw (K : PySem.W.Frag) : Sp := fun vs H Q _ => ∃ (a : Addr) (ns : List Int), vs = [.ref a] ∧ SqL K H a (ns.map V.int) ∧ ns.length ≤ 63 ∧ ∀ H', Q (.bl true) H'
/-! data built up in a comprehension at A, beside a state S at p -/
def CD (K : PySem.W.Frag) (S : Hp → Prop) (p A : Addr) (H0 : Hp) (G : D → Prop) (i : Nat) (H : Hp) : Prop :=
  S H ∧ Fr p H0 H ∧ ∃ vs ds, H A = some (.lst vs) ∧ TdL K H vs ds ∧ ds.length = i ∧ ∀ d ∈ ds, G d
theorem CD.start {K : PySem.W.Frag} {S : Hp → Prop} {p A : Addr} {H0 : Hp} {G : D → Prop} (s : S (upd H0 A (.lst []))) (h : H0 A = none) : CD K S p A H0 G 0 (upd H0 A (.lst [])) :=
  ⟨s, Fr.new h, [], [], upd_same, .nil, rfl, fun _ h => nomatch h⟩
theorem CD.step {K : PySem.W.Frag} {S : Hp → Prop} {p A : Addr} {H0 H H' : Hp} {G : D → Prop} {i : Nat} {y : V} {d : D} (c : CD K S p A H0 G i H) (h0 : H0 A = none) (hA : A ≠ p) (hi : i < 60000)
    (s : S (upd H' A (.lst ((H' A).elim [] (fun o => match o with | .lst vs => vs ++ [y] | _ => []))))) (f : Fr p H H') (tk : Tk K H H') (t : Td K H' y d) (g : G d) : LcEnd A (CD K S p A H0 G (i + 1)) y H' := by
  obtain ⟨s0, f0, vs, ds, e, td, l, gs⟩ := c
  have e' : H' A = some (.lst vs) := f _ _ hA e
  rw [e'] at s
  refine ⟨vs, e', szt (by rw [td.len]; omega), s, Fr.mut (f0.trans f) h0, vs ++ [y], ds ++ [d], upd_same, ?_, by simp [l], ?_⟩
  · exact ((td.k tk).append (.one t)).k (Tk.lst e')
  · intro x hx
    rcases List.mem_append.mp hx with h | h
    · exact gs x h
    · rw [List.mem_singleton.mp h]; exact g
/-- the same with the draws' list -/
theorem CD.stepL {K : PySem.W.Frag} {l p A : Addr} {H0 H H' : Hp} {G : D → Prop} {i : Nat} {y : V} {d : D} (c : CD K (fun H => Dr H p l) p A H0 G i H) (h0 : H0 A = none) (hA : A ≠ p) (hl : A ≠ l) (hi : i < 60000)
    (s : Dr H' p l) (f : Fr p H H') (t : Td K H' y d) (g : G d) : LcEnd A (CD K (fun H => Dr H p l) p A H0 G (i + 1)) y H' :=
  c.step h0 hA hi (s.upd hA hl) f (c.1.tk f) t g
/-! the list of given things, built up at A, all else stays -/
def CF (A : Addr) (H0 : Hp) (ys : List V) (i : Nat) (H : Hp) : Prop := Same H0 H ∧ H A = some (.lst (ys.take i))
theorem CF.start {A : Addr} {H0 : Hp} {ys : List V} (h : H0 A = none) : CF A H0 ys 0 (upd H0 A (.lst [])) := ⟨same_new h, upd_same⟩
theorem CF.step {A : Addr} {H0 H H' : Hp} {ys : List V} {i : Nat} {y : V} (c : CF A H0 ys i H) (h0 : H0 A = none) (s : Same H H') (hy : ys[i]? = some y) (hi : i < 16000000) : LcEnd A (CF A H0 ys (i + 1)) y H' := by
  obtain ⟨s0, e⟩ := c
  refine ⟨_, s _ _ e, szt (by rw [List.length_take]; omega), same_mut (s0.trans s) h0, ?_⟩
  rw [upd_same, List.take_add_one, hy]
  rfl
theorem CF.done {A : Addr} {H0 H : Hp} {ys : List V} (c : CF A H0 ys ys.length H) : H A = some (.lst ys) := by
  have := c.2
  rw [List.take_length] at this
  exact this
theorem TdL.getV {K : PySem.W.Frag} {H : Hp} : ∀ {vs : List V} {ds : List D} {i : Nat} {v : V}, TdL K H vs ds → vs[i]? = some v → ∃ d, ds[i]? = some d ∧ Td K H v d
  | _, _, i, _, .nil, h => by simp at h
  | _, _, 0, _, .cons h t, e => by simp at e; subst e; exact ⟨_, rfl, h⟩
  | _, _, i + 1, _, .cons h t, e => by
    obtain ⟨d, h1, h2⟩ := TdL.getV (i := i) t (by simpa using e)
    exact ⟨d, by simpa using h1, h2⟩
/-- a new cell, its heap under one name -/
theorem Td.lay {K : PySem.W.Frag} {H : Hp} {a : Addr} {vs : List V} {ds : List D} (ha : H a = none) (hd : TdL K H vs ds) : ∃ H', upd H a (.tup vs) = H' ∧ Same H H' ∧ Td K H' (.ref a) (.tup ds) := ⟨_, rfl, same_new ha, Td.newT hd ha⟩
theorem lay_new {H : Hp} {a : Addr} {o : HO} (ha : H a = none) : ∃ H', upd H a o = H' ∧ Same H H' ∧ H' a = some o := ⟨_, rfl, same_new ha, upd_same⟩
/-! unpacking data -/
section
variable {K : PySem.W.Frag} {H : Hp} {σ : St} {v : V} {a b c : D} {i j k : Nat} {R : St → Hp → Prop}
theorem r_gT3 (h : Td K H v (.tup [a, b, c])) (q : ∀ x y z, Td K H x a → Td K H y b → Td K H z c → R (((σ.set i (some x)).set j (some y)).set k (some z)) H) :
    gTup K 3 (gCons (gName i) (gCons (gName j) (gCons (gName k) gNil))) v σ H R := by
  obtain ⟨p, vs, rfl, s, t⟩ := h.inv
  cases t with
  | cons h1 t => cases t with
    | cons h2 t => cases t with
      | cons h3 t => cases t; exact ⟨p, _, rfl, s, rfl, _, _, rfl, _, _, rfl, _, _, rfl, rfl, q _ _ _ h1 h2 h3⟩
theorem r_gT2 (h : Td K H v (.tup [a, b])) (q : ∀ x y, Td K H x a → Td K H y b → R ((σ.set i (some x)).set j (some y)) H) :
    gTup K 2 (gCons (gName i) (gCons (gName j) gNil)) v σ H R := by
  obtain ⟨p, vs, rfl, s, t⟩ := h.inv
  cases t with
  | cons h1 t => cases t with
    | cons h2 t => cases t; exact ⟨p, _, rfl, s, rfl, _, _, rfl, _, _, rfl, rfl, q _ _ h1 h2⟩
end
end U
/-! U5: sorted, slices of lists, dicts as sets of numbers, dicts locked while walked, the state of the draws as a dict. -/
namespace U
open PySem PySem.Spec L2
def uSortI (K : PySem.W.Frag) : RC := rSortedI K
theorem c_sortI {X : Cx} : CallR X (.builtin "sorted") (uSortI X.K) := cr_sortedI
section
variable {K : PySem.W.Frag} {H H' : Hp} {Q : VK} {p a d : Addr}
theorem r_sortI {ns : List Int} (h : SqL K H a (ns.map V.int)) (q : ∀ (ns' : List Int) (p : Addr), ns'.Perm ns → ns'.Pairwise (· ≤ ·) → H p = none → Q (.ref p) (upd H p (.lst (ns'.map V.int)))) : uSortI K [.ref a] H Q := ⟨a, ns, rfl, h, q⟩
theorem r_slL {xs : List V} {lo hi : Option Int} (h : SqL K H a xs) (q : ∀ p, H p = none → Q (.ref p) (upd H p (.lst (cutV xs lo hi)))) : uSl K (.ref a) lo hi H Q := .inl ⟨a, xs, rfl, h, q⟩
theorem cutV_all {xs : List V} {k : Nat} (h : xs.length ≤ k) : cutV xs none (some (k : Int)) = xs := by
  unfold cutV
  rw [HT.sIx_none, HT.sIx_nat, List.drop_zero, Nat.sub_zero, List.take_of_length_le (by omega)]
theorem cutV_63 {xs : List V} (h : xs.length ≤ 63) : cutV xs none (some 63) = xs := cutV_all (k := 63) h
theorem lock_put {u : HO} {od : Obj} (h : H d = some u) : upd (upd H d (.frz od u)) d u = H := by
  funext b
  by_cases e : b = d
  · subst e; rw [upd_same, h]
  · rw [upd_ne e, upd_ne e]
end
/-! steps for dicts -/
section
variable {σ : St} {H : Hp} {Q : VK} {D : Ends} {K : PySem.W.Frag} {td ty tv : TE}
theorem r_dget (h : td σ H fun x H1 => ty σ H1 fun y H2 => ∃ a v, x = .ref a ∧ DGet H2 a y (some v) ∧ Q v H2) : tDGet td ty σ H Q := h
theorem r_din (h : ty σ H fun y H1 => td σ H1 fun x H2 => ∃ a o, x = .ref a ∧ DGet H2 a y o ∧ Q (.bl o.isSome) H2) : tDIn ty td σ H Q := h
theorem r_dnotin (h : ty σ H fun y H1 => td σ H1 fun x H2 => ∃ a o, x = .ref a ∧ DGet H2 a y o ∧ Q (.bl (!o.isSome)) H2) : tDNotIn ty td σ H Q := h
theorem r_dput (h : tv σ H fun v H1 => td σ H1 fun x H2 => ty σ H2 fun y H3 => ∃ a H4, x = .ref a ∧ DPut H3 a y v H4 ∧ D.nx σ H4) : sDPut td ty tv D σ H := h
theorem r_sqP {u : TS} (h : tv σ H fun v H1 => td σ H1 fun x H2 => ty σ H2 fun y H3 => ∃ a H4, x = .ref a ∧ DPut H3 a y v H4 ∧ u D σ H4) : tSq (sDPut td ty tv) u D σ H := r_sq h
theorem r_keys {R : It → Hp → Prop} (h : td σ H fun x H1 => ∃ d o, x = .ref d ∧ ((∃ kvs, H1 d = some (.frz o (.dK kvs)) ∧ R (Itk d o kvs) H1) ∨ ∃ kvs, H1 d = some (.frz o (.dT kvs)) ∧ R (Itkt d o kvs) H1)) : iKeys td σ H R := h
theorem r_dnew (h : ∀ p, H p = none → Q (.ref p) (upd H p (.dK []))) : tDNewK σ H Q := h
end
theorem r_ifCI {σ : St} {H : Hp} {Q : VK} {p : Prop} [Decidable p] {a b : Int} (h : Q (.int (if p then a else b)) H) : if decide p = true then tC (.int a) σ H Q else tC (.int b) σ H Q := by
  by_cases e : p
  · rw [if_pos (decide_eq_true e)]; rw [if_pos e] at h; exact h
  · rw [if_neg (by simp [e])]; rw [if_neg e] at h; exact h
theorem SqL.k {K : PySem.W.Frag} {H H' : Hp} {a : Addr} {xs : List V} (h : SqL K H a xs) (s : Same H H') : SqL K H' a xs := by
  rcases h with (h | ⟨o, h⟩) | h
  · exact .inl (.inl (s _ _ h))
  · exact .inl (.inr ⟨o, s _ _ h⟩)
  · exact .inr h
/-! a dict whose keys are numbers and whose values are True -/
def dkS (us : List Int) : List (Key × V) := us.map fun i => (.inl i, .bl true)
theorem dkS_len (us : List Int) : (dkS us).length = us.length := List.length_map ..
theorem dkS_val (us : List Int) (i : Int) : valV (dkS us) (.inl i) = if i ∈ us then some (.bl true) else none := by
  induction us with
  | nil => rfl
  | cons u r ih =>
    show valV ((.inl u, .bl true) :: dkS r) (.inl i) = _
    by_cases e : i = u
    · subst e
      rw [valV_pos rfl, if_pos (List.mem_cons_self ..)]
    · rw [valV_neg (fun c => e (by cases c; rfl)), ih]
      by_cases h : i ∈ r
      · rw [if_pos h, if_pos (List.mem_cons_of_mem _ h)]
      · rw [if_neg h, if_neg (fun c => (List.mem_cons.mp c).elim e h)]
def insS (us : List Int) (i : Int) : List Int := if i ∈ us then us else us ++ [i]
theorem dkS_put (us : List Int) (i : Int) : putK (dkS us) (.inl i) (.bl true) = dkS (insS us i) := by
  have any : (dkS us).any (fun kv => decide (kv.1 = .inl i)) = decide (i ∈ us) := by
    rw [valV_any, dkS_val]
    by_cases h : i ∈ us
    · rw [if_pos h, decide_eq_true h]; rfl
    · rw [if_neg h, decide_eq_false h]; rfl
  unfold putK insS
  rw [any]
  by_cases h : i ∈ us
  · rw [if_pos (decide_eq_true h), if_pos h]
    refine (List.map_congr_left (g := id) fun x hx => ?_).trans (List.map_id _)
    obtain ⟨k, hk, rfl⟩ := List.mem_map.mp hx
    by_cases e : (Sum.inl k : Key) = .inl i
    · rw [if_pos e]; rfl
    · rw [if_neg e]; rfl
  · rw [if_neg (by rw [decide_eq_false h]; exact Bool.false_ne_true), if_neg h]
    unfold dkS
    rw [List.map_append]; rfl
theorem insS_mem {us : List Int} {i x : Int} : x ∈ insS us i ↔ x ∈ us ∨ x = i := by
  unfold insS
  by_cases h : i ∈ us
  · rw [if_pos h]
    exact ⟨.inl, fun c => c.elim id fun e => e ▸ h⟩
  · rw [if_neg h, List.mem_append, List.mem_singleton]
theorem insS_nodup {us : List Int} {i : Int} (h : us.Nodup) : (insS us i).Nodup := by
  unfold insS
  by_cases e : i ∈ us
  · rw [if_pos e]; exact h
  · rw [if_neg e]
    exact List.nodup_append.mpr ⟨h, by simp, fun a ha b hb c => e (by rw [List.mem_singleton.mp hb] at c; exact c ▸ ha)⟩
theorem nodup_small : ∀ {n : Nat} {us : List Int}, us.Nodup → (∀ x ∈ us, 0 ≤ x ∧ x < n) → us.length ≤ n
  | 0, us, _, hb => by
    cases us with
    | nil => exact Nat.le_refl _
    | cons a r => have := hb a (List.mem_cons_self ..); omega
  | n + 1, us, h, hb => by
    have := nodup_small (n := n) (us := us.erase (n : Int)) (h.erase _) (fun x hx => by
      obtain ⟨h1, h2⟩ := h.mem_erase_iff.mp hx
      have := hb x h2
      omega)
    have e := List.length_erase (a := (n : Int)) (l := us)
    split at e <;> omega
/-! the state of the draws as a dict at m, its numbers at l -/
def Dm (H : Hp) (m l : Addr) : Prop := ∃ (xs : List Int) (at_ : Nat), H m = some (.dK [(.inr "draws", .ref l), (.inr "at", .int at_)]) ∧ H l = some (.lst (xs.map V.int))
section
variable {K : PySem.W.Frag} {H H' : Hp} {m l x : Addr} {o : HO}
theorem Dm.ne (h : Dm H m l) : l ≠ m := by
  obtain ⟨xs, at_, hm, hl⟩ := h
  intro e
  rw [e, hm] at hl
  cases hl
theorem Dm.upd (h : Dm H m l) (h1 : x ≠ m) (h2 : x ≠ l) : Dm (upd H x o) m l := by
  obtain ⟨xs, at_, hm, hl⟩ := h
  exact ⟨xs, at_, by rw [upd_ne h1.symm]; exact hm, by rw [upd_ne h2.symm]; exact hl⟩
theorem Dm.nep (h : Dm H m l) (hx : H x = none) : x ≠ m := by
  obtain ⟨xs, at_, hm, hl⟩ := h
  exact (ne_of_none hm hx).symm
theorem Dm.nel (h : Dm H m l) (hx : H x = none) : x ≠ l := by
  obtain ⟨xs, at_, hm, hl⟩ := h
  exact (ne_of_none hl hx).symm
theorem Dm.new (h : Dm H m l) (hx : H x = none) : Dm (L2.upd H x o) m l := h.upd (h.nep hx) (h.nel hx)
theorem Dm.same (h : Dm H m l) (s : Same H H') : Dm H' m l := by
  obtain ⟨xs, at_, hm, hl⟩ := h
  exact ⟨xs, at_, s _ _ hm, s _ _ hl⟩
theorem Dm.tk (h : Dm H m l) (f : Fr m H H') : Tk K H H' := by
  obtain ⟨xs, at_, hm, hl⟩ := h
  exact f.tkD hm
theorem CD.stepM {A : Addr} {H0 H H' : Hp} {G : D → Prop} {i : Nat} {y : V} {d : D} (c : CD K (fun H => Dm H m l) m A H0 G i H) (h0 : H0 A = none) (hA : A ≠ m) (hl : A ≠ l) (hi : i < 60000)
    (s : Dm H' m l) (f : Fr m H H') (t : Td K H' y d) (g : G d) : LcEnd A (CD K (fun H => Dm H m l) m A H0 G (i + 1)) y H' :=
  c.step h0 hA hi (s.upd hA hl) f (c.1.tk f) t g
end
theorem CD.appM {K : PySem.W.Frag} {m l A : Addr} {H0 H H' : Hp} {G : D → Prop} {i : Nat} {y : V} {d : D} {Q : VK} (c : CD K (fun H => Dm H m l) m A H0 G i H) (h0 : H0 A = none) (hA : A ≠ m) (hl : A ≠ l) (hi : i < 60000)
    (s : Dm H' m l) (f : Fr m H H') (t : Td K H' y d) (g : G d) (q : ∀ H'', CD K (fun H => Dm H m l) m A H0 G (i + 1) H'' → Q .non H'') : uAppend (.ref A) [y] H' Q := by
  obtain ⟨acc, h1, h2, h3⟩ := c.stepM h0 hA hl hi s f t g
  exact ⟨acc, h1, h2, q _ h3⟩
theorem ints_of {P : Int → Prop} : ∀ {ds : List D}, (∀ d ∈ ds, ∃ i, d = .int i ∧ P i) → ∃ is : List Int, ds = is.map D.int ∧ ∀ i ∈ is, P i
  | [], _ => ⟨[], rfl, fun _ h => nomatch h⟩
  | d :: r, h => by
    obtain ⟨i, e, p⟩ := h d (List.mem_cons_self ..)
    obtain ⟨is, e2, p2⟩ := ints_of (ds := r) (fun x hx => h x (List.mem_cons_of_mem _ hx))
    refine ⟨i :: is, by rw [e, e2]; rfl, fun x hx => ?_⟩
    rcases List.mem_cons.mp hx with rfl | hx
    · exact p
    · exact p2 x hx
theorem TdL.ints {K : PySem.W.Frag} {H : Hp} : ∀ {is : List Int}, TdL K H (is.map V.int) (is.map D.int)
  | [] => .nil
  | i :: r => .cons (.int i) TdL.ints
theorem TdL.ints_inv {K : PySem.W.Frag} {H : Hp} : ∀ {is : List Int} {vs : List V}, TdL K H vs (is.map D.int) → vs = is.map V.int
  | [], _, h => by cases h; rfl
  | i :: r, _, h => by
    cases h with
    | cons h1 h2 => cases h1; rw [TdL.ints_inv h2]; rfl
theorem inV_int {z : Int} : ∀ {ss : List Int}, inV (.int z) (ss.map V.int) = decide (z ∈ ss)
  | [] => rfl
  | s :: ss => by
    have ih := inV_int (z := z) (ss := ss)
    unfold inV at ih ⊢
    rw [List.map_cons, List.any_cons, ih]
    show ((s == z) || decide (z ∈ ss)) = _
    by_cases e : z = s
    · subst e
      rw [decide_eq_true (List.mem_cons_self ..)]
      rw [show (z == z) = true from beq_self_eq_true z]
      rfl
    · rw [show (s == z) = false from beq_eq_false_iff_ne.mpr (fun c => e c.symm), Bool.false_or]
      exact decide_eq_decide.mpr ⟨fun h => List.mem_cons_of_mem _ h, fun h => (List.mem_cons.mp h).resolve_left e⟩
theorem flat_ints {ss : List Int} : (ss.map V.int).all flatV = true := by
  induction ss with
  | nil => rfl
  | cons s r ih => rw [List.map_cons, List.all_cons, ih]; rfl
theorem r_inI {K : PySem.W.Frag} {H : Hp} {Q : VK} {p : Addr} {z : Int} {ss : List Int} (hp : SqL K H p (ss.map V.int)) (q : Q (.bl (decide (z ∈ ss))) H) : uIn K id (.int z) (.ref p) H Q := ⟨_, .inl hp, rfl, flat_ints, by rw [inV_int]; exact q⟩
theorem r_niI {K : PySem.W.Frag} {H : Hp} {Q : VK} {p : Addr} {z : Int} {ss : List Int} (hp : SqL K H p (ss.map V.int)) (q : Q (.bl (!decide (z ∈ ss))) H) : uIn K not (.int z) (.ref p) H Q := ⟨_, .inl hp, rfl, flat_ints, by rw [inV_int]; exact q⟩
/-- two rising lists with the same members -/
theorem rise_eq : ∀ {xs ys : List Int}, xs.Pairwise (· < ·) → ys.Pairwise (· < ·) → (∀ x, x ∈ xs ↔ x ∈ ys) → xs = ys
  | [], [], _, _, _ => rfl
  | [], y :: ys, _, _, h => by have := (h y).mpr (List.mem_cons_self ..); cases this
  | x :: xs, [], _, _, h => by have := (h x).mp (List.mem_cons_self ..); cases this
  | x :: xs, y :: ys, h1, h2, h => by
    obtain ⟨a1, a2⟩ := List.pairwise_cons.mp h1
    obtain ⟨b1, b2⟩ := List.pairwise_cons.mp h2
    have e : x = y := by
      rcases List.mem_cons.mp ((h x).mp (List.mem_cons_self ..)) with e | e
      · exact e
      rcases List.mem_cons.mp ((h y).mpr (List.mem_cons_self ..)) with e2 | e2
      · exact e2.symm
      have := b1 x e
      have := a1 y e2
      omega
    subst e
    rw [rise_eq (xs := xs) (ys := ys) a2 b2 fun z => ⟨fun hz => ?_, fun hz => ?_⟩]
    · rcases List.mem_cons.mp ((h z).mp (List.mem_cons_of_mem _ hz)) with e | e
      · have := a1 z hz; omega
      · exact e
    · rcases List.mem_cons.mp ((h z).mpr (List.mem_cons_of_mem _ hz)) with e | e
      · have := b1 z hz; omega
      · exact e
theorem rise_of {xs : List Int} (h1 : xs.Pairwise (· ≤ ·)) (h2 : xs.Nodup) : xs.Pairwise (· < ·) := by
  refine List.Pairwise.imp₂ (R := (· ≤ ·)) (S := (· ≠ ·)) (T := (· < ·)) (fun a b h h' => ?_) h1 h2
  omega
/-- all but two cells stays -/
def Fr2 (u b : Addr) (H H' : Hp) : Prop := ∀ c x, c ≠ u → c ≠ b → H c = some x → H' c = some x
/-- no tuple -/
def Nt (H : Hp) (u : Addr) : Prop := (∀ xs, H u ≠ some (.tup xs)) ∧ ∀ ob xs, H u ≠ some (.frz ob (.tup xs))
section
variable {K : PySem.W.Frag} {H H' H2 : Hp} {u b x : Addr} {o : HO}
theorem Fr2.refl : Fr2 u b H H := fun _ _ _ _ h => h
theorem Fr2.trans (f : Fr2 u b H H') (g : Fr2 u b H' H2) : Fr2 u b H H2 := fun c x h1 h2 e => g c x h1 h2 (f c x h1 h2 e)
theorem Fr2.same (s : Same H H') : Fr2 u b H H' := fun c x _ _ e => s c x e
theorem Fr2.mu (f : Fr2 u b H H') : Fr2 u b H (upd H' u o) := fun c x h1 h2 e => by rw [upd_ne h1]; exact f c x h1 h2 e
theorem Fr2.mb (f : Fr2 u b H H') : Fr2 u b H (upd H' b o) := fun c x h1 h2 e => by rw [upd_ne h2]; exact f c x h1 h2 e
theorem Nt.lst {xs : List V} (h : H u = some (.lst xs)) : Nt H u := ⟨fun xs e => by rw [h] at e; (cases e), fun ob xs e => by rw [h] at e; (cases e)⟩
theorem Nt.dK {xs : List (Key × V)} (h : H u = some (.dK xs)) : Nt H u := ⟨fun xs e => by rw [h] at e; (cases e), fun ob xs e => by rw [h] at e; (cases e)⟩
theorem Fr2.tk (f : Fr2 u b H H') (h1 : Nt H u) (h2 : Nt H b) : Tk K H H' := fun a ys h => by
  rcases h with (h | ⟨ob, h⟩) | h
  · exact .inl (.inl (f _ _ (fun e => h1.1 _ (e ▸ h)) (fun e => h2.1 _ (e ▸ h)) h))
  · exact .inl (.inr ⟨ob, f _ _ (fun e => h1.2 _ _ (e ▸ h)) (fun e => h2.2 _ _ (e ▸ h)) h⟩)
  · exact .inr h
end
abbrev spDraws (K : PySem.W.Frag) : Sp := fun vs H Q _ => ∃ (a : Addr) (ns : List Int), vs = [.ref a] ∧ SqL K H a (ns.map V.int) ∧ ns.length ≤ 63 ∧ ∀ l (xs : List Int) H', Same H H' → H l = none → H' l = some (.lst (xs.map V.int)) → Q (.ref l) H'
abbrev spTakeM (K : PySem.W.Frag) : Sp := fun vs H Q _ => ∃ (m l : Addr) (k : Int), vs = [.ref m, .int k] ∧ 0 < k ∧ Dm H m l ∧ ∀ (n : Int) H', 0 ≤ n → n < k → Dm H' m l → (∀ b, b ≠ m → H' b = H b) → Q (.int n) H'
end U
/-! U6: more of texts, bits, sorted(dict), is of bools. -/
namespace U
open PySem PySem.Spec L2
def uSplit : RM := fun x xs H Q => match x, xs with
  | .str a, [.str b] => (b.length == 0) = false ∧ a.length + 2 ≤ sizeLine ∧ rNewStrs (Txt.split a b) H Q
  | _, _ => False
theorem m_split {X : Cx} : MtR X "str.split" uSplit := by
  intro pins s σ H x xs v us Q I rx rs h
  unfold uSplit at h
  split at h
  · exact mt_split pins s σ H _ _ v us Q I rx rs ⟨_, _, rfl, rfl, h⟩
  · exact h.elim
def uUpper : RM := fun x xs H Q => match x, xs with
  | .str a, [] => a.length ≤ 5592405 ∧ Q (.str (Txt.upper a)) H
  | _, _ => False
theorem m_upper {X : Cx} : MtR X "str.upper" uUpper := by
  intro pins s σ H x xs v us Q I rx rs h
  unfold uUpper at h
  split at h
  · exact mt_upper pins s σ H _ _ v us Q I rx rs ⟨_, rfl, rfl, h⟩
  · exact h.elim
def uLower : RM := fun x xs H Q => match x, xs with
  | .str a, [] => a.length ≤ 5592405 ∧ Q (.str (Txt.lower a)) H
  | _, _ => False
theorem m_lower {X : Cx} : MtR X "str.lower" uLower := by
  intro pins s σ H x xs v us Q I rx rs h
  unfold uLower at h
  split at h
  · exact mt_lower pins s σ H _ _ v us Q I rx rs ⟨_, rfl, rfl, h⟩
  · exact h.elim
def uXor : R2 := fun x y H Q => match x, y with
  | .int i, .int j => Q (.int (Builtin.bitXor i j)) H
  | _, _ => False
theorem o_xor {X : Cx} : OpR X (binaryOp .BitXor) uXor := by
  intro pins s σ H x y v u Q I rx ry h
  cases x <;> cases y <;> first | exact (show False from h).elim | skip
  exact op_xor pins s σ H _ _ v u Q I rx ry ⟨_, _, rfl, rfl, h⟩
abbrev uIsB : R2 := rIsB
abbrev uNotB : R2 := rNotB
def uSortD (K : PySem.W.Frag) : RC := fun xs H Q => ∃ (a : Addr) (kvs : List (Key × V)) (ks : List Str), xs = [.ref a] ∧ Rd H a (.dK kvs) ∧ kvs.map (·.1) = ks.map Sum.inr ∧ ks.length < 64 ∧
    ∀ ys p, ys.Perm ks → PyProof.Rows.sortedS ys = true → H p = none → Q (.ref p) (upd H p (.lst (ys.map V.str)))
theorem c_sortD {X : Cx} (hc : X.calm = true) : CallR X (.builtin "sorted") (uSortD X.K) := call_sortedD hc
section
variable {K : PySem.W.Frag} {H : Hp} {Q : VK} {a b : Bool} {x y : Str} {i j : Int}
theorem r_isB (h : Q (.bl (decide (a = b))) H) : uIsB (.bl a) (.bl b) H Q := ⟨a, b, rfl, rfl, h⟩
theorem r_notB (h : Q (.bl (!decide (a = b))) H) : uNotB (.bl a) (.bl b) H Q := ⟨a, b, rfl, rfl, h⟩
theorem r_xor (h : Q (.int (Builtin.bitXor i j)) H) : uXor (.int i) (.int j) H Q := h
theorem r_upper (hl : x.length ≤ 5592405) (h : Q (.str (Txt.upper x)) H) : uUpper (.str x) [] H Q := ⟨hl, h⟩
theorem r_split (h1 : (y.length == 0) = false) (h2 : x.length + 2 ≤ sizeLine) (h : ∀ p, H p = none → Q (.ref p) (upd H p (.lst ((Txt.split x y).map V.str)))) : uSplit (.str x) [.str y] H Q := ⟨h1, h2, h⟩
/-- a text in a list of texts -/
theorem r_inSL {p : Addr} {z : Str} {ss : List Str} (hp : SqL K H p (ss.map V.str)) (q : Q (.bl (decide (z ∈ ss))) H) : uIn K id (.str z) (.ref p) H Q := ⟨_, .inl hp, rfl, flat_strs, by rw [inV_str]; exact q⟩
theorem r_niSL {p : Addr} {z : Str} {ss : List Str} (hp : SqL K H p (ss.map V.str)) (q : Q (.bl (!decide (z ∈ ss))) H) : uIn K not (.str z) (.ref p) H Q := ⟨_, .inl hp, rfl, flat_strs, by rw [inV_str]; exact q⟩
end
end U
/-! U7: a dict display of more than 16 pairs of constants. -/
namespace U
open PySem PySem.Spec L2
open Sem (wp)
section
variable {prog : Program} {w : World} {K : Type} [DecidableEq K] {knd : KeyKind prog w K} {A : Around} {E : Value → Shared → Prop} {s : Shared}
theorem wp_dictPut {d : Addr} {kvs : List (K × Value)} {k : K} {key v : Value} {Q : Unit → Shared → Prop} (hkey : knd.is k key = true) (hm : s.heap.DictOf knd d kvs)
    (hQ : ∀ h', h'.DictOf knd d (stored kvs k v) → Heap.SameBut d s.heap h' → Q () { s with heap := h' })
    (hsz : kvs.length ≤ sizeLine) :
    wpAny (model prog w) A (dictPut d (knd.hash k) key v) Q E s := by
  obtain ⟨o, es, ep, ho, hc, hd, hk, hp, hn⟩ := hm
  have hes : es.size ≤ sizeLine := by
    have e1 := hp.length
    have e2 : es.toList.length = es.size := by simp
    omega
  unfold dictPut
  refine wpAny_bind (wpAny_dictFind_of hkey ho hd hk ?_)
  have hidx : (es.findIdx? fun e => knd.is k e.key) = kvs.findIdx? fun kv => decide (kv.1 = k) := by
    rw [← hp.findIdx k]; obtain ⟨l⟩ := es; simp
  cases hi : es.findIdx? fun e => knd.is k e.key with
  | some i =>
    refine wpAny_updateDict ho hd (hQ _ ⟨_, _, ep, Heap.get?_update_self _ ho (Obj.isFreed_of_dict (Obj.data_mapDict hd _)),
      hc.mapDict _, Obj.data_mapDict hd _, hk.modify _ _, ?_, ?_⟩ (Heap.SameBut.update ..))
    · rw [stored, if_pos (any_of_findIdx_some (hidx ▸ hi))]
      have hl : (es.toList.findIdx? fun e => knd.is k e.key) = some i := by rw [← hi]; obtain ⟨l⟩ := es; simp
      have := hp.modify hn hl v
      obtain ⟨l⟩ := es
      simpa using this
    · rw [stored, if_pos (any_of_findIdx_some (hidx ▸ hi)), keys_map_store]; exact hn
  | none =>
    have hnot : k ∉ kvs.map (·.1) := not_mem_of_findIdx_none (hidx ▸ hi)
    have hany : ¬ (kvs.any fun kv => decide (kv.1 = k)) = true := by
      rw [List.any_eq_true]; rintro ⟨kv, hkv, he⟩
      exact hnot (List.mem_map.mpr ⟨kv, hkv, of_decide_eq_true he⟩)
    refine wpAny_updateDictKeys (hz := hes) ho hd (hQ _ ⟨_, _, ep + 1, Heap.get?_update_self _ ho (Obj.isFreed_of_dict (Obj.data_mapDictKeys hd _)),
      hc.mapDictKeys _, Obj.data_mapDictKeys hd _, hk.push hkey _, ?_, ?_⟩ (Heap.SameBut.update ..))
    · rw [stored, if_neg hany]
      have := hp.append hkey (knd.hash k) v
      obtain ⟨l⟩ := es
      simpa using this
    · rw [stored, if_neg hany, List.map_append, List.nodup_append]
      refine ⟨hn, by simp, ?_⟩
      intro a ha b hb
      simp only [List.map_cons, List.map_nil, List.mem_singleton] at hb
      subst hb
      exact fun e => hnot (e ▸ ha)
theorem wp_merge {d o : Addr} {kvs more : List (K × Value)} {Q : Unit → Shared → Prop} (hdo : d ≠ o) (hoS : (o == sysModules) = false)
    (hd : s.heap.DictOf knd d kvs) (ho : s.heap.DictOf knd o more) (h0 : kvs ≠ [])
    (hQ : ∀ h', h'.DictOf knd d (merged kvs more) → h'.DictOf knd o more → Heap.SameBut d s.heap h' → Q () { s with heap := h' })
    (hsz : kvs.length + more.length ≤ sizeLine) :
    wpAny (model prog w) A (mergeMapping d (.ref o) false) Q E s := by
  have hty := ho.typeIs
  obtain ⟨od, esd, epd, hod, hcd, hdd, hkd, hpd, hnd⟩ := id hd
  obtain ⟨oo, eso, epo, hoo, hco, hdo', hko, hpo, hno⟩ := id ho
  have hlen : more.length = eso.size := by rw [← hpo.length]; simp
  have hne : esd.isEmpty = false := by
    cases he : esd.isEmpty with
    | false => rfl
    | true =>
      have h1 : esd = #[] := Array.isEmpty_iff.mp he
      have := hpd.length
      rw [h1] at this
      exact absurd (List.length_eq_zero_iff.mp (by simpa using this.symm)) h0
  unfold mergeMapping
  refine wpAny_bind (wpAny_isInstance hty isSubtype_dict_dict ?_)
  dsimp only
  rw [if_pos rfl]
  refine wpAny_bind (wpAny_specialOf hty F.slot_dict_iter.lookup ?_)
  refine wpAny_bind (wpAny_pure ?_)
  have e1 : ((some (Value.builtin "dict.__iter__")) == some (Value.builtin "dict.__iter__")) = true := by rfl
  rw [e1]
  dsimp only
  rw [if_neg (by rw [hoS]; exact Bool.false_ne_true)]
  refine wpAny_bind (wpAny_dictEntries hod hdd ?_)
  rw [if_neg (by rw [hne]; exact Bool.false_ne_true)]
  refine wpAny_bind (wpAny_dictEntries hoo hdo' ?_)
  refine wpAny_bind (wpAny_dictEpoch hoo hdo' ?_)
  refine wpAny_bind ?_
  refine wpAny_forIn_list _
      (fun rest _ s' => ∃ h' i, s' = { s with heap := h' } ∧ rest = List.range' i (eso.size - i) ∧ i ≤ eso.size ∧ h'.DictOf knd d (merged kvs (more.take i)) ∧ h'.get? o = some oo ∧ Heap.SameBut d s.heap h')
      _ ?_ ?_ _ _ ⟨s.heap, 0, rfl, by simp [List.range_eq_range'], Nat.zero_le _, by simpa [merged] using hd, hoo, Heap.SameBut.refl _ _⟩
  · rintro x rest b s' ⟨h', i, rfl, hr, hi, hd', hoo', hs'⟩
    have hlt : i < eso.size := by
      rcases Nat.lt_or_ge i eso.size with h | h
      · exact h
      · rw [Nat.sub_eq_zero_of_le h] at hr; simp at hr
    obtain ⟨rfl, hrest⟩ : x = i ∧ rest = List.range' (i + 1) (eso.size - (i + 1)) := by
      have e : eso.size - i = (eso.size - (i + 1)) + 1 := by omega
      rw [e, List.range'_succ] at hr
      injection hr with h1 h2
      exact ⟨h1, h2⟩
    refine wpAny_bind (wpAny_dictEntries hoo' hdo' ?_)
    rw [Array.getElem?_eq_getElem hlt]
    obtain ⟨kv, hkv⟩ : ∃ kv, more[x]? = some kv := ⟨more[x]'(by rw [hlen]; exact hlt), List.getElem?_eq_getElem _⟩
    obtain ⟨k, v⟩ := kv
    obtain ⟨hkey, hval⟩ := hpo.get? (e := eso[x]) (by simp [hlt]) hkv
    obtain ⟨k', hkey', hhash⟩ := hko eso[x] (Array.getElem_mem hlt)
    obtain rfl : k' = k := knd.inj _ _ _ hkey' hkey
    have hmx : (merged kvs (more.take x)).length ≤ sizeLine := by
      have e1 := merged_length_le kvs (more.take x)
      have e2 : (more.take x).length ≤ more.length := by rw [List.length_take]; omega
      omega
    dsimp only
    rw [if_neg Bool.false_ne_true, hhash, hval]
    refine wpAny_bind (wpAny_holding (wp_dictPut (hsz := hmx) hkey hd' fun h'' hd'' hs'' => ?_))
    have hoo'' : h''.get? o = some oo := (hs''.2 o (Ne.symm hdo)).trans hoo'
    refine wpAny_bind (wpAny_dictEpoch hoo'' hdo' ?_)
    rw [if_neg (by simp)]
    exact wpAny_pure ⟨h'', x + 1, rfl, hrest, hlt, by rw [merged_take_succ kvs more x (k', v) hkv]; exact hd'', hoo'', hs'.trans hs''⟩
  · rintro b s' ⟨h', i, rfl, hr, hi, hd', hoo', hs'⟩
    have hin : i = eso.size := by
      rcases Nat.lt_or_ge i eso.size with h | h
      · have e : eso.size - i = (eso.size - (i + 1)) + 1 := by omega
        rw [e, List.range'_succ] at hr; exact nomatch hr
      · exact Nat.le_antisymm hi h
    refine wpAny_pure (hQ h' ?_ ⟨oo, eso, epo, hoo', hco, hdo', hko, hpo, hno⟩ hs')
    rw [hin, ← hlen, List.take_length] at hd'; exact hd'
end
/-- one pair of a display: two constants -/
structure CE where
  k : Expr
  v : Expr
  key : Key
  val : V
def CE.pair (env : Env) (pos : Pos) (e : CE) : Sem Value × Sem Value := (eval e.k env, do let x ← eval e.v env; standAt pos; pure x)
def CE.kv (e : CE) : Key × V := (e.key, e.val)
structure CeOk (X : Cx) (e : CE) : Prop where
  k : PE X e.k (tC (kV e.key))
  v : PE X e.v (tC e.val)
theorem upd_id {H : Hp} {p : Addr} {o : HO} (h : H p = some o) : upd H p o = H := by
  funext b
  by_cases e : b = p
  · subst e; rw [upd_same, h]
  · rw [upd_ne e]
theorem upd_upd {H : Hp} {p : Addr} {o o' : HO} : upd (upd H p o) p o' = upd H p o' := by
  funext b
  by_cases e : b = p
  · subst e; rw [upd_same, upd_same]
  · rw [upd_ne e, upd_ne e, upd_ne e]
section
variable {X : Cx} {pins : List (Addr × Obj)} {σ : St} {H : Hp} {s : Shared} {p : Addr} {pos : Pos}
theorem ce_vals {e : CE} {s : Shared} {Q : Value → Shared → Prop} (ok : CeOk X e) (I : Inv X pins σ H s) (q : ∀ v s', Inv X pins σ H s' → RelV e.val v → Q v s') : wpAny (model X.prog X.w) X.A (CE.pair X.env pos e).2 Q X.xe s :=
  wpAny_bind (thn (ok.v.run pins s σ H (fun x H' => x = e.val ∧ H' = H) I ⟨rfl, rfl⟩) fun v s1 ⟨x, H1, I1, r, ex, eH⟩ => wpAny_bind (wpAny_standAt (wpAny_pure (by
    subst ex eH
    exact q v s1 I1 r))))
theorem ce_keys {e : CE} {s : Shared} {Q : Value → Shared → Prop} (ok : CeOk X e) (I : Inv X pins σ H s) (q : ∀ v s', Inv X pins σ H s' → RelV (kV e.key) v → Q v s') : wpAny (model X.prog X.w) X.A (CE.pair X.env pos e).1 Q X.xe s :=
  thn (ok.k.run pins s σ H (fun x H' => x = kV e.key ∧ H' = H) I ⟨rfl, rfl⟩) fun v s1 ⟨x, H1, I1, r, ex, eH⟩ => by
    subst ex eH
    exact q v s1 I1 r
theorem dk_set {acc : List (Key × V)} {k : Key} {v : V} {kv vv : Value} {Q : Unit → Shared → Prop} (I : Inv X pins σ H s) (e : H p = some (.dK acc)) (hl : acc.length < sizeLine) (rk : RelV (kV k) kv) (rv : RelV v vv) (q : ∀ s', Inv X pins σ (upd H p (.dK (putK acc k v))) s' → Q () s') :
    wpAny (model X.prog X.w) X.A (dictSet p kv vv) Q X.xe s := by
  obtain ⟨z, hd, vs0, r0, dd⟩ := dk_of I.hok e
  have hv : vs0.length ≤ sizeLine := by
    have : acc.length = vs0.length := Paired.length r0
    omega
  refine wpAny_dictSet_pairs (knd := mixKind X.prog X.w) (kV_is rk) dd (fun h' dd' hs => q _ ?_) hv
  have he : ∃ o, h'.get? p = some o := let ⟨o, _, _, hq, _⟩ := dd'; ⟨o, hq⟩
  have hz := length_putK acc k v
  exact d_write I (by rw [e]; exact True.intro) hs he (dk_new (by omega) hd (r0.put k rv) dd')
theorem loop_set : ∀ (es : List CE) (acc : List (Key × V)) (s : Shared) (H : Hp) (Q : PUnit → Shared → Prop), (∀ e ∈ es, CeOk X e) → Inv X pins σ H s → H p = some (.dK acc) → acc.length + es.length ≤ 1000 → (∀ s', Inv X pins σ (upd H p (.dK (mergeK acc (es.map CE.kv)))) s' → Q PUnit.unit s') →
    wpAny (model X.prog X.w) X.A (forIn (es.map (CE.pair X.env pos)) PUnit.unit fun (x : Sem Value × Sem Value) (_ : PUnit) => (do
      let kv ← x.1
      let vv ← holding [kv] x.2
      holding [kv, vv] (dictSet p kv vv)
      pure (ForInStep.yield PUnit.unit) : Sem (ForInStep PUnit))) Q X.xe s
  | [], acc, s, H, Q, _, I, e, _, q => by
    rw [List.map_nil, List.forIn_nil]
    refine wpAny_pure (q s ?_)
    show Inv X pins σ (upd H p (.dK acc)) s
    rw [upd_id e]
    exact I
  | c :: es, acc, s, H, Q, ok, I, e, hl, q => by
    rw [List.map_cons, List.forIn_cons]
    rw [List.length_cons] at hl
    have z : (1000 : Nat) < sizeLine := by rw [sizeLine_eq]; decide
    have hp := length_putK acc c.key c.val
    refine wpAny_bind (wpAny_bind (ce_keys (ok c (List.mem_cons_self ..)) I fun kv s1 I1 rk => wpAny_bind (wpAny_holding (ce_vals (ok c (List.mem_cons_self ..)) I1 fun vv s2 I2 rv => wpAny_bind (wpAny_holding (dk_set I2 e (by omega) rk rv fun s3 I3 => wpAny_pure ?_))))))
    refine loop_set es (putK acc c.key c.val) s3 _ Q (fun x hx => ok x (List.mem_cons_of_mem _ hx)) I3 upd_same (by omega) fun s4 I4 => q s4 ?_
    rw [upd_upd] at I4
    exact I4
theorem sub_long {es : List CE} {Q : Addr → Shared → Prop} (ok : ∀ e ∈ es, CeOk X e) (I : Inv X pins σ H s) (h1 : 15 < es.length) (h2 : es.length ≤ 1000) (q : ∀ d s', H d = none → Inv X pins σ (upd H d (.dK (mergeK [] (es.map CE.kv)))) s' → Q d s') :
    wpAny (model X.prog X.w) X.A (subDict (es.map (CE.pair X.env pos))) Q X.xe s := by
  have hn := I.hok.fresh (Nat.le_refl s.heap.objs.size)
  have I1 := I.laid (a := s.heap.objs.size) (o := .dK []) (h' := s.heap.push { cls := .type "dict", data := .dict #[] }) (t' := s.toks) (fun _ _ q => Heap.get?_push_of_some _ q) (Nat.le_refl _) (dk_empty s.heap I.big)
  unfold subDict
  refine wpAny_bind (wpAny_alloc ?_)
  refine wpAny_bind (wpAny_holding ?_)
  rw [if_neg (by rw [List.length_map]; omega)]
  refine wpAny_bind (wpAny_rule ?_)
  refine wpAny_bind (loop_set es [] _ _ _ ok I1 upd_same (by simpa using h2) fun s' I' => wpAny_pure (wpAny_pure (q _ _ hn ?_)))
  rw [upd_upd] at I'
  exact I'
theorem pairs_run : ∀ (es : List CE) (s : Shared) (Q : List (Value × Value) → Shared → Prop), (∀ e ∈ es, CeOk X e) → Inv X pins σ H s → (∀ vs s', Inv X pins σ H s' → VV (es.map fun e => (kV e.key, e.val)) vs → Q vs s') →
    wpAny (model X.prog X.w) X.A (evalPairs (es.map (CE.pair X.env pos))) Q X.xe s
  | [], s, Q, _, I, q => evalPairs_nil (q [] s I .nil)
  | c :: es, s, Q, ok, I, q => evalPairs_cons (ce_keys (pos := pos) (ok c (List.mem_cons_self ..)) I fun kv s1 I1 rk => ce_vals (ok c (List.mem_cons_self ..)) I1 fun vv s2 I2 rv =>
      pairs_run es s2 _ (fun x hx => ok x (List.mem_cons_of_mem _ hx)) I2 fun vs s3 I3 r => q _ s3 I3 (.cons ⟨rk, rv⟩ r))
theorem sub_short {es : List CE} {Q : Addr → Shared → Prop} (ok : ∀ e ∈ es, CeOk X e) (I : Inv X pins σ H s) (h1 : es.length ≤ 15) (q : ∀ d s', H d = none → Inv X pins σ (upd H d (.dK (mergeK [] (es.map CE.kv)))) s' → Q d s') :
    wpAny (model X.prog X.w) X.A (subDict (es.map (CE.pair X.env pos))) Q X.xe s := by
  have hn := I.hok.fresh (Nat.le_refl s.heap.objs.size)
  have I1 := I.laid (a := s.heap.objs.size) (o := .dK []) (h' := s.heap.push { cls := .type "dict", data := .dict #[] }) (t' := s.toks) (fun _ _ q => Heap.get?_push_of_some _ q) (Nat.le_refl _) (dk_empty s.heap I.big)
  refine wpAny_subDict (knd := mixKind X.prog X.w) (by rw [List.length_map]; exact h1) (pairs_run es _ _ ok I1 fun vs s2 I2 r => ?_)
  have r' : VV ((es.map CE.kv).map fun kv => (kV kv.1, kv.2)) vs := by
    rw [List.map_map]
    exact r
  obtain ⟨rs, c, rk⟩ := carries_of (P := X.prog) (w := X.w) r'
  obtain ⟨z, hd, vs0, r0, dd⟩ := dk_of I2.hok upd_same
  cases r0
  refine ⟨rs, c, dd, fun h' dd' hs => q _ _ hn ?_⟩
  have hz : (mergeK [] (es.map CE.kv)).length ≤ sizeLine := by
    have h1 := length_mergeK (es.map CE.kv) []
    rw [List.length_nil, List.length_map] at h1
    rw [sizeLine_eq]; omega
  have he : ∃ q, h'.get? s.heap.objs.size = some q := let ⟨q, _, _, hq, _⟩ := dd'; ⟨q, hq⟩
  have I3 := d_write (t' := s2.toks + vs.length) I2 (ob := .dK (mergeK [] (es.map CE.kv))) (by rw [upd_same]; exact True.intro) hs he (dk_new hz hd (rk.merge .nil) dd')
  rw [upd_upd] at I3
  exact I3
theorem dk_merge {d o : Addr} {m1 m2 : List (Key × V)} {Q : Unit → Shared → Prop} {E : Value → Shared → Prop} (I : Inv X pins σ H s) (hne : d ≠ o) (e1 : H d = some (.dK m1)) (e2 : H o = some (.dK m2)) (h0 : m1 ≠ []) (hl : m1.length + m2.length ≤ 1000) (q : ∀ s', Inv X pins σ (upd H d (.dK (mergeK m1 m2))) s' → Q () s') :
    wpAny (model X.prog X.w) X.A (mergeMapping d (.ref o) false) Q E s := by
  obtain ⟨z1, hd1, vs1, r1, dd1⟩ := dk_of I.hok e1
  obtain ⟨z2, hd2, vs2, r2, dd2⟩ := dk_of I.hok e2
  have l1 : m1.length = vs1.length := Paired.length r1
  have l2 : m2.length = vs2.length := Paired.length r2
  have z : (1000 : Nat) < sizeLine := by rw [sizeLine_eq]; decide
  refine wp_merge (knd := mixKind X.prog X.w) hne hd2 dd1 dd2 (fun c => h0 (List.eq_nil_of_length_eq_zero (by rw [l1, c]; rfl))) (fun h' dd' _ hs => q _ ?_) (by omega)
  have he : ∃ o, h'.get? d = some o := let ⟨o, _, _, hq, _⟩ := dd'; ⟨o, hq⟩
  have hz := length_mergeK m2 m1
  exact d_write I (by rw [e1]; exact True.intro) hs he (dk_new (by omega) hd1 (r2.merge r1) dd')
theorem display_long {es1 es2 : List CE} {Q : Value → Shared → Prop} (ok1 : ∀ e ∈ es1, CeOk X e) (ok2 : ∀ e ∈ es2, CeOk X e) (I : Inv X pins σ H s) (h1 : es1.length = 17) (h2 : es2.length ≤ 15) (h0 : es2 ≠ [])
    (q : ∀ d s' H', H d = none → Same H H' → H' d = some (.dK (mergeK (mergeK [] (es1.map CE.kv)) (mergeK [] (es2.map CE.kv)))) → Inv X pins σ H' s' → Q (.ref d) s') :
    wpAny (model X.prog X.w) X.A (dictDisplay ((es1 ++ es2).map fun e => (some (CE.pair X.env pos e).1, (CE.pair X.env pos e).2))) Q X.xe s := by
  unfold dictDisplay
  dsimp only
  refine wpAny_bind (wpAny_forIn_list _
    (fun rest st s' => ∃ done left : List CE, es1 ++ es2 = done ++ left ∧ rest = left.map (fun e => (some (CE.pair X.env pos e).1, (CE.pair X.env pos e).2)) ∧
      ((done.length < 17 ∧ st = (none, done.map (CE.pair X.env pos)) ∧ s' = s) ∨ (17 ≤ done.length ∧ ∃ d, st = (some d, (done.drop 17).map (CE.pair X.env pos)) ∧ H d = none ∧ Inv X pins σ (upd H d (.dK (mergeK [] (es1.map CE.kv)))) s')))
    _ ?_ ?_ _ _ ⟨[], es1 ++ es2, rfl, rfl, .inl ⟨by simp, rfl, rfl⟩⟩)
  · rintro x rest st s' ⟨done, left, e, er, h⟩
    cases left with
    | nil => cases er
    | cons c left =>
      rw [List.map_cons] at er
      cases er
      have e' : es1 ++ es2 = (done ++ [c]) ++ left := by rw [e]; simp
      have lall := congrArg List.length e
      rw [List.length_append, List.length_append, List.length_cons, h1] at lall
      rcases h with ⟨hd, rfl, rfl⟩ | ⟨hd, d, rfl, hn, I'⟩
      · dsimp only
        have el : (done.map (CE.pair X.env pos) ++ [((CE.pair X.env pos c).1, (CE.pair X.env pos c).2)]) = (done ++ [c]).map (CE.pair X.env pos) := by rw [List.map_append]; rfl
        rw [el]
        by_cases h17 : done.length + 1 = 17
        · have hb : (((done ++ [c]).map (CE.pair X.env pos)).length == 17) = true := by simp [h17]
          rw [if_pos hb]
          have e1 : done ++ [c] = es1 := by
            have := congrArg (List.take 17) e'
            rw [List.take_append_of_le_length (by omega), List.take_append_of_le_length (by simp; omega), List.take_of_length_le (by omega), List.take_of_length_le (by simp; omega)] at this
            exact this.symm
          have hemp : ((done ++ [c]).map (CE.pair X.env pos)).isEmpty = false := by simp
          rw [if_neg (by rw [hemp]; exact Bool.false_ne_true), e1]
          refine wpAny_bind (wpAny_bind (sub_long ok1 I (by omega) (by omega) fun d s2 hn I2 => wpAny_pure (wpAny_pure ?_)))
          refine ⟨done ++ [c], left, e', rfl, .inr ⟨by simp; omega, d, ?_, hn, I2⟩⟩
          rw [List.drop_of_length_le (by simp; omega)]
          rfl
        · have hb : (((done ++ [c]).map (CE.pair X.env pos)).length == 17) = false := by simp; omega
          rw [if_neg (by rw [hb]; exact Bool.false_ne_true)]
          exact wpAny_pure ⟨done ++ [c], left, e', rfl, .inl ⟨by simp; omega, rfl, rfl⟩⟩
      · dsimp only
        have el : ((done.drop 17).map (CE.pair X.env pos) ++ [((CE.pair X.env pos c).1, (CE.pair X.env pos c).2)]) = ((done ++ [c]).drop 17).map (CE.pair X.env pos) := by
          rw [List.drop_append_of_le_length hd, List.map_append]; rfl
        rw [el]
        have hb : ((((done ++ [c]).drop 17).map (CE.pair X.env pos)).length == 17) = false := by simp; omega
        rw [if_neg (by rw [hb]; exact Bool.false_ne_true)]
        exact wpAny_pure ⟨done ++ [c], left, e', rfl, .inr ⟨by simp; omega, d, rfl, hn, I'⟩⟩
  · rintro st s' ⟨done, left, e, er, h⟩
    have el : left = [] := by
      cases left with
      | nil => rfl
      | cons c l => cases er
    subst el
    rw [List.append_nil] at e
    have ld := congrArg List.length e
    rw [List.length_append, h1] at ld
    rcases h with ⟨hd, _⟩ | ⟨hd, d, rfl, hn, I'⟩
    · omega
    · have e2 : done.drop 17 = es2 := by
        rw [← e, List.drop_append_of_le_length (by omega), List.drop_of_length_le (by omega), List.nil_append]
      rw [e2]
      dsimp only
      have hemp : (es2.map (CE.pair X.env pos)).isEmpty = false := by
        cases es2 with
        | nil => exact absurd rfl h0
        | cons c r => rfl
      rw [if_neg (by rw [hemp]; exact Bool.false_ne_true)]
      have m10 : mergeK [] (es1.map CE.kv) ≠ [] := by
        cases es1 with
        | nil => simp at h1
        | cons c r =>
          intro z
          have : ∀ (more kvs : List (Key × V)), kvs ≠ [] → mergeK kvs more ≠ [] := by
            intro more
            induction more with
            | nil => intro kvs h; exact h
            | cons x xs ih =>
              intro kvs h
              refine ih (putK kvs x.1 x.2) ?_
              unfold putK
              split
              · intro c2; exact h (List.map_eq_nil_iff.mp c2)
              · simp
          refine this (r.map CE.kv) (putK [] c.key c.val) ?_ z
          show (if _ then _ else _) ≠ _
          simp
      refine wpAny_bind (wpAny_bind (wpAny_holding (sub_short ok2 I' h2 fun d2 s2 hn2 I2 => ?_)))
      have ned : d ≠ d2 := fun c => by rw [← c, upd_same] at hn2; cases hn2
      have ed : upd (upd H d (.dK (mergeK [] (es1.map CE.kv)))) d2 (.dK (mergeK [] (es2.map CE.kv))) d = some (.dK (mergeK [] (es1.map CE.kv))) := by rw [upd_ne ned, upd_same]
      have l1 := length_mergeK (es1.map CE.kv) []
      have l2 := length_mergeK (es2.map CE.kv) []
      rw [List.length_map, List.length_nil] at l1 l2
      refine wpAny_bind (wpAny_onRaise (wpAny_holding (dk_merge I2 ned ed upd_same m10 (by omega) fun s3 I3 => wpAny_pure (wpAny_pure (q d s3 _ hn ?_ upd_same I3)))))
      have hn2' : H d2 = none := by rw [upd_ne ned.symm] at hn2; exact hn2
      exact same_mut (same_mut (same_new hn) hn2') hn
/-- a display of more than 16 pairs of constants: what it makes is told, the rest stays -/
def tDispL (kvs : List (Key × V)) : TE := fun _ H Q => ∀ p H', H p = none → Same H H' → H' p = some (.dK (mergeK (mergeK [] (kvs.take 17)) (mergeK [] (kvs.drop 17)))) → Q (.ref p) H'
inductive CPs (X : Cx) : List (Option Expr) → List Expr → List (Key × V) → Prop
  | nil : CPs X [] [] []
  | cons {k v : Expr} {key : Key} {val : V} {ks : List (Option Expr)} {vs : List Expr} {kvs : List (Key × V)} : PE X k (tC (kV key)) → PE X v (tC val) → CPs X ks vs kvs → CPs X (some k :: ks) (v :: vs) ((key, val) :: kvs)
theorem CPs.es {ks : List (Option Expr)} {vs : List Expr} {kvs : List (Key × V)} (c : CPs X ks vs kvs) : ∃ es : List CE, (∀ e ∈ es, CeOk X e) ∧ ks = es.map (fun e => some e.k) ∧ vs = es.map (·.v) ∧ kvs = es.map CE.kv := by
  induction c with
  | nil => exact ⟨[], (fun _ h => nomatch h), rfl, rfl, rfl⟩
  | @cons k v key val ks vs kvs hk hv _ ih =>
    obtain ⟨es, ok, e1, e2, e3⟩ := ih
    refine ⟨⟨k, v, key, val⟩ :: es, fun e he => ?_, by rw [e1]; rfl, by rw [e2]; rfl, by rw [e3]; rfl⟩
    rcases List.mem_cons.mp he with rfl | he
    · exact ⟨hk, hv⟩
    · exact ok e he
theorem zip_es {env : Env} : ∀ es : List CE, (evalEachOpt (es.map fun e => some e.k) env).zip ((evalEach (es.map (·.v)) env).map fun v => do let x ← v; standAt pos; pure x) = es.map fun e => (some (CE.pair env pos e).1, (CE.pair env pos e).2)
  | [] => rfl
  | e :: es => by
    have := zip_es (env := env) es
    show (some (eval e.k env), (do let x ← eval e.v env; standAt pos; pure x)) :: _ = _
    rw [List.map_cons]
    exact congrArg _ this
theorem pe_dispL {keys : List (Option Expr)} {values : List Expr} {kvs : List (Key × V)} (c : CPs X keys values kvs) (hl : 18 ≤ kvs.length ∧ kvs.length ≤ 32) : PE X (.Dict keys values pos) (tDispL kvs) := by
  obtain ⟨es, ok, rfl, rfl, rfl⟩ := c.es
  rw [List.length_map] at hl
  refine ⟨fun pins s σ H Q I h => ?_⟩
  rw [arm_eval_Dict, zip_es]
  refine wpAny_bind (wpAny_standAt ?_)
  rw [← List.take_append_drop 17 es]
  refine display_long (fun e he => ok e (List.mem_of_mem_take he)) (fun e he => ok e (List.mem_of_mem_drop he)) I (by rw [List.length_take]; omega) (by rw [List.length_drop]; omega) (fun c => by have := congrArg List.length c; rw [List.length_drop] at this; simp at this; omega) fun d s' H' hn hs hd I' => ⟨.ref d, H', I', rfl, h d H' hn hs ?_⟩
  rw [← List.map_take, ← List.map_drop]
  exact hd
end
end U
/-! U8: instances of the program's classes: attributes, methods, making; the class is told by the text, its facts are the derivation's. -/
namespace U
open PySem PySem.Spec L2
/-- e.f, e an instance of C -/
def tFldC (C : Addr) (ta : TE) (f : Str) : TE := fun σ H Q => ta σ H fun x H1 => ∃ a dx fs v, x = .ref a ∧ H1 a = some (.ins C dx fs) ∧ fs.lookup f = some v ∧ Q v H1
def sFldC (C : Addr) (ta tv : TE) (f : Str) : TS := fun D σ H => tv σ H fun y H1 => ta σ H1 fun x H2 => ∃ a dx fs, x = .ref a ∧ H2 a = some (.ins C dx fs) ∧ fs.length < 1000 ∧ D.nx σ (upd H2 a (.ins C dx (putF f y fs)))
def sFldAugC (C : Addr) (ta tv : TE) (rd : V → V → Hp → VK → Prop) (f : Str) : TS := fun D σ H => ta σ H fun x H1 => ∃ a dx fs v, x = .ref a ∧ H1 a = some (.ins C dx fs) ∧ fs.lookup f = some v ∧
  tv σ H1 fun y H2 => rd v y H2 fun z H3 => ∃ dx' fs', H3 a = some (.ins C dx' fs') ∧ fs'.length < 1000 ∧ D.nx σ (upd H3 a (.ins C dx' (putF f z fs')))
section
variable {X : Cx} {o e value : Expr} {f : Str} {pos pos' tpos : Pos} {ta tv : TE} {C : Addr}
theorem pe_fldC (c : Cls X.K C) (n : NoAttr X.K C f) (he : PE X e ta) (hb : attributeBase e f X.env (eval e X.env) = eval e X.env) : PE X (.Attribute e f pos) (tFldC C ta f) := by
  refine ⟨fun pins s σ H Q I h => ?_⟩
  refine attr_of hb (thn (he.run pins s σ H _ I h) fun u s1 ⟨x, H1, I1, rx, a, dx, fs, v, ex, ea, l, q⟩ => ?_)
  subst ex
  obtain rfl : u = Value.ref a := rx
  exact getattr_ok I1 ea c n l fun u' s2 I2 ru => ⟨v, H1, I2, ru, q⟩
theorem ps_fldC (c : Cls X.K C) (n : NoAttr X.K C f) (ha : PE X o ta) (hv : PE X value tv) (hs : swapsWith value (some (.Attribute o f pos')) pos.line X.env = pure false) : PS X (.Assign [.Attribute o f pos'] value pos) (sFldC C ta tv f) := by
  refine ⟨fun pins s σ H D I h => ?_⟩
  refine plainObj_wpAny_Assign_Attribute (thn (hv.run pins s σ H _ I h) fun u s1 ⟨y, H1, I1, ry, q⟩ => thn (ha.run pins s1 σ H1 _ I1 q) fun ov s2 ⟨x, H2, I2, rx, a, dx, fs, ex, ea, l, q2⟩ => ?_) hs
  subst ex
  obtain rfl : ov = Value.ref a := rx
  exact setattr_ok I2 ea c n l ry fun s3 I3 => ⟨σ, _, I3, q2⟩
theorem ps_fldaugC {op : Operator} {rd : V → V → Hp → VK → Prop} (c : Cls X.K C) (n : NoAttr X.K C f) (ha : PE X o ta) (hv : PE X value tv) (hop : PIp X op rd) : PS X (.AugAssign (.Attribute o f tpos) op value pos) (sFldAugC C ta tv rd f) := by
  refine ⟨fun pins s σ H D I h => ?_⟩
  refine wpAny_AugAssign_AttributeAny (thn (ha.run pins s σ H _ I h) fun ov s1 ⟨x, H1, I1, rx, a, dx, fs, v, ex, ea, l, q⟩ => ?_)
  subst ex
  obtain rfl : ov = Value.ref a := rx
  refine getattr_ok I1 ea c n l fun u s2 I2 ru => thn (hv.run pins s2 σ H1 _ I2 q) fun w3 s3 ⟨y, H2, I3, ry, q3⟩ => thn (hop pins s3 σ H2 v y u w3 _ I3 ru ry q3) fun w4 s4 ⟨z, H3, I4, rz, dx', fs', ea', l', q4⟩ => ?_
  exact setattr_ok I4 ea' c n l' rz fun s5 I5 => ⟨σ, _, I5, q4⟩
end
/-- a method of a class of the program, by its name: that it keeps its promise -/
structure OkM (P : Program) (w : World) (K : PySem.W.Frag) (mg : Str → Option Value) (base : Heap) (k : Nat) (C : Addr) (m : Str) (ps : List Str) (sp : Sp) : Prop where
  ex : ∃ (f : Addr) (fd : FuncData), Cls K C ∧ Meth K C m f ∧ FnOk P w K mg base CX0 k f fd ps sp ∧ Binds K fd ps []
/-- a class of the program, by its name: it is made by __init__, which keeps its promise -/
structure OkC (P : Program) (w : World) (K : PySem.W.Frag) (mg : Str → Option Value) (base : Heap) (k : Nat) (x : Str) (C : Addr) (ps : List Str) (sp : Sp) : Prop where
  ex : ∃ (f : Addr) (fd : FuncData), mg x = some (.ref C) ∧ Mk K C f ∧ FnOk P w K mg base CX0 k f fd ps sp ∧ Binds K fd ps []
section
variable {X : Cx} {k : Nat} {C : Addr} {x m : Str} {ps : List Str} {sp : Sp} {p pos apos : Pos} {e o : Expr} {es : List Expr} {ta : TE} {t : TA}
theorem pe_mth {pl : Sem Bool} (O : OkM X.prog X.w X.K X.mg X.base k C m ps sp) (he : PE X o ta) (hr : Room k X.A) (ha : PA X (e :: es) t)
    (hst : starEach (e :: es) X.env = (false, eval e X.env) :: starEach es X.env := by rfl) (hpl : (backTo pos (starEach es X.env)).any (·.1) = false := by rfl)
    (ht : eval (.Call (.Attribute o m apos) (e :: es) [] pos) X.env = (do
      let ov ← eval o X.env
      standAt apos.atName
      let (f, first) ← holding [ov] (getMethod ov m pl)
      callWith pos f first (backTo pos (starEach (e :: es) X.env)) (backToKw pos (keywordEach [] X.env))) := by rfl) :
    PE X (.Call (.Attribute o m apos) (e :: es) [] pos) (tMeth C m sp [] E0 ta t) := by
  obtain ⟨f, fd, c, hm, F, hb⟩ := O.ex
  exact pe_meth he c hm F hr hb .nil pass0 ha hst hpl ht
theorem pe_mth0 {pl : Sem Bool} (O : OkM X.prog X.w X.K X.mg X.base k C m ps sp) (he : PE X o ta) (hr : Room k X.A)
    (ht : eval (.Call (.Attribute o m apos) [] [] pos) X.env = (do
      let ov ← eval o X.env
      standAt apos.atName
      let (f, first) ← holding [ov] (getMethod ov m pl)
      callWith pos f first (backTo pos (starEach [] X.env)) (backToKw pos (keywordEach [] X.env))) := by rfl) :
    PE X (.Call (.Attribute o m apos) [] [] pos) (tMeth C m sp [] E0 ta tNil) := by
  obtain ⟨f, fd, c, hm, F, hb⟩ := O.ex
  exact pe_meth0 he c hm F hr hb .nil pass0 ht
theorem pe_mk (O : OkC X.prog X.w X.K X.mg X.base k x C ps sp) (hr : Room (k + 1) X.A) (hg : Gl X x) (ha : PA X (e :: es) t) (hdb : (x == ("__debug__" : Str)) = false := by decide)
    (he : starEach (e :: es) X.env = (false, eval e X.env) :: starEach es X.env := by rfl) (hpl : (backTo pos (starEach es X.env)).any (·.1) = false := by rfl) : PE X (.Call (.Name x p) (e :: es) [] pos) (tMake C sp [] E0 t) := by
  obtain ⟨f, fd, hm, M, F, hb⟩ := O.ex
  exact pe_make M F hr hg hm hb .nil pass0 ha hdb he hpl
theorem pe_mk0 (O : OkC X.prog X.w X.K X.mg X.base k x C ps sp) (hr : Room (k + 1) X.A) (hg : Gl X x) (hdb : (x == ("__debug__" : Str)) = false := by decide) : PE X (.Call (.Name x p) [] [] pos) (tMake C sp [] E0 tNil) := by
  obtain ⟨f, fd, hm, M, F, hb⟩ := O.ex
  exact pe_make0 M F hr hg hm hb .nil pass0 hdb
end
/-! steps -/
section
variable {σ : St} {H : Hp} {Q : VK} {D : Ends} {ta tv : TE} {t : TA} {C : Addr} {f m : Str} {sp : Sp} {rd : V → V → Hp → VK → Prop} {u : TS}
theorem r_fldC (h : ta σ H fun x H1 => ∃ a dx fs v, x = .ref a ∧ H1 a = some (.ins C dx fs) ∧ fs.lookup f = some v ∧ Q v H1) : tFldC C ta f σ H Q := h
theorem r_sfldC (h : tv σ H fun y H1 => ta σ H1 fun x H2 => ∃ a dx fs, x = .ref a ∧ H2 a = some (.ins C dx fs) ∧ fs.length < 1000 ∧ D.nx σ (upd H2 a (.ins C dx (putF f y fs)))) : sFldC C ta tv f D σ H := h
theorem r_sqF (h : tv σ H fun y H1 => ta σ H1 fun x H2 => ∃ a dx fs, x = .ref a ∧ H2 a = some (.ins C dx fs) ∧ fs.length < 1000 ∧ u D σ (upd H2 a (.ins C dx (putF f y fs)))) : tSq (sFldC C ta tv f) u D σ H := r_sq h
theorem r_meth (h : ta σ H fun x H1 => ∃ a dx fs, x = .ref a ∧ H1 a = some (.ins C dx fs) ∧ fs.lookup m = none ∧ t σ H1 fun vs H2 => sp (x :: vs) H2 Q E0) : tMeth C m sp [] E0 ta t σ H Q := by
  have e : (fun (x : V) (H1 : Hp) => ∃ a dx fs, x = .ref a ∧ H1 a = some (.ins C dx fs) ∧ fs.lookup m = none ∧ t σ H1 fun vs H2 => sp (x :: (vs ++ [])) H2 Q E0) = fun x H1 => ∃ a dx fs, x = .ref a ∧ H1 a = some (.ins C dx fs) ∧ fs.lookup m = none ∧ t σ H1 fun vs H2 => sp (x :: vs) H2 Q E0 := by
    funext x H1
    simp only [List.append_nil]
  show ta σ H _
  rw [e]
  exact h
theorem r_make (h : t σ H fun vs H1 => ∀ x dx, H1 x = none → H1 dx = none → dx ≠ x → sp (.ref x :: vs) (upd (upd H1 dx (.own x)) x (.ins C dx [])) (fun v H2 => v = .non ∧ Q (.ref x) H2) E0) : tMake C sp [] E0 t σ H Q := by
  have e : (fun (vs : List V) (H1 : Hp) => ∀ x dx, H1 x = none → H1 dx = none → dx ≠ x → sp (.ref x :: (vs ++ [])) (upd (upd H1 dx (.own x)) x (.ins C dx [])) (fun v H2 => v = .non ∧ Q (.ref x) H2) E0) = fun vs H1 => ∀ x dx, H1 x = none → H1 dx = none → dx ≠ x → sp (.ref x :: vs) (upd (upd H1 dx (.own x)) x (.ins C dx [])) (fun v H2 => v = .non ∧ Q (.ref x) H2) E0 := by
    funext vs H1
    simp only [List.append_nil]
  show t σ H _
  rw [e]
  exact h
end
end U
/-! U9: exceptions of the program's own whose __init__ calls super().__init__ first; defs that raise; the head's Hook with such __init__s and further tests. -/
namespace U
open PySem PySem.Spec PyProof.Rows L2
open NdefX (NF ncx envF NScope CellsAt startF inv_startN)
/-! ### __init__ of such a class -/
/-- what the written part says of it: D the class that the cell names -/
structure SupF (P : Program) (K : PySem.W.Frag) (D : Addr) (F : NF) (f cc : Addr) (fd : FuncData) : Prop where
  ex : ∃ (oc : Value) (od : Option Addr) (kV doc pm : Value) (an : Option Addr) (ct : Value) (osl : Array (Option Value)),
    fd = PySem.W.ksFn F.name F.qual F.params F.body F.scope .none kV doc pm an (.ref F.c) ct cc ∧ K.lookup f = some ⟨oc, od, .func fd, osl⟩ ∧ PySem.W.codeIn K (.ref F.c) F.qual = true
  cl : F.cl = [(("__class__" : Str), cc)]
  code : ∃ (ccl : Value) (cdd : Option Addr) (vs : Array Value) (ccs : Array (Option Value)) (file : Str) (tf : Tok), K.lookup F.c = some ⟨ccl, cdd, .fields vs, ccs⟩ ∧ vs[2]? = some (.str file tf) ∧ ((P.main.file : Str) == file) = true
  cell : ∃ (cl : Value) (cld : Option Addr) (csl : Array (Option Value)), K.lookup cc = some ⟨cl, cld, .cell (some (.ref D)), csl⟩
  cls : ∃ cdD, PySem.W.clsIn K D = some cdD
  top : (P.main.scope.names.lookup ("super" : Str)).isSome = false
/-- the class C: its super() within D gives ValueError's __init__ -/
structure SupC (K : PySem.W.Frag) (C D : Addr) : Prop where
  oex : OexC K C
  sub : PySem.W.mroIn K C (.ref D) = some true
  nx : PySem.W.ks_superIn K C D "__init__" = some (some (.builtin "ValueError.__init__"))
  ve : PySem.W.subIn K (.ref C) (.type "ValueError") = some true
  op : PySem.W.nsIn K PySem.cStatics "thirdparty.any" = some none
theorem call_bwV {prog : Program} {w : World} {A : Around} {E : Value → Shared → Prop} {h : Heap} {g : Array GenState} {d : Drawn} {t : Nat} {os : OsState} {nm q : Str} {C N : Addr} {bs bm : List Value} {hdct : Bool} {sn : List Str} {sub : List Value} {ab : Bool} {col : Option Bool} {dd : Option Addr} {k0 k1 k2 k3 k5 : Option Value}
    {u e t0 : Addr} {rest : List Value} {Q : Value → Shared → Prop}
    (hC : h.get? C = some (excClassObj nm q C N bs bm hdct sn sub ab col dd k0 k1 k2 k3 k5 "ValueError.__new__")) (he : h.get? e = some (HandSPX.excO C t0)) (hu : h.get? u = some (PySem.W.kxs_mw "ValueError.__init__" e)) (hrest : rest.length ≤ sizeLine)
    (hq : ∀ h' t1, (∀ b o, b ≠ e → h.get? b = some o → h'.get? b = some o) → h'.get? e = some (HandSPX.excO C t1) → Q .none ⟨h', g, d, t, os⟩) :
    wpAny (model prog w) A (call (.ref u) rest) Q E ⟨h, g, d, t, os⟩ := by
  refine wpAny_call (codeAny_of_tree ?_)
  show wpAny _ A.in1 (callAny (.ref u) ⟨rest, []⟩) _ _ _
  simp only [callAny]
  refine wpAny_bind (wpAny_load hu ?_)
  simp only [PySem.W.kxs_mw, show (Value.type "method-wrapper" == Value.type "method" || Value.type "method-wrapper" == Value.type "builtin_function_or_method" || Value.type "method-wrapper" == Value.type "method-wrapper") = true by decide, if_true]
  refine W.KFB.if_so (by decide) ?_
  refine wpAny_bind (ESX.check_bound F.excBase_ValueError hC he rfl ?_)
  refine wpAny_bind (wpAny_pure (wpAny_pure ?_))
  refine ⟨Code.quiet_builtin _ (by decide +kernel), codeAny_builtin F.excBase_ValueError.initEntry ?_⟩
  rw [Around.under_plainId F.excBase_ValueError.init.plain _]
  wp_walk
  refine hq _ h.objs.size (fun b o hb ho => ?_) ?_
  · rw [Heap.get?_update_other _ _ (Ne.symm hb)]
    exact Heap.get?_push_of_some _ ho
  · rw [Heap.get?_update_self _ (Heap.get?_push_of_some _ he) rfl]
    rfl
section
variable {P : Program} {w : World} {K : PySem.W.Frag} {mg : Str → Option Value} {base : Heap} {N ps : List Str} {F : NF} {f cc D : Addr} {fd : FuncData} {A : Around} {outer : List Env} {s0 : Shared} {H0 : Hp} {E : XK}
/-- super().__init__('..'): nothing of it is told -/
theorem sup_run (SF : SupF P K D F f cc fd) (S : NScope N ps ["__class__"] F.scope) {ar : Arg} (hp : (F.params.posonlyargs ++ F.params.args).head? = some ar) (hn0 : N[0]? = some ar.arg) (ha0 : F.scope.names.lookup ar.arg = some .local)
    (hks : F.scope.names.lookup ("super" : Str) = some .globalImplicit) (hms : mg "super" = none) {s : Shared} {σ : L2.St} {H : Hp} {a C : Addr} {p0 p1 p2 p3 p4 p5 : Pos} {z : Str} {j : Nat} {pl : Sem Bool} (he : ∀ env : Env, eval (.Call (.Attribute (.Call (.Name "super" p0) [] [] p1) "__init__" p2) [.Constant (.str z) j p3] [] p4) env = (do
      let ov ← attributeBase (.Call (.Name "super" p0) [] [] p1) "__init__" env (eval (.Call (.Name "super" p0) [] [] p1) env)
      standAt p2.atName
      let (f, first) ← holding [ov] (getMethod ov "__init__" pl)
      callWith p4 f first (backTo p4 (starEach [.Constant (.str z) j p3] env)) []))
    {body : List Stmt} {Q : Flow → Shared → Prop} {E' : Value → Shared → Prop}
    (I : Inv (ncx CX0 P w K mg base N F f A outer s0 H0 E) [] σ H s) (h0 : σ[0]? = some (some (.ref a))) (e : H a = some (exo a C none)) (T : SupC K C D) (h : ∀ s', Inv (ncx CX0 P w K mg base N F f A outer s0 H0 E) [] σ H s' → Q .next s') :
    PySem.wpAt (model P w) (A.deeper (envF F f s0.heap.objs.size)) (.func body (envF F f s0.heap.objs.size)) (exec (.Expr (.Call (.Attribute (.Call (.Name "super" p0) [] [] p1) "__init__" p2) [.Constant (.str z) j p3] [] p4) p5) (envF F f s0.heap.objs.size)) Q E' s := by
  obtain ⟨oc, od, kV, doc, pm, an, ct, osl, rfl, lk, hcd⟩ := SF.ex
  obtain ⟨ccl, cdd, vs, ccs, file, tf, lkc, hvs, hfile⟩ := SF.code
  obtain ⟨clv, cld, csl, lkx⟩ := SF.cell
  obtain ⟨cdD, hD⟩ := SF.cls
  have X : K.In s.heap := I.kIn
  obtain ⟨oD, hD1, hD2⟩ : ∃ oD, s.heap.get? D = some oD ∧ oD.data = .cls cdD := by
    unfold PySem.W.clsIn at hD
    split at hD
    · rename_i c d cd' sl ho
      cases hD
      exact ⟨_, X _ _ ho, rfl⟩
    · cases hD
  obtain ⟨t1, hx⟩ := exo_at I.hok e
  obtain ⟨m, hns, hloc⟩ := id I.loc
  have hself : m ar.arg = some (.ref a) := by
    obtain ⟨u, ru, lu⟩ := hloc 0 ar.arg (.ref a) hn0 h0 (.inl ha0)
    cases (show u = Value.ref a from ru)
    rcases lu with ⟨_, q⟩ | ⟨q, _⟩
    · exact q
    · have q : F.scope.names.lookup ar.arg = some .cell ∨ F.scope.names.lookup ar.arg = some .free := q
      rw [ha0] at q
      rcases q with q | q <;> cases q
  have hkc : F.scope.names.lookup ("__class__" : Str) = some .free := S.frk _ (by simp)
  obtain ⟨mb, hb1, hb2⟩ := I.mod.blt
  refine ks_wpAt_Expr_any (hi := by show (F.scope.kind == ScopeKind.module && _) = false; rw [S.kind]; rfl) (ks_wpAt_MethodCall ?_ (he _))
  refine ks_wpAt_super_base (attr := "__init__") (f := f) (env := envF F f s0.heap.objs.size) hks hkc (by decide) rfl (X _ _ lk) rfl hp rfl (X _ _ lkc) rfl hvs hfile SF.top ?_
  refine PySem.W.ks_loadName_global S.kind hks (Calls.loadGlobal_builtin (env := envF F f s0.heap.objs.size) (I.mod.glob.keeps I.bk) hms (hb1.keeps I.bk) (v := .type "super") ((hb2 _ (by decide)).trans (by decide +kernel)) ⟨rfl, ?_⟩)
  refine wpAny_loadName_free (c := cc) S.kind hkc (by show F.cl.lookup _ = _; rw [SF.cl]; rfl) ⟨_, X _ _ lkx, rfl⟩ ?_
  refine wpAny_loadName_local S.kind ha0 hns hself ?_
  obtain ⟨hp0, g, d, t, os⟩ := s
  refine ks_wpAny_isType_cls hD1 hD2 ⟨rfl, ?_⟩
  refine ks_wpAny_call_super hD1 hD2 hx rfl (fun c z => by cases z) (PySem.W.looks_mroIn X T.sub) (fun h' e' k => ?_)
  -- the super object stands
  have I1 : Inv (ncx CX0 P w K mg base N F f A outer s0 H0 E) [] σ H ⟨h', g, d, t, os⟩ := I.kept (t' := t) k
  have X1 : K.In h' := X.keeps k
  obtain ⟨nm, q, NC, bs, bm, sn, sub, ab, col, dd, k0, k1, k2, k3, k5, hC, hbm⟩ := T.oex.cls
  have hcl : PySem.W.clsIn K C = some { name := nm, bases := bs, mro := .ref C :: bm, ns := NC, qualname := q, hasDict := true, slotNames := sn, subclasses := sub, abstract := ab, collection := col, hasDel := false } := by unfold PySem.W.clsIn; rw [hC] <;> rfl
  have hxC : a ≠ C := fun z => by
    have e1 := X _ _ hC
    rw [← z, hx] at e1
    cases e1
  have hal : PySem.W.alongIn K "__init__" (((Value.ref C :: bm).dropWhile (· != .ref D)).drop 1) = some (some (.builtin "ValueError.__init__")) := by
    have n := T.nx
    unfold PySem.W.ks_superIn at n
    rw [hcl] at n
    exact n
  have hI : PySem.W.Looks (model P w) h' (isInstance (.ref a) (.type "ValueError")) true := (PySem.W.InstAt.type (ox := ({ cls := .ref C, dict := none, data := .fields #[.ref t1, .none, .none, .none, .bool false, .none] } : Obj)) (od := none) ⟨k _ _ hx, rfl, rfl, trivial⟩).andThen (PySem.W.looks_subIn X1 T.ve)
  refine PySem.W.kxs_getMethod PySem.W.kxs_ValueError e' (PySem.W.looks_opaque X1 T.op) (l₀ := .ref C :: bm) (fun A Q E s k q => wpAny_bind ((PySem.W.looks_clsIn X1 hcl) A _ E s k (wpAny_pure q))) rfl X1 hal hI hxC (by decide) ?_
  -- the method-wrapper stands
  have k2 : ∀ b o, h'.get? b = some o → (h'.push (PySem.W.kxs_mw "ValueError.__init__" a)).get? b = some o := fun b o z => Heap.get?_push_of_some _ z
  have hu : (h'.push (PySem.W.kxs_mw "ValueError.__init__" a)).get? h'.objs.size = some (PySem.W.kxs_mw "ValueError.__init__" a) := Heap.get?_push_at rfl rfl
  have I2 : Inv (ncx CX0 P w K mg base N F f A outer s0 H0 E) [] σ H ⟨h'.push (PySem.W.kxs_mw "ValueError.__init__" a), g, d, t + 1, os⟩ := I1.kept (t' := t + 1) k2
  have hun : H h'.objs.size = none := I1.hok.fresh (Nat.le_refl _)
  have hfr : h'.objs.size ∉ (ncx CX0 P w K mg base N F f A outer s0 H0 E).fs := I1.nofs (Nat.le_refl _)
  have hlo : h'.objs.size ≠ s0.heap.objs.size := fun z => by
    have q := I1.lt
    have q : s0.heap.objs.size < h'.objs.size := q
    omega
  have I3 : Inv (ncx CX0 P w K mg base N F f A outer s0 H0 E) [(h'.objs.size, PySem.W.kxs_mw "ValueError.__init__" a)] σ H ⟨h'.push (PySem.W.kxs_mw "ValueError.__init__" a), g, d, t + 1, os⟩ :=
    ⟨I2.ok, I2.os, I2.bare, I2.base, I2.loc, I2.cell, I2.free, I2.freeC, fun p hp => by
      have hp : p ∈ ([] : List (Addr × Obj)) ++ [(h'.objs.size, PySem.W.kxs_mw "ValueError.__init__" a)] := hp
      rw [List.nil_append, List.mem_singleton] at hp
      subst hp
      exact ⟨hu, hun, hlo, hfr, fun v z => by cases z⟩, I2.hok, I2.len⟩
  have ha : PA (ncx CX0 P w K mg base N F f A outer s0 H0 E) [.Constant (.str z) j p3] (tCons (tC (.str z)) tNil) := pa_cons pe_str pa_nil
  refine PySem.W.kxs_callWith (i := "ValueError.__init__") (u := h'.objs.size) (x := a) (by rfl) ?_
  refine Calls.evalArgs_plain (thn (ha.run p4 _ _ σ H (fun vs H1 => vs = [V.str z] ∧ H1 = H) I3 ⟨rfl, rfl⟩) fun us s3 ⟨vs1, H1, I4, r1, ev, eH⟩ => ?_)
  subst ev
  rw [eH] at I4
  have u3 := (I4.pin (h'.objs.size, PySem.W.kxs_mw "ValueError.__init__" a) (List.mem_append_right _ (List.mem_singleton_self _))).1
  refine ⟨u3, ?_⟩
  obtain ⟨t3, hx3⟩ := exo_at I4.hok e
  have X3 := I4.kIn
  obtain ⟨h3, g3, d3, tk3, os3⟩ := s3
  have hl : us.length ≤ sizeLine := by
    rw [← Paired.length r1, sizeLine_eq]
    show 1 ≤ 16777216
    omega
  refine call_bwV (X3 _ _ hC) hx3 u3 hl fun h4 t4 k4 hx4 => ?_
  have J := I4.write (t' := tk3) (x := a) (e := a) (o := exo a C none) (by rw [e]; exact True.intro) (.inl rfl) k4 ⟨_, hx4⟩ (exo_ok hx4)
  have eu : upd H a (exo a C none) = H := by
    funext b
    by_cases hb : b = a
    · rw [hb, upd_same, e]
    · rw [upd_ne hb]
  rw [eu] at J
  exact h _ ⟨J.ok, J.os, J.bare, J.base, J.loc, J.cell, J.free, J.freeC, fun p hp => absurd (show p ∈ ([] : List (Addr × Obj)) from hp) (by simp), J.hok, J.len⟩
/-- THE RULE for such an __init__: its first statement, then the rest by its reading -/
theorem fn_ofS {k : Nat} {sp : Sp} {rest : List Stmt} (SF : SupF P K D F f cc fd) (S : NScope N ps ["__class__"] F.scope) {ar : Arg} (hp : (F.params.posonlyargs ++ F.params.args).head? = some ar) (hn0 : N[0]? = some ar.arg) (ha0 : F.scope.names.lookup ar.arg = some .local)
    (hks : F.scope.names.lookup ("super" : Str) = some .globalImplicit) (hms : mg "super" = none) {p0 p1 p2 p3 p4 p5 : Pos} {z : Str} {j : Nat} {pl : Sem Bool} (he : ∀ env : Env, eval (.Call (.Attribute (.Call (.Name "super" p0) [] [] p1) "__init__" p2) [.Constant (.str z) j p3] [] p4) env = (do
      let ov ← attributeBase (.Call (.Name "super" p0) [] [] p1) "__init__" env (eval (.Call (.Name "super" p0) [] [] p1) env)
      standAt p2.atName
      let (f, first) ← holding [ov] (getMethod ov "__init__" pl)
      callWith p4 f first (backTo p4 (starEach [.Constant (.str z) j p3] env)) []))
    (hb : F.body = .Expr (.Call (.Attribute (.Call (.Name "super" p0) [] [] p1) "__init__" p2) [.Constant (.str z) j p3] [] p4) p5 :: rest)
    (len : ∀ vs H Q E, sp vs H Q E → vs.length = ps.length)
    (hbody : ∀ (A : Around) (outer : List Env) (s : Shared) (H : Hp) (vs : List V) (Q : VK) (E : XK), Room k (A.deeper (envF F f s.heap.objs.size)) → sp vs H Q E → (∃ a C, vs[0]? = some (.ref a) ∧ H a = some (exo a C none) ∧ SupC K C D) ∧
      ∃ t, PSs (ncx CX0 P w K mg base N F f A outer s H E) rest t ∧ t { nx := fun _ H' => Q .non H', rt := Q } (startF N vs [none]) H) : FnOk P w K mg base CX0 (k + 1) f fd ps sp := by
  refine ⟨len, fun A outer s H args us vs Q E hr e0 hbi r hsp => ?_⟩
  have hl := len _ _ _ _ hsp
  have KX : K.In s.heap := e0.mod.kin.keeps fun b o e => (e0.bs b o e).1
  have lim : s.heap.NoLimit := e0.mod.nolimit.keeps fun b o e => (e0.bs b o e).1
  obtain ⟨oc, od, kV, doc, pm, an, ct, osl, hfd, lk, hcd⟩ := id SF.ex
  obtain ⟨clv, cld, csl, lkx⟩ := id SF.cell
  obtain ⟨nm, qn, par, bod, sc, cl, c⟩ := F
  have hcl : cl = [(("__class__" : Str), cc)] := SF.cl
  subst hcl
  have hb : bod = _ := hb
  subst hb
  subst hfd
  refine ks_codeAny_call_defAt (o := ⟨oc, od, .func (PySem.W.ksFn nm qn par _ sc .none kV doc pm an (.ref c) ct cc), osl⟩) (fd := PySem.W.ksFn nm qn par _ sc .none kV doc pm an (.ref c) ct cc) (binds := ps.zip us) hr.depth (KX _ _ lk) rfl lim (PySem.W.codeRec_of KX hcd) rfl hbi S.nocell (fun ⟨n, _⟩ hy => S.par n (List.of_mem_zip hy).1) (fun h₁ hns kp => ?_) S.co S.gen S.kind
  have CA : CellsAt [(("__class__" : Str), cc)] ["__class__"] [none] s.heap H := by
    have one : ∀ {y : Str} {c2 : Addr}, List.lookup y [(("__class__" : Str), cc)] = some c2 → y = "__class__" ∧ c2 = cc := fun {y c2} q => by
      have hm := PySem.mem_of_lookup q
      rw [List.mem_singleton] at hm
      injection hm with h1 h2
      exact ⟨h1, h2⟩
    refine ⟨rfl, fun y c2 q => ?_, fun x y c2 q1 q2 => (one q1).1.trans (one q2).1.symm, fun i y hi => ?_⟩
    · obtain ⟨_, rfl⟩ := one q
      have z := e0.bs _ _ (e0.mod.kin _ _ lkx)
      exact ⟨z.2, _, _, z.1, rfl⟩
    · cases i with
      | zero =>
        have e : "__class__" = y := by simpa using hi
        subst e
        exact ⟨cc, rfl, fun v hv => by simp at hv⟩
      | succ i => simp at hi
  obtain ⟨⟨a, C0, hv0, ha, T⟩, t, ht, hq⟩ := hbody A outer s H vs Q E (hr.deeper _) hsp
  have I := inv_startN (CX := CX0) (mg := mg) (f := f) (E := E) (tk := s.toks + (ps.zip us).length) S hr.hd e0 hl r CA hns kp
  have h0 : (startF N vs [none])[0]? = some (some (.ref a)) := by
    unfold startF
    cases vs with
    | nil => simp at hv0
    | cons v vs =>
      have e : v = .ref a := by simpa using hv0
      subst e
      rfl
  refine ks_wpAt_execs_cons (sup_run (E := E) SF S hp hn0 ha0 hks hms he I h0 ha T fun s' J => ?_)
  refine wpAt_of_wpAny (wpAny_mono (ht.run [] s' _ H _ J hq) (fun fl s2 hs => ?_) fun e s2 hs => hs)
  cases fl with
  | ret u =>
    obtain ⟨v, σ', H', J, rv, q⟩ := hs
    exact ⟨v, H', J.os, J.bare, J.base, J.hok, rv, q⟩
  | next =>
    obtain ⟨σ', H', J, q⟩ := hs
    exact ⟨V.non, H', J.os, J.bare, J.base, J.hok, rfl, q⟩
  | brk =>
    obtain ⟨_, _, _, q⟩ := hs
    exact False.elim q
  | cont =>
    obtain ⟨_, _, _, q⟩ := hs
    exact False.elim q
end
end U
/-! U10: the head's Hook with own error classes and further tests. -/
namespace U
open PySem PySem.Spec PyProof.Rows L2
open He (AlD FnW DefD Fa obsD valD SaysD fnW ga ma fAd eqO frG frG_in asD ba)
/-! ### an own error class: __init__ of its own, which calls super().__init__ first -/
abbrev FnS : Type := Option (Str × Str × Arguments × FuncBody × Scope × Addr × List Str × Addr)
def fnS (K : PySem.W.Frag) (p : Str × Option Str) : FnS := match K.lookup (fAd K p) with
  | some ⟨_, _, .func fd, _⟩ => some (fd.name, fd.qualname, fd.params, fd.body, fd.scope, fd.globals, fd.closure.map (·.1), fd.builtins)
  | _ => none
/-- one such class: its name, __init__'s words, its fields -/
structure ErrD where
  x : Str
  params : Arguments
  body : List Stmt
  scope : Scope
  fs : List Str
def ErrD.qual (d : ErrD) : Str := d.x ++ ".__init__"
def ErrD.val (d : ErrD) : FnS := some ("__init__", d.qual, d.params, .stmts d.body, d.scope, mainGlobals, ["__class__"], builtinsNs)
/-- the class' object has the form of an own exception's over ValueError -/
def excObjB (K : PySem.W.Frag) (C : Addr) : Bool := match K.lookup C with
  | some ⟨.type "type", _, .cls cd, sl⟩ => (match cd.mro, sl.toList with
    | .ref C' :: bm, [_, _, _, _, some (.builtin n), _] => C' == C && n == "ValueError.__new__" && !cd.hasDel && HandSPX.refsVE bm && cd.hasDict
    | _, _ => false)
  | _ => false
def supB (file : Str) (K : PySem.W.Frag) (D : Addr) (f : Addr) (q : Str) : Bool := (match K.lookup f with
  | some ⟨_, _, .func fd, _⟩ => (PySem.W.codeIn K fd.code q && (match fd.defaults with
    | .none => true
    | _ => false)) && ((match fd.code with
    | .ref c => (match K.lookup c with
      | some ⟨_, _, .fields vs, _⟩ => (match (vs[2]? : Option Value) with
        | some (.str fi _) => file == fi
        | _ => false)
      | _ => false)
    | _ => false) && (match fd.closure with
    | [(_, cc)] => (match K.lookup cc with
      | some ⟨_, _, .cell (some (.ref D')), _⟩ => D' == D
      | _ => false)
    | _ => false))
  | _ => false) && (PySem.W.clsIn K D).isSome
def errB (file : Str) (K : PySem.W.Frag) (d : ErrD) : Bool :=
  let C := ga K d.x
  let f := ma K C "__init__"
  (eqO (PySem.W.nsIn K mainGlobals d.x) (some (some (.ref C))) && (excObjB K C && (supB file K C f d.qual && eqO (PySem.W.findIn K (.ref C) "__init__") (some (some (.ref f)))))) &&
  ((eqO (PySem.W.findIn K (.ref C) "__setattr__") (some (some (.builtin "object.__setattr__"))) && (decide (PySem.W.subIn K (.ref C) (.type "BaseException") = some true) && (decide (PySem.W.typeIn K (.ref C) = some (.type "type")) && PySem.W.keepIn K (.ref C)))) &&
  ((decide (PySem.W.mroIn K C (.ref C) = some true) && (eqO (PySem.W.ks_superIn K C C "__init__") (some (some (.builtin "ValueError.__init__"))) && (decide (PySem.W.subIn K (.ref C) (.type "ValueError") = some true) && eqO (PySem.W.nsIn K PySem.cStatics "thirdparty.any") (some none)))) &&
  ((xfB K C && (decide (PySem.W.typeIn K (.ref f) = some (.type "function")) && d.fs.all fun x => eqO (PySem.W.findIn K (.ref C) x) (some none))) &&
  (eqO (PySem.W.findIn K (.ref C) "__class__") (some (some (.builtin "object.__class__"))) && (eqO (PySem.W.specialIn K (.builtin "object.__class__") "__get__") (some (some (.builtin "getset_descriptor.__get__"))) && (decide (PySem.W.takesIn K (.builtin "object.__class__") = some true) && decide (PySem.W.mroIn K C (.type "object") = some true)))))))
structure ErrF (P : Program) (K : PySem.W.Frag) (mg : Str → Option Value) (d : ErrD) (C f : Addr) (fd : FuncData) : Prop where
  g : mg d.x = some (.ref C)
  sc : SupC K C C
  sf : ∃ (c cc : Addr), SupF P K C ⟨"__init__", d.qual, d.params, d.body, d.scope, [(("__class__" : Str), cc)], c⟩ f cc fd
  ini : PySem.W.findIn K (.ref C) "__init__" = some (some (.ref f))
  fty : PySem.W.typeIn K (.ref f) = some (.type "function")
  xf : XfC K C
  no : ∀ x ∈ d.fs, PySem.W.findIn K (.ref C) x = some none
  ec : ExcC K C
theorem excObjB_ok {K : PySem.W.Frag} {C : Addr} (q : excObjB K C = true) : ∃ nm q N bs bm sn sub ab col dd k0 k1 k2 k3 k5, K.lookup C = some (excClassObj nm q C N bs bm true sn sub ab col dd k0 k1 k2 k3 k5 "ValueError.__new__") ∧ HandSPX.refsVE bm = true := by
  unfold excObjB at q
  split at q
  · rename_i dd cd sl ho
    split at q
    · rename_i C' bm k0 k1 k2 k3 n k5 hm hs
      simp only [Bool.and_eq_true, beq_iff_eq, Bool.not_eq_true'] at q
      obtain ⟨⟨⟨⟨rfl, rfl⟩, hdel⟩, ht⟩, hd⟩ := q
      obtain ⟨nm, bs, mro, ns, qn, hdd, sn, sub, ab, col, del⟩ := cd
      dsimp only at hm hdel hd
      subst hm hdel hd
      have hsl : sl = #[k0, k1, k2, k3, some (.builtin "ValueError.__new__"), k5] := by
        obtain ⟨l⟩ := sl
        simp only at hs
        rw [hs]
      subst hsl
      exact ⟨nm, qn, ns, bs, bm, sn, sub, ab, col, dd, k0, k1, k2, k3, k5, ho, ht⟩
    · cases q
  · cases q
theorem errB_ok {P : Program} {K : PySem.W.Frag} {h : Heap} {mg : Str → Option Value} (X : K.In h) (G : h.Ns mainGlobals mg) {d : ErrD} (ht : (P.main.scope.names.lookup ("super" : Str)).isSome = false) (q : errB P.main.file K d = true) (e : fnS K (d.x, some "__init__") = d.val) :
    ∃ fd, ErrF P K mg d (ga K d.x) (ma K (ga K d.x) "__init__") fd := by
  unfold errB at q
  simp only [Bool.and_eq_true] at q
  obtain ⟨⟨a1, a2, a3, a4⟩, ⟨b1, b2, b3, b4⟩, ⟨c1, c2, c3, c4⟩, ⟨d1, d2, d3⟩, ⟨e1, e2, e3, e4⟩⟩ := q
  have ox : OexC K (ga K d.x) := ⟨excObjB_ok a2, He.eqO_ok b1, of_decide_eq_true b2, of_decide_eq_true b3, b4⟩
  have hxf := xfB_ok d1
  unfold supB at a3
  obtain ⟨a3, a5⟩ := ba a3
  unfold fnS at e
  have e : (match K.lookup (ma K (ga K d.x) "__init__") with
    | some ⟨_, _, .func fd, _⟩ => some (fd.name, fd.qualname, fd.params, fd.body, fd.scope, fd.globals, fd.closure.map (·.1), fd.builtins)
    | _ => none) = d.val := e
  cases lk : K.lookup (ma K (ga K d.x) "__init__") with
  | none => rw [lk] at a3; cases a3
  | some o =>
    obtain ⟨oc, od, dt, osl⟩ := o
    rw [lk] at a3 e
    cases dt with
    | func fd =>
      obtain ⟨n1, n2, n3, n4, n5, n6, n7, n8, n9, n10, n11, n12, n13, n14, n15⟩ := fd
      have e : (some (n1, n2, n3, n4, n5, n6, n7.map (·.1), n15) : FnS) = (some (("__init__" : Str), d.qual, d.params, FuncBody.stmts d.body, d.scope, mainGlobals, [("__class__" : Str)], builtinsNs) : FnS) := e
      simp only [Option.some.injEq, Prod.mk.injEq] at e
      obtain ⟨h1, h2, h3, h4, h5, h6, h7, h8⟩ := e
      subst h1 h2 h3 h4 h5 h6 h8
      dsimp only at a3
      obtain ⟨rr, r2⟩ := ba a3
      obtain ⟨r1, r0⟩ := ba rr
      clear rr
      have hdv : n8 = .none := by
        cases n8 <;> first | rfl | cases r0
      subst hdv
      obtain ⟨r2, r3⟩ := ba r2
      have key : ∃ (fd : FuncData) (c cc : Addr), SupF P K (ga K d.x) ⟨"__init__", d.qual, d.params, d.body, d.scope, [(("__class__" : Str), cc)], c⟩ (ma K (ga K d.x) "__init__") cc fd := by
        split at r2
        · rename_i c0 c
          split at r2
          · rename_i u1 u2 vs u3 hc
            split at r2
            · rename_i fi tf hv
              split at r3
              · rename_i nm cc
                split at r3
                · rename_i v1 v2 D' v3 hcc
                  have hD : D' = ga K d.x := beq_iff_eq.mp r3
                  subst hD
                  have hn : nm = "__class__" := by simpa using h7
                  subst hn
                  exact ⟨_, _, cc, ⟨⟨oc, od, n9, n10, n11, n12, n14, osl, rfl, lk, r1⟩, rfl, ⟨u1, u2, vs, u3, fi, tf, hc, hv, r2⟩, ⟨v1, v2, v3, hcc⟩, Option.isSome_iff_exists.mp a5, ht⟩⟩
                · cases r3
              · cases r3
            · cases r2
          · cases r2
        · cases r2
      obtain ⟨fd, c, cc, sf⟩ := key
      exact ⟨fd, ⟨PySem.W.mg_of X G (He.eqO_ok a1), ⟨ox, of_decide_eq_true c1, He.eqO_ok c2, of_decide_eq_true c3, He.eqO_ok c4⟩, ⟨c, cc, sf⟩, He.eqO_ok a4, of_decide_eq_true d2, hxf, fun x hx => He.eqO_ok (List.all_eq_true.mp d3 x hx), ⟨hxf.ga, hxf.gg, hxf.exC, hxf.hdC, He.eqO_ok e1, He.eqO_ok e2, of_decide_eq_true e3, of_decide_eq_true e4⟩⟩⟩
    | _ => cases a3
/-! ### the Hook -/
abbrev AlU : Type := AlD × (Bool × List FnS)
def obsU (file : Str) (fa : List Fa) (fn : List DefD) (en : List ErrD) (t : PySem.W.Frag → Bool) (K : PySem.W.Frag) : AlU := (obsD fa fn K, (en.all (fun d => errB file K d) && t K, en.map fun d => fnS K (d.x, some "__init__")))
def valU (fn : List DefD) (en : List ErrD) : AlU := (valD fn, (true, en.map ErrD.val))
def SaysU (file : Str) (fa : List Fa) (fn : List DefD) (en : List ErrD) (t : PySem.W.Frag → Bool) (K : PySem.W.Frag) : Prop := obsU file fa fn en t K = valU fn en
def asU (g : Addr → Option Obj) (n : Nat) : List Addr := PySem.cStatics :: asD g n
def obsUG (file : Str) (n : Nat) (fa : List Fa) (fn : List DefD) (en : List ErrD) (t : PySem.W.Frag → Bool) (g : Addr → Option Obj) : AlU := obsU file fa fn en t (frG g (asU g n))
def hookU (file : Str) (n : Nat) (fa : List Fa) (fn : List DefD) (en : List ErrD) (t : PySem.W.Frag → Bool) : PySem.W.Hook where
  α := AlU
  obs := fun s => obsUG file n fa fn en t s.heap.get?
  val := fun _ => valU fn en
  says := fun _ h => ∃ K : PySem.W.Frag, K.In h ∧ SaysU file fa fn en t K
  of := fun _ _ e => ⟨_, frG_in, e⟩
  keeps := fun _ _ _ ⟨K, hK, c⟩ k => ⟨K, PySem.W.Frag.In.keeps hK k, c⟩
theorem obsUG_eq {file : Str} {n : Nat} {fa : List Fa} {fn : List DefD} {en : List ErrD} {t : PySem.W.Frag → Bool} {g : Addr → Option Obj} {s : Shared} (h : ∀ a, g a = s.heap.get? a) : obsUG file n fa fn en t g = (hookU file n fa fn en t).obs s := by
  have e : g = s.heap.get? := funext h
  rw [e] <;> rfl
section
variable {file : Str} {fa : List Fa} {fn : List DefD} {en : List ErrD} {t : PySem.W.Frag → Bool} {K : PySem.W.Frag}
theorem SaysU.d (c : SaysU file fa fn en t K) : SaysD fa fn K := congrArg (fun z : AlU => z.1) c
theorem SaysU.tst (c : SaysU file fa fn en t K) : t K = true := (ba (show (en.all (fun d => errB file K d) && t K) = true from congrArg (fun z : AlU => z.2.1) c)).2
theorem SaysU.err {P : Program} {h : Heap} {mg : Str → Option Value} (c : SaysU P.main.file fa fn en t K) (X : K.In h) (G : h.Ns mainGlobals mg) (ht : (P.main.scope.names.lookup ("super" : Str)).isSome = false) (i : Nat) {d : ErrD} (hd : en[i]? = some d := by rfl) :
    ∃ fd, ErrF P K mg d (ga K d.x) (ma K (ga K d.x) "__init__") fd := by
  have c1 := (ba (show (en.all (fun d => errB P.main.file K d) && t K) = true from congrArg (fun z : AlU => z.2.1) c)).1
  have e : en.map (fun d => fnS K (d.x, some "__init__")) = en.map ErrD.val := congrArg (fun z : AlU => z.2.2) c
  have e2 : (en.map fun d => fnS K (d.x, some "__init__"))[i]? = (en.map ErrD.val)[i]? := by rw [e]
  rw [List.getElem?_map, List.getElem?_map, hd] at e2
  exact errB_ok X G ht (List.all_eq_true.mp c1 d (List.mem_of_getElem? hd)) (Option.some.inj e2)
end
end U
/-! U11: own errors made, raised, caught, asked; defs that raise; defs called where an error is handled. -/
namespace U
open PySem PySem.Spec PyProof.Rows L2
open NdefX (NF ncx envF NScope CellsAt startF inv_startN)
/-! ### making -/
/-- __init__'s promise: the fields' own dict -/
def spErr (C : Addr) (fs : List Str) : Sp := fun vs H Q _ => ∃ (a : Addr) (us : List V), vs = .ref a :: us ∧ us.length = fs.length ∧ H a = some (exo a C none) ∧ ∀ d, H d = none → d ≠ a → ∀ H', H' = upd (upd H d (exd d (fs.zip us).reverse)) a (exo a C (some d)) → Q .non H'
structure ErrOk (P : Program) (w : World) (K : PySem.W.Frag) (mg : Str → Option Value) (base : Heap) (x : Str) (C : Addr) (fs : List Str) : Prop where
  ex : ∃ (fI : Addr) (fd : FuncData), mg x = some (.ref C) ∧ OexC K C ∧ PySem.W.findIn K (.ref C) "__init__" = some (some (.ref fI)) ∧ PySem.W.typeIn K (.ref fI) = some (.type "function") ∧ FnOk P w K mg base CX0 2 fI fd ("self" :: fs) (spErr C fs) ∧ Binds K fd ("self" :: fs) []
  xf : XfC K C
  no : ∀ f ∈ fs, PySem.W.findIn K (.ref C) f = some none
  ec : ExcC K C
section
variable {P : Program} {w : World} {K : PySem.W.Frag} {mg : Str → Option Value} {base : Heap} {d : ErrD} {C fI : Addr} {fd : FuncData}
/-- one field -/
theorem err1 (T : ErrF P K mg d C fI fd) {f : Str} (hfs : d.fs = [f]) (S : NScope ["self", f, "__class__"] ["self", f] ["__class__"] d.scope) {ar : Arg} (hp : (d.params.posonlyargs ++ d.params.args).head? = some ar) (har : ar.arg = "self")
    (hks : d.scope.names.lookup ("super" : Str) = some .globalImplicit) (hms : mg "super" = none) {p0 p1 p2 p3 p4 p5 : Pos} {z : Str} {j : Nat} {rest : List Stmt}
    (hb : d.body = .Expr (.Call (.Attribute (.Call (.Name "super" p0) [] [] p1) "__init__" p2) [.Constant (.str z) j p3] [] p4) p5 :: rest)
    {pl : Sem Bool} (he : ∀ env : Env, eval (.Call (.Attribute (.Call (.Name "super" p0) [] [] p1) "__init__" p2) [.Constant (.str z) j p3] [] p4) env = (do
      let ov ← attributeBase (.Call (.Name "super" p0) [] [] p1) "__init__" env (eval (.Call (.Name "super" p0) [] [] p1) env)
      standAt p2.atName
      let (f, first) ← holding [ov] (getMethod ov "__init__" pl)
      callWith p4 f first (backTo p4 (starEach [.Constant (.str z) j p3] env)) []))
    (hbn : ∀ (kV doc pm : Value) (an : Option Addr) (c ct : Value) (cc : Addr) (u v : Value), bindArgs { name := "__init__", qualname := d.qual, params := d.params, body := .stmts d.body, scope := d.scope, globals := mainGlobals, closure := [(("__class__" : Str), cc)], defaults := .none, kwdefaults := kV, doc := doc, pyModule := pm, annotations := an, code := c, closureTuple := ct, builtins := builtinsNs } ⟨[u, v], []⟩ = pure [(("self" : Str), u), (f, v)])
    (hps : ∀ {A outer s H E cc c}, PSs (ncx CX0 P w K mg base ["self", f, "__class__"] ⟨"__init__", d.qual, d.params, d.body, d.scope, [(("__class__" : Str), cc)], c⟩ fI A outer s H E) rest (tOst K f (tVar 0) (tVar 1))) :
    ErrOk P w K mg base d.x C [f] := by
  obtain ⟨c, cc, sf⟩ := T.sf
  refine ⟨⟨fI, fd, T.g, T.sc.oex, T.ini, T.fty, ?_, ?_⟩, T.xf, fun g hg => T.no g (by rw [hfs]; exact hg), T.ec⟩
  · refine fn_ofS (k := 1) (rest := rest) sf S hp (by rw [har]; rfl) (by rw [har]; exact S.par _ (by simp)) hks hms he hb (fun vs H Q E h => ?_) (fun A outer s H vs Q E hr h => ?_)
    · obtain ⟨a, us, rfl, hl, _⟩ := h
      rw [List.length_cons, hl]; rfl
    · obtain ⟨a, us, rfl, hl, ha, q⟩ := h
      refine ⟨⟨a, C, rfl, ha, T.sc⟩, _, hps, ?_⟩
      match us, hl with
      | [u], _ =>
        refine ⟨u, rfl, .ref a, rfl, a, C, rfl, T.sc.oex, T.no f (by rw [hfs]; exact List.mem_singleton_self _), .inl ⟨ha, fun dx hd hn => ?_⟩⟩
        exact q dx hd hn _ rfl
  · obtain ⟨oc, od, kV, doc, pm, an, ct, osl, rfl, _, _⟩ := sf.ex
    exact .all fun us hl => match us, hl with
      | [u, v], _ => hbn kV doc pm an _ ct cc u v
/-- two fields -/
theorem err2 (T : ErrF P K mg d C fI fd) {f g : Str} (hfs : d.fs = [f, g]) (S : NScope ["self", f, g, "__class__"] ["self", f, g] ["__class__"] d.scope) {ar : Arg} (hp : (d.params.posonlyargs ++ d.params.args).head? = some ar) (har : ar.arg = "self")
    (hks : d.scope.names.lookup ("super" : Str) = some .globalImplicit) (hms : mg "super" = none) {p0 p1 p2 p3 p4 p5 : Pos} {z : Str} {j : Nat} {rest : List Stmt}
    (hb : d.body = .Expr (.Call (.Attribute (.Call (.Name "super" p0) [] [] p1) "__init__" p2) [.Constant (.str z) j p3] [] p4) p5 :: rest)
    {pl : Sem Bool} (he : ∀ env : Env, eval (.Call (.Attribute (.Call (.Name "super" p0) [] [] p1) "__init__" p2) [.Constant (.str z) j p3] [] p4) env = (do
      let ov ← attributeBase (.Call (.Name "super" p0) [] [] p1) "__init__" env (eval (.Call (.Name "super" p0) [] [] p1) env)
      standAt p2.atName
      let (f, first) ← holding [ov] (getMethod ov "__init__" pl)
      callWith p4 f first (backTo p4 (starEach [.Constant (.str z) j p3] env)) []))
    (hbn : ∀ (kV doc pm : Value) (an : Option Addr) (c ct : Value) (cc : Addr) (u v w : Value), bindArgs { name := "__init__", qualname := d.qual, params := d.params, body := .stmts d.body, scope := d.scope, globals := mainGlobals, closure := [(("__class__" : Str), cc)], defaults := .none, kwdefaults := kV, doc := doc, pyModule := pm, annotations := an, code := c, closureTuple := ct, builtins := builtinsNs } ⟨[u, v, w], []⟩ = pure [(("self" : Str), u), (f, v), (g, w)])
    (hps : ∀ {A outer s H E cc c}, PSs (ncx CX0 P w K mg base ["self", f, g, "__class__"] ⟨"__init__", d.qual, d.params, d.body, d.scope, [(("__class__" : Str), cc)], c⟩ fI A outer s H E) rest (tSeq (tOst K f (tVar 0) (tVar 1)) (tOst K g (tVar 0) (tVar 2)))) :
    ErrOk P w K mg base d.x C [f, g] := by
  obtain ⟨c, cc, sf⟩ := T.sf
  refine ⟨⟨fI, fd, T.g, T.sc.oex, T.ini, T.fty, ?_, ?_⟩, T.xf, fun g hg => T.no g (by rw [hfs]; exact hg), T.ec⟩
  · refine fn_ofS (k := 1) (rest := rest) sf S hp (by rw [har]; rfl) (by rw [har]; exact S.par _ (by simp)) hks hms he hb (fun vs H Q E h => ?_) (fun A outer s H vs Q E hr h => ?_)
    · obtain ⟨a, us, rfl, hl, _⟩ := h
      rw [List.length_cons, hl]; rfl
    · obtain ⟨a, us, rfl, hl, ha, q⟩ := h
      refine ⟨⟨a, C, rfl, ha, T.sc⟩, _, hps, ?_⟩
      match us, hl with
      | [u, v], _ =>
        refine ⟨u, rfl, .ref a, rfl, a, C, rfl, T.sc.oex, T.no f (by rw [hfs]; simp), .inl ⟨ha, fun dx hd hn => ?_⟩⟩
        refine ⟨v, rfl, .ref a, rfl, a, C, rfl, T.sc.oex, T.no g (by rw [hfs]; simp), .inr ⟨dx, [(f, u)], upd_same, by rw [upd_ne hn, upd_same], by show 1 ≤ 900; omega, ?_⟩⟩
        refine q dx hd hn _ ?_
        funext b
        by_cases h1 : b = dx
        · subst h1; rw [upd_same, upd_ne hn, upd_same]; rfl
        · rw [upd_ne h1]
          by_cases h2 : b = a
          · subst h2; rw [upd_same, upd_same]
          · rw [upd_ne h2, upd_ne h2, upd_ne h1, upd_ne h1]
  · obtain ⟨oc, od, kV, doc, pm, an, ct, osl, rfl, _, _⟩ := sf.ex
    exact .all fun us hl => match us, hl with
      | [u, v, w], _ => hbn kV doc pm an _ ct cc u v w
end
/-- C(e, ..) -/
abbrev tMkE (C : Addr) (fs : List Str) (ta : TA) : L2.St → Hp → XK → Prop := tMkO C (spErr C fs) [] ta
section
variable {X : Cx} {x : Str} {C : Addr} {fs : List Str} {p pos : Pos} {e : Expr} {es : List Expr} {ta : TA}
theorem pmk_err (O : ErrOk X.prog X.w X.K X.mg X.base x C fs) (hr : Room 3 X.A) (hg : Gl X x) (ha : PA X (e :: es) ta)
    (hdb : (x == ("__debug__" : Str)) = false := by decide) (he : starEach (e :: es) X.env = (false, eval e X.env) :: starEach es X.env := by rfl) (hpl : (backTo pos (starEach es X.env)).any (·.1) = false := by rfl) : PMk X (.Call (.Name x p) (e :: es) [] pos) (tMkE C fs ta) := by
  obtain ⟨fI, fd, hm, T, ini, fty, F, hb⟩ := O.ex
  exact pmk_oex T ini fty F hr hb .nil (fun _ _ _ _ _ _ _ h => h.elim) hg hm ha hdb he hpl
/-- raise C(e, ..) -/
def tRaise (W : WX) (t : L2.St → Hp → XK → Prop) : TS := fun _ σ H => t σ H fun cls d H' => W cls d σ H'
theorem ps_raiseT {W : WX} {e : Expr} {t : L2.St → Hp → XK → Prop} {pos : Pos} (hc : X.calm = true) (tk : Takes X W) (he : PMk X e t) : PS X (.Raise (some e) none pos) (tRaise W t) := ps_raise hc tk he
end
section
variable {σ : L2.St} {H : Hp} {D : Ends} {ta : TA} {C : Addr} {fs : List Str} {Q : XK} {W : WX}
/-- what is asked behind the arguments of a raised error -/
def RaiseE (C : Addr) (fs : List Str) (W : WX) (σ : L2.St) (vs : List V) (H1 : Hp) : Prop := vs.length ≤ 1000 ∧ ∀ a, H1 a = none → spErr C fs (.ref a :: (vs ++ [])) (upd H1 a (exo a C none))
  (fun v H2 => v = .non ∧ ∃ (d : Addr) (fs : List (Str × V)), H2 a = some (exo a C (some d)) ∧ H2 d = some (exd d fs) ∧ H1 d = none ∧ W (.ref C) (some d) σ (upd (del H2 a) d (.xd fs))) (fun _ _ _ => False)
theorem r_raise (h : ta σ H fun vs H1 => RaiseE C fs W σ vs H1) : tRaise W (tMkE C fs ta) D σ H := h
theorem r_mkE {vs : List V} (hl : vs.length = fs.length) (hn : fs.length ≤ 1000) (h : ∀ d, H d = none → W (.ref C) (some d) σ (upd H d (.xd (fs.zip vs).reverse))) : RaiseE C fs W σ vs H := by
  refine ⟨by omega, fun a ha => ⟨a, vs, by rw [List.append_nil], hl, upd_same, fun d hd hn H' e => ⟨rfl, d, (fs.zip vs).reverse, by rw [e, upd_same], by rw [e, upd_ne hn, upd_same], by rw [← hd, upd_ne hn], ?_⟩⟩⟩
  have hd' : H d = none := by rw [← hd, upd_ne hn]
  have e2 : upd (del H' a) d (.xd (fs.zip vs).reverse) = upd H d (.xd (fs.zip vs).reverse) := by
    funext b
    by_cases h1 : b = d
    · subst h1; rw [upd_same, upd_same]
    · rw [upd_ne h1, upd_ne h1]
      by_cases h2 : b = a
      · subst h2; rw [del_same, ha]
      · rw [del_ne h2, e, upd_ne h2, upd_ne h1, upd_ne h2]
  rw [e2]
  exact h d hd'
end
/-! ### defs that raise -/
structure OkX (P : Program) (w : World) (K : PySem.W.Frag) (mg : Str → Option Value) (base : Heap) (k : Nat) (x : Str) (ps : List Str) (sp : Sp) : Prop where
  ex : ∃ (f : Addr) (fd : FuncData), mg x = some (.ref f) ∧ FnOk P w K mg base (L2.CX P w) k f fd ps sp ∧ Binds K fd ps [] ∧ PySem.W.keepIn K (.ref f) = true
structure OkMX (P : Program) (w : World) (K : PySem.W.Frag) (mg : Str → Option Value) (base : Heap) (k : Nat) (C : Addr) (m : Str) (ps : List Str) (sp : Sp) : Prop where
  ex : ∃ (f : Addr) (fd : FuncData), Cls K C ∧ Meth K C m f ∧ FnOk P w K mg base (L2.CX P w) k f fd ps sp ∧ Binds K fd ps []
def tMethS (C : Addr) (m : Str) (sp : Sp) (E : L2.St → XK) (ta : TE) (t : TA) : TE := fun σ H Q => ta σ H fun x H1 => ∃ a dx fs, x = .ref a ∧ H1 a = some (.ins C dx fs) ∧ fs.lookup m = none ∧ t σ H1 fun vs H2 => sp (x :: vs) H2 Q (E σ)
section
variable {X : Cx} {W : WX} {k : Nat} {C : Addr} {x m : Str} {ps : List Str} {sp : Sp} {p pos apos : Pos} {e o : Expr} {es : List Expr} {ta : TE} {t : TA}
theorem pe_fnX (O : OkX X.prog X.w X.K X.mg X.base k x ps sp) (tk : Takes X W) (hr : Room k X.A) (hg : Gl X x) (ha : PA X (e :: es) t) (hdb : (x == ("__debug__" : Str)) = false := by decide)
    (he : starEach (e :: es) X.env = (false, eval e X.env) :: starEach es X.env := by rfl) (hpl : (backTo pos (starEach es X.env)).any (·.1) = false := by rfl) : PE X (.Call (.Name x p) (e :: es) [] pos) (tCallS sp (WE W) t) := by
  obtain ⟨f, fd, hm, F, hb, hk⟩ := O.ex
  exact pe_callS F hr hg hm hk hb (fun σ => passAt tk σ) ha hdb he hpl
theorem pe_mthX {pl : Sem Bool} (O : OkMX X.prog X.w X.K X.mg X.base k C m ps sp) (tk : Takes X W) (he : PE X o ta) (hr : Room k X.A) (ha : PA X (e :: es) t)
    (hst : starEach (e :: es) X.env = (false, eval e X.env) :: starEach es X.env := by rfl) (hpl : (backTo pos (starEach es X.env)).any (·.1) = false := by rfl)
    (ht : eval (.Call (.Attribute o m apos) (e :: es) [] pos) X.env = (do
      let ov ← eval o X.env
      standAt apos.atName
      let (f, first) ← holding [ov] (getMethod ov m pl)
      callWith pos f first (backTo pos (starEach (e :: es) X.env)) (backToKw pos (keywordEach [] X.env))) := by rfl) :
    PE X (.Call (.Attribute o m apos) (e :: es) [] pos) (tMethS C m sp (WE W) ta t) := by
  obtain ⟨f, fd, c, hm, F, hb⟩ := O.ex
  refine ⟨fun pins s σ H Q I h => ?_⟩
  refine PySem.W.methodCall_KW (pl := pl) (thn (he.run pins s σ H _ I h) fun u s1 ⟨x, H1, I1, rx, a, dx, fs, ex, ea, l, q⟩ => ?_) ht
  subst ex
  obtain rfl : u = Value.ref a := rx
  refine getmeth_ok I1 ea c hm l ?_
  refine PySem.W.callWith_K (first := [.ref a]) (h₀ := X.base) I.ok.mod.kin hm.kp (thn (ha.run pos pins s1 σ H1 _ I1 q) fun us s2 ⟨vs, H2, I2, r, q2⟩ => ⟨I2.kIn, ?_⟩) hst hpl
  exact run_fnS (us := .ref a :: us) (vs := .ref a :: vs) F hr hb (passAt tk σ) I2 (.cons rfl r) q2
end
section
variable {σ : L2.St} {H : Hp} {Q : VK} {ta : TE} {t : TA} {sp : Sp} {W : WX} {C : Addr} {m : Str}
theorem r_callS (h : t σ H fun vs H1 => sp vs H1 Q (fun cls d H' => W cls d σ H')) : tCallS sp (WE W) t σ H Q := h
theorem r_methS (h : ta σ H fun x H1 => ∃ a dx fs, x = .ref a ∧ H1 a = some (.ins C dx fs) ∧ fs.lookup m = none ∧ t σ H1 fun vs H2 => sp (x :: vs) H2 Q (fun cls d H' => W cls d σ H')) : tMethS C m sp (WE W) ta t σ H Q := h
end
/-! ### isinstance of the caught error, which has an own dict -/
def rIsX (K : PySem.W.Frag) (C a : Addr) (cls : Value) (d : Option Addr) : List V → Hp → VK → Prop := fun xs H Q => ∃ (c : V) (cv : Value) (b : Bool) (dd : Addr) (fs : List (Str × V)), xs = [.ref a, c] ∧ cls = .ref C ∧ d = some dd ∧ H dd = some (.xd fs) ∧ (∀ u, RelV c u → u = cv) ∧ PySem.W.kitOne K (.ref C) cv = some b ∧ Q (.bl b) H
end U
namespace PySem.W
open PySem PySem.Spec PySem.Calls PyProof.Rows
section
variable {prog : Program} {w : World} {A : Around} {E : Value → Shared → Prop} {s : Shared} {K : Frag} {x D : Addr} {ox od : Obj}
theorem kin_classD {Q : Option Value → Shared → Prop} (C : L2.ExcC K D) (ic : isClsIn K D = true)
    (X : K.In s.heap) (I : InstAt s.heap x ox D (some od)) (h : Q (some (.ref D)) { s with toks := s.toks + 1 }) : wpAny (model prog w) A (getAttr? (.ref x) "__class__") Q E s := by
  have hf : findObj K D (some od) "__class__" = some (.bind (.builtin "getset_descriptor.__get__") (.builtin "object.__class__")) := findObj_data ic C.ha C.hn C.ht
  obtain ⟨hp, g, d, t, os⟩ := s
  have L0 := I.type (M := model prog w)
  have L1 := looks_findIn (M := model prog w) X C.hg
  have L2 := looks_findIn (M := model prog w) X C.hk
  have L3 := looks_find (M := model prog w) X I hf
  have sub : Looks (model prog w) hp (isInstance (.ref x) (.type "BaseException")) true := L0.andThen (looks_subIn X C.hs)
  have hx0 : (false && onTheHeap (Value.builtin "BaseException.__getattribute__")) = false := rfl
  have hx2 : (Value.builtin "BaseException.__getattribute__" == Value.builtin "object.__getattribute__") = false := by decide +kernel
  have hx1 : (onTheHeap (Value.ref D) && Value.builtin "BaseException.__getattribute__" == Value.builtin "object.__getattribute__") = false := by rw [hx2]; rfl
  unfold getAttr? getAttrBy? getAttrBy
  refine wpAny_bind (wpAny_mkText (wpAny_bind (wpAny_attempt (wpAny_holding (wpAny_bind (L0.at (wpAny_bind (L1.at ?_))))))))
  show wpAny _ _ (if (onTheHeap (Value.ref D) && Value.builtin "BaseException.__getattribute__" == Value.builtin "object.__getattribute__") = true then _ else _) _ _ _
  rw [hx1, if_neg Bool.false_ne_true]
  unfold getAttrByItsOwn hookBefore
  refine wpAny_bind ?_
  rw [if_pos (show onTheHeap (Value.ref D) = true from rfl)]
  refine L2.at ?_
  refine wpAny_bind (wpAny_attempt (wpAny_holding ?_))
  unfold callGetattribute
  rw [hx0, if_neg Bool.false_ne_true]
  unfold boundAndCalled
  rw [PySem.F.excAttr_ValueError.ga.bind (.ref x)]
  refine wpAny_bind (wpAny_pure ?_)
  show wpAny _ _ (call (.builtin "BaseException.__getattribute__") [.ref x, .str "__class__" t]) _ _ _
  refine wpAny_call (codeAny_call_builtin PySem.F.excAttr_ValueError.ga.plain PySem.F.entry_bexc_ga ?_)
  refine @check_slot (model prog w) _ _ ⟨hp, g, d, t + 1, os⟩ "BaseException.__getattribute__" "BaseException" "__getattribute__" (.ref x) [.str "__class__" t] [] _ (by decide +kernel) (by decide +kernel) sub (PySem.F.args_bexc_ga (.ref x) (.str "__class__" t)) ?_
  unfold Builtin.«object.__getattribute__»
  refine wpAny_bind (wpAny_of_eq (a := ((Value.ref x : Value), [Value.str "__class__" t])) (by first | rfl | (simp only [slotArgs]; rfl)) ?_)
  refine wpAny_bind (wpAny_pure (wpAny_bind (L0.at (wpAny_bind (L3.at ?_)))))
  show wpAny _ _ (holding [Value.builtin "object.__class__"] (call (.builtin "getset_descriptor.__get__") [.builtin "object.__class__", .ref x, .ref D]) >>= ret) _ _ _
  refine wpAny_bind (wpAny_holding (wpAny_call (class_get (s := ⟨hp, g, d, t + 1, os⟩) (ox := ox) (od := some od) X I C.hm ?_)))
  refine wpAny_pure ?_
  show wpAny _ _ (handedOut (.ref D)) _ _ _
  rw [handedOut_of (v := .ref D) rfl]
  first
    | exact wpAny_pure (wpAny_pure h)
    | exact wpAny_pure h
    | exact wpAny_pure (wpAny_bind (wpAny_pure (wpAny_pure h)))
theorem kitx_excD (C : L2.ExcC K D) : KitX K (.ref x) (.ref D) (fun h => ∃ od, InstAt h x ox D (some od)) where
  ty := fun _ _ _ ⟨_, I⟩ => I.type
  it := fun _ _ X _ => by
    obtain ⟨cdD, hcD, _⟩ := any_some C.hd
    unfold clsIn at hcD
    split at hcD
    · rename_i c' d' cd' sl' ho
      intro A' Q' E' s' k q
      unfold isType loadHead
      exact wpAny_bind (wpAny_loadPart (k _ _ (X _ _ ho)) (wpAny_pure q))
    · cases hcD
  ne := fun h tp dd its n sl X htp => by
    obtain ⟨cdD, hcD, _⟩ := any_some C.hd
    refine Bool.eq_false_iff.mpr fun q => ?_
    have e : D = tp := Value.ref.inj (beq_iff_eq.mp q)
    subst e
    unfold clsIn at hcD
    split at hcD
    · rename_i c' d' cd' sl' ho
      have z := (X _ _ ho).symm.trans htp
      cases z
    · cases hcD
  ca := fun X ⟨_, I⟩ k => kin_classD C (by unfold isClsIn; obtain ⟨cd, hc, _⟩ := any_some C.hd; rw [hc]; rfl) X I k
end
end PySem.W
namespace U
open PySem PySem.Spec PyProof.Rows L2
theorem call_isX {X : Cx} {a C : Addr} {cls : Value} {d : Option Addr} {oe : Obj} {pn : List (Addr × Obj)} (T : ExcC X.K C) (hz : Zc cls d oe) (hf : ∃ vs, oe.data = .fields vs) : CallR (X.suite a ((a, oe) :: pn)) (.builtin "isinstance") (rIsX X.K C a cls d) := by
  intro pins s σ H xs us Q I r h
  obtain ⟨c, cv, b, dd, fs, rfl, rfl, rfl, ea, hcv, e, q⟩ := h
  cases r with
  | cons rx rr =>
    cases rr with
    | cons rt rr =>
      cases rr
      cases rx
      have ec := hcv _ rt
      subst ec
      obtain ⟨hget, _⟩ := I.pin (a, oe) (List.mem_append.mpr (.inl List.mem_cons_self))
      obtain ⟨vs, hv⟩ := hf
      have hx : ObjOk X.prog X.w H s.heap dd (.xd fs) := I.hok dd _ ea
      obtain ⟨mA, hns, hr⟩ := hx
      obtain ⟨od, ho, hl⟩ := lookIn_ns hns
      have J : PySem.W.InstAt s.heap a oe C (some od) := ⟨hget, hz.1, by unfold PySem.W.notCls; rw [hv] <;> rfl, by rw [hz.2]; exact ho⟩
      exact PySem.W.kia_one (PySem.W.kitx_excD (ox := oe) T) I.kIn ⟨od, J⟩ e (fun z => nomatch z) fun tk => ⟨.bl b, H, I.kept (t' := tk) fun _ _ z => z, rfl, q⟩
/-! ### defs called where an error is handled: no loops in them, nothing raised -/
def cxQ (P : Program) (w : World) (K : PySem.W.Frag) (mg : Str → Option Value) (base : Heap) (N : List Str) (qual : Str) (scope : Scope) (f : Addr) (cd : Value) (A : Around) (outer : List Env) (s : Shared) (H : Hp) (E : XK) : Cx :=
  { cxOf CX0 P w K mg base N qual scope f cd A outer s H E with calm := false }
structure FnQ (P : Program) (w : World) (K : PySem.W.Frag) (mg : Str → Option Value) (base : Heap) (k : Nat) (f : Addr) (fd : FuncData) (ps : List Str) (sp : Sp) : Prop where
  len : ∀ vs H Q E, sp vs H Q E → vs.length = ps.length
  run : ∀ (A : Around) (outer : List Env) (s : Shared) (H : Hp) (args : Args) (us : List Value) (vs : List V) (Q : VK) (E : XK), L2H.RoomH k A → Env0 P w K mg base A outer s H → BindsTo s fd args (ps.zip us) → Vals vs us → sp vs H Q E →
    codeAny (model P w) A (.call (.ref f) args) (CR CX0 outer P w H s Q E) s
theorem inv_startQ {P : Program} {w : World} {K : PySem.W.Frag} {mg : Str → Option Value} {base : Heap} {N ps : List Str} {qual : Str} {scope : Scope} {f : Addr} {cd : Value} {A : Around} {outer : List Env} {s s1 : Shared} {H : Hp} {E : XK} {us : List Value} {vs : List V}
    (S : FnScope N ps scope) (e0 : Env0 P w K mg base A outer s H) (hl : vs.length = ps.length) (r : Vals vs us)
    (x : InCallC s s.heap.objs.size (bindL (envOfC qual scope s.heap.objs.size f cd).kindOf (ps.zip us) fun _ => none) (cellsFrom (s.heap.objs.size + 1) scope.names []) (bindC (envOfC qual scope s.heap.objs.size f cd).kindOf (ps.zip us) fun _ => none) s1) :
    Inv (cxQ P w K mg base N qual scope f cd A outer s H E) [] (L2.start N vs) H s1 := by
  have hpl : ps.length ≤ N.length := by have := congrArg List.length S.pre; rw [List.length_take] at this; omega
  obtain ⟨h1, tk, rfl, hk⟩ := x.done
  have noA : ∀ b : Addr, b ∉ (cxQ P w K mg base N qual scope f cd A outer s H E).ex := fun b z => absurd (show b ∈ ([] : List Addr) from z) (by simp)
  refine ⟨⟨e0.mod, S.kind, rfl, rfl, Nat.le_refl _, fun y z c h1 h2 => ?_, fun y hy => ?_, fun y c _ h => ?_, (fun z => Bool.noConfusion (show false = true from z)), Around.frames_deeper e0.frames, .inr ⟨rfl, rfl⟩, fun b z => absurd z (noA b), e0.bs, e0.bsz, fun b _ _ => noA b, fun b z => absurd z (noA b), e0.funs, e0.frf⟩,
    rfl, e0.bare, Un.kept hk, ⟨_, x.toInCall.ns, fun i y v h1 h2 h3 => ?_⟩, fun y c h => ⟨_, x.cell y c h⟩, e0.hok.fresh (Nat.le_refl _), fun y c h => ?_, fun p hp => absurd (show p ∈ ([] : List (Addr × Obj)) from hp) (by simp), e0.hok.kept hk, ?_⟩
  · exact name_of_addr x.apart (PySem.mem_of_lookup h1) (PySem.mem_of_lookup h2)
  · have hy : scope.names.lookup y = some .cell ∨ scope.names.lookup y = some .free := hy
    rcases hy with hy | hy
    · exact cell_has hy
    · exact absurd rfl (S.nofree _ (PySem.mem_of_lookup hy))
  · exact Nat.le_of_lt (x.above y c (PySem.mem_of_lookup h))
  · have hi : i < vs.length := by
      unfold L2.start at h2
      by_cases hi : i < vs.length
      · exact hi
      · rw [List.getElem?_append_right (by simpa using hi)] at h2
        rw [List.getElem?_replicate] at h2
        split at h2 <;> cases h2
    have ha : vs[i]? = some v := by
      unfold L2.start at h2
      rw [List.getElem?_append_left (by simpa using hi), List.getElem?_map] at h2
      cases e : vs[i]? with
      | none => rw [e] at h2; cases h2
      | some a => rw [e] at h2; cases h2; rfl
    obtain ⟨u, hu, rv⟩ := r.get ha
    have hp : ps[i]? = some y := by
      rw [← S.pre, List.getElem?_take_of_lt (by omega)]; exact h1
    have ndP : ps.Nodup := by rw [← S.pre]; exact S.nd.sublist (List.take_sublist _ _)
    refine ⟨u, rv, ?_⟩
    rcases S.par y (List.mem_of_getElem? hp) with k | k
    · exact .inl ⟨k, bindL_get ndP hp hu k⟩
    · obtain ⟨c, e⟩ := cell_has (n := s.heap.objs.size + 1) k
      refine .inr ⟨.inl k, c, e, ?_⟩
      have q := x.cell y c e
      rw [bindC_get ndP hp hu (by show scope.names.lookup y ≠ _; rw [k]; decide)] at q
      exact q
  · exact e0.hok.fresh (Nat.le_of_lt (x.above y c (PySem.mem_of_lookup h)))
  · unfold L2.start
    show _ = N.length
    rw [List.length_append, List.length_map, List.length_replicate]
    omega
theorem fn_ofQ {P : Program} {w : World} {K : PySem.W.Frag} {mg : Str → Option Value} {base : Heap} {k : Nat} {f : Addr} {name qual : Str} {params : Arguments} {body : List Stmt} {scope : Scope} {dvs : List V} {kws : List (Str × V)} {fd : FuncData}
    {N ps : List Str} {sp : Sp} (F : FunD K name qual params body scope dvs kws f fd) (S : FnScope N ps scope)
    (len : ∀ vs H Q E, sp vs H Q E → vs.length = ps.length)
    (hbody : ∀ (cdv : Value) (A : Around) (outer : List Env) (s : Shared) (H : Hp) (vs : List V) (Q : VK) (E : XK), L2H.RoomH k (A.deeper (envOfC qual scope s.heap.objs.size f cdv)) → sp vs H Q E →
      ∃ t, PSs (cxQ P w K mg base N qual scope f cdv A outer s H E) body t ∧ t { nx := fun _ H' => Q .non H', rt := Q } (L2.start N vs) H) :
    FnQ P w K mg base (k + 1) f fd ps sp := by
  obtain ⟨oc, od, dV, kV, doc, pm, an, cdv, ct, osl, rfl, lk, hcd, _, _⟩ := F.ex
  refine ⟨len, fun A outer s H args us vs Q E hr e0 hb r hsp => ?_⟩
  have hl := len _ _ _ _ hsp
  have KX : K.In s.heap := e0.mod.kin.keeps fun b o e => (e0.bs b o e).1
  have lim : s.heap.NoLimit := e0.mod.nolimit.keeps fun b o e => (e0.bs b o e).1
  have hkind : ∀ y ∈ ps.zip us, scope.names.lookup y.1 = some .local ∨ (scope.names.lookup y.1 = some .cell ∧ ((cellsFrom (s.heap.objs.size + 1) scope.names []).lookup y.1).isSome = true) := fun ⟨n, v⟩ hy => by
    rcases S.par n (List.of_mem_zip hy).1 with q | q
    · exact .inl q
    · exact .inr ⟨q, PySem.W.cellsFrom_some _ _ _ (.inl q)⟩
  refine codeAny_call_function hr.depth (KX _ _ lk) rfl S.co S.gen rfl (PySem.W.codeRec_of KX hcd) (hb _ _ _ _ ?_)
  refine wpAny_newFunctionEnv_cells S.kind hkind fun env he s1 x => ?_
  subst he
  refine ⟨lim.keeps x.toInCall.keep, codeAny_func ?_⟩
  obtain ⟨t, ht, hq⟩ := hbody cdv A outer s H vs Q E (hr.deeper _) hsp
  have I : Inv (cxQ P w K mg base N qual scope f cdv A outer s H E) [] (L2.start N vs) H s1 := inv_startQ S e0 hl r x
  refine wpAny_mono (ht.run [] s1 (L2.start N vs) H _ I hq) (fun fl s' hs => ?_) fun e s' hs => hs
  cases fl with
  | ret u =>
    obtain ⟨v, σ', H', J, rv, q⟩ := hs
    exact ⟨v, H', J.os, J.bare, J.base, J.hok, rv, q⟩
  | next =>
    obtain ⟨σ', H', J, q⟩ := hs
    exact ⟨V.non, H', J.os, J.bare, J.base, J.hok, rfl, q⟩
  | brk =>
    obtain ⟨_, _, _, q⟩ := hs
    exact False.elim q
  | cont =>
    obtain ⟨_, _, _, q⟩ := hs
    exact False.elim q
structure OkQ (P : Program) (w : World) (K : PySem.W.Frag) (mg : Str → Option Value) (base : Heap) (k : Nat) (x : Str) (ps : List Str) (sp : Sp) : Prop where
  ex : ∃ (f : Addr) (fd : FuncData), mg x = some (.ref f) ∧ FnQ P w K mg base k f fd ps sp ∧ Binds K fd ps [] ∧ PySem.W.keepIn K (.ref f) = true
theorem pe_fnQ {X : Cx} {k : Nat} {x : Str} {ps : List Str} {sp : Sp} {p pos : Pos} {e : Expr} {es : List Expr} {t : TA} (O : OkQ X.prog X.w X.K X.mg X.base k x ps sp) (hr : L2H.RoomH k X.A) (hg : Gl X x) (ha : PA X (e :: es) t) (hdb : (x == ("__debug__" : Str)) = false := by decide)
    (he : starEach (e :: es) X.env = (false, eval e X.env) :: starEach es X.env := by rfl) (hpl : (backTo pos (starEach es X.env)).any (·.1) = false := by rfl) : PE X (.Call (.Name x p) (e :: es) [] pos) (tCall sp [] E0 t) := by
  obtain ⟨f, fd, hm, F, hb, hk⟩ := O.ex
  refine ⟨fun pins s σ H Q I h => ?_⟩
  refine wpAny_Call_Name_kw (ld_glob I hg hm ?_ hdb)
  refine PySem.W.callWith_K (h₀ := X.base) I.ok.mod.kin hk (thn (ha.run pos pins s σ H _ I h) fun us s1 ⟨vs, H1, I1, r, q⟩ => ⟨I1.kIn, ?_⟩) he hpl
  have q : sp vs H1 Q E0 := by
    have q : sp (vs ++ []) H1 Q E0 := q
    rw [List.append_nil] at q
    exact q
  have hl : us.length = ps.length := by rw [← r.length]; exact F.len _ _ _ _ q
  have b := hb s1 us I1.kIn (by rw [List.append_nil]; exact hl)
  rw [List.append_nil] at b
  refine wpAny_call (codeAny_mono (F.run X.A X.stack s1 H1 ⟨us, []⟩ us vs Q E0 hr I1.env0 b r q) fun r s' hq => ?_)
  cases r with
  | error e => exact False.elim hq
  | ok fl =>
    cases fl with
    | ret u => exact I1.after hq
    | next => exact False.elim hq
    | brk => exact False.elim hq
    | cont => exact False.elim hq
/-- try: .. except x as n: .. -/
def tTryAs (K : PySem.W.Frag) (c : Value) (i : Nat) (tb : WX → TS) (ts : Addr → Value → Option Addr → TS) (Wout : WX) : TS := fun D σ H => tb (wAs K c i ts Wout D) D σ H
def tTryOnly (K : PySem.W.Frag) (c : Value) (tb : WX → TS) (ts : Addr → Value → Option Addr → TS) (Wout : WX) : TS := fun D σ H => tb (wOnly K c ts Wout D) D σ H
theorem _root_.L2H.RoomH.units {k : Nat} {A : Around} (r : L2H.RoomH k A) : A.units + 64 < cLine := by have := r.un; omega
theorem roomQ {k j : Nat} {A : Around} {e : Option Value} (r : Room k A) (h : j ≤ k) : L2H.RoomH j (A.mark e) := ⟨by have := r.dp; show A.depth + 3 * j + 5 < _; omega, by have := r.un; show A.units + 16 * j + 200 < _; omega⟩
theorem SaysU.tfact {file : Str} {fa : List He.Fa} {fn : List He.DefD} {en : List ErrD} {ts : List (PySem.W.Frag → Bool)} {K : PySem.W.Frag} (c : SaysU file fa fn en (fun K => ts.all fun f => f K) K) (i : Nat) {f : PySem.W.Frag → Bool} (h : ts[i]? = some f := by rfl) : f K = true :=
  List.all_eq_true.mp c.tst f (List.mem_of_getElem? h)
section
variable {X : Cx} {x n : Str} {c : Value} {i : Nat} {body suite : List Stmt} {b₀ : Stmt} {np pos pos' : Pos} {tb : WX → TS} {ts : Addr → Value → Option Addr → TS} {Wout : WX}
theorem ps_tryAs (hs : X.stack = X.env :: X.outer) (hf : X.env.frame = some X.env.locals) (hN : X.N.Nodup) (hi : X.N[i]? = some n) (hln : X.env.kindOf n = some .local) (hc : Names X x c) (tk : Takes X Wout)
    (hb : ∀ (W : WX) (pn : List (Addr × Obj)) (xe : Value → Shared → Prop), Takes (X.tr pn xe) W → PassesOwn (model X.prog X.w) X.A X.env xe → PSs (X.tr pn xe) body (tb W))
    (hsu : ∀ (a : Addr) (oe : Obj) (cls : Value) (d : Option Addr) (pn : List (Addr × Obj)), Zc cls d oe → (∃ vs, oe.data = .fields vs) → PSs (X.suite a ((a, oe) :: pn)) (b₀ :: suite) (ts a cls d)) :
    PS X (.Try body [.ExceptHandler (some (.Name x np)) (some n) (b₀ :: suite) pos'] [] [] pos) (tTryAs X.K c i tb ts Wout) := ps_try_as hs hf hN hi hln hc tk hb hsu
theorem ps_tryOnly (hs : X.stack = X.env :: X.outer) (hf : X.env.frame = some X.env.locals) (hc : Names X x c) (tk : Takes X Wout)
    (hb : ∀ (W : WX) (pn : List (Addr × Obj)) (xe : Value → Shared → Prop), Takes (X.tr pn xe) W → PassesOwn (model X.prog X.w) X.A X.env xe → PSs (X.tr pn xe) body (tb W))
    (hsu : ∀ (a : Addr) (oe : Obj) (cls : Value) (d : Option Addr) (pn : List (Addr × Obj)), Zc cls d oe → (∃ vs, oe.data = .fields vs) → PSs (X.suite a ((a, oe) :: pn)) (b₀ :: suite) (ts a cls d)) :
    PS X (.Try body [.ExceptHandler (some (.Name x np)) none (b₀ :: suite) pos'] [] [] pos) (tTryOnly X.K c tb ts Wout) := ps_try_only hs hf hc tk hb hsu
end
end U
/-! U12: ord; more methods of lists; own operators. -/
namespace U
open PySem PySem.Spec PyProof.Rows L2
def uOrd : RC := fun xs H Q => match xs with
  | [.str x] => x.length = 1 ∧ Q (.int (x.cps.getD 0 0 : Nat)) H
  | _ => False
theorem c_ord {X : Cx} : CallR X (.builtin "ord") uOrd := by
  intro pins s σ H xs us Q I r h
  unfold uOrd at h
  split at h
  · exact call_ord pins s σ H _ us Q I r ⟨_, rfl, h⟩
  · exact h.elim
theorem r_ord {H : Hp} {Q : VK} {c : Nat} (h : Q (.int c) H) : uOrd [.str ⟨#[c]⟩] H Q := ⟨rfl, h⟩
def uPop0 : RM := fun x vs H Q => match x, vs with
  | .ref l, [] => ∃ xs y, H l = some (.lst xs) ∧ xs[xs.length - 1]? = some y ∧ Q y (upd H l (.lst xs.dropLast))
  | _, _ => False
theorem m_pop0 {X : Cx} : MtM X "list.pop" uPop0 := by
  intro pins s σ H x xs v us Q I rx rs h
  unfold uPop0 at h
  split at h
  · obtain ⟨xs, y, h1, h2, q⟩ := h
    exact mt_pop pins s σ H _ _ v us Q I rx rs ⟨_, xs, y, rfl, rfl, h1, h2, q⟩
  · exact h.elim
def uPopAt : RM := fun x vs H Q => match x, vs with
  | .ref l, [.int i] => ∃ xs k y, H l = some (.lst xs) ∧ -(2 ^ 63) ≤ i ∧ i < 2 ^ 63 ∧ seqIndex? i xs.length = some k ∧ xs[k]? = some y ∧ Q y (upd H l (.lst (xs.eraseIdx k)))
  | _, _ => False
theorem m_popAt {X : Cx} : MtM X "list.pop" uPopAt := by
  intro pins s σ H x xs v us Q I rx rs h
  unfold uPopAt at h
  split at h
  · obtain ⟨xs, k, y, h1, h2, h3, h4, h5, q⟩ := h
    exact mt_popAt pins s σ H _ _ v us Q I rx rs ⟨_, xs, _, k, y, rfl, rfl, h1, h2, h3, h4, h5, q⟩
  · exact h.elim
def uExtend : RM := fun x vs H Q => match x, vs with
  | .ref l, [.ref b] => ∃ xs zs, H l = some (.lst xs) ∧ H b = some (.lst zs) ∧ xs.length + zs.length ≤ sizeLine ∧ Q .non (upd H l (.lst (xs ++ zs)))
  | _, _ => False
theorem m_extend {X : Cx} : MtM X "list.extend" uExtend := by
  intro pins s σ H x xs v us Q I rx rs h
  unfold uExtend at h
  split at h
  · obtain ⟨xs, zs, h1, h2, h3, q⟩ := h
    exact mt_extend pins s σ H _ _ v us Q I rx rs ⟨_, _, xs, zs, rfl, rfl, h1, h2, h3, q⟩
  · exact h.elim
def uInsert : RM := fun x vs H Q => match x, vs with
  | .ref l, [.int i, y] => ∃ xs, H l = some (.lst xs) ∧ xs.length < sizeLine ∧ 0 ≤ i ∧ i < 2 ^ 63 ∧ Q .non (upd H l (.lst (xs.take i.toNat ++ [y] ++ xs.drop i.toNat)))
  | _, _ => False
theorem m_insert {X : Cx} : MtR X "list.insert" uInsert := by
  intro pins s σ H x xs v us Q I rx rs h
  unfold uInsert at h
  split at h
  · obtain ⟨xs, h1, h2, h3, h4, q⟩ := h
    exact mt_insert pins s σ H _ _ v us Q I rx rs ⟨_, xs, _, _, rfl, rfl, h1, h2, h3, h4, q⟩
  · exact h.elim
/-! ### x + y by the class' own __add__ -/
/-- a class of the program with an own method for an operator -/
structure OkOp (P : Program) (w : World) (K : PySem.W.Frag) (mg : Str → Option Value) (base : Heap) (k : Nat) (C : Addr) (m : Str) (ps : List Str) (sp : Sp) : Prop where
  ex : ∃ (f : Addr) (fd : FuncData), PySem.W.findIn K (.ref C) m = some (some (.ref f)) ∧ PySem.W.isFn K (.ref f) = true ∧ FnOk P w K mg base CX0 k f fd ps sp ∧ Binds K fd ps []
theorem OkM.op {P : Program} {w : World} {K : PySem.W.Frag} {mg : Str → Option Value} {base : Heap} {k : Nat} {C : Addr} {m : Str} {ps : List Str} {sp : Sp} (O : OkM P w K mg base k C m ps sp) : OkOp P w K mg base k C m ps sp := by
  obtain ⟨f, fd, c, hm, F, hb⟩ := O.ex
  exact ⟨f, fd, hm.at_, hm.fn, F, hb⟩
def rOwn2 (C : Addr) (sp : Sp) : R2 := fun x y H Q => ∃ a dx fs b dy gs, x = .ref a ∧ y = .ref b ∧ H a = some (.ins C dx fs) ∧ H b = some (.ins C dy gs) ∧ sp [x, y] H Q E0
theorem op_own2 {X : Cx} {op : Operator} {k : Nat} {C : Addr} {ps : List Str} {sp : Sp} (O : OkOp X.prog X.w X.K X.mg X.base k C (PySem.dunder op.info.2) ps sp) (hc : PySem.W.selfFirst X.K C = true) (hr : Room k X.A) : OpR X (binaryOp op) (rOwn2 C sp) := by
  obtain ⟨f, fd, hs, hf, F, hb⟩ := O.ex
  intro pins s σ H x y v u Q I rx ry h
  obtain ⟨a, dx, fs, b, dy, gs, rfl, rfl, ha, hbb, q⟩ := h
  cases (show v = Value.ref a from rx)
  cases (show u = Value.ref b from ry)
  obtain ⟨mA, J, _⟩ := ins_get I.hok ha
  obtain ⟨mB, J', _⟩ := ins_get I.hok hbb
  obtain ⟨od, J, _⟩ := J.look
  obtain ⟨od', J', _⟩ := J'.look
  obtain ⟨m, hF⟩ := I.fr
  refine PySem.W.binop_K (op := op) hF I.ok.mod.kin J J'.type hc hs hf ?_
  refine wpAny_mono (run_fnS (CX := CX0) (E := fun _ => E0) (us := [.ref a, .ref b]) (vs := [.ref a, .ref b]) F hr hb (fun _ _ _ _ _ _ h => h.elim) I (.cons rfl (.cons rfl .nil)) q) (fun w s' z => ?_) fun _ _ x => x
  obtain ⟨z', H', I', rz, qz⟩ := z
  exact SlX.cmpback rz ⟨z', H', I', rz, qz⟩
end U
/-! U13: enumerate(text). -/
namespace U
open PySem PySem.Spec L2
/-- the signs of a text with their places, in new pairs -/
def Ites (x : Str) : It := ⟨fun i _ => i < x.cps.size, fun i H v H' => ∃ T c, v = .ref T ∧ H T = none ∧ H' = upd H T (.tup [.int (i : Nat), .str ⟨#[c]⟩]) ∧ x.cps[i]? = some c, fun i _ => x.cps.size ≤ i⟩
theorem turn_enumS {P : Program} {w : World} {K : PySem.W.Frag} {elts : List Expr} {kk : Nat} {tpos : Pos} (x : Str) (t : Tok) (e it : Addr) :
    Turn P w K (.Tuple elts kk tpos) (Ites x) [e, it] e (fun i h => (∃ old, IsEnum h e it ((i : Nat) : Int) old) ∧ h.IsStrIter it (strIterType x) x t i ∧ e ≠ it) where
  mem := by simp
  obj := fun i h st b hb => by
    obtain ⟨⟨old, he⟩, ⟨o, ho, hc, hd⟩, _⟩ := st
    have e' : b = e ∨ b = it := by simpa using hb
    rcases e' with z | z
    · rw [z]; exact ⟨_, he, fun v q => nomatch q⟩
    · rw [z]; exact ⟨o, ho, fun v q => by rw [hd] at q; cases q⟩
  keep := fun i h h' st k => let ⟨⟨old, he⟩, ⟨o, ho, r⟩, hne⟩ := st; ⟨⟨old, k e (by simp) _ he⟩, ⟨o, k it (by simp) o ho, r⟩, hne⟩
  item := by
    intro X hP hw hK hc i pins s σ H E I hf st hg
    subst hP hw hK
    obtain ⟨⟨old, he⟩, hit, hne⟩ := st
    have hlt : i < x.cps.size := hg
    have hel : e < s.heap.objs.size := Heap.lt_size he
    have hil : it < s.heap.objs.size := by obtain ⟨_, q, _⟩ := hit; exact Heap.lt_size q
    refine wpAny_pyNext_enum_itemC (Draws.text (A := X.A.in1) (I.ok.hd hc) it x t) he hit hlt hne (by simpa using hne) fun y h' tk hP ho hit' hT hsz hk => ?_
    obtain ⟨c, u, hcx, rfl⟩ := hP
    refine ⟨_, rfl, wpAny_letOwnedTupleGo_enum (s := { s with heap := h', toks := tk + 1 }) ho fun h'' he' sb => ?_⟩
    have hT2 : h''.get? s.heap.objs.size = some { cls := .type "tuple", data := .seq #[.int i tk, .str ⟨#[c]⟩ u] } := (sb.2 _ (Nat.ne_of_gt hel)).trans hT
    have new : ObjOk X.prog X.w (upd H s.heap.objs.size (.tup [.int (i : Nat), .str ⟨#[c]⟩])) h'' s.heap.objs.size (.tup [.int (i : Nat), .str ⟨#[c]⟩]) :=
      ⟨by show 2 ≤ sizeLine; decide, [.int i tk, .str ⟨#[c]⟩ u], .cons ⟨_, rfl⟩ (.cons ⟨_, rfl⟩ .nil), ⟨_, hT2, rfl, _, rfl⟩⟩
    have I1 : Inv X pins σ (upd H s.heap.objs.size (.tup [.int (i : Nat), .str ⟨#[c]⟩])) { s with heap := h'', toks := tk + 1 } :=
      I.turnedNew (ch := [e, it]) (fun b ob hb q => (sb.2 b (fun z => hb (by simp [z]))).trans (hk b ob (fun z => hb (by simp [z])) (fun z => hb (by simp [z])) q)) hf (Nat.le_refl _) new
    refine ⟨.ref s.heap.objs.size, _, I1, rfl, ⟨_, c, rfl, I.hok.fresh (Nat.le_refl _), rfl, hcx⟩, ⟨⟨.str ⟨#[c]⟩ u, ?_⟩, ?_, hne⟩, fun b hb => ?_⟩
    · have e1 : ((i + 1 : Nat) : Int) = (i : Int) + 1 := by omega
      rw [e1]; exact he'
    · obtain ⟨o, q, r⟩ := hit'
      exact ⟨o, (sb.2 it (Ne.symm hne)).trans q, r⟩
    · have hb' : b < s.heap.objs.size := by
        have e' : b = e ∨ b = it := by simpa using hb
        rcases e' with z | z
        · rw [z]; exact hel
        · rw [z]; exact hil
      rw [upd_ne (Nat.ne_of_lt hb')]
      exact (hf b hb).1
  done := by
    intro X hP hw hK hc i pins s σ H E I hf st hg
    subst hP hw hK
    obtain ⟨⟨old, he⟩, hit, hne⟩ := st
    obtain ⟨f0, f1, f2, f3, f4, f5⟩ := hf it (by simp)
    have hle : x.cps.size ≤ i := hg
    by_cases hi : i = x.cps.size
    · subst hi
      exact wpAny_pyNext_enum_endD (Draws.text (A := X.A.in1) (I.ok.hd hc) it x t) he hit fun h' eb => ⟨rfl, I.turned (t' := s.toks) (fun b o hb q => eb b o hb q) f0 f1 f3 f4 f5⟩
    · have D : Draws X.prog X.w X.A.in1 it [it] i (fun _ _ => False) (fun j h => j = i ∧ h.IsStrIter it (strIterType x) x t i) := by
        refine ⟨fun j h st => let ⟨_, o, ho, _⟩ := st; ⟨o, ho⟩, fun j h h' st hk => let ⟨e, o, ho, r⟩ := st; ⟨e, o, hk it (by simp) o ho, r⟩, fun j s Q E hj st _ => absurd st.1 (by omega), fun s Q E st hE => ?_⟩
        obtain ⟨_, st⟩ := st
        have hx : x.cps[i]? = none := Array.getElem?_eq_none hle
        cases ha : x.cps.all (· < 128)
        · have e : strIterType x = "str_iterator" := by simp [strIterType, ha]
          rw [e] at st
          exact wpAny_nextOf_wide_end (I.ok.hd hc) st hx hE
        · have e : strIterType x = "str_ascii_iterator" := by simp [strIterType, ha]
          rw [e] at st
          exact wpAny_nextOf_ascii_end (I.ok.hd hc) st hx hE
      exact wpAny_pyNext_enum_endD D he ⟨rfl, hit⟩ fun h' eb => ⟨rfl, I.turned (t' := s.toks) (fun b o hb q => eb b o hb q) f0 f1 f3 f4 f5⟩
  self := fun A i s Q E st h => let ⟨⟨_, he⟩, _⟩ := st; wpAny_pyIter_enum he h
def iEnumS (ta : TA) : TI := fun σ H R => ta σ H fun vs H1 => ∃ x, vs = [.str x] ∧ R (Ites x) H1
theorem pi_enumS {X : Cx} {e : Expr} {ta : TA} {p pos tpos : Pos} {elts : List Expr} {kk : Nat} (hg : Gl X "enumerate") (hm : X.mg "enumerate" = none) (ha : PA X [e] ta) (hs : starEach [e] X.env = [(false, eval e X.env)] := by rfl) :
    PI X (.Tuple elts kk tpos) (.Call (.Name "enumerate" p) [e] [] pos) (iEnumS ta) := by
  refine ⟨fun pins s σ H R I h => ?_⟩
  refine PyProof.Rows.Call_ (ld_blt I hg hm PyProof.Rows.boot_enumerate (PyProof.Rows.callWith_type1 (thn (ha.run pos pins s σ H _ I h) fun us s1 ⟨vs, H1, I1, r1, q1⟩ => ?_) hs rfl))
  obtain ⟨x, ex, q⟩ := q1
  subst ex
  cases r1 with
  | cons r rr =>
    cases rr
    obtain ⟨t, rfl⟩ := r
    refine call_enumerate_str fun h' he hit hsz hk => wpAny_pyIter_enum he ?_
    have I2 : Inv X pins σ H1 { s1 with heap := h' } := I1.kept (t' := s1.toks) hk
    refine ⟨s1.heap.objs.size + 1, [s1.heap.objs.size + 1, s1.heap.objs.size], _, _, H1, rfl, I2, turn_enumS x t (s1.heap.objs.size + 1) s1.heap.objs.size, ⟨⟨.none, he⟩, hit, Nat.succ_ne_self _⟩, fun b hb => ?_, q⟩
    have e' : b = s1.heap.objs.size + 1 ∨ b = s1.heap.objs.size := by simpa using hb
    have hle : s1.heap.objs.size ≤ b := by
      rcases e' with z | z
      · rw [z]; exact Nat.le_add_right _ _
      · rw [z]; exact Nat.le_refl _
    exact I1.fpOk hle (I1.hok.fresh hle)
section
variable {σ : L2.St} {H : Hp} {D : Ends} {ta : TA} {R : It → Hp → Prop}
theorem r_enumS (h : ta σ H fun vs H1 => ∃ x, vs = [.str x] ∧ R (Ites x) H1) : iEnumS ta σ H R := h
theorem r_enumSv {z : Str} {P : Str → Prop} (h : P z) : ∃ x, [V.str z] = [V.str x] ∧ P x := ⟨z, rfl, h⟩
/-- over enumerate(text) -/
theorem f_enumS {z : Str} {g : TG} {tb : TS} (P : Nat → L2.St → Hp → Prop) (h0 : P 0 σ H)
    (step : ∀ i (c : Nat) σ H T H', z.cps.toList[i]? = some c → P i σ H → H T = none → H' = upd H T (.tup [.int (i : Nat), .str ⟨#[c]⟩]) → g (.ref T) σ H' fun σ2 H2 => tb { D with nx := P (i + 1), ct := P (i + 1), bk := D.nx } σ2 H2) (done : ∀ σ H, P z.cps.toList.length σ H → D.nx σ H) :
    ∃ W : Nat → Nat → L2.St → Hp → Prop, (∃ m, W 0 m σ H) ∧ ∀ i m σ H, W i m σ H →
      ((Ites z).stop i H ∧ D.nx σ H) ∨ ((Ites z).go i H ∧ ∃ N : L2.St → Hp → Prop, (∀ σ' H', N σ' H' → ∃ m', m' < m ∧ W (i + 1) m' σ' H') ∧ ∀ x H', (Ites z).yld i H x H' → g x σ H' fun σ2 H2 => tb { D with nx := N, ct := N, bk := D.nx } σ2 H2) :=
  l_for P h0 (fun i σ H h p => by show i < z.cps.size; simpa using h) (fun _ _ _ => by show z.cps.size ≤ _; simp) (fun i σ H h p x H' y => by
    obtain ⟨T, c, rfl, hT, e, hc⟩ := y
    exact step i c σ H T H' (by simpa using hc) p hT e) done
end
section
variable {K : PySem.W.Frag} {σ : L2.St} {H : Hp} {Q : VK} {D : Ends} {c : Value} {i : Nat} {tb : WX → TS} {ts : Addr → Value → Option Addr → TS} {Wout : WX} {cls : Value} {d : Option Addr} {a C : Addr} {te : TE} {f : Str}
theorem r_tryAs (h : tb (wAs K c i ts Wout D) D σ H) : tTryAs K c i tb ts Wout D σ H := h
theorem r_tryOnly (h : tb (wOnly K c ts Wout D) D σ H) : tTryOnly K c tb ts Wout D σ H := h
theorem r_wAs (hx : PySem.W.exmOne K cls c = some true) (h : ∀ a, H a = none → ts a cls d { nx := fun σ' H' => D.nx (σ'.set i none) H', rt := D.rt, bk := fun σ' H' => D.bk (σ'.set i none) H', ct := fun σ' H' => D.ct (σ'.set i none) H' } (σ.set i (some (.ref a))) H) : wAs K c i ts Wout D cls d σ H :=
  ⟨true, hx, fun _ => h, fun z => by cases z⟩
theorem r_wAsN (hx : PySem.W.exmOne K cls c = some false) (h : Wout cls d σ H) : wAs K c i ts Wout D cls d σ H := ⟨false, hx, (fun z => by cases z), fun _ => h⟩
theorem r_wOnly (hx : PySem.W.exmOne K cls c = some true) (h : ∀ a, H a = none → ts a cls d D σ H) : wOnly K c ts Wout D cls d σ H := ⟨true, hx, fun _ => h, fun z => by cases z⟩
/-- the field of the caught error: its class, its dict are known -/
theorem r_xf {dd : Addr} {fs : List (Str × V)} {v : V} (h : te σ H fun x H1 => x = .ref a ∧ cls = .ref C ∧ ∃ (dd : Addr) (fs : List (Str × V)) (v : V), d = some dd ∧ H1 dd = some (.xd fs) ∧ fs.lookup f = some v ∧ Q v H1) : tXf a cls d C f te σ H Q := h
theorem r_isX {b : Bool} {cv : Value} {x : V} {dd : Addr} {fs : List (Str × V)} (hd : H dd = some (.xd fs)) (hr : ∀ u, RelV x u → u = cv) (hk : PySem.W.kitOne K (.ref C) cv = some b) (h : Q (.bl b) H) : rIsX K C a (.ref C) (some dd) [.ref a, x] H Q :=
  ⟨x, cv, b, dd, fs, rfl, rfl, rfl, hd, hr, hk, h⟩
theorem relRef {p : Addr} : ∀ u, RelV (.ref p) u → u = .ref p := fun u h => h
theorem relTy {n : String} : ∀ u, RelV (.ty n) u → u = .type n := fun u h => h
end
theorem r_gT2v {K : PySem.W.Frag} {H : Hp} {σ : L2.St} {p : Addr} {x y : V} {i j : Nat} {R : L2.St → Hp → Prop} (h : SqT K H p [x, y]) (q : R ((σ.set i (some x)).set j (some y)) H) :
    gTup K 2 (gCons (gName i) (gCons (gName j) gNil)) (.ref p) σ H R := ⟨p, _, rfl, h, rfl, _, _, rfl, _, _, rfl, rfl, q⟩
theorem r_gT3v {K : PySem.W.Frag} {H : Hp} {σ : L2.St} {p : Addr} {x y z : V} {i j k : Nat} {R : L2.St → Hp → Prop} (h : SqT K H p [x, y, z]) (q : R (((σ.set i (some x)).set j (some y)).set k (some z)) H) :
    gTup K 3 (gCons (gName i) (gCons (gName j) (gCons (gName k) gNil))) (.ref p) σ H R := ⟨p, _, rfl, h, rfl, _, _, rfl, _, _, rfl, _, _, rfl, rfl, q⟩
/-! lists of data compared -/
mutual
theorem D.eqb_refl : ∀ d : D, D.eqb d d = true
  | .non => by rw [D.eqb]
  | .bl b => by rw [D.eqb]; simp
  | .int i => by rw [D.eqb]; simp
  | .str x => by rw [D.eqb]; exact beq_self_eq_true x
  | .tup ds => by rw [D.eqb]; exact D.eqL_refl ds
theorem D.eqL_refl : ∀ ds : List D, D.eqL ds ds = true
  | [] => by rw [D.eqL]
  | d :: ds => by rw [D.eqL, D.eqb_refl d, D.eqL_refl ds]; rfl
end
theorem dp_lst {K : PySem.W.Frag} {H : Hp} {p : Addr} {vs : List V} {ds : List D} (hp : SqL K H p vs) (t : TdL K H vs ds) : Dp K H (.ref p) (.list (D.pyL ds)) := .lst hp (TdL.dp ds vs t)
theorem shaped_lst {ds : List D} {n : Nat} (h : ∀ d ∈ ds, D.fit n d = true) (hn : n ≤ 62) : SeqAt.shaped (.list (D.pyL ds)) = true := by
  obtain ⟨a, b⟩ := D.fitL_lay ds n (D.fitL_iff.mpr h)
  refine Bool.and_eq_true_iff.mpr ⟨?_, decide_eq_true ?_⟩
  · simp only [PyData.canLay0]
    exact a
  · simp only [PyData.depth]
    omega
theorem r_eqLD {K : PySem.W.Frag} {H : Hp} {Q : VK} {p q : Addr} {vs ws : List V} {ds es : List D} {n : Nat} (hp : SqL K H p vs) (hq : SqL K H q ws) (t1 : TdL K H vs ds) (t2 : TdL K H ws es) (f1 : ∀ d ∈ ds, D.fit n d = true) (f2 : ∀ d ∈ es, D.fit n d = true) (hn : n ≤ 62) (h : Q (.bl (D.eqL ds es)) H) : uEq K (.ref p) (.ref q) H Q :=
  .inr ⟨_, _, dp_lst hp t1, dp_lst hq t2, shaped_lst f1 hn, shaped_lst f2 hn, by rw [PyData.eqv, D.eqL_py]; exact h⟩
theorem r_neLD {K : PySem.W.Frag} {H : Hp} {Q : VK} {p q : Addr} {vs ws : List V} {ds es : List D} {n : Nat} (hp : SqL K H p vs) (hq : SqL K H q ws) (t1 : TdL K H vs ds) (t2 : TdL K H ws es) (f1 : ∀ d ∈ ds, D.fit n d = true) (f2 : ∀ d ∈ es, D.fit n d = true) (hn : n ≤ 62) (h : Q (.bl (!D.eqL ds es)) H) : uNe K (.ref p) (.ref q) H Q :=
  .inr ⟨_, _, dp_lst hp t1, dp_lst hq t2, shaped_lst f1 hn, shaped_lst f2 hn, by rw [PyData.eqv, D.eqL_py]; exact h⟩
end U
/-! U14: a def whose arguments never arrive: nothing behind it is reached. -/
namespace U
open PySem PySem.Spec PyProof.Rows L2
def tNevE (ta : TA) : TE := fun σ H _ => ta σ H fun _ _ => False
def tOnly (t : TS) : TS := fun D σ H => t { D with nx := fun _ _ => False } σ H
section
variable {X : Cx} {x : Str} {f : Addr} {e : Expr} {es : List Expr} {t : TA} {p pos : Pos}
theorem pe_nev (hm : X.mg x = some (.ref f)) (hk : PySem.W.keepIn X.K (.ref f) = true) (hg : Gl X x) (ha : PA X (e :: es) t) (hdb : (x == ("__debug__" : Str)) = false := by decide)
    (he : starEach (e :: es) X.env = (false, eval e X.env) :: starEach es X.env := by rfl) (hpl : (backTo pos (starEach es X.env)).any (·.1) = false := by rfl) : PE X (.Call (.Name x p) (e :: es) [] pos) (tNevE t) := by
  refine ⟨fun pins s σ H Q I h => ?_⟩
  refine wpAny_Call_Name_kw (ld_glob I hg hm ?_ hdb)
  exact PySem.W.callWith_K (h₀ := X.base) I.ok.mod.kin hk (thn (ha.run pos pins s σ H _ I h) fun us s1 ⟨vs, H1, I1, r, q⟩ => q.elim) he hpl
theorem pss_only {st : Stmt} {rest : List Stmt} {t : TS} (h1 : PS X st t) : PSs X (st :: rest) (tOnly t) := by
  refine ⟨fun pins s σ H D I h => ?_⟩
  refine wpAny_execs_cons (thn (h1.run pins s σ H _ I h) fun f s1 q => ?_)
  cases f with
  | next =>
    obtain ⟨σ', H', I', q⟩ := q
    exact q.elim
  | ret v => exact q
  | brk => exact q
  | cont => exact q
end
section
variable {σ : L2.St} {H : Hp} {Q : VK} {D : Ends} {ta : TA} {t : TS}
theorem r_nevE (h : ta σ H fun _ _ => False) : tNevE ta σ H Q := h
theorem r_only (h : t { D with nx := fun _ _ => False } σ H) : tOnly t D σ H := h
end
end U
/-! U15: list(zip(x, y)) of two tuples. -/
namespace U
open PySem PySem.Spec PyProof.Rows L2
theorem zip_nolen : typeLookup (.type "zip") "__len__" = pure none := by rw [typeLookup_type, builtinLookup_eq_fast]; kernel_rfl
theorem zip_nohint : typeLookup (.type "zip") "__length_hint__" = pure none := by rw [typeLookup_type, builtinLookup_eq_fast]; kernel_rfl
section
variable {prog : Program} {w : World} {A : Around} {E : Value → Shared → Prop} {s : Shared}
/-- the next pair while the last one given is still there -/
theorem zt_item {z TI TO T i1 i2 l1 l2 : Addr} {f : Bool} {oT : Obj} {k1 k2 : Nat} {xs ys : Array Value} {x y : Value} {Q : Option Value → Shared → Prop} (D : ZipApart z TI TO i1 i2 l1 l2)
    (hz : IsZipHeld s.heap z TI TO T f) (hT : s.heap.get? T = some oT) (hTI : IsPair s.heap TI (.ref i1) (.ref i2))
    (g1 : s.heap.IsTupleIter i1 l1 k1) (g2 : s.heap.IsTupleIter i2 l2 k2) (p1 : s.heap.IsTuple l1 xs) (p2 : s.heap.IsTuple l2 ys) (ex : xs[k1]? = some x) (ey : ys[k2]? = some y)
    (hQ : ∀ h', IsZipHeld h' z TI TO T true → h'.IsTupleIter i1 l1 (k1 + 1) → h'.IsTupleIter i2 l2 (k2 + 1) → IsPair h' s.heap.objs.size x y → h'.objs.size = s.heap.objs.size + 1 →
      (∀ c o, c ∉ [z, TI, TO, i1, i2] → s.heap.get? c = some o → h'.get? c = some o) → (h'.get? TI = s.heap.get? TI) → Q (some (.ref s.heap.objs.size)) { s with heap := h' }) :
    wpAny (model prog w) A (pyNext (.ref z)) Q E s := by
  have ty : s.TypeIs (.ref z) "zip" := ⟨_, hz, rfl⟩
  unfold pyNext
  refine wpAny_bind (wpAny_attempt (wpAny_callSpecial?_slot (name := Str.ofString "__next__") ty F.slot_zip_next (wpAny_call_entry F.slot_zip_next ty F.entry_zip_next ?_ (F.args_zip_next_1 _))))
  show wpAny _ _ (field (.ref z) 2 >>= _) _ _ _
  refine wpAny_bind (wpAny_field hz rfl (x := .bool false) rfl ?_)
  show wpAny _ _ (field (.ref z) 3 >>= _) _ _ _
  refine wpAny_bind (wpAny_field hz rfl (x := .ref TI) rfl ?_)
  refine wpAny_bind (wpAny_seqItems hTI rfl ?_)
  show wpAny _ _ (Builtin.SmallTypes.ownedTupleIsFree (.ref z) >>= _) _ _ _
  refine wpAny_bind (wpAny_tupleHeld_zip hz hT fun m1 z1 b1 => ?_)
  simp only [Bool.false_eq_true, if_false]
  refine wpAny_bind ?_
  rw [← Array.forIn_toList]
  simp only [List.forIn_cons, List.forIn_nil]
  refine wpAny_bind (wpAny_bind (wpAny_holding ?_))
  show wpAny _ _ (Builtin.SmallTypes.nextOf (.ref i1) >>= _) _ _ _
  refine wpAny_bind (RZ.nextOf_tuple_item (s := { s with heap := m1 }) (g1.extBut b1.extBut D.i1z) (p1.extBut b1.extBut D.l1z) ex fun m2 q2 b2 => wpAny_pure ?_)
  refine wpAny_pure ?_
  refine wpAny_bind (wpAny_bind (wpAny_holding ?_))
  show wpAny _ _ (Builtin.SmallTypes.nextOf (.ref i2) >>= _) _ _ _
  refine wpAny_bind (RZ.nextOf_tuple_item (s := { s with heap := m2 }) ((g2.extBut b1.extBut D.i2z).extBut b2.extBut D.i12.symm) ((p2.extBut b1.extBut D.l2z).extBut b2.extBut D.l2i1) ey fun m3 q3 b3 => wpAny_pure ?_)
  refine wpAny_pure (wpAny_pure ?_)
  show wpAny _ _ (newTuple [x, y] >>= _) _ _ _
  refine wpAny_bind (wpAny_newTuple ?_)
  have es : m3.objs.size = s.heap.objs.size := by rw [b3.1, b2.1, b1.1]
  have z3 : IsZipHeld m3 z TI TO T true := b3.extBut _ _ D.i2z.symm (b2.extBut _ _ D.i1z.symm z1)
  have kp : ∀ c o, c ≠ z → c ≠ i1 → c ≠ i2 → s.heap.get? c = some o → m3.get? c = some o := fun c o c1 c2 c3 e => b3.extBut _ _ c3 (b2.extBut _ _ c2 (b1.extBut _ _ c1 e))
  have r1 : m3.IsTupleIter i1 l1 (k1 + 1) := q2.extBut b3.extBut D.i12
  refine wpAny_pure ⟨_, rfl, ?_⟩
  refine wpAny_pure ?_
  show Q (some (.ref m3.objs.size)) _
  have pr : IsPair (m3.push { cls := .type "tuple", data := .seq #[x, y] }) m3.objs.size x y := Heap.get?_push_size _ rfl
  have sz : (m3.push { cls := .type "tuple", data := .seq #[x, y] }).objs.size = m3.objs.size + 1 := Heap.size_push ..
  rw [es] at pr sz ⊢
  refine hQ _ (Heap.get?_push_of_some _ z3) (r1.at fun o e => Heap.get?_push_of_some _ e) (q3.at fun o e => Heap.get?_push_of_some _ e) pr sz (fun c o hc e => ?_) ?_
  · simp only [List.mem_cons, List.not_mem_nil, or_false, not_or] at hc
    exact Heap.get?_push_of_some _ (kp c o hc.1 hc.2.2.2.1 hc.2.2.2.2 e)
  · rw [hTI]
    exact Heap.get?_push_of_some _ (kp TI _ D.TIz D.TIi1 D.TIi2 hTI)
/-- no more pairs -/
theorem zt_end {z TI TO T i1 i2 l1 l2 : Addr} {f : Bool} {oT : Obj} {k1 k2 : Nat} {xs ys : Array Value} {Q : Option Value → Shared → Prop} (hh : A.handled = none) (D : ZipApart z TI TO i1 i2 l1 l2)
    (hz : IsZipHeld s.heap z TI TO T f) (hT : s.heap.get? T = some oT) (hTI : IsPair s.heap TI (.ref i1) (.ref i2))
    (g1 : s.heap.IsTupleIter i1 l1 k1) (g2 : s.heap.IsTupleIter i2 l2 k2) (p1 : s.heap.IsTuple l1 xs) (p2 : s.heap.IsTuple l2 ys) (ex : xs[k1]? = none)
    (hQ : ∀ h', (∀ c o, c ∉ [z, TI, TO, i1, i2] → s.heap.get? c = some o → h'.get? c = some o) → Q none { s with heap := h' }) :
    wpAny (model prog w) A (pyNext (.ref z)) Q E s := by
  have ty : s.TypeIs (.ref z) "zip" := ⟨_, hz, rfl⟩
  unfold pyNext
  refine wpAny_bind (wpAny_attempt (wpAny_callSpecial?_slot (name := Str.ofString "__next__") ty F.slot_zip_next (wpAny_call_entry F.slot_zip_next ty F.entry_zip_next ?_ (F.args_zip_next_1 _))))
  show wpAny _ _ (field (.ref z) 2 >>= _) _ _ _
  refine wpAny_bind (wpAny_field hz rfl (x := .bool false) rfl ?_)
  show wpAny _ _ (field (.ref z) 3 >>= _) _ _ _
  refine wpAny_bind (wpAny_field hz rfl (x := .ref TI) rfl ?_)
  refine wpAny_bind (wpAny_seqItems hTI rfl ?_)
  show wpAny _ _ (Builtin.SmallTypes.ownedTupleIsFree (.ref z) >>= _) _ _ _
  refine wpAny_bind (wpAny_tupleHeld_zip hz hT fun m1 z1 b1 => ?_)
  simp only [Bool.false_eq_true, if_false]
  refine wpAny_bind ?_
  rw [← Array.forIn_toList]
  simp only [List.forIn_cons, List.forIn_nil]
  refine wpAny_bind (wpAny_bind (wpAny_holding ?_))
  show wpAny _ _ (Builtin.SmallTypes.nextOf (.ref i1) >>= _) _ _ _
  refine wpAny_bind (RZ.nextOf_tuple_end (s := { s with heap := m1 }) hh (g1.extBut b1.extBut D.i1z) (p1.extBut b1.extBut D.l1z) ex fun m2 e b2 he => ?_)
  obtain ⟨o, ho, hc⟩ := he
  refine wpAny_bind (wpAny_isInstance (T := "StopIteration") (b := true) ⟨o, ho, hc⟩ isSubtype_stop ?_)
  refine wpAny_pure (hQ _ fun c o hc e => ?_)
  simp only [List.mem_cons, List.not_mem_nil, or_false, not_or] at hc
  exact b2 _ _ hc.2.2.2.1 (b1.extBut _ _ hc.1 e)
end
/-- the zip ahead of its i-th pair -/
def ZSt (h : Heap) (z TI TO i1 i2 a b : Addr) (i : Nat) : Prop := IsPair h TI (.ref i1) (.ref i2) ∧ h.IsTupleIter i1 a i ∧ h.IsTupleIter i2 b i ∧
  ((IsZip h z TI TO .none ∧ ∃ x y, IsPair h TO x y) ∨ ∃ (T : Addr) (f : Bool) (oT : Obj), IsZipHeld h z TI TO T f ∧ h.get? T = some oT ∧ T ∉ [z, TI, TO, i1, i2])
theorem ZSt.keep {h h' : Heap} {z TI TO i1 i2 a b S : Addr} {i : Nat} (st : ZSt h z TI TO i1 i2 a b i) (k : ∀ c o, c ≠ S → h.get? c = some o → h'.get? c = some o) (hS : S ∉ [z, TI, TO, i1, i2]) (hS2 : ∃ o, h'.get? S = some o) : ZSt h' z TI TO i1 i2 a b i := by
  simp only [List.mem_cons, List.not_mem_nil, or_false, not_or] at hS
  obtain ⟨h1, h2, h3, h4⟩ := st
  refine ⟨k _ _ (Ne.symm hS.2.1) h1, h2.at fun o e => k _ _ (Ne.symm hS.2.2.2.1) e, h3.at fun o e => k _ _ (Ne.symm hS.2.2.2.2) e, ?_⟩
  rcases h4 with ⟨z1, x, y, t1⟩ | ⟨T, f, oT, z1, t1, n⟩
  · exact .inl ⟨k _ _ (Ne.symm hS.1) z1, x, y, k _ _ (Ne.symm hS.2.2.1) t1⟩
  · by_cases e : T = S
    · obtain ⟨o, ho⟩ := hS2
      exact .inr ⟨T, f, o, k _ _ (Ne.symm hS.1) z1, by rw [e]; exact ho, n⟩
    · exact .inr ⟨T, f, oT, k _ _ (Ne.symm hS.1) z1, k _ _ e t1, n⟩
/-- the pairs made so far -/
def ZPairs (H : Hp) (ts : List Addr) (xs ys : List V) : Prop := ∀ (j : Nat) (t : Addr) (x y : V), ts[j]? = some t → xs[j]? = some x → ys[j]? = some y → H t = some (.tup [x, y])
section
variable {X : Cx} {pins : List (Addr × Obj)} {σ : L2.St} {z TI TO i1 i2 a b S : Addr} {xs ys : List V} {A : Around} {H0 : Hp} {R : Result → Shared → Prop}
theorem zl_loop (hc : A.handled = none) (D : ZipApart z TI TO i1 i2 a b) (hl : xs.length = ys.length) (hn : xs.length ≤ 1000) (hS : S ∉ [z, TI, TO, i1, i2]) (h0S : H0 S = none) (hqx : SqT X.K H0 a xs) (hqy : SqT X.K H0 b ys) (res : Value)
    (hR : ∀ H s ts, Inv X pins σ H s → Same H0 H → H S = some (.lst (ts.map V.ref)) → ts.length = xs.length → ZPairs H ts xs ys → R (.ok (.ret res)) s) :
    ∀ (k i : Nat) (H : Hp) (s : Shared) (ts : List Addr), xs.length - i = k → i ≤ xs.length → Inv X pins σ H s → ZSt s.heap z TI TO i1 i2 a b i → (∀ c ∈ [z, TI, TO, i1, i2], FpOk X pins H c ∧ c < s.heap.objs.size) → Same H0 H → H S = some (.lst (ts.map V.ref)) → ts.length = i → ZPairs H ts xs ys →
      codeAny (model X.prog X.w) A (.builtin "list.extend.loop" ⟨[.ref S, .ref z, res], []⟩) R s := by
  intro k
  induction k with
  | zero =>
    intro i H s ts hk hi I st hf sm hSl hts hp
    have ei : i = xs.length := by omega
    refine codeAny_builtin PySem.F.entry_extend_loop ?_
    rw [Around.under_plainId PySem.F.plain_extend_loop _]
    show wpAny _ A.in1 (pyNext (.ref z) >>= _) _ _ _
    obtain ⟨its, rv, p1, _⟩ := I.tuple (Same.tk sm a xs hqx)
    obtain ⟨its2, rv2, p2, _⟩ := I.tuple (Same.tk sm b ys hqy)
    have l1 := rv.length
    have ex : its.toArray[i]? = none := by simp; omega
    obtain ⟨t1, t2, t3, t4⟩ := st
    have fin : ∀ h', (∀ c o, c ∉ [z, TI, TO, i1, i2] → s.heap.get? c = some o → h'.get? c = some o) → R (.ok (.ret res)) { s with heap := h' } := fun h' hk =>
      hR H _ ts (I.turnedL (t' := s.toks) (ch := [z, TI, TO, i1, i2]) hk fun c hc => (hf c hc).1) sm hSl (by omega) hp
    rcases t4 with ⟨z1, u, v, to⟩ | ⟨T, f, oT, z1, to, nT⟩
    · refine wpAny_bind (RZ.pyNext_zipT_end (A := A.in1) hc D z1 t1 to t2 t3 p1 p2 (.inl ex) fun h' hk => wpAny_pure (fin h' fun c o hcm => ?_))
      simp only [List.mem_cons, List.not_mem_nil, or_false, not_or] at hcm
      exact hk c o hcm.1 hcm.2.2.1 hcm.2.2.2.1 hcm.2.2.2.2
    · exact wpAny_bind (zt_end (A := A.in1) hc D z1 to t1 t2 t3 p1 p2 ex fun h' hk => wpAny_pure (fin h' hk))
  | succ k ih =>
    intro i H s ts hk hi I st hf sm hSl hts hp
    have hlt : i < xs.length := by omega
    refine codeAny_builtin PySem.F.entry_extend_loop ?_
    rw [Around.under_plainId PySem.F.plain_extend_loop _]
    show wpAny _ A.in1 (pyNext (.ref z) >>= _) _ _ _
    obtain ⟨its, rv, p1, _⟩ := I.tuple (Same.tk sm a xs hqx)
    obtain ⟨its2, rv2, p2, _⟩ := I.tuple (Same.tk sm b ys hqy)
    have hx : xs[i]? = some xs[i] := List.getElem?_eq_getElem hlt
    have hy : ys[i]? = some ys[i] := List.getElem?_eq_getElem (by omega)
    obtain ⟨u, hu, ru⟩ := rv.get hx
    obtain ⟨u2, hu2, ru2⟩ := rv2.get hy
    have hu : its.toArray[i]? = some u := by simpa using hu
    have hu2 : its2.toArray[i]? = some u2 := by simpa using hu2
    generalize xs[i] = x at hx ru
    generalize ys[i] = y at hy ru2
    obtain ⟨t1, t2, t3, t4⟩ := st
    have hTn : H s.heap.objs.size = none := I.hok.fresh (Nat.le_refl _)
    have hST : S ≠ s.heap.objs.size := fun e => by rw [e, hTn] at hSl; cases hSl
    have step : ∀ h' : Heap, ZSt h' z TI TO i1 i2 a b (i + 1) → IsPair h' s.heap.objs.size u u2 → h'.objs.size = s.heap.objs.size + 1 → (∀ c o, c ∉ [z, TI, TO, i1, i2] → s.heap.get? c = some o → h'.get? c = some o) →
        wpAny (model X.prog X.w) A.in1 (updateSeq S (·.push (Value.ref s.heap.objs.size)) >>= fun _ => again (.builtin "list.extend.loop" ⟨[.ref S, .ref z, res], []⟩))
          (fun fin s' => match fin with | .done f => R (.ok f) s' | .again c' => c'.quiet = true ∧ codeAny (model X.prog X.w) A c' R s') (fun e s' => R (.error e) s') { s with heap := h' } := by
      intro h' st' hT sz kp
      have new : ObjOk X.prog X.w (upd H s.heap.objs.size (.tup [x, y])) h' s.heap.objs.size (.tup [x, y]) :=
        ⟨by show 2 ≤ sizeLine; decide, [u, u2], .cons ru (.cons ru2 .nil), ⟨_, hT, rfl, _, rfl⟩⟩
      have I1 : Inv X pins σ (upd H s.heap.objs.size (.tup [x, y])) { s with heap := h' } := I.turnedNew (t' := s.toks) (ch := [z, TI, TO, i1, i2]) kp (fun c hc => (hf c hc).1) (Nat.le_refl _) new
      have eS : upd H s.heap.objs.size (.tup [x, y]) S = some (.lst (ts.map V.ref)) := by rw [upd_ne hST]; exact hSl
      obtain ⟨zz, lst, n, r, ll, e⟩ := I1.lstM eS
      have hle : lst.length = i := by rw [← ll, List.length_map, hts]
      refine wpAny_bind ?_
      refine wpAny_updateSeq e rfl (wpAny_pure ⟨plainId_quiet PySem.F.plain_extend_loop _, ?_⟩) (by rw [List.size_toArray, hle, sizeLine_eq]; omega) (by rw [Array.size_push, List.size_toArray, hle, sizeLine_eq]; omega)
      have I2 := I1.lset (t' := s.toks) (f := (·.push (Value.ref s.heap.objs.size))) (its' := lst ++ [Value.ref s.heap.objs.size]) (ys := ts.map V.ref ++ [V.ref s.heap.objs.size]) eS e (by simp) (r.append (.cons rfl .nil)) (by rw [List.length_append, List.length_map, hts, sizeLine_eq]; show i + 1 ≤ _; omega)
      have up : ∀ c o, c ≠ S → h'.get? c = some o → (h'.update S (Obj.mapSeq (·.push (Value.ref s.heap.objs.size)))).get? c = some o := fun c o hc e => (Heap.get?_update_other _ _ (Ne.symm hc)).trans e
      have sm2 : Same H0 (upd (upd H s.heap.objs.size (.tup [x, y])) S (.lst (ts.map V.ref ++ [V.ref s.heap.objs.size]))) := fun c o e => by
        have c1 : c ≠ S := fun q => by rw [q, h0S] at e; cases e
        have c2 : c ≠ s.heap.objs.size := fun q => by
          have := sm c o e
          rw [q, hTn] at this
          cases this
        rw [upd_ne c1, upd_ne c2]
        exact sm c o e
      refine ih (i + 1) _ _ (ts ++ [s.heap.objs.size]) (by omega) hlt I2 (st'.keep up hS ⟨_, Heap.get?_update_self _ e rfl⟩) (fun c hcm => ?_) sm2 (by rw [List.map_append]; exact upd_same) (by rw [List.length_append, hts]; rfl) (fun j t x' y' e1 e2 e3 => ?_)
      · obtain ⟨⟨f1, f2⟩, f3⟩ := hf c hcm
        have c1 : c ≠ S := fun q => hS (q ▸ hcm)
        refine ⟨⟨by rw [upd_ne c1, upd_ne (Nat.ne_of_lt f3)]; exact f1, f2⟩, ?_⟩
        show c < (h'.update S _).objs.size
        rw [Heap.size_update, sz]
        exact Nat.lt_succ_of_lt f3
      · by_cases hj : j < ts.length
        · rw [List.getElem?_append_left hj] at e1
          have q := hp j t x' y' e1 e2 e3
          have c1 : t ≠ S := fun z => by rw [z, hSl] at q; cases q
          have c2 : t ≠ s.heap.objs.size := fun z => by rw [z, hTn] at q; cases q
          rw [upd_ne c1, upd_ne c2]
          exact q
        · have hj2 : j = ts.length := by
            have := (List.getElem?_eq_some_iff.mp e1).1
            rw [List.length_append] at this
            have : j < ts.length + 1 := this
            omega
          subst hj2
          have e4 : t = s.heap.objs.size := by simpa using e1.symm
          rw [hts] at e2 e3
          rw [hx] at e2
          rw [hy] at e3
          cases e2
          cases e3
          rw [e4, upd_ne (Ne.symm hST)]
          exact upd_same
    rcases t4 with ⟨z1, v1, v2, to⟩ | ⟨T, f, oT, z1, to, nT⟩
    · refine wpAny_bind (RZ.pyNext_zipT_item D z1 t1 to t2 t3 p1 p2 hu hu2 fun h' z' TO' g1 g2 hT sz kp => step h' ⟨kp _ _ D.TIz D.TITO D.TIi1 D.TIi2 t1, g1, g2, .inr ⟨_, false, _, z', hT, fun hm => ?_⟩⟩ hT sz fun c o hcm => ?_)
      · exact Nat.lt_irrefl _ (hf _ hm).2
      · simp only [List.mem_cons, List.not_mem_nil, or_false, not_or] at hcm
        exact kp c o hcm.1 hcm.2.2.1 hcm.2.2.2.1 hcm.2.2.2.2
    · refine wpAny_bind (zt_item D z1 to t1 t2 t3 p1 p2 hu hu2 fun h' z' g1 g2 hT sz kp kTI => step h' ⟨kTI.trans t1, g1, g2, .inr ⟨T, true, oT, z', kp T oT nT to, nT⟩⟩ hT sz kp)
/-- list(zip(x, y)), two tuples of one length -/
def tLZip (K : PySem.W.Frag) (ta : TA) : TE := fun σ H Q => ta σ H fun vs H1 => ∃ a b xs ys, vs = [.ref a, .ref b] ∧ SqT K H1 a xs ∧ SqT K H1 b ys ∧ xs.length = ys.length ∧ xs.length ≤ 1000 ∧
  ∀ S H2 ts, Same H1 H2 → H1 S = none → H2 S = some (.lst (ts.map V.ref)) → ts.length = xs.length → ZPairs H2 ts xs ys → Q (.ref S) H2
theorem pe_lzip {e e2 : Expr} {ta : TA} {p p2 q pos : Pos} (hgl : Gl X "list") (hml : X.mg "list" = none) (hg : Gl X "zip") (hm : X.mg "zip" = none) (ha : PA X [e, e2] ta) (hcalm : X.calm = true)
    (hs : starEach [e, e2] X.env = (false, eval e X.env) :: starEach [e2] X.env := by rfl) (hpl : (backTo q (starEach [e2] X.env)).any (·.1) = false := by rfl)
    (na : starEach [Expr.Call (.Name "zip" p2) [e, e2] [] q] X.env = (false, eval (.Call (.Name "zip" p2) [e, e2] [] q) X.env) :: starEach [] X.env := by rfl) :
    PE X (.Call (.Name "list" p) [.Call (.Name "zip" p2) [e, e2] [] q] [] pos) (tLZip X.K ta) := by
  refine ⟨fun pins s σ H Q I h => ?_⟩
  have hc : X.A.handled = none := I.ok.hd hcalm
  refine Call_ (ld_blt I hgl hml boot_list ?_)
  refine PyProof.Rows.callWith_type1 (PyProof.Rows.args_cons ?_ na) na rfl
  refine Call_ (ld_blt I hg hm PyProof.Rows.boot_zip (PyProof.Rows.callWith_type1 (thn (ha.run q pins s σ H _ I h) fun us s1 ⟨vs, H1, I1, r1, q1⟩ => ?_) hs hpl))
  obtain ⟨a, b, xs, ys, ex, hqx, hqy, hl, hn, q1⟩ := q1
  subst ex
  cases r1 with
  | cons r rr =>
    cases rr with
    | cons r' rr =>
      cases rr
      cases r
      cases r'
      obtain ⟨its, rv, p1, _⟩ := I1.tuple hqx
      obtain ⟨its2, rv2, p2, _⟩ := I1.tuple hqy
      obtain ⟨o1, ho1, _⟩ := id p1
      obtain ⟨o2, ho2, _⟩ := id p2
      refine RZ.call_zipT (show s1.heap.IsTuple a its.toArray from p1) (show s1.heap.IsTuple b its2.toArray from p2) fun h' hz hTI hTO g1 g2 hsz hk => ?_
      have I2 : Inv X pins σ H1 { s1 with heap := h' } := I1.kept (t' := s1.toks) hk
      have D := PySem.W.ktu_apart s1.heap.objs.size a b (Heap.lt_size ho1) (Heap.lt_size ho2)
      have hf5 : ∀ c ∈ [s1.heap.objs.size + 4, s1.heap.objs.size + 2, s1.heap.objs.size + 3, s1.heap.objs.size, s1.heap.objs.size + 1], FpOk X pins H1 c ∧ s1.heap.objs.size ≤ c ∧ c < s1.heap.objs.size + 5 := fun c hcm => by
        have e' : c = s1.heap.objs.size + 4 ∨ c = s1.heap.objs.size + 2 ∨ c = s1.heap.objs.size + 3 ∨ c = s1.heap.objs.size ∨ c = s1.heap.objs.size + 1 := by simpa using hcm
        have hle : s1.heap.objs.size ≤ c := by
          rcases e' with z | z | z | z | z
          · rw [z]; exact Nat.le_add_right _ _
          · rw [z]; exact Nat.le_add_right _ _
          · rw [z]; exact Nat.le_add_right _ _
          · rw [z]; exact Nat.le_refl _
          · rw [z]; exact Nat.le_add_right _ _
        have hgt : c < s1.heap.objs.size + 5 := by
          rcases e' with z | z | z | z | z
          · rw [z]; exact Nat.add_lt_add_left (by decide) _
          · rw [z]; exact Nat.add_lt_add_left (by decide) _
          · rw [z]; exact Nat.add_lt_add_left (by decide) _
          · rw [z]; exact Nat.lt_add_of_pos_right (by decide)
          · rw [z]; exact Nat.add_lt_add_left (by decide) _
        exact ⟨I1.fpOk hle (I1.hok.fresh hle), hle, hgt⟩
      generalize s1.heap.objs.size + 4 = z at *
      generalize s1.heap.objs.size + 2 = TI at *
      generalize s1.heap.objs.size + 3 = TO at *
      generalize s1.heap.objs.size + 1 = i2 at *
      refine PyProof.Rows.args_nil ?_
      have hSn : H1 h'.objs.size = none := I2.hok.fresh (Nat.le_refl _)
      have hsS : ∀ c ∈ [z, TI, TO, s1.heap.objs.size, i2], c ≠ h'.objs.size := fun c hcm => Nat.ne_of_lt (by rw [hsz]; exact (hf5 c hcm).2.2)
      have hS : (h'.push { cls := .type "list", data := .seq #[] }).get? h'.objs.size = some { cls := .type "list", data := .seq #[] } := Heap.get?_push_size _ rfl
      refine callType_codes (Q₁ := fun obj s₁ => obj = .ref h'.objs.size ∧ s₁ = { s1 with heap := h'.push { cls := .type "list", data := .seq #[] } }) PySem.F.called_list (PySem.F.typeCall_list_1 _) PySem.F.entry_list_init
        (code_list_new _ ⟨rfl, rfl⟩) fun obj s₁ h₁ => ?_
      obtain ⟨rfl, rfl⟩ := h₁
      refine ⟨⟨_, hS, rfl⟩, PySem.F.args_list_init_2 _ _, ?_⟩
      have I3 : Inv X pins σ (upd H1 h'.objs.size (.lst [])) { s1 with heap := h'.push { cls := .type "list", data := .seq #[] } } := I2.lnew (its := []) (ys := []) (t' := s1.toks) .nil (Nat.zero_le _)
      have st0 : ZSt h' z TI TO s1.heap.objs.size i2 a b 0 := ⟨hTI, g1, g2, .inl ⟨hz, _, _, hTO⟩⟩
      have nS : h'.objs.size ∉ [z, TI, TO, s1.heap.objs.size, i2] := fun hm => hsS _ hm rfl
      have st1 := st0.keep (h' := h'.push { cls := .type "list", data := .seq #[] }) (fun c o _ e => Heap.get?_push_of_some _ e) nS ⟨_, hS⟩
      have hzp : (h'.push { cls := .type "list", data := .seq #[] }).objs.size = h'.objs.size + 1 := Heap.size_push ..
      have zz1 : IsZip (h'.push { cls := .type "list", data := .seq #[] }) z TI TO .none := Heap.get?_push_of_some _ hz
      generalize hS0 : h'.objs.size = S at *
      generalize h'.push { cls := .type "list", data := .seq #[] } = h2 at *
      show wpAny _ _ (do let old ← Builtin.List.listItems (.ref S); Builtin.List.listUpdate (.ref S) (fun _ => #[]); letGo old.toList.reverse; Builtin.List.listExtendWith (.ref S) (.ref z) .none) _ _ _
      refine wpAny_bind ?_
      unfold Builtin.List.listItems
      refine wpAny_bind (wpAny_seqItems hS rfl (wpAny_pure ?_))
      show wpAny _ _ (updateSeq S (fun _ => #[]) >>= fun _ => letGo (#[] : Array Value).toList.reverse >>= fun _ => Builtin.List.listExtendWith (.ref S) (.ref z) .none) _ _ _
      refine wpAny_bind (wpAny_updateSeq hS rfl ?_)
      refine wpAny_bind (wpAny_letGo ?_)
      have oth : ∀ (h : Heap) (f : Array Value → Array Value) c o, c ≠ S → h.get? c = some o → (h.update S (Obj.mapSeq f)).get? c = some o := fun h f c o hc e => (Heap.get?_update_other _ _ (Ne.symm hc)).trans e
      have I4 := I3.lset (t' := s1.toks) (f := fun _ => (#[] : Array Value)) (its := []) (its' := []) (ys := []) upd_same hS rfl .nil (Nat.zero_le _)
      have hS4 := Heap.get?_update_self (Obj.mapSeq (fun _ => (#[] : Array Value))) hS rfl
      have st4 := st1.keep (oth h2 _) nS ⟨_, hS4⟩
      have hz4 : (h2.update S (Obj.mapSeq (fun _ => (#[] : Array Value)))).objs.size = S + 1 := by rw [Heap.size_update]; exact hzp
      have zz : IsZip (h2.update S (Obj.mapSeq (fun _ => (#[] : Array Value)))) z TI TO .none := oth h2 _ _ _ (hsS z (by simp)) zz1
      generalize h2.update S (Obj.mapSeq (fun _ => (#[] : Array Value))) = h4 at *
      have hS4 : h4.get? S = some { cls := .type "list", data := .seq #[] 0 } ∨ True := .inr trivial
      have eS4 : upd (upd H1 S (.lst [])) S (.lst []) S = some (.lst []) := upd_same
      obtain ⟨_, l4, n4, r4, _, e4⟩ := I4.lstM eS4
      cases r4
      unfold Builtin.List.listExtendWith
      refine wpAny_bind (wpAny_typeOf (T := "zip") ⟨_, zz, rfl⟩ ?_)
      have hSz : S ≠ z := (hsS z (by simp)).symm
      have d1 : Builtin.List.listSameRef (.ref S) (.ref z) = false := by simp [Builtin.List.listSameRef, hSz]
      have d2 : (Value.type "zip" == Value.type "list") = false := by decide
      have d3 : (Value.type "zip" == Value.type "tuple") = false := by decide
      simp only [d1, d2, d3, Bool.or_false, Bool.false_eq_true, if_false]
      refine wpAny_bind (wpAny_pyIter_zip zz ?_)
      refine wpAny_bind (wpAny_holding ?_)
      unfold Builtin.List.listLengthHint
      refine wpAny_bind (wpAny_specialOf (T := "zip") ⟨_, zz, rfl⟩ zip_nolen ?_)
      show wpAny _ _ (specialOf (Value.ref z) (Str.ofString "__length_hint__") >>= _) _ _ _
      refine wpAny_bind (wpAny_specialOf (T := "zip") ⟨_, zz, rfl⟩ zip_nohint ?_)
      refine wpAny_pure ?_
      show wpAny _ _ (rule "list.extend.makes-room" >>= fun _ => Builtin.List.listTouch (.ref S) >>= fun _ => again (.builtin "list.extend.loop" ⟨[.ref S, .ref z, .none], []⟩)) _ _ _
      refine wpAny_bind (wpAny_rule ?_)
      refine wpAny_bind ?_
      show wpAny _ _ (updateSeq S (·.push .none) >>= fun _ => updateSeq S (·.pop)) _ _ _
      refine wpAny_bind (wpAny_updateSeq e4 rfl ?_)
      have I5 := I4.lset (t' := s1.toks) (f := (·.push Value.none)) (its := []) (its' := [Value.none]) (ys := [V.non]) eS4 e4 rfl (.cons rfl .nil) (by rw [sizeLine_eq]; decide)
      have e5 := Heap.get?_update_self (Obj.mapSeq (·.push Value.none)) e4 rfl
      have st5 := st4.keep (oth h4 (·.push Value.none)) nS ⟨_, e5⟩
      have hz5 : (h4.update S (Obj.mapSeq (·.push Value.none))).objs.size = S + 1 := by rw [Heap.size_update]; exact hz4
      generalize h4.update S (Obj.mapSeq (·.push Value.none)) = h5 at *
      have eS5 : upd (upd (upd H1 S (.lst [])) S (.lst [])) S (.lst [V.non]) S = some (.lst [V.non]) := upd_same
      obtain ⟨_, l5, n5, r5, _, e5'⟩ := I5.lstM eS5
      obtain ⟨v5, rfl, rv5⟩ := r5.one
      refine wpAny_updateSeq (hz := by seq_fits) e5' rfl ?_
      have I6 := I5.lset (t' := s1.toks) (f := (·.pop)) (its := [v5]) (its' := []) (ys := []) eS5 e5' rfl .nil (Nat.zero_le _)
      have e6 := Heap.get?_update_self (Obj.mapSeq (·.pop)) e5' rfl
      have st6 := st5.keep (oth h5 (·.pop)) nS ⟨_, e6⟩
      have hz6 : (h5.update S (Obj.mapSeq (·.pop))).objs.size = S + 1 := by rw [Heap.size_update]; exact hz5
      have ne6 : ∀ c, c ≠ S → upd (upd (upd (upd H1 S (.lst [])) S (.lst [])) S (.lst [V.non])) S (.lst []) c = H1 c := fun c hc => by rw [upd_ne hc, upd_ne hc, upd_ne hc, upd_ne hc]
      refine wpAny_pure ⟨plainId_quiet PySem.F.plain_extend_loop _, zl_loop (A := X.A.in1) (H0 := H1) hc D hl hn nS hSn hqx hqy .none (fun H' s' ts I' sm' hl' hts' hp' => ⟨rfl, .ref S, H', I', rfl, q1 S H' ts sm' hSn hl' hts' hp'⟩) xs.length 0 _ _ [] (Nat.sub_zero _) (Nat.zero_le _) I6 st6 (fun c hcm => ?_) (fun c o e => ?_) upd_same rfl (fun j t x y e => by simp at e)⟩
      · obtain ⟨⟨f1, f2⟩, f3, f4⟩ := hf5 c hcm
        refine ⟨⟨by rw [ne6 c (hsS c hcm)]; exact f1, f2⟩, ?_⟩
        show c < (h5.update S (Obj.mapSeq (·.pop))).objs.size
        rw [hz6]
        exact Nat.lt_succ_of_lt (by rw [← hsz] at f4; exact f4)
      · have hcS : c ≠ S := fun q => by rw [q, hSn] at e; cases e
        rw [ne6 c hcS]
        exact e
end
section
variable {K : PySem.W.Frag} {σ : L2.St} {H : Hp} {Q : VK} {ta : TA} {R : It → Hp → Prop}
theorem r_lzip (h : ta σ H fun vs H1 => ∃ a b xs ys, vs = [.ref a, .ref b] ∧ SqT K H1 a xs ∧ SqT K H1 b ys ∧ xs.length = ys.length ∧ xs.length ≤ 1000 ∧
  ∀ S H2 ts, Same H1 H2 → H1 S = none → H2 S = some (.lst (ts.map V.ref)) → ts.length = xs.length → ZPairs H2 ts xs ys → Q (.ref S) H2) : tLZip K ta σ H Q := h
theorem r_zip (h : ta σ H fun vs H1 => ∃ a b xs ys, vs = [.ref a, .ref b] ∧ ((SqL K H1 a xs ∧ SqL K H1 b ys ∧ R (Itz K a b) H1) ∨ (SqT K H1 a xs ∧ SqT K H1 b ys ∧ R (RZ.ItzT K a b) H1))) : RZ.iZipA K ta σ H R := h
end
end U
/-! U16: a dict of the module's top with constant keys, read by its keys; a local name that holds one of several defs. -/
namespace U
open PySem PySem.Spec PyProof.Rows L2 He
/-! a tuple of the module's top with tuples in it -/
mutual
def tdB (K : PySem.W.Frag) : D → Value → Bool
  | .tup ds, .ref a => match K.lookup a with
    | some ⟨.type c, _, .seq its _, _⟩ => decide (c = "tuple") && (decide (its.size ≤ sizeLine) && tdBL K ds its.toList)
    | _ => false
  | .str z, .str w _ => decide (z = w)
  | .int i, .int j _ => decide (i = j)
  | .non, .none => true
  | .bl b, .bool c => b == c
  | _, _ => false
def tdBL (K : PySem.W.Frag) : List D → List Value → Bool
  | [], [] => true
  | d :: ds, v :: vs => tdB K d v && tdBL K ds vs
  | _, _ => false
end
mutual
theorem tdB_rel {K : PySem.W.Frag} (H : Hp) : ∀ (d : D) (v : Value), tdB K d v = true → ∃ x, RelV x v ∧ Td K H x d
  | .tup ds, v, h => by
    cases v with
    | ref a =>
      rw [tdB] at h
      cases q : K.lookup a with
      | none => rw [q] at h; cases h
      | some o =>
        obtain ⟨oc, od, dt, osl⟩ := o
        rw [q] at h
        cases oc with
        | type c =>
          cases dt with
          | seq its n =>
            obtain ⟨h1, h2⟩ := He.ba (show (decide (c = "tuple") && (decide (its.size ≤ sizeLine) && tdBL K ds its.toList)) = true from h)
            obtain ⟨h3, h4⟩ := He.ba h2
            obtain ⟨xs, r, t⟩ := tdBL_rel H ds its.toList h4
            exact ⟨.ref a, rfl, .tup (.inr ⟨_, its, n, q, congrArg Value.type (of_decide_eq_true h1), rfl, of_decide_eq_true h3, r⟩) t⟩
          | _ => cases h
        | _ => cases dt <;> cases h
    | _ => simp [tdB] at h
  | .str z, v, h => by
    cases v with
    | str w t => rw [tdB] at h; exact ⟨.str z, ⟨t, by rw [of_decide_eq_true h]⟩, .str z⟩
    | _ => simp [tdB] at h
  | .int i, v, h => by
    cases v with
    | int w t => rw [tdB] at h; exact ⟨.int i, ⟨t, by rw [of_decide_eq_true h]⟩, .int i⟩
    | _ => simp [tdB] at h
  | .non, v, h => by
    cases v with
    | none => exact ⟨.non, rfl, .non⟩
    | _ => simp [tdB] at h
  | .bl b, v, h => by
    cases v with
    | bool c => rw [tdB] at h; exact ⟨.bl b, by rw [eq_of_beq h]; rfl, .bl b⟩
    | _ => simp [tdB] at h
theorem tdBL_rel {K : PySem.W.Frag} (H : Hp) : ∀ (ds : List D) (vs : List Value), tdBL K ds vs = true → ∃ xs, Vals xs vs ∧ TdL K H xs ds
  | [], vs, h => by
    cases vs with
    | nil => exact ⟨[], .nil, .nil⟩
    | cons v vs => simp [tdBL] at h
  | d :: ds, vs, h => by
    cases vs with
    | nil => simp [tdBL] at h
    | cons v vs =>
      rw [tdBL] at h
      obtain ⟨h1, h2⟩ := He.ba h
      obtain ⟨x, r, t⟩ := tdB_rel H d v h1
      obtain ⟨xs, rs, ts⟩ := tdBL_rel H ds vs h2
      exact ⟨x :: xs, .cons r rs, .cons t ts⟩
end
theorem tdB_ok {K : PySem.W.Frag} {x : Str} {d : D} (h : tdB K d (.ref (He.ga K x)) = true) (H : Hp) : Td K H (.ref (He.ga K x)) d := by
  obtain ⟨y, r, t⟩ := tdB_rel H d _ h
  cases y with
  | ref a => cases (show Value.ref (He.ga K x) = Value.ref a from r); exact t
  | int i => obtain ⟨_, r⟩ := r; cases r
  | str i => obtain ⟨_, r⟩ := r; cases r
  | byt i => obtain ⟨_, r⟩ := r; cases r
  | flt i => obtain ⟨_, r⟩ := r; cases r
  | non => cases (show Value.ref (He.ga K x) = Value.none from r)
  | bl b => cases (show Value.ref (He.ga K x) = Value.bool b from r)
  | _ => cases t
/-- a value of such a dict: an int, a text, a def, data of tuples -/
inductive DVal where
  | int (i : Int) | str (z : Str) | fn (f : Str) | dat (d : D)
structure DicD where
  x : Str
  kvs : List (Key × DVal)
/-- where the dict at x keeps the data of the key k -/
def dAd (K : PySem.W.Frag) (x : Str) (k : Key) : Addr := match K.lookup (ga K x) with
  | some o => (match o.data with
    | .dict es _ => (match es.toList.find? (fun e => keyIs k e.key) with
      | some e => (match e.val with
        | .ref a => a
        | _ => 0)
      | none => 0)
    | _ => 0)
  | none => 0
def DVal.v (K : PySem.W.Frag) (x : Str) (k : Key) : DVal → V
  | .int i => .int i
  | .str z => .str z
  | .fn f => .ref (ga K f)
  | .dat _ => .ref (dAd K x k)
def DicD.kv (K : PySem.W.Frag) (d : DicD) : List (Key × V) := d.kvs.map fun p => (p.1, p.2.v K d.x p.1)
def DVal.is (K : PySem.W.Frag) (x : Str) (k : Key) (d : DVal) (v : Value) : Bool := match d, v with
  | .int i, .int j _ => decide (j = i)
  | .str z, .str y _ => decide (y = z)
  | .fn f, .ref a => a == ga K f
  | .dat d, .ref a => a == dAd K x k && tdB K d (.ref a)
  | _, _ => false
theorem DVal.is_ok {K : PySem.W.Frag} {x : Str} {k : Key} {d : DVal} {v : Value} (h : d.is K x k v = true) : RelV (d.v K x k) v := by
  cases d <;> cases v <;> first
    | (cases h; done)
    | (exact ⟨_, by rw [of_decide_eq_true h]⟩)
    | (have e := beq_iff_eq.mp (show (_ == _) = true from h); subst e; rfl)
    | (have e := beq_iff_eq.mp (ba (show (_ && _) = true from h)).1; subst e; rfl)
theorem tdB_at {K : PySem.W.Frag} {a : Addr} {d : D} (h : tdB K d (.ref a) = true) (H : Hp) : Td K H (.ref a) d := by
  obtain ⟨y, r, t⟩ := tdB_rel H d _ h
  cases y with
  | ref b => cases (show Value.ref a = Value.ref b from r); exact t
  | int i => obtain ⟨_, r⟩ := r; cases r
  | str i => obtain ⟨_, r⟩ := r; cases r
  | byt i => obtain ⟨_, r⟩ := r; cases r
  | flt i => obtain ⟨_, r⟩ := r; cases r
  | non => cases (show Value.ref a = Value.none from r)
  | bl b => cases (show Value.ref a = Value.bool b from r)
  | _ => cases t
def entB (K : PySem.W.Frag) (x : Str) : List (Key × DVal) → List DictEntry → List (Int × Bool)
  | p :: ps, e :: es => (e.hash, keyIs p.1 e.key && p.2.is K x p.1 e.val) :: entB K x ps es
  | _, _ => []
/-- the entries, as far as the names go; both as long -/
def dicS (K : PySem.W.Frag) (d : DicD) : Bool × List (Int × Bool) := match K.lookup (ga K d.x) with
  | some o => (match o.data with
    | .dict es _ => (decide (es.toList.length = d.kvs.length) && (!(ga K d.x == sysModules) && (decide (o.cls = .type "dict") && (o.dict.isNone && o.slots.isEmpty))), entB K d.x d.kvs es.toList)
    | _ => (false, []))
  | none => (false, [])
def DicD.val (w : World) (d : DicD) : Bool × List (Int × Bool) := (true, d.kvs.map fun p => (keyH w p.1, true))
/-- what is known of such a dict -/
def DicF (w : World) (K : PySem.W.Frag) (d : DicD) : Prop := (∀ p ∈ d.kvs, ∀ e, p.2 = .dat e → ∀ H : Hp, Td K H (.ref (dAd K d.x p.1)) e) ∧
  ∃ o es ep, K.lookup (ga K d.x) = some o ∧ o.ExactDict ∧ o.data = .dict es ep ∧ (ga K d.x == sysModules) = false ∧
    ∃ vs, KV (d.kv K) vs ∧ (∀ (P : Program), KeysOf (mixKind P w) es ∧ Pairs (mixKind P w) es.toList vs) ∧ (vs.map (·.1)).Nodup
theorem entB_ok {w : World} {K : PySem.W.Frag} {x : Str} : ∀ (ps : List (Key × DVal)) (es : List DictEntry), es.length = ps.length → entB K x ps es = ps.map (fun p => (keyH w p.1, true)) →
    ∃ vs : List (Key × Value), KV (ps.map fun p => (p.1, p.2.v K x p.1)) vs ∧ vs.map (·.1) = ps.map (·.1) ∧ ∀ P : Program, (∀ e ∈ es, ∃ k, (mixKind P w).is k e.key = true ∧ e.hash = (mixKind P w).hash k) ∧ Pairs (mixKind P w) es vs
  | [], [], _, _ => ⟨[], .nil, rfl, fun P => ⟨(fun _ h => nomatch h), .nil⟩⟩
  | [], _ :: _, h, _ => by simp at h
  | _ :: _, [], h, _ => by simp at h
  | p :: ps, e :: es, hl, h => by
    have h : (e.hash, keyIs p.1 e.key && p.2.is K x p.1 e.val) :: entB K x ps es = (keyH w p.1, true) :: ps.map (fun p => (keyH w p.1, true)) := h
    injection h with h1 h2
    injection h1 with h3 h4
    obtain ⟨h5, h6⟩ := Bool.and_eq_true_iff.mp h4
    obtain ⟨vs, k, n, q⟩ := entB_ok ps es (by simpa using hl) h2
    refine ⟨(p.1, e.val) :: vs, .cons ⟨rfl, DVal.is_ok h6⟩ k, by simp [n], fun P => ⟨?_, .cons h5 rfl (q P).2⟩⟩
    intro y hx
    rcases List.mem_cons.mp hx with rfl | hx
    · exact ⟨p.1, h5, h3⟩
    · exact (q P).1 y hx
theorem entB_dat {w : World} {K : PySem.W.Frag} {x : Str} : ∀ (ps : List (Key × DVal)) (es : List DictEntry), entB K x ps es = ps.map (fun p => (keyH w p.1, true)) → ∀ p ∈ ps, ∀ e, p.2 = .dat e → ∀ H : Hp, Td K H (.ref (dAd K x p.1)) e
  | [], _, _, _, h, _, _, _ => by cases h
  | p :: ps, [], h, _, _, _, _, _ => by
    have h : ([] : List (Int × Bool)) = _ := h
    cases h
  | p :: ps, e :: es, h, q, hq, d, hd, H => by
    have h : (e.hash, keyIs p.1 e.key && p.2.is K x p.1 e.val) :: entB K x ps es = (keyH w p.1, true) :: ps.map (fun p => (keyH w p.1, true)) := h
    injection h with h1 h2
    injection h1 with h3 h4
    obtain ⟨h5, h6⟩ := Bool.and_eq_true_iff.mp h4
    rcases List.mem_cons.mp hq with rfl | hq
    · rw [hd] at h6
      cases hv : e.val with
      | ref a =>
        rw [hv] at h6
        obtain ⟨h7, h8⟩ := Bool.and_eq_true_iff.mp (show (a == dAd K x q.1 && tdB K d (.ref a)) = true from h6)
        have e := beq_iff_eq.mp h7
        subst e
        exact tdB_at h8 H
      | _ => rw [hv] at h6; cases h6
    · exact entB_dat ps es h2 q hq d hd H
theorem dicS_ok {w : World} {K : PySem.W.Frag} {d : DicD} (h : dicS K d = d.val w) (nd : (d.kvs.map (·.1)).Nodup) : DicF w K d := by
  unfold dicS DicD.val at h
  cases hk : K.lookup (ga K d.x) with
  | none =>
    rw [hk] at h
    injection h with h1 h2
    cases h1
  | some o =>
    rw [hk] at h
    obtain ⟨oc, od, dt, os⟩ := o
    cases dt with
    | dict es ep =>
      injection h with h1 h2
      obtain ⟨h3, h4⟩ := Bool.and_eq_true_iff.mp h1
      obtain ⟨h4, h45⟩ := Bool.and_eq_true_iff.mp h4
      obtain ⟨h5, h56⟩ := Bool.and_eq_true_iff.mp h45
      obtain ⟨h6, h7⟩ := Bool.and_eq_true_iff.mp h56
      have g5 : oc = .type "dict" := of_decide_eq_true h5
      have g6 : od = none := Option.isNone_iff_eq_none.mp h6
      have g7 : os = #[] := Array.isEmpty_iff.mp h7
      clear h5 h6 h7 h45 h56
      subst g5 g6 g7
      obtain ⟨vs, k, n, q⟩ := entB_ok d.kvs es.toList (of_decide_eq_true h3) h2
      exact ⟨entB_dat d.kvs es.toList h2, _, es, ep, hk, ⟨rfl, rfl, rfl⟩, rfl, by simpa using h4, vs, k, fun P => ⟨fun e he => (q P).1 e (Array.mem_toList_iff.mpr he), (q P).2⟩, by rw [n]; exact nd⟩
    | _ =>
      injection h with h1 h2
      cases h1
section
variable {X : Cx} {pins : List (Addr × Obj)} {σ : L2.St} {H : Hp} {s : Shared} {d : DicD} {y v : V} {u : Value} {A : Around} {E : Value → Shared → Prop}
theorem DicF.of (F : DicF X.w X.K d) (I : Inv X pins σ H s) : ∃ vs, KV (d.kv X.K) vs ∧ s.heap.DictOf (mixKind X.prog X.w) (ga X.K d.x) vs := by
  obtain ⟨_, o, es, ep, hk, hx, hd, _, vs, k, q, n⟩ := F
  exact ⟨vs, k, o, es, ep, I.kIn _ _ hk, hx, hd, (q X.prog).1, (q X.prog).2, n⟩
theorem DicF.nm (F : DicF X.w X.K d) : (ga X.K d.x == sysModules) = false := by
  obtain ⟨_, o, es, ep, hk, hx, hd, h, _⟩ := F
  exact h
/-- d[y] -/
def tKGet (D : List (Key × V)) (ti : TE) : TE := fun σ H Q => ti σ H fun y H1 => ∃ k v, y = kV k ∧ valV D k = some v ∧ Q v H1
/-- y in d -/
def tKIn (D : List (Key × V)) (ti : TE) : TE := fun σ H Q => ti σ H fun y H1 => ∃ k, y = kV k ∧ Q (.bl (valV D k).isSome) H1
variable {o i : Expr} {pos : Pos} {ty : TE}
theorem pe_kget (F : DicF X.w X.K d) (ho : PE X o (tC (.ref (ga X.K d.x)))) (hi : PE X i ty) (hs : NoSl i) : PE X (.Subscript o i pos) (tKGet (d.kv X.K) ty) := by
  refine ⟨fun pins s σ H Q I h => ?_⟩
  refine subD_of PySem.F.slot_dict_getitem.lookup hs (thn (ho.run pins s σ H (fun x H1 => x = .ref (ga X.K d.x) ∧ H1 = H) I ⟨rfl, rfl⟩) fun u s1 ⟨x, H1, I1, rx, q1⟩ => ?_)
  obtain ⟨rfl, rfl⟩ := q1
  obtain rfl : u = Value.ref (ga X.K d.x) := rx
  refine thn (hi.run pins s1 σ _ _ I1 h) fun iv s2 ⟨y, H2, I2, ry, k, v, ey, l, q2⟩ => ?_
  subst ey
  obtain ⟨vs, rel, dd⟩ := F.of I2
  obtain ⟨w', hw, rw'⟩ := RelO.some_of (v := v) (o := valueAt vs k) (by rw [← l]; exact rel.val k)
  exact ⟨dd.typeIs, wpAny_getItem_of (kV_is ry) dd.mapOf hw ⟨v, H2, I2.tok _, rw', q2⟩⟩
theorem pc_kin (F : DicF X.w X.K d) (hi : PE X i ty) (ho : PE X o (tC (.ref (ga X.K d.x)))) : PC X .In i o (tKIn (d.kv X.K) ty) := by
  refine ⟨fun pins s σ H Q I h => ?_⟩
  refine thn (hi.run pins s σ H _ I h) fun iv s1 ⟨y, H1, I1, ry, k, ey, q1⟩ => thn (ho.run pins s1 σ H1 (fun x H2 => x = .ref (ga X.K d.x) ∧ H2 = H1) I1 ⟨rfl, rfl⟩) fun u s2 ⟨x, H2, I2, rx, q2⟩ => ?_
  obtain ⟨rfl, rfl⟩ := q2
  obtain rfl : u = Value.ref (ga X.K d.x) := rx
  subst ey
  obtain ⟨vs, rel, dd⟩ := F.of I2
  refine wpAny_in_of (kV_is ry) F.nm dd.mapOf ?_
  rw [← (rel.val k).isSome_eq]
  exact ⟨.bl (valV (d.kv X.K) k).isSome, _, I2.tok _, rfl, q1⟩
end
section
variable {X : Cx} {d : DicD} {o i f : Expr} {apos cpos : Pos} {ty tx : TE}
/-- d.get(y), d.get(y, z) -/
def tKGet1 (D : List (Key × V)) (ti : TE) : TE := fun σ H Q => ti σ H fun y H1 => ∃ k, y = kV k ∧ Q ((valV D k).getD .non) H1
def tKGet2 (D : List (Key × V)) (ti tx : TE) : TE := fun σ H Q => ti σ H fun y H1 => tx σ H1 fun z H2 => ∃ k, y = kV k ∧ Q ((valV D k).getD z) H2
theorem pe_kget1 (F : DicF X.w X.K d) (ho : PE X o (tC (.ref (ga X.K d.x)))) (hi : PE X i ty) (m : M1 X o "get" apos i cpos) : PE X (.Call (.Attribute o "get" apos) [i] [] cpos) (tKGet1 (d.kv X.K) ty) := by
  refine ⟨fun pins s σ H Q I h => ?_⟩
  refine wpAny_Call_method m.base m.few m.line PySem.F.plainAttrs_dict PySem.F.slot_dict_get PySem.F.type_dict_get (thn (ho.run pins s σ H (fun x H1 => x = .ref (ga X.K d.x) ∧ H1 = H) I ⟨rfl, rfl⟩) fun u s1 ⟨x, H1, I1, rx, q1⟩ => ?_)
  obtain ⟨rfl, rfl⟩ := q1
  obtain rfl : u = Value.ref (ga X.K d.x) := rx
  obtain ⟨vs, rel, dd⟩ := F.of I1
  refine ⟨dd.typeIs, fun a e => (by cases e; obtain ⟨o, es, ep, h1, h2, _⟩ := dd; exact ⟨o, h1, h2.2.1⟩), ?_⟩
  rw [m.trees]
  refine Calls.callWith_builtin rfl (Calls.evalArgs_plain (Calls.spliced_cons (thn (hi.run pins s1 σ _ _ I1 h) fun iv s2 ⟨y, H2, I2, ry, k, ey, q2⟩ => Calls.spliced_nil ?_)))
  subst ey
  obtain ⟨vs, rel, dd⟩ := F.of I2
  exact call_meetsIn PySem.F.slot_dict_get dd.typeIs PySem.F.entry_dict_get (PySem.F.args_dict_get_2 _ _) (meets_dict_get (mixKind X.prog X.w) _ (kV_is ry) F.nm) ⟨_, dd.mapOf, ⟨_, H2, I2.tok _, (rel.val k).getD (show RelV V.non Value.none from rfl), q2⟩⟩
theorem pe_kget2 (F : DicF X.w X.K d) (ho : PE X o (tC (.ref (ga X.K d.x)))) (hi : PE X i ty) (hf : PE X f tx) (m : M2 X o "get" apos i f cpos) : PE X (.Call (.Attribute o "get" apos) [i, f] [] cpos) (tKGet2 (d.kv X.K) ty tx) := by
  refine ⟨fun pins s σ H Q I h => ?_⟩
  refine wpAny_Call_method m.base m.few m.line PySem.F.plainAttrs_dict PySem.F.slot_dict_get PySem.F.type_dict_get (thn (ho.run pins s σ H (fun x H1 => x = .ref (ga X.K d.x) ∧ H1 = H) I ⟨rfl, rfl⟩) fun u s1 ⟨x, H1, I1, rx, q1⟩ => ?_)
  obtain ⟨rfl, rfl⟩ := q1
  obtain rfl : u = Value.ref (ga X.K d.x) := rx
  obtain ⟨vs, rel, dd⟩ := F.of I1
  refine ⟨dd.typeIs, fun a e => (by cases e; obtain ⟨o, es, ep, h1, h2, _⟩ := dd; exact ⟨o, h1, h2.2.1⟩), ?_⟩
  rw [m.trees]
  refine Calls.callWith_builtin rfl (Calls.evalArgs_plain (Calls.spliced_cons (thn (hi.run pins s1 σ _ _ I1 h) fun iv s2 ⟨y, H2, I2, ry, q2⟩ => Calls.spliced_cons (thn (hf.run pins s2 σ _ _ I2 q2) fun fv s3 ⟨z, H3, I3, rz, k, ey, q3⟩ => Calls.spliced_nil ?_))))
  subst ey
  obtain ⟨vs, rel, dd⟩ := F.of I3
  exact call_meetsIn PySem.F.slot_dict_get dd.typeIs PySem.F.entry_dict_get (PySem.F.args_dict_get_3 _ _ _) (meets_dict_get_default (mixKind X.prog X.w) _ (kV_is ry) F.nm fv) ⟨_, dd.mapOf, ⟨_, H3, I3.tok _, (rel.val k).getD rz, q3⟩⟩
end
/-! the readings' steps -/
section
variable {σ : L2.St} {H : Hp} {Q : VK} {D : List (Key × V)} {ti tx : TE}
theorem r_kget1 (h : ti σ H fun y H1 => ∃ k, y = kV k ∧ Q ((valV D k).getD .non) H1) : tKGet1 D ti σ H Q := h
theorem r_kget2 (h : ti σ H fun y H1 => tx σ H1 fun z H2 => ∃ k, y = kV k ∧ Q ((valV D k).getD z) H2) : tKGet2 D ti tx σ H Q := h
end
section
variable {σ : L2.St} {H : Hp} {Q : VK} {D : List (Key × V)} {ti : TE}
theorem r_kget (h : ti σ H fun y H1 => ∃ k v, y = kV k ∧ valV D k = some v ∧ Q v H1) : tKGet D ti σ H Q := h
theorem r_kin (h : ti σ H fun y H1 => ∃ k, y = kV k ∧ Q (.bl (valV D k).isSome) H1) : tKIn D ti σ H Q := h
end
/-! a call of one of several defs -/
/-- a def that may be held -/
def HeldU (P : Program) (w : World) (K : PySem.W.Frag) (mg : Str → Option Value) (base : Heap) (A : Around) (f : Addr) (sp : Sp) : Prop :=
  ∃ k' fd ps, Room k' A ∧ FnOk P w K mg base CX0 k' f fd ps sp ∧ PySem.W.keepIn K (.ref f) = true ∧ Binds K fd ps []
theorem heldU {P : Program} {w : World} {K : PySem.W.Frag} {mg : Str → Option Value} {base : Heap} {A : Around} {k' : Nat} {x : Str} {f : Addr} {ps : List Str} {sp : Sp} (O : OkF P w K mg base k' x ps sp) (g : mg x = some (.ref f)) (hk : Room k' A) : HeldU P w K mg base A f sp := by
  obtain ⟨f', fd, hm, F, hb, kp⟩ := O.ex
  have e : f' = f := by
    rw [g] at hm
    injection hm with hm
    injection hm with hm
    exact hm.symm
  subst e
  exact ⟨k', fd, ps, hk, F, kp, hb⟩
def tCallM (i : Nat) (L : List (Addr × Sp)) (t : TA) : TE := fun σ H Q => ∃ f sp, σ[i]? = some (some (.ref f)) ∧ (f, sp) ∈ L ∧ t σ H fun vs H1 => sp vs H1 Q E0
inductive Helds (P : Program) (w : World) (K : PySem.W.Frag) (mg : Str → Option Value) (base : Heap) (A : Around) : List (Addr × Sp) → Prop
  | nil : Helds P w K mg base A []
  | cons {f : Addr} {sp : Sp} {L : List (Addr × Sp)} : HeldU P w K mg base A f sp → Helds P w K mg base A L → Helds P w K mg base A ((f, sp) :: L)
theorem Helds.at_ {P : Program} {w : World} {K : PySem.W.Frag} {mg : Str → Option Value} {base : Heap} {A : Around} {L : List (Addr × Sp)} (h : Helds P w K mg base A L) : ∀ {f : Addr} {sp : Sp}, (f, sp) ∈ L → HeldU P w K mg base A f sp := by
  induction h with
  | nil => intro f sp hm; cases hm
  | cons a _ ih =>
    intro f sp hm
    rcases List.mem_cons.mp hm with e | hm
    · injection e with e1 e2
      subst e1 e2
      exact a
    · exact ih hm
section
variable {X : Cx} {i : Nat} {L : List (Addr × Sp)} {x : Str} {p pos : Pos} {e : Expr} {es : List Expr} {t : TA}
theorem pe_callM (A : Helds X.prog X.w X.K X.mg X.base X.A L) (ha : PA X (e :: es) t) (hN : X.N[i]? = some x := by rfl) (hv : Vis X.env.scope x := by first | exact Or.inl rfl | exact Or.inr (Or.inl rfl) | exact Or.inr (Or.inr rfl))
    (hdb : (x == ("__debug__" : Str)) = false := by decide) (hcd : (x == ("__classdict__" : Str)) = false := by decide)
    (he : starEach (e :: es) X.env = (false, eval e X.env) :: starEach es X.env := by rfl) (hpl : (backTo pos (starEach es X.env)).any (·.1) = false := by rfl) : PE X (.Call (.Name x p) (e :: es) [] pos) (tCallM i L t) := by
  refine ⟨fun pins s σ H Q I h => ?_⟩
  obtain ⟨f, sp, hs, hm, ht⟩ := h
  obtain ⟨k', fd, ps, hk, F, kp, hb⟩ := A.at_ hm
  refine (pe_callL (i := i) (f := f) (sp := sp) (dvs := []) (E := E0) F hk hN hv kp hb .nil pass0 ha hdb hcd he hpl).run pins s σ H Q I ⟨hs, ?_⟩
  simpa using ht
end
section
variable {σ : L2.St} {H : Hp} {Q : VK} {L : List (Addr × Sp)} {t : TA} {i : Nat} {f : Addr} {sp : Sp}
theorem r_callM (h0 : σ[i]? = some (some (.ref f))) (hm : (f, sp) ∈ L) (h : t σ H fun vs H1 => sp vs H1 Q E0) : tCallM i L t σ H Q := ⟨f, sp, h0, hm, h⟩
end
end U
/-! U17: the Hook with the dicts of the module's top. -/
namespace U
open PySem PySem.Spec PyProof.Rows L2
open He (AlD FnW DefD Fa obsD valD SaysD fnW ga ma fAd eqO frG frG_in asD ba)
abbrev AlV : Type := AlU × List (Bool × List (Int × Bool))
def obsV (file : Str) (fa : List Fa) (fn : List DefD) (en : List ErrD) (ds : List DicD) (t : PySem.W.Frag → Bool) (K : PySem.W.Frag) : AlV := (obsU file fa fn en t K, ds.map (dicS K))
def valW (fn : List DefD) (en : List ErrD) (ds : List DicD) (w : World) : AlV := (valU fn en, ds.map (DicD.val w))
def SaysV (file : Str) (fa : List Fa) (fn : List DefD) (en : List ErrD) (ds : List DicD) (t : PySem.W.Frag → Bool) (w : World) (K : PySem.W.Frag) : Prop := obsV file fa fn en ds t K = valW fn en ds w
def obsVG (file : Str) (n : Nat) (fa : List Fa) (fn : List DefD) (en : List ErrD) (ds : List DicD) (t : PySem.W.Frag → Bool) (g : Addr → Option Obj) : AlV := obsV file fa fn en ds t (frG g (asU g n))
def hookV (file : Str) (n : Nat) (fa : List Fa) (fn : List DefD) (en : List ErrD) (ds : List DicD) (t : PySem.W.Frag → Bool) : PySem.W.Hook where
  α := AlV
  obs := fun s => obsVG file n fa fn en ds t s.heap.get?
  val := fun w => valW fn en ds w
  says := fun w h => ∃ K : PySem.W.Frag, K.In h ∧ SaysV file fa fn en ds t w K
  of := fun _ _ e => ⟨_, frG_in, e⟩
  keeps := fun _ _ _ ⟨K, hK, c⟩ k => ⟨K, PySem.W.Frag.In.keeps hK k, c⟩
theorem obsVG_eq {file : Str} {n : Nat} {fa : List Fa} {fn : List DefD} {en : List ErrD} {ds : List DicD} {t : PySem.W.Frag → Bool} {g : Addr → Option Obj} {s : Shared} (h : ∀ a, g a = s.heap.get? a) : obsVG file n fa fn en ds t g = (hookV file n fa fn en ds t).obs s := by
  have e : g = s.heap.get? := funext h
  rw [e] <;> rfl
section
variable {file : Str} {fa : List Fa} {fn : List DefD} {en : List ErrD} {ds : List DicD} {t : PySem.W.Frag → Bool} {w : World} {K : PySem.W.Frag}
theorem SaysV.u (c : SaysV file fa fn en ds t w K) : SaysU file fa fn en t K := congrArg (fun z : AlV => z.1) c
theorem SaysV.dic (c : SaysV file fa fn en ds t w K) (i : Nat) {d : DicD} (hd : ds[i]? = some d) (nd : (d.kvs.map (·.1)).Nodup) : DicF w K d := by
  have e : ds.map (dicS K) = ds.map (DicD.val w) := congrArg (fun z : AlV => z.2) c
  have e2 : (ds.map (dicS K))[i]? = (ds.map (DicD.val w))[i]? := by rw [e]
  rw [List.getElem?_map, List.getElem?_map, hd] at e2
  exact dicS_ok (Option.some.inj e2) nd
end
end U
/-! U18: del xs[k:] of a list, reversed of a list or a tuple, keyword-only parameters with defaults. -/
namespace U
open PySem PySem.Spec PyProof.Rows L2
section
variable {prog : Program} {w : World} {A : Around} {E : Value → Shared → Prop} {s : Shared}
theorem take_kept (its : List Value) (k : Nat) (f : Nat → Bool) (h1 : ∀ i, i < k → f i = false) (h2 : ∀ i, k ≤ i → i < its.length → f i = true) : its.zipIdx.filterMap (fun p : Value × Nat => if f p.2 = true then none else some p.1) = its.take k := by
  have gen : ∀ (its : List Value) (j : Nat), (∀ i, i < k → f i = false) → (∀ i, k ≤ i → i < j + its.length → f i = true) → (its.zipIdx j).filterMap (fun p : Value × Nat => if f p.2 = true then none else some p.1) = its.take (k - j) := by
    intro its
    induction its with
    | nil => intro j _ _; simp
    | cons a r ih =>
      intro j g1 g2
      rw [List.zipIdx_cons, List.filterMap_cons]
      have ih := ih (j + 1) g1 (fun i h3 h4 => g2 i h3 (by simp only [List.length_cons]; omega))
      by_cases hj : j < k
      · have e := g1 j hj
        simp only [e, Bool.false_eq_true, if_false]
        rw [ih, show k - j = (k - (j + 1)) + 1 by omega, List.take_succ_cons]
      · have e := g2 j (by omega) (by simp only [List.length_cons]; omega)
        simp only [e, if_true]
        rw [ih, show k - (j + 1) = 0 by omega, show k - j = 0 by omega, List.take_zero, List.take_zero]
  simpa using gen its 0 h1 (by simpa using h2)
theorem bounds_end {k n : Nat} (hk : k ≤ n) : sliceBounds (some (k : Int)) none none n = ((k : Int), (n : Int), 1) := by
  simp only [sliceBounds, Option.getD_none]
  have h1 : ¬ ((k : Int) < 0) := by omega
  simp only [h1, if_false, show (1 : Int) > 0 by decide, if_true]
  congr 1
  omega
set_option maxRecDepth 100000 in
/-- list.__delitem__ with a slice k: -/
theorem delItem_tail {l sl : Addr} {items : Array Value} {n : Nat} {vl : Value} {k : Nat} {Q : Unit → Shared → Prop}
    (e : s.heap.get? l = some { cls := .type "list", data := .seq items n }) (hs : s.heap.IsSliceOf sl vl .none .none) (pl : IsPart vl (some (k : Int))) (hk : k ≤ items.size) (hsz : items.size ≤ sizeLine)
    (h : ∀ f : Array Value → Array Value, f items = (items.toList.take k).toArray → Q () { s with heap := s.heap.update l (Obj.mapSeq f) }) :
    wpAny (model prog w) A (delItem (.ref l) (.ref sl)) Q E s := by
  have hl : s.heap.IsList l items := PySem.IsL.isList e
  obtain ⟨os, gob, gcl, gda⟩ := id hs
  have gty : s.TypeIs (.ref sl) "slice" := ⟨os, gob, gcl⟩
  have gst : ¬ ((rawPart none == rawInt 0) = true) := Bool.false_ne_true
  refine wpAny_delItem_slot hl.typeIs (by decide) PySem.F.slot_list_delitem ?_
  refine wpAny_call_entry PySem.F.slot_list_delitem hl.typeIs PySem.F.entry_list_delitem ?_ (PySem.F.args_list_delitem_2 _ _)
  show wpAny _ _ (Builtin.List.listSubscript? (.ref sl) >>= _) _ _ s
  refine wpAny_bind ?_
  unfold Builtin.List.listSubscript?
  refine wpAny_bind (wpAny_specialOf gty slice_no_index ?_)
  simp only [Option.isNone_none, if_true]
  refine wpAny_pure ?_
  show wpAny _ _ (typeOf (.ref sl) >>= _) _ _ s
  refine wpAny_bind (wpAny_typeOf gty ?_)
  first
    | rw [if_neg (by decide)]
    | refine PySem.W.KFB.if_not (by decide) ?_
  rw [listSliceParts_eq]
  refine wpAny_bind (wpAny_bind (wpAny_field gob gda (x := .none) rfl (wpAny_bind (wpAny_listPart .none ?_))))
  rw [if_neg gst]
  refine wpAny_bind (wpAny_field gob gda (x := vl) rfl (wpAny_bind (wpAny_listPart pl ?_)))
  refine wpAny_bind (wpAny_field gob gda (x := .none) rfl (wpAny_bind (wpAny_listPart .none (wpAny_pure ?_))))
  unfold Builtin.List.listItems
  refine wpAny_bind (wpAny_bind (wpAny_seqItems e rfl (wpAny_pure ?_)))
  refine wpAny_bind (wpAny_of_eq ((sliceIndices_raw (some (k : Int)) none none items.size (by simp)).trans (congrArg (pure : Int × Int × Int → Sem (Int × Int × Int)) (bounds_end hk))) ?_)
  refine wpAny_bind (wpAny_rule ?_)
  have key : ∀ f : Nat → Bool, (∀ i : Nat, f i = (if (1 : Int) > 0 then (decide ((k : Int) ≤ (i : Int)) && decide ((i : Int) < (items.size : Int)) && (((i : Int) - (k : Int)) % 1 == 0)) else (decide ((items.size : Int) < (i : Int)) && decide ((i : Int) ≤ (k : Int)) && (((k : Int) - (i : Int)) % (-1) == 0)))) →
      (List.filterMap (fun x : Value × Nat => if f x.2 = true then none else some x.1) items.toList.zipIdx).toArray = (items.toList.take k).toArray := fun f hf => by
    refine congrArg List.toArray (take_kept items.toList k f (fun i hi => ?_) (fun i h1 h2 => ?_))
    · rw [hf, if_pos (by decide)]
      have : ¬ ((k : Int) ≤ (i : Int)) := by omega
      rw [decide_eq_false this]
      rfl
    · rw [hf, if_pos (by decide)]
      have h2 : i < items.size := by simpa using h2
      rw [decide_eq_true (show (k : Int) ≤ (i : Int) by omega), decide_eq_true (show (i : Int) < (items.size : Int) by omega), Int.emod_one]
      rfl
  refine wpAny_bind (m := Builtin.List.listUpdate (.ref l) _) ?_
  show wpAny _ _ (updateSeq l _) _ _ s
  have ek := key _ (fun i => rfl)
  refine wpAny_updateSeq (hz := hsz) (_hz' := Nat.le_trans (Nat.le_of_eq (congrArg Array.size ek)) (by rw [List.size_toArray, List.length_take]; omega)) e rfl ?_
  refine wpAny_bind (wpAny_letGo ?_)
  exact wpAny_pure ⟨.none, rfl, h _ ek⟩
end
/-- del xs[k:] of a list -/
def tDelK (to ti : TE) : TS := fun D σ H => to σ H fun x H1 => ti σ H1 fun y H2 => ∃ (l : Addr) (xs : List V) (k : Nat), x = .ref l ∧ y = .int k ∧ H2 l = some (.lst xs) ∧ k ≤ xs.length ∧ D.nx σ (upd H2 l (.lst (xs.take k)))
section
variable {X : Cx} {o i : Expr} {to ti : TE} {pos tpos spos : Pos}
theorem ps_delK (ho : PE X o to) (hi : PE X i ti) : PS X (.Delete [.Subscript o (.Slice (some i) none none spos) tpos] pos) (tDelK to ti) := by
  refine ⟨fun pins s σ H D I h => ?_⟩
  refine wpAny_Delete (wpAny_deleteEach_cons (wpAny_delete_Subscript (thn (ho.run pins s σ H _ I h) fun u s1 ⟨x, H1, I1, rx, q1⟩ => ?_)))
  refine wpAny_Slice (thn (hi.run pins s1 σ H1 _ I1 q1) fun vl s2 ⟨y, H2, I2, ry, l, xs, k, ex, ey, hH, hk, q2⟩ => ?_)
  subst ex ey
  cases (show u = Value.ref l from rx)
  rw [evalPart_none]
  refine wpAny_pure ?_
  refine wpAny_pure ?_
  obtain ⟨t, rfl⟩ := ry
  have I4 : Inv X pins σ H2 { s2 with heap := s2.heap.push { cls := .type "slice", data := .fields #[.int k t, .none, .none] } } := I2.kept (t' := s2.toks) fun b ob q => Heap.get?_push_of_some _ q
  obtain ⟨z, its, n, r, hl, e⟩ := I4.lstM hH
  refine delItem_tail (k := k) e (Heap.IsSliceOf.new ..) (.int _ _) (by rw [List.size_toArray, ← hl]; exact hk) (by rw [List.size_toArray]; omega) fun f hf => ?_
  refine wpAny_deleteEach_nil ⟨σ, _, I4.lset (its' := its.take k) (t' := s2.toks) hH e ?_ (r.take k) ?_, q2⟩
  · rw [hf]
  · rw [List.length_take]
    omega
end
theorem r_delK {σ : L2.St} {H : Hp} {D : Ends} {to ti : TE} (h : to σ H fun x H1 => ti σ H1 fun y H2 => ∃ (l : Addr) (xs : List V) (k : Nat), x = .ref l ∧ y = .int k ∧ H2 l = some (.lst xs) ∧ k ≤ xs.length ∧ D.nx σ (upd H2 l (.lst (xs.take k)))) : tDelK to ti D σ H := h
/-! a loop over a tuple from its end -/
theorem r_revA {K : PySem.W.Frag} {σ : L2.St} {H : Hp} {te : TE} {R : It → Hp → Prop} (h : te σ H fun v H1 => ∃ (a : Addr) (xs : List V), v = .ref a ∧ ((SqL K H1 a xs ∧ R (Itv K a xs.length) H1) ∨ (SqT K H1 a xs ∧ R (RT.ItvT K a xs.length) H1))) : RT.iRevA K te σ H R := h
section
variable {K : PySem.W.Frag} {σ : L2.St} {H : Hp} {D : Ends}
theorem f_revT {a : Addr} {xs : List V} {g : TG} {tb : TS} (P : Nat → L2.St → Hp → Prop) (h0 : P 0 σ H) (hl : ∀ i σ H, P i σ H → SqT K H a xs)
    (step : ∀ i x σ H, i < xs.length → xs[xs.length - 1 - i]? = some x → P i σ H → g x σ H fun σ2 H2 => tb { D with nx := P (i + 1), ct := P (i + 1), bk := D.nx } σ2 H2) (done : ∀ σ H, P xs.length σ H → D.nx σ H) :
    ∃ W : Nat → Nat → L2.St → Hp → Prop, (∃ m, W 0 m σ H) ∧ ∀ i m σ H, W i m σ H →
      ((RT.ItvT K a xs.length).stop i H ∧ D.nx σ H) ∨ ((RT.ItvT K a xs.length).go i H ∧ ∃ N : L2.St → Hp → Prop, (∀ σ' H', N σ' H' → ∃ m', m' < m ∧ W (i + 1) m' σ' H') ∧ ∀ x H', (RT.ItvT K a xs.length).yld i H x H' → g x σ H' fun σ2 H2 => tb { D with nx := N, ct := N, bk := D.nx } σ2 H2) :=
  l_for P h0 (fun i σ H h p => ⟨h, xs, xs[xs.length - 1 - i], hl i σ H p, List.getElem?_eq_getElem _⟩) (fun _ _ _ => Nat.le_refl _) (fun i σ H h p x H' y => by
    obtain ⟨e1, e2⟩ := y
    subst e1
    exact step i x σ H' h (e2 xs (hl i σ H' p)) p) done
end
/-! a def with keyword-only parameters, all with defaults -/
structure OkK (P : Program) (w : World) (K : PySem.W.Frag) (mg : Str → Option Value) (base : Heap) (k : Nat) (x : Str) (ps ks : List Str) (dvs : List V) (n : Nat) (sp : Sp) : Prop where
  ex : ∃ (f : Addr) (fd : FuncData), mg x = some (.ref f) ∧ FnOk P w K mg base CX0 k f fd ps sp ∧ (∃ ds, Vals dvs ds ∧ Binds K fd ps ds) ∧ KBn K fd ps n ks (fun us ws => us ++ ws) (fun vs zs => vs ++ zs) ∧ PySem.W.keepIn K (.ref f) = true
section
variable {X : Cx} {k n : Nat} {ps ks : List Str} {dvs : List V} {sp : Sp} {x : Str} {p pos : Pos} {e : Expr} {es : List Expr} {kws : List Keyword} {t tk : TA}
theorem pe_fnK (O : OkK X.prog X.w X.K X.mg X.base k x ps ks dvs n sp) (hr : Room k X.A) (hg : Gl X x) (ha : PA X (e :: es) t) (hdb : (x == ("__debug__" : Str)) = false := by decide)
    (he : starEach (e :: es) X.env = (false, eval e X.env) :: starEach es X.env := by rfl) (hpl : (backTo pos (starEach es X.env)).any (·.1) = false := by rfl) : PE X (.Call (.Name x p) (e :: es) [] pos) (tCall sp dvs E0 t) := by
  obtain ⟨f, fd, hm, F, ⟨ds, hd, hb⟩, _, hk⟩ := O.ex
  exact pe_call F hr hg hm hk hb hd pass0 ha hdb he hpl
theorem pe_fnKw {m : Nat} (O : OkK X.prog X.w X.K X.mg X.base k x ps ks dvs n sp) (hr : Room k X.A) (hg : Gl X x) (ha : PA X (e :: es) t) (hkw : PK X kws tk)
    (hall : (backToKw pos (keywordEach kws X.env)).all (·.1.isSome) = true := by rfl) (hks : (backToKw pos (keywordEach kws X.env)).filterMap (·.1) = ks := by rfl)
    (hdb : (x == ("__debug__" : Str)) = false := by decide) (he : starEach (e :: es) X.env = (false, eval e X.env) :: starEach es X.env := by rfl)
    (hpl : ((backTo pos (starEach (e :: es) X.env)).any (·.1) || (backToKw pos (keywordEach kws X.env)).any (·.1.isNone)) = false := by rfl) (hm : ks.length = m := by rfl) :
    PE X (.Call (.Name x p) (e :: es) kws pos) (tCallN n m sp (fun vs zs => vs ++ zs) E0 t tk) := by
  subst hm
  obtain ⟨f, fd, hg2, F, _, hb, hk⟩ := O.ex
  exact pe_callN F hr hg hg2 hk hb pass0 ha hkw hall hks hdb he hpl
end
/-- every keyword-only parameter is written -/
theorem kb0 {K : PySem.W.Frag} {x qual : Str} {params : Arguments} {body : List Stmt} {scope : Scope} {kws : List (Str × V)} {f : Addr} {fd : FuncData} {ps ks : List Str} (F : FunD K x qual params body scope [] kws f fd) (n : Nat)
    (h : ∀ (kV doc pm : Value) (an : Option Addr) (cdv ct : Value) (us ws : List Value), us.length = n → ws.length = ks.length → bindArgs (PySem.W.fnOf x qual params body scope .none kV doc pm an cdv ct) ⟨us, ks.zip ws⟩ = pure (ps.zip (us ++ ws))) :
    KBn K fd ps n ks (fun us ws => us ++ ws) (fun vs zs => vs ++ zs) := by
  obtain ⟨oc, od, dV, kV, doc, pm, an, cdv, ct, osl, rfl, _, _, hD, _⟩ := F.ex
  rcases hD with ⟨_, rfl⟩ | ⟨e, _⟩
  · exact ⟨fun s us ws _ h1 h2 => .of_eq (h kV doc pm an cdv ct us ws h1 h2), fun r1 r2 => r1.append r2⟩
  · exact absurd rfl e
theorem r_callN {σ : L2.St} {H : Hp} {Q : VK} {n m : Nat} {sp : Sp} {gV : List V → List V → List V} {E : XK} {t tk : TA} (h : t σ H fun vs H1 => tk σ H1 fun zs H2 => vs.length = n ∧ zs.length = m ∧ sp (gV vs zs) H2 Q E) : tCallN n m sp gV E t tk σ H Q := h
end U
/-! U19: zip of a tuple and a list, in a loop. -/
namespace U
open PySem PySem.Spec PyProof.Rows L2
/-- the tuple at a and the list at b as they stand at each turn -/
def ItzM (K : PySem.W.Frag) (a b : Addr) : It where
  go := fun n H => ∃ (xs ys : List V) (x y : V), (SqT K H a xs ∧ xs[n]? = some x) ∧ SqL K H b ys ∧ ys[n]? = some y
  yld := fun n H v H2 => ∃ T x y, (v = .ref T ∧ H T = none ∧ H2 = upd H T (.tup [x, y])) ∧ (∀ xs, SqT K H a xs → xs[n]? = some x) ∧ ∀ ys, SqL K H b ys → ys[n]? = some y
  stop := fun n H => ∃ xs ys : List V, (SqT K H a xs ∧ SqL K H b ys) ∧ (xs.length = n ∧ ys.length = n)
structure Five (z TI TO i1 i2 a b : Addr) : Prop where
  sep : ZipSep2 z TI TO i1 i2 [i1, a] [i2, b]
  na : a ≠ i1
  nb : b ≠ i2
theorem five_of {N a b : Nat} (ha : a < N) (hb : b < N) : Five (N + 4) (N + 2) (N + 3) N (N + 1) a b := by
  exact ⟨⟨(show (N + 2 : Nat) ≠ (N + 4 : Nat) by omega), (show (N + 3 : Nat) ≠ (N + 4 : Nat) by omega), (show (N + 2 : Nat) ≠ (N + 3 : Nat) by omega), (show (N + 2 : Nat) ≠ (N : Nat) by omega), by simp, (fun h => by
    have h : (N + 4 : Nat) = N ∨ (N + 4 : Nat) = a := by simpa using h
    omega), (fun h => by
    have h : (N + 3 : Nat) = N ∨ (N + 3 : Nat) = a := by simpa using h
    omega), (show (N + 2 : Nat) ≠ (N + 1 : Nat) by omega), by simp, (fun h => by
    have h : (N + 4 : Nat) = N + 1 ∨ (N + 4 : Nat) = b := by simpa using h
    omega), (fun h => by
    have h : (N + 3 : Nat) = N + 1 ∨ (N + 3 : Nat) = b := by simpa using h
    omega), (fun h => by
    have h : (N : Nat) = N + 1 ∨ (N : Nat) = b := by simpa using h
    omega), (fun h => by
    have h : (N + 1 : Nat) = N ∨ (N + 1 : Nat) = a := by simpa using h
    omega)⟩, (show (a : Nat) ≠ (N : Nat) by omega), (show (b : Nat) ≠ (N + 1 : Nat) by omega)⟩
theorem turn_zipM {P : Program} {w : World} {K : PySem.W.Frag} {elts : List Expr} {kk : Nat} {tpos : Pos} {a b z TI TO i1 i2 : Addr} (F : Five z TI TO i1 i2 a b) :
    Turn P w K (.Tuple elts kk tpos) (ItzM K a b) [z, TI, TO, i1, i2] z (fun n h => (IsZip h z TI TO .none ∧ IsTupOf2 h TI (.ref i1) (.ref i2)) ∧ (∃ u v, IsTupOf2 h TO u v) ∧ h.IsTupleIter i1 a n ∧ h.IsListIter i2 b n) := by
  have five : ∀ {c : Addr}, c ∈ [z, TI, TO, i1, i2] → c = z ∨ c = TI ∨ c = TO ∨ c = i1 ∨ c = i2 := fun {c} h => by simpa using h
  have S := F.sep
  have t1 : TI ≠ i2 := S.TIi2
  constructor
  case mem => simp
  case obj =>
    rintro n h ⟨⟨q1, q2⟩, ⟨u, v, q3⟩, ⟨o1, e1, _, d1⟩, o2, e2, _, d2⟩ c hc
    rcases five hc with rfl | rfl | rfl | rfl | rfl
    · exact ⟨_, q1, fun v z => by cases z⟩
    · exact ⟨_, q2, fun v z => by cases z⟩
    · exact ⟨_, q3, fun v z => by cases z⟩
    · exact ⟨o1, e1, fun v z => by rw [d1] at z; cases z⟩
    · exact ⟨o2, e2, fun v z => by rw [d2] at z; cases z⟩
  case keep =>
    rintro n h h' ⟨⟨q1, q2⟩, ⟨u, v, q3⟩, q4, q5⟩ k
    exact ⟨⟨k _ (by simp) _ q1, k _ (by simp) _ q2⟩, ⟨u, v, k _ (by simp) _ q3⟩, q4.at fun o e => k _ (by simp) o e, q5.at fun o e => k _ (by simp) o e⟩
  case item =>
    rintro X hP hw hK hc n pins s σ H E I hf ⟨⟨q1, q2⟩, ⟨u0, v0, q3⟩, q4, q5⟩ ⟨xs, ys, x, y, ⟨sx, ex⟩, sy, ey⟩
    subst hP hw hK
    obtain ⟨ixs, rx, px, _⟩ := I.tuple sx
    obtain ⟨iys, ry, py, _⟩ := I.list sy
    obtain ⟨ux, hux, rux⟩ := rx.get ex
    obtain ⟨uy, huy, ruy⟩ := ry.get ey
    have hh : X.A.in1.handled = none := I.ok.hd hc
    have ln1 : n < ixs.toArray.size := by rw [List.size_toArray]; exact (List.getElem?_eq_some_iff.mp hux).1
    have ln2 : n < iys.toArray.size := by rw [List.size_toArray]; exact (List.getElem?_eq_some_iff.mp huy).1
    have hzl : z < s.heap.objs.size := Heap.lt_size q1
    refine wpAny_pyNext_zipD2_item S (Draws.tuple hh i1 a F.na ixs.toArray) (Draws.list hh i2 b F.nb iys.toArray) q1 q2 q3 ⟨q4, px⟩ ⟨q5, py.isList⟩ ln1 ln2 fun v1 v2 h1 tk p1 p2 z1 to1 g1 g2 hT hsz hk => ?_
    have p1 : ixs.toArray[n]? = some v1 := p1
    have p2 : iys.toArray[n]? = some v2 := p2
    have ev1 : v1 = ux := by
      rw [List.getElem?_toArray, hux] at p1
      exact (Option.some.inj p1).symm
    have ev2 : v2 = uy := by
      rw [List.getElem?_toArray, huy] at p2
      exact (Option.some.inj p2).symm
    subst ev1 ev2
    refine ⟨_, rfl, wpAny_letOwnedTupleGo_zip (s := { s with heap := h1, toks := tk }) z1 fun h2 z2 sb => ?_⟩
    have keep : ∀ c o, c ≠ z → c ≠ TO → c ≠ i1 → c ≠ i2 → s.heap.get? c = some o → h2.get? c = some o := fun c o c1 c2 c3 c4 e => (sb.2 c c1).trans (hk c o c1 c2 c3 c4 e)
    have gT : h2.get? s.heap.objs.size = some { cls := .type "tuple", data := .seq #[v1, v2] } := by
      rw [sb.2 _ (Nat.ne_of_gt hzl)]
      exact hT
    have fresh : H s.heap.objs.size = none := I.hok.fresh (Nat.le_refl _)
    have I2 : Inv X pins σ (upd H s.heap.objs.size (.tup [x, y])) { s with heap := h2, toks := tk } := by
      refine I.turnedNew (ch := [z, TI, TO, i1, i2]) (fun c o hb e => ?_) hf (Nat.le_refl _) ⟨(show (2 : Nat) ≤ sizeLine from by decide), [v1, v2], .cons rux (.cons ruy .nil), ⟨_, gT, rfl, _, rfl⟩⟩
      simp only [List.mem_cons, List.not_mem_nil, or_false, not_or] at hb
      exact keep c o hb.1 hb.2.2.1 hb.2.2.2.1 hb.2.2.2.2 e
    refine ⟨.ref s.heap.objs.size, _, I2, rfl, ⟨_, x, y, ⟨rfl, fresh, rfl⟩, fun l hl => ?_, fun l hl => ?_⟩, ⟨⟨z2, ?_⟩, ⟨v1, v2, ?_⟩, ?_, ?_⟩, fun c hcm => ?_⟩
    · rw [I.tuple_inj hl sx]; exact ex
    · rw [I.list_inj hl sy]; exact ey
    · exact keep _ _ S.TIz S.TITO S.TIi1 S.TIi2 q2
    · exact (sb.2 _ S.TOz).trans to1
    · exact g1.1.at fun o e => (sb.2 _ S.zi1.symm).trans e
    · exact g2.1.at fun o e => (sb.2 _ S.zi2.symm).trans e
    · have lt : c < s.heap.objs.size := by
        obtain ⟨_, w1, _⟩ := q4
        obtain ⟨_, w2, _⟩ := q5
        rcases five hcm with rfl | rfl | rfl | rfl | rfl
        · exact hzl
        · exact Heap.lt_size q2
        · exact Heap.lt_size q3
        · exact Heap.lt_size w1
        · exact Heap.lt_size w2
      rw [upd_ne (Nat.ne_of_lt lt)]
      exact (hf c hcm).1
  case done =>
    rintro X hP hw hK hc n pins s σ H E I hf ⟨⟨q1, q2⟩, ⟨u0, v0, q3⟩, q4, q5⟩ ⟨xs, ys, ⟨sx, sy⟩, l1, l2⟩
    subst hP hw hK
    obtain ⟨ixs, rx, px, _⟩ := I.tuple sx
    obtain ⟨iys, ry, py, _⟩ := I.list sy
    have hh : X.A.in1.handled = none := I.ok.hd hc
    have ln1 : n = ixs.toArray.size := by rw [List.size_toArray, ← rx.length]; exact l1.symm
    have ln2 : n = iys.toArray.size := by rw [List.size_toArray, ← ry.length]; exact l2.symm
    refine wpAny_pyNext_zipD2_end S (Draws.tuple hh i1 a F.na ixs.toArray) (Draws.list hh i2 b F.nb iys.toArray) q1 q2 q3 ⟨q4, px⟩ ⟨q5, py.isList⟩ (by omega) (by omega) (.inl ln1) fun h1 tk hk => ⟨rfl, ?_⟩
    refine I.turnedL (ch := [z, TI, TO, i1, i2]) (fun c o hb e => ?_) hf
    simp only [List.mem_cons, List.not_mem_nil, or_false, not_or] at hb
    exact hk c o hb.1 hb.2.2.1 hb.2.2.2.1 hb.2.2.2.2 e
  case self => exact fun A n s Q E st h => wpAny_pyIter_zip st.1.1 h
/-- zip of two lists, of two tuples, of a tuple and a list -/
def iZipB (K : PySem.W.Frag) (ta : TA) : TI := fun σ H R => (∃ Z : Prop, Z ∧ RZ.iZipA K ta σ H R) ∨ ta σ H fun vs H1 => ∃ a b xs ys, vs = [.ref a, .ref b] ∧ (SqT K H1 a xs ∧ SqL K H1 b ys) ∧ R (ItzM K a b) H1
theorem pi_zipB {X : Cx} {e e2 : Expr} {ta : TA} {p pos tpos : Pos} {elts : List Expr} {kk : Nat} (hg : Gl X "zip") (hm : X.mg "zip" = none) (ha : PA X [e, e2] ta)
    (hs : starEach [e, e2] X.env = (false, eval e X.env) :: starEach [e2] X.env := by rfl) (hpl : (backTo pos (starEach [e2] X.env)).any (·.1) = false := by rfl) :
    PI X (.Tuple elts kk tpos) (.Call (.Name "zip" p) [e, e2] [] pos) (iZipB X.K ta) := by
  refine ⟨fun pins s σ H R I h => ?_⟩
  rcases h with ⟨_, _, h⟩ | h
  · exact (RZ.pi_zipA hg hm ha hs hpl).run pins s σ H R I h
  refine Call_ (ld_blt I hg hm PyProof.Rows.boot_zip ?_)
  refine PyProof.Rows.callWith_type1 ?_ hs hpl
  refine thn (ha.run pos pins s σ H _ I h) fun us s1 ⟨vs, H1, I1, rs, a, b, xs, ys, ev, ⟨sx, sy⟩, q⟩ => ?_
  subst ev
  obtain ⟨u1, u2, rfl, r1, r2⟩ : ∃ u1 u2, us = [u1, u2] ∧ RelV (.ref a) u1 ∧ RelV (.ref b) u2 := by
    cases rs with
    | cons r t =>
      cases t with
      | cons r' t => cases t; exact ⟨_, _, rfl, r, r'⟩
  cases r1
  cases r2
  obtain ⟨ixs, rx, px, _⟩ := I1.tuple sx
  obtain ⟨iys, ry, py, _⟩ := I1.list sy
  obtain ⟨ox, hox, _⟩ := id px
  refine zip_begins2 (begins_tuple a ixs.toArray) (begins_list b iys.toArray) px py.isList fun h1 z1 z2 z3 z4 z5 _ hk => ?_
  refine wpAny_pyIter_zip z1 ⟨_, _, _, _, H1, rfl, I1.kept (t' := s1.toks) hk, turn_zipM (five_of (N := s1.heap.objs.size) (Heap.lt_size hox) py.lt), ⟨⟨z1, z2⟩, ⟨_, _, z3⟩, ⟨_, z4, rfl, rfl⟩, ⟨_, z5, rfl, rfl⟩⟩, fun c hc => ?_, q⟩
  have le : s1.heap.objs.size ≤ c := by
    have h5 : c = s1.heap.objs.size + 4 ∨ c = s1.heap.objs.size + 2 ∨ c = s1.heap.objs.size + 3 ∨ c = s1.heap.objs.size ∨ c = s1.heap.objs.size + 1 := by simpa using hc
    show (s1.heap.objs.size : Nat) ≤ (c : Nat)
    rcases h5 with z | z | z | z | z <;> (rw [z]; simp)
  exact I1.fpOk le (I1.hok.fresh le)
theorem r_zipM {K : PySem.W.Frag} {σ : L2.St} {H : Hp} {ta : TA} {R : It → Hp → Prop} (h : ta σ H fun vs H1 => ∃ a b xs ys, vs = [.ref a, .ref b] ∧ (SqT K H1 a xs ∧ SqL K H1 b ys) ∧ R (ItzM K a b) H1) : iZipB K ta σ H R := .inr h
theorem r_zipA {K : PySem.W.Frag} {σ : L2.St} {H : Hp} {ta : TA} {R : It → Hp → Prop} (h : RZ.iZipA K ta σ H R) : iZipB K ta σ H R := .inl ⟨True, trivial, h⟩
/-- a loop over it, both of one length -/
theorem f_zipM {K : PySem.W.Frag} {a b : Addr} {xs ys : List V} {g : TG} {tb : TS} {D : Ends} {σ : L2.St} {H : Hp} (hl : xs.length = ys.length) (P : Nat → L2.St → Hp → Prop) (h0 : P 0 σ H) (hq : ∀ i σ H, P i σ H → SqT K H a xs ∧ SqL K H b ys)
    (step : ∀ (i : Nat) (x y : V) (T : Addr) (σ : L2.St) (H : Hp), xs[i]? = some x → ys[i]? = some y → P i σ H → H T = none → g (.ref T) σ (upd H T (.tup [x, y])) fun σ2 H2 => tb { D with nx := P (i + 1), ct := P (i + 1), bk := D.nx } σ2 H2) (done : ∀ σ H, P xs.length σ H → D.nx σ H) :
    ∃ W : Nat → Nat → L2.St → Hp → Prop, (∃ m, W 0 m σ H) ∧ ∀ i m σ H, W i m σ H →
      ((ItzM K a b).stop i H ∧ D.nx σ H) ∨ ((ItzM K a b).go i H ∧ ∃ N : L2.St → Hp → Prop, (∀ σ' H', N σ' H' → ∃ m', m' < m ∧ W (i + 1) m' σ' H') ∧ ∀ v H', (ItzM K a b).yld i H v H' → g v σ H' fun σ2 H2 => tb { D with nx := N, ct := N, bk := D.nx } σ2 H2) :=
  l_for (n := xs.length) P h0 (fun i σ H h p => ⟨xs, ys, xs[i], ys[i]'(by omega), ⟨(hq i σ H p).1, List.getElem?_eq_getElem h⟩, (hq i σ H p).2, List.getElem?_eq_getElem _⟩) (fun σ H p => ⟨xs, ys, hq _ σ H p, rfl, hl.symm⟩) (fun i σ H h p x H' y => by
    obtain ⟨T, u, v, ⟨rfl, hT, rfl⟩, f1, f2⟩ := y
    exact step i u v T σ H (f1 xs (hq i σ H p).1) (f2 ys (hq i σ H p).2) p hT) done
end U
/-! U20: a call of one of several defs that a local name may hold, where they raise. -/
namespace U
open PySem PySem.Spec PyProof.Rows L2
def HeldX (P : Program) (w : World) (K : PySem.W.Frag) (mg : Str → Option Value) (base : Heap) (A : Around) (f : Addr) (sp : Sp) : Prop :=
  ∃ k' fd ps, Room k' A ∧ FnOk P w K mg base (L2.CX P w) k' f fd ps sp ∧ PySem.W.keepIn K (.ref f) = true ∧ Binds K fd ps []
theorem heldX {P : Program} {w : World} {K : PySem.W.Frag} {mg : Str → Option Value} {base : Heap} {A : Around} {k' : Nat} {x : Str} {f : Addr} {ps : List Str} {sp : Sp} (O : OkX P w K mg base k' x ps sp) (g : mg x = some (.ref f)) (hk : Room k' A) : HeldX P w K mg base A f sp := by
  obtain ⟨f', fd, hm, F, hb, kp⟩ := O.ex
  have e : f' = f := by
    rw [g] at hm
    injection hm with hm
    injection hm with hm
    exact hm.symm
  subst e
  exact ⟨k', fd, ps, hk, F, kp, hb⟩
def tCallMS (i : Nat) (L : List (Addr × Sp)) (E : L2.St → XK) (t : TA) : TE := fun σ H Q => ∃ f sp, σ[i]? = some (some (.ref f)) ∧ (f, sp) ∈ L ∧ t σ H fun vs H1 => sp vs H1 Q (E σ)
inductive HeldsX (P : Program) (w : World) (K : PySem.W.Frag) (mg : Str → Option Value) (base : Heap) (A : Around) : List (Addr × Sp) → Prop
  | nil : HeldsX P w K mg base A []
  | cons {f : Addr} {sp : Sp} {L : List (Addr × Sp)} : HeldX P w K mg base A f sp → HeldsX P w K mg base A L → HeldsX P w K mg base A ((f, sp) :: L)
theorem HeldsX.at_ {P : Program} {w : World} {K : PySem.W.Frag} {mg : Str → Option Value} {base : Heap} {A : Around} {L : List (Addr × Sp)} (h : HeldsX P w K mg base A L) : ∀ {f : Addr} {sp : Sp}, (f, sp) ∈ L → HeldX P w K mg base A f sp := by
  induction h with
  | nil => intro f sp hm; cases hm
  | cons a _ ih =>
    intro f sp hm
    rcases List.mem_cons.mp hm with e | hm
    · injection e with e1 e2
      subst e1 e2
      exact a
    · exact ih hm
section
variable {X : Cx} {W : WX} {i : Nat} {L : List (Addr × Sp)} {x : Str} {p pos : Pos} {e : Expr} {es : List Expr} {t : TA}
theorem pe_callMX (A : HeldsX X.prog X.w X.K X.mg X.base X.A L) (tk : Takes X W) (ha : PA X (e :: es) t) (hN : X.N[i]? = some x := by rfl) (hv : Vis X.env.scope x := by first | exact Or.inl rfl | exact Or.inr (Or.inl rfl) | exact Or.inr (Or.inr rfl))
    (hdb : (x == ("__debug__" : Str)) = false := by decide) (hcd : (x == ("__classdict__" : Str)) = false := by decide)
    (he : starEach (e :: es) X.env = (false, eval e X.env) :: starEach es X.env := by rfl) (hpl : (backTo pos (starEach es X.env)).any (·.1) = false := by rfl) : PE X (.Call (.Name x p) (e :: es) [] pos) (tCallMS i L (WE W) t) := by
  refine ⟨fun pins s σ H Q I h => ?_⟩
  obtain ⟨f, sp, hs, hm, ht⟩ := h
  obtain ⟨k', fd, ps, hk, F, kp, hb⟩ := A.at_ hm
  refine wpAny_Call_Name_kw (thn ((pe_var (pos := p) hN hv hdb hcd).run pins s σ H (fun v H1 => v = .ref f ∧ H1 = H) I ⟨.ref f, hs, rfl, rfl⟩) fun u s1 ⟨v, H1, I1, r1, q1⟩ => ?_)
  obtain ⟨rfl, rfl⟩ := q1
  cases r1
  refine PySem.W.callWith_K (h₀ := X.base) I.ok.mod.kin kp (thn (ha.run pos pins s1 σ _ _ I1 ht) fun us s2 ⟨vs, H2, I2, r, q⟩ => ⟨I2.kIn, ?_⟩) he hpl
  exact run_fnS F hk hb (passAt tk σ) I2 r q
end
section
variable {σ : L2.St} {H : Hp} {Q : VK} {L : List (Addr × Sp)} {t : TA} {i : Nat} {f : Addr} {sp : Sp} {W : WX}
theorem r_callMS (h0 : σ[i]? = some (some (.ref f))) (hm : (f, sp) ∈ L) (h : t σ H fun vs H1 => sp vs H1 Q (fun cls d H' => W cls d σ H')) : tCallMS i L (WE W) t σ H Q := ⟨f, sp, h0, hm, h⟩
end
end U
/-! U21: slice stores, properties, len of an own class. -/
namespace U
open PySem PySem.Spec PyProof.Rows L2
open He (FnW ga ma)
/-! ### xs[a:b] = ys -/
def gSlc (to tl th : TE) : TG := fun v σ H Q => to σ H fun o H1 => tl σ H1 fun a H2 => th σ H2 fun c H3 => ∃ (l b : Addr) (xs ys : List V) (i j : Int), o = .ref l ∧ v = .ref b ∧ a = .int i ∧ c = .int j ∧ H3 l = some (.lst xs) ∧ H3 b = some (.lst ys) ∧ l ≠ b ∧ 0 ≤ i ∧ i ≤ j ∧ j ≤ xs.length ∧
  xs.length + ys.length ≤ sizeLine ∧ Q σ (upd H3 l (.lst (xs.take i.toNat ++ ys ++ xs.drop j.toNat)))
section
variable {X : Cx} {o lo hi : Expr} {to tl th : TE} {p2 pos : Pos}
theorem pg_slc (ho : PE X o to) (hl : PE X lo tl) (hh : PE X hi th)
    (ha : ∀ v, assign (.Subscript o (.Slice (some lo) (some hi) none p2) pos) X.env v = (do
      let ov ← holding [v] (eval o X.env)
      let iv ← holding [v, ov] (eval (.Slice (some lo) (some hi) none p2) X.env)
      standAt pos
      holding [v, ov, iv] (setItem ov iv v)
      release [iv, v, ov] []) := by intro _; rfl) : PG X (.Subscript o (.Slice (some lo) (some hi) none p2) pos) (gSlc to tl th) := by
  refine ⟨fun pins s σ H v u Q I r h => ?_⟩
  rw [ha]
  refine wpAny_bind (wpAny_holding (thn (ho.run pins s σ H _ I h) fun ov s1 ⟨x, H1, I1, r1, q1⟩ => ?_))
  refine wpAny_bind (wpAny_holding (wpAny_Slice (thn (hl.run pins s1 σ H1 _ I1 q1) fun vl s2 ⟨a, H2, I2, ra, q2⟩ => thn (hh.run pins s2 σ H2 _ I2 q2) fun vu s3 ⟨c, H3, I3, rc, l, b, xs, ys, i, j, ex, ev, ea, ec, hx, hy, hne, h0, hij, hj, hz, q3⟩ => ?_)))
  subst ex ev ea ec
  cases (show ov = Value.ref l from r1)
  cases (show u = Value.ref b from r)
  rw [evalPart_none]
  refine wpAny_pure ?_
  have I4 : Inv X pins σ H3 { s3 with heap := s3.heap.push { cls := .type "slice", data := .fields #[vl, vu, .none] } } := I3.kept (t' := s3.toks) fun b ob q => Heap.get?_push_of_some _ q
  refine wpAny_bind (wpAny_standAt (wpAny_bind (wpAny_holding ?_)))
  exact set_slice I4 hx hy hne (Heap.IsSliceOf.new ..) ra rc h0 hij hj hz fun s5 I5 => wpAny_release ⟨σ, _, I5, q3⟩
end
theorem r_slc {σ : L2.St} {H : Hp} {to tl th : TE} {v : V} {R : L2.St → Hp → Prop} (h : to σ H fun o H1 => tl σ H1 fun a H2 => th σ H2 fun c H3 => ∃ (l b : Addr) (xs ys : List V) (i j : Int), o = .ref l ∧ v = .ref b ∧ a = .int i ∧ c = .int j ∧ H3 l = some (.lst xs) ∧ H3 b = some (.lst ys) ∧ l ≠ b ∧ 0 ≤ i ∧ i ≤ j ∧ j ≤ xs.length ∧
  xs.length + ys.length ≤ sizeLine ∧ R σ (upd H3 l (.lst (xs.take i.toNat ++ ys ++ xs.drop j.toNat)))) : gSlc to tl th v σ H R := h
/-! ### a property of a class of the program -/
structure OkPr (P : Program) (w : World) (K : PySem.W.Frag) (mg : Str → Option Value) (base : Heap) (k : Nat) (C : Addr) (f : Str) (sp : Sp) : Prop where
  ex : ∃ (p g : Addr) (fd : FuncData), Cls K C ∧ PropOf K C f p g ∧ FnOk P w K mg base CX0 k g fd ["self"] sp ∧ Binds K fd ["self"] []
section
variable {X : Cx} {k : Nat} {C : Addr} {f : Str} {sp : Sp} {e : Expr} {pos : Pos} {ta : TE}
theorem pe_prp (O : OkPr X.prog X.w X.K X.mg X.base k C f sp) (he : PE X e ta) (hr : Room (k + 1) X.A) (hab : attributeBase e f X.env (eval e X.env) = eval e X.env) : PE X (.Attribute e f pos) (tProp C sp [] E0 ta) := by
  obtain ⟨p, g, fd, c, hp, F, hb⟩ := O.ex
  exact pe_prop he c hp F hr hb .nil pass0 hab
end
theorem r_prop {σ : L2.St} {H : Hp} {Q : VK} {C : Addr} {sp : Sp} {ta : TE} (h : ta σ H fun x H1 => ∃ a dx fs, x = .ref a ∧ H1 a = some (.ins C dx fs) ∧ sp [.ref a] H1 Q E0) : tProp C sp [] E0 ta σ H Q := h
/-! ### a def called within a built-in -/
section
variable {X : Cx} {k : Nat} {f : Addr} {fd : FuncData} {ps : List Str} {sp : Sp}
theorem run_in1 {pins : List (Addr × Obj)} {σ : L2.St} {H : Hp} {s : Shared} {Q : VK} {us : List Value} {vs : List V} {Ex : Value → Shared → Prop} (F : FnOk X.prog X.w X.K X.mg X.base CX0 k f fd ps sp) (hr : Room (k + 1) X.A) (hb : Binds X.K fd ps [])
    (I : Inv X pins σ H s) (r : Vals vs us) (h : sp vs H Q E0) : wpAny (model X.prog X.w) X.A.in1 (call (.ref f) us) (EP X pins σ Q) Ex s := by
  have hl : us.length = ps.length := by rw [← r.length]; exact F.len _ _ _ _ h
  have b := hb s us I.kIn (by rw [List.append_nil]; exact hl)
  rw [List.append_nil] at b
  refine wpAny_call (codeAny_mono (F.run X.A.in1 X.stack s H ⟨us, []⟩ us vs Q E0 hr.in1 I.env0.in1 b r h) fun r s' hq => ?_)
  cases r with
  | error e => exact False.elim hq
  | ok fl =>
    cases fl with
    | ret u => exact I.after hq
    | next => exact False.elim hq
    | brk => exact False.elim hq
    | cont => exact False.elim hq
end
section
variable {prog : Program} {w : World} {A : Around} {E : Value → Shared → Prop} {s : Shared} {K : PySem.W.Frag} {x C f : Addr} {ox : Obj} {od : Option Obj}
theorem len_fn {Q : Value → Shared → Prop} (X : K.In s.heap) (I : PySem.W.InstAt s.heap x ox C od) (hs : PySem.W.findIn K (.ref C) "__len__" = some (some (.ref f))) (hf : PySem.W.isFn K (.ref f) = true)
    (h : wpAny (model prog w) A.in1 (call (.ref f) [.ref x]) (fun r s' => ∃ n u, r = .int n u ∧ 0 ≤ n ∧ n < 2 ^ 63 ∧ Q (.int n s'.toks) { s' with toks := s'.toks + 1 }) E s) :
    wpAny (model prog w) A (call (.builtin "len") [.ref x]) Q E s := by
  refine Calls.call_function_entry kind_len plain_len entry_len (args_len1 _) ?_
  unfold Builtin.«len»
  refine wpAny_bind (m := oneArg "len" _) (wpAny_pure ?_)
  refine wpAny_bind (m := callSpecial? (.ref x) (Str.ofString "__len__")) (PySem.W.special_fn (name := "__len__") (args := []) X I hs (beq_iff_eq.mp hf) (wpAny_mono h (fun r s' hr => ?_) fun _ _ y => y))
  obtain ⟨n, u, rfl, h0, h1, hq⟩ := hr
  refine wpAny_bind (wpAny_holding (wpAny_pure ?_))
  refine wpAny_bind (wpAny_letGo ?_)
  show wpAny _ _ (if n < 0 then _ else _) _ _ _
  rw [if_neg (by omega)]
  show wpAny _ _ (if n ≥ 2 ^ 63 then _ else _) _ _ _
  rw [if_neg (by omega)]
  exact wpAny_bind (wpAny_mkInt (wpAny_pure ⟨_, rfl, hq⟩))
end
def rLenO (C : Addr) (sp : Sp) : RC := fun xs H Q => ∃ a dx fs, xs = [.ref a] ∧ H a = some (.ins C dx fs) ∧ sp [.ref a] H (fun v H' => ∃ n : Int, v = .int n ∧ 0 ≤ n ∧ n < 2 ^ 63 ∧ Q (.int n) H') E0
theorem c_lenO {X : Cx} {k : Nat} {C : Addr} {ps : List Str} {sp : Sp} (O : OkOp X.prog X.w X.K X.mg X.base k C "__len__" ps sp) (hr : Room (k + 1) X.A) : CallR X (.builtin "len") (rLenO C sp) := by
  obtain ⟨f, fd, hs, hf, F, hb⟩ := O.ex
  intro pins s σ H xs us Q I r h
  obtain ⟨a, dx, fs, rfl, ha, q⟩ := h
  cases r with
  | cons r1 rr =>
    cases rr
    cases (show _ = Value.ref a from r1)
    obtain ⟨mA, J, _⟩ := ins_get I.hok ha
    obtain ⟨od, J, _⟩ := J.look
    refine len_fn I.kIn J hs hf (wpAny_mono (run_in1 (us := [.ref a]) (vs := [.ref a]) F hr hb I (.cons rfl .nil) q) (fun u s' z => ?_) fun _ _ y => y)
    obtain ⟨v, H', I', rv, n, rfl, h0, h1, q'⟩ := z
    obtain ⟨t, rfl⟩ := rv
    exact ⟨n, t, rfl, h0, h1, .int n, H', I'.tok _, ⟨_, rfl⟩, q'⟩
/-! ### the Hook with the getters of properties -/
structure PrD where
  c : Str
  f : Str
  qual : Str
  params : Arguments
  body : List Stmt
  scope : Scope
def pAd (K : PySem.W.Frag) (d : PrD) : Addr := ma K (ga K d.c) d.f
def gAd (K : PySem.W.Frag) (d : PrD) : Addr := match PySem.W.recIn K (pAd K d) "property" with
  | some (.ref g :: _) => g
  | _ => 0
def fnG (K : PySem.W.Frag) (d : PrD) : FnW := match K.lookup (gAd K d) with
  | some ⟨_, _, .func fd, _⟩ => some (fd.name, fd.qualname, fd.params, fd.body, fd.scope, fd.globals, fd.closure, fd.builtins)
  | _ => none
def PrD.val (d : PrD) : FnW := some (d.f, d.qual, d.params, .stmts d.body, d.scope, mainGlobals, [], builtinsNs)
def prB (K : PySem.W.Frag) (d : PrD) : Bool :=
  (He.eqO (PySem.W.findIn K (.ref (ga K d.c)) d.f) (some (some (.ref (pAd K d)))) && He.eqO (PySem.W.specialIn K (.ref (pAd K d)) "__get__") (some (some (.builtin "property.__get__")))) &&
  ((decide (PySem.W.takesIn K (.ref (pAd K d)) = some true) && (match PySem.W.recIn K (pAd K d) "property" with
    | some (.ref _ :: _) => true
    | _ => false)) && (PySem.W.keepIn K (.ref (gAd K d)) && (match K.lookup (gAd K d) with
    | some ⟨_, _, .func fd, _⟩ => PySem.W.codeIn K fd.code d.qual && (He.dflB K fd.defaults [] && He.kwdB K fd.kwdefaults [])
    | _ => false)))
theorem prB_ok {K : PySem.W.Frag} {d : PrD} (e : fnG K d = d.val) (c : prB K d = true) : PropOf K (ga K d.c) d.f (pAd K d) (gAd K d) ∧ ∃ fd, FunD K d.f d.qual d.params d.body d.scope [] [] (gAd K d) fd := by
  unfold prB at c
  simp only [Bool.and_eq_true] at c
  obtain ⟨⟨a1, a2⟩, ⟨a3, a4⟩, a5, a6⟩ := c
  refine ⟨⟨He.eqO_ok a1, He.eqO_ok a2, of_decide_eq_true a3, ?_⟩, ?_⟩
  · split at a4
    · rename_i g rest hg
      refine ⟨rest, ?_⟩
      have eg : gAd K d = g := by
        unfold gAd
        rw [hg]
      rw [eg, hg]
    · cases a4
  · unfold fnG at e
    cases lk : K.lookup (gAd K d) with
    | none => rw [lk] at a6; cases a6
    | some o =>
      obtain ⟨oc, od, dt, osl⟩ := o
      rw [lk] at a6 e
      cases dt with
      | func fd =>
        obtain ⟨m1, m2, m3, m4, m5, m6, m7, m8, m9, m10, m11, m12, m13, m14, m15⟩ := fd
        have e : (some (m1, m2, m3, m4, m5, m6, m7, m15) : FnW) = (some (d.f, d.qual, d.params, FuncBody.stmts d.body, d.scope, mainGlobals, [], builtinsNs) : FnW) := e
        simp only [Option.some.injEq, Prod.mk.injEq] at e
        obtain ⟨z1, z2, z3, z4, z5, z6, z7, z8⟩ := e
        subst z1 z2 z3 z4 z5 z6 z7 z8
        dsimp only at a6
        simp only [Bool.and_eq_true] at a6
        obtain ⟨b1, b2, b3⟩ := a6
        exact ⟨_, ⟨oc, od, m8, m9, m10, m11, m12, m13, m14, osl, rfl, lk, b1, He.dflB_ok b2, He.kwdB_ok b3⟩, a5⟩
      | _ => cases a6
open He (DefD Fa frG frG_in ba)
abbrev AlP : Type := AlV × (Bool × List FnW)
def obsP (file : Str) (fa : List Fa) (fn : List DefD) (en : List ErrD) (ds : List DicD) (pr : List PrD) (t : PySem.W.Frag → Bool) (K : PySem.W.Frag) : AlP := (obsV file fa fn en ds t K, (pr.all (prB K), pr.map (fnG K)))
def valP (fn : List DefD) (en : List ErrD) (ds : List DicD) (pr : List PrD) (w : World) : AlP := (valW fn en ds w, (true, pr.map PrD.val))
def SaysP (file : Str) (fa : List Fa) (fn : List DefD) (en : List ErrD) (ds : List DicD) (pr : List PrD) (t : PySem.W.Frag → Bool) (w : World) (K : PySem.W.Frag) : Prop := obsP file fa fn en ds pr t K = valP fn en ds pr w
def obsPG (file : Str) (n : Nat) (fa : List Fa) (fn : List DefD) (en : List ErrD) (ds : List DicD) (pr : List PrD) (t : PySem.W.Frag → Bool) (g : Addr → Option Obj) : AlP := obsP file fa fn en ds pr t (frG g (asU g n))
def hookP (file : Str) (n : Nat) (fa : List Fa) (fn : List DefD) (en : List ErrD) (ds : List DicD) (pr : List PrD) (t : PySem.W.Frag → Bool) : PySem.W.Hook where
  α := AlP
  obs := fun s => obsPG file n fa fn en ds pr t s.heap.get?
  val := fun w => valP fn en ds pr w
  says := fun w h => ∃ K : PySem.W.Frag, K.In h ∧ SaysP file fa fn en ds pr t w K
  of := fun _ _ e => ⟨_, frG_in, e⟩
  keeps := fun _ _ _ ⟨K, hK, c⟩ k => ⟨K, PySem.W.Frag.In.keeps hK k, c⟩
theorem obsPG_eq {file : Str} {n : Nat} {fa : List Fa} {fn : List DefD} {en : List ErrD} {ds : List DicD} {pr : List PrD} {t : PySem.W.Frag → Bool} {g : Addr → Option Obj} {s : Shared} (h : ∀ a, g a = s.heap.get? a) : obsPG file n fa fn en ds pr t g = (hookP file n fa fn en ds pr t).obs s := by
  have e : g = s.heap.get? := funext h
  rw [e] <;> rfl
section
variable {file : Str} {fa : List Fa} {fn : List DefD} {en : List ErrD} {ds : List DicD} {pr : List PrD} {t : PySem.W.Frag → Bool} {w : World} {K : PySem.W.Frag}
theorem SaysP.v (c : SaysP file fa fn en ds pr t w K) : SaysV file fa fn en ds t w K := congrArg (fun z : AlP => z.1) c
theorem SaysP.u (c : SaysP file fa fn en ds pr t w K) : SaysU file fa fn en t K := c.v.u
theorem SaysP.dic (c : SaysP file fa fn en ds pr t w K) (i : Nat) {d : DicD} (hd : ds[i]? = some d) (nd : (d.kvs.map (·.1)).Nodup) : DicF w K d := c.v.dic i hd nd
theorem SaysP.prop (c : SaysP file fa fn en ds pr t w K) (i : Nat) {d : PrD} (hd : pr[i]? = some d) : PropOf K (ga K d.c) d.f (pAd K d) (gAd K d) ∧ ∃ fd, FunD K d.f d.qual d.params d.body d.scope [] [] (gAd K d) fd := by
  have e1 : pr.all (prB K) = true := congrArg (fun z : AlP => z.2.1) c
  have e : pr.map (fnG K) = pr.map PrD.val := congrArg (fun z : AlP => z.2.2) c
  have e2 : (pr.map (fnG K))[i]? = (pr.map PrD.val)[i]? := by rw [e]
  rw [List.getElem?_map, List.getElem?_map, hd] at e2
  exact prB_ok (Option.some.inj e2) (List.all_eq_true.mp e1 d (List.mem_of_getElem? hd))
end
/-! a range with a step -/
theorem r_rng3 {σ : L2.St} {H : Hp} {ta : TA} {R : It → Hp → Prop} (h : ta σ H fun vs H1 => ∃ (i j c : Int) (n : Nat), vs = [.int i, .int j, .int c] ∧ RgC i j c n ∧ R (Itc i c n) H1) : iRng3 ta σ H R := h
theorem r_rng3v {a b c : Int} {P : Int → Int → Int → Nat → Prop} (h : ∃ n, P a b c n) : ∃ (i j k : Int) (n : Nat), [V.int a, V.int b, V.int c] = [V.int i, V.int j, V.int k] ∧ P i j k n := by
  obtain ⟨n, h⟩ := h
  exact ⟨a, b, c, n, rfl, h⟩
/-! x.f += .. -/
section
variable {σ : L2.St} {H : Hp} {D : Ends} {C : Addr} {ta tv : TE} {rd : V → V → Hp → VK → Prop} {f : Str} {u : TS}
theorem r_faug (h : ta σ H fun x H1 => ∃ a dx fs v, x = .ref a ∧ H1 a = some (.ins C dx fs) ∧ fs.lookup f = some v ∧ tv σ H1 fun y H2 => rd v y H2 fun z H3 => ∃ dx' fs', H3 a = some (.ins C dx' fs') ∧ fs'.length < 1000 ∧ D.nx σ (upd H3 a (.ins C dx' (putF f z fs')))) : sFldAugC C ta tv rd f D σ H := h
theorem r_sqFA (h : ta σ H fun x H1 => ∃ a dx fs v, x = .ref a ∧ H1 a = some (.ins C dx fs) ∧ fs.lookup f = some v ∧ tv σ H1 fun y H2 => rd v y H2 fun z H3 => ∃ dx' fs', H3 a = some (.ins C dx' fs') ∧ fs'.length < 1000 ∧ u D σ (upd H3 a (.ins C dx' (putF f z fs')))) : tSq (sFldAugC C ta tv rd f) u D σ H := r_sq h
end
/-! a loop over enumerate(list) -/
theorem r_enum {K : PySem.W.Frag} {σ : L2.St} {H : Hp} {ta : TA} {R : It → Hp → Prop} (h : ta σ H fun vs H1 => ∃ a xs, vs = [.ref a] ∧ SqL K H1 a xs ∧ R (Ite K a) H1) : iEnum K ta σ H R := h
section
variable {K : PySem.W.Frag} {σ : L2.St} {H : Hp} {D : Ends}
theorem f_enum {a : Addr} {xs : List V} {g : TG} {tb : TS} (P : Nat → L2.St → Hp → Prop) (h0 : P 0 σ H) (hl : ∀ i σ H, P i σ H → SqL K H a xs)
    (step : ∀ (i : Nat) x σ H T H', xs[i]? = some x → P i σ H → H T = none → Same H H' → H' T = some (.tup [.int i, x]) → g (.ref T) σ H' fun σ2 H2 => tb { D with nx := P (i + 1), ct := P (i + 1), bk := D.nx } σ2 H2) (done : ∀ σ H, P xs.length σ H → D.nx σ H) :
    ∃ W : Nat → Nat → L2.St → Hp → Prop, (∃ m, W 0 m σ H) ∧ ∀ i m σ H, W i m σ H →
      ((Ite K a).stop i H ∧ D.nx σ H) ∨ ((Ite K a).go i H ∧ ∃ N : L2.St → Hp → Prop, (∀ σ' H', N σ' H' → ∃ m', m' < m ∧ W (i + 1) m' σ' H') ∧ ∀ x H', (Ite K a).yld i H x H' → g x σ H' fun σ2 H2 => tb { D with nx := N, ct := N, bk := D.nx } σ2 H2) :=
  l_for P h0 (fun i σ H h p => ⟨xs, xs[i], hl i σ H p, List.getElem?_eq_getElem h⟩) (fun σ H p => ⟨xs, hl _ σ H p, Nat.le_refl _⟩) (fun i σ H h p x H' y => by
    obtain ⟨T, z, e1, e2, e3, e4⟩ := y
    subst e1 e3
    exact step i z σ H T _ (e4 xs (hl i σ H p)) p e2 (same_new e2) upd_same) done
theorem r_pair {σ : L2.St} {T : Addr} {x y : V} {i j : Nat} {R : L2.St → Hp → Prop} (e : H T = some (.tup [x, y])) (h : R ((σ.set i (some x)).set j (some y)) H) : gTup K 2 (gCons (gName i) (gCons (gName j) gNil)) (.ref T) σ H R :=
  ⟨T, _, rfl, SqT.of e, rfl, _, _, rfl, _, _, rfl, rfl, h⟩
end
end U
/-! U22: x in o by the class' own __contains__; generator methods walked into a list. -/
namespace U
open PySem PySem.Spec PyProof.Rows L2 GenW
/-! ### x in o -/
section
variable {prog : Program} {w : World} {A : Around} {E : Value → Shared → Prop} {s : Shared} {K : PySem.W.Frag} {x C f : Addr} {v : Value} {ox : Obj} {od : Option Obj}
theorem contains_fn {Q : Bool → Shared → Prop} (X : K.In s.heap) (I : PySem.W.InstAt s.heap x ox C od) (hs : PySem.W.findIn K (.ref C) "__contains__" = some (some (.ref f))) (hf : PySem.W.isFn K (.ref f) = true)
    (h : wpAny (model prog w) A (call (.ref f) [.ref x, v]) (fun r s' => ∃ b, r = .bool b ∧ Q b s') E s) : wpAny (model prog w) A (contains (.ref x) v) Q E s := by
  unfold contains
  refine wpAny_holding ?_
  refine wpAny_bind (wpAny_bind (I.type.here ((PySem.W.looks_findIn X hs).here ?_)))
  refine PySem.W.KFB.if_not rfl ?_
  have one : ∀ refuse : Sem Value, wpAny (model prog w) A (callSpecialUnlessNone? (.ref x) "__contains__" [v] refuse) (fun r s' => ∃ b, r = some (.bool b) ∧ Q b s') E s := by
    intro refuse
    unfold callSpecialUnlessNone?
    refine wpAny_bind (wpAny_bind (I.type.here ((PySem.W.looks_findIn X hs).here ?_)))
    refine wpAny_holding (wpAny_bind ((PySem.W.bind_fn X _ (beq_iff_eq.mp hf)).here ?_))
    refine PySem.W.KFB.if_not rfl ?_
    refine wpAny_bind (wpAny_mono h (fun r s' hr => ?_) fun _ _ z => z)
    obtain ⟨b, rfl, hq⟩ := hr
    exact wpAny_pure ⟨b, rfl, hq⟩
  refine wpAny_bind (wpAny_mono (one _) (fun r s' hr => ?_) fun _ _ z => z)
  obtain ⟨b, rfl, hq⟩ := hr
  exact wpAny_truthy_bool hq
end

def rInO (C : Addr) (sp : Sp) (neg : Bool) : R2 := fun x y H Q => ∃ a dx fs, y = .ref a ∧ H a = some (.ins C dx fs) ∧ sp [y, x] H (fun r H' => ∃ b, r = .bl b ∧ Q (.bl (b != neg)) H') E0
section
variable {X : Cx} {k : Nat} {C : Addr} {ps : List Str} {sp : Sp}
theorem own_in {pins : List (Addr × Obj)} {σ : L2.St} {H : Hp} {s : Shared} {Q : Bool → Hp → Prop} {a dx : Addr} {fs : List (Str × V)} {x : V} {v : Value} (O : OkOp X.prog X.w X.K X.mg X.base k C "__contains__" ps sp) (hr : Room k X.A) (I : Inv X pins σ H s) (ha : H a = some (.ins C dx fs)) (rx : RelV x v)
    (q : sp [.ref a, x] H (fun r H' => ∃ b, r = .bl b ∧ Q b H') E0) : wpAny (model X.prog X.w) X.A (contains (.ref a) v) (fun b s' => ∃ H', Inv X pins σ H' s' ∧ Q b H') X.xe s := by
  obtain ⟨f, fd, hs, hf, F, hb⟩ := O.ex
  obtain ⟨mA, J, _⟩ := ins_get I.hok ha
  obtain ⟨od, J, _⟩ := J.look
  refine contains_fn I.kIn J hs hf (wpAny_mono (run_fnS (CX := CX0) (E := fun _ => E0) (us := [.ref a, v]) (vs := [.ref a, x]) F hr hb (fun _ _ _ _ _ _ h => h.elim) I (.cons rfl (.cons rx .nil)) q) (fun w s' z => ?_) fun _ _ y => y)
  obtain ⟨z', H', I', rz, b, rfl, qz⟩ := z
  exact ⟨b, rz, H', I', qz⟩
theorem op_inO (O : OkOp X.prog X.w X.K X.mg X.base k C "__contains__" ps sp) (hr : Room k X.A) : OpR X (compareOp .In) (rInO C sp false) := by
  intro pins s σ H x y v u Q I rx ry h
  obtain ⟨a, dx, fs, rfl, ha, q⟩ := h
  cases (show u = Value.ref a from ry)
  show wpAny _ _ (contains (.ref a) v >>= fun b => pure (Value.bool b)) _ _ s
  refine wpAny_bind (wpAny_mono (own_in O hr I ha rx q) (fun b s' z => wpAny_pure ?_) fun _ _ y => y)
  obtain ⟨H', I', qz⟩ := z
  rw [Bool.bne_false] at qz
  exact ⟨.bl b, H', I', rfl, qz⟩
theorem op_notInO (O : OkOp X.prog X.w X.K X.mg X.base k C "__contains__" ps sp) (hr : Room k X.A) : OpR X (compareOp .NotIn) (rInO C sp true) := by
  intro pins s σ H x y v u Q I rx ry h
  obtain ⟨a, dx, fs, rfl, ha, q⟩ := h
  cases (show u = Value.ref a from ry)
  show wpAny _ _ (contains (.ref a) v >>= fun b => pure (Value.bool (!b))) _ _ s
  refine wpAny_bind (wpAny_mono (own_in O hr I ha rx q) (fun b s' z => wpAny_pure ?_) fun _ _ y => y)
  obtain ⟨H', I', qz⟩ := z
  rw [Bool.bne_true] at qz
  exact ⟨.bl (!b), H', I', rfl, qz⟩
end
theorem r_inO {H : Hp} {C : Addr} {sp : Sp} {neg : Bool} {x : V} {a dx : Addr} {fs : List (Str × V)} {Q : VK} (ha : H a = some (.ins C dx fs)) (h : sp [.ref a, x] H (fun r H' => ∃ b, r = .bl b ∧ Q (.bl (b != neg)) H') E0) : rInO C sp neg x (.ref a) H Q := ⟨a, dx, fs, rfl, ha, h⟩
section
variable {prog : Program} {w : World} {A : Around} {R : GenEnd} {Y : Protocol} {n : Nat} {s₀ : Shared} {fs : List Frame} {s : Shared} {env : Env}
/-- an exception leaves a loop's code -/
abbrev noteSeg (prog : Program) (w : World) (A : Around) (R : GenEnd) (Y : Protocol) (n : Nat) (s₀ : Shared) (env : Env) (c : Code) (fs : List Frame) (x : Value) (s' : Shared) : Prop :=
  Seg (model prog w) A R Y n s₀ c ((do noteFrame x env; theTreesLotGoes x : Sem Unit).wrap (fun _ => .raise x) .raise id id) fs s'
theorem seg_forLoop {tg : Expr} {it : Value} {body : List Stmt}
    (h : wpAny (model prog w) (A.over (.forLoop tg it body [] env) fs) (pyNext it) (fun r s1 => match r with
      | none => Seg (model prog w) A R Y n s₀ (.forLoop tg it body [] env) (.pure (.again (.block [] env))) fs s1
      | some v => wpAny (model prog w) (A.over (.forLoop tg it body [] env) fs) (letOwnedTupleGo tg it v) (fun _ s2 =>
          wpAny (model prog w) (A.over (.forLoop tg it body [] env) fs) (assign tg env v) (fun _ s3 =>
            Seg (model prog w) A R Y n s₀ (.forLoop tg it body [] env) ((execs body env).wrap (fun f => match f with
              | .next | .cont => .pure (.again (.forLoop tg it body [] env))
              | .brk => .pure (.done .next)
              | .ret v => .pure (.done (.ret v))) (fun e => (do noteFrame e env; theTreesLotGoes e : Sem Unit).wrap (fun _ => .raise e) .raise id id) id id) fs s3)
            (noteSeg prog w A R Y n s₀ env (.forLoop tg it body [] env) fs) s2) (noteSeg prog w A R Y n s₀ env (.forLoop tg it body [] env) fs) s1)
      (noteSeg prog w A R Y n s₀ env (.forLoop tg it body [] env) fs) s) :
    Seg (model prog w) A R Y n s₀ (.forLoop tg it body [] env) ((model prog w).den (.forLoop tg it body [] env)) fs s := by
  show Seg _ A R Y n s₀ _ ((forTurn tg it body [] env).onRaise (fun x => do noteFrame x env; theTreesLotGoes x)) fs s
  have hh : ∀ e : Value, ((do noteFrame e env; theTreesLotGoes e : Sem Unit).bind fun _ => (.raise e : Sem PySem.Fin)) = (do noteFrame e env; theTreesLotGoes e : Sem Unit).wrap (fun _ => .raise e) .raise id id := fun e => Sem.bind_eq_wrap _ _
  unfold forTurn
  rw [Sem.onRaise_eq_wrap]
  refine seg_bind_wrap (wpAny_standAt ?_)
  refine seg_bind_wrap (wpAny_onRaise (wpAny_mono h (fun r s1 hr => ?_) fun x s' hx => wpAny_standAt ?_))
  · cases r with
    | none => exact hr
    | some v =>
      refine seg_bind_wrap (wpAny_mono hr (fun _ s2 h2 => ?_) fun x s' hx => ?_)
      · refine seg_bind_wrap (wpAny_mono h2 (fun _ s3 h3 => ?_) fun x s' hx => ?_)
        · rw [Sem.bind_eq_wrap', Sem.wrap_wrap]
          rw [Sem.wrap_congr (execs body env) _ _ (K' := fun f => match f with
                | .next | .cont => .pure (.again (.forLoop tg it body [] env))
                | .brk => .pure (.done .next)
                | .ret v => .pure (.done (.ret v))) (H' := (fun e => (do noteFrame e env; theTreesLotGoes e : Sem Unit).wrap (fun _ => .raise e) .raise id id))
            (fun f => by cases f <;> rfl)
            (fun e => by first | exact hh e | rfl)]
          exact h3
        · first | exact hx | (show Seg _ A R Y n s₀ _ ((do noteFrame x env; theTreesLotGoes x : Sem Unit).bind fun _ => .raise x) fs s'; rw [Sem.bind_eq_wrap]; exact hx)
      · first | exact hx | (show Seg _ A R Y n s₀ _ ((do noteFrame x env; theTreesLotGoes x : Sem Unit).bind fun _ => .raise x) fs s'; rw [Sem.bind_eq_wrap]; exact hx)
  · first | exact hx | (show Seg _ A R Y n s₀ _ ((do noteFrame x env; theTreesLotGoes x : Sem Unit).bind fun _ => .raise x) fs s'; rw [Sem.bind_eq_wrap]; exact hx)
end

section
variable {X : Cx} {tg iter test : Expr} {body p q : List Stmt} {pos : Pos}
/-! ### if -/
def tGIf (tc : TT) (t u : TGn) : TGn := fun D ys σ H => tc σ H fun k H1 => if k = true then t D ys σ H1 else u D ys σ H1
theorem gs_if {tc : TT} {t u : TGn} (hc : PT X test tc) (ha : GSs X p t) (hb : GSs X q u) : GS X (.If test p q pos) (tGIf tc t u) := by
  refine ⟨fun A S ip R n ys s₀ c fs K J gd lv s σ H D g hn k hI ht => ?_⟩
  obtain ⟨acc, cc, r, I⟩ := hI
  refine seg_at ?_
  show Seg _ _ _ _ n s₀ c ((isTrue test X.env (eval test X.env) >>= fun b => if b = true then execs p X.env else execs q X.env).wrap K J gd lv) fs s
  refine seg_bind_wrap ?_
  rw [g.over]
  refine wpAny_mono (hc.run _ s σ H _ I ht) (fun b s1 hb1 => ?_) fun x s' hx => k.exc n s₀ x s' hx
  obtain ⟨H2, I2, q2⟩ := hb1
  cases b with
  | true =>
    rw [if_pos rfl] at q2 ⊢
    exact ha.run A S ip R n ys s₀ c fs K J gd lv s1 σ H2 D g hn k ⟨acc, cc, r, I2⟩ q2
  | false =>
    rw [if_neg Bool.false_ne_true] at q2 ⊢
    exact hb.run A S ip R n ys s₀ c fs K J gd lv s1 σ H2 D g hn k ⟨acc, cc, r, I2⟩ q2

/-! ### for -/
def tGFor (wi : TI) (g : TG) (tb : TGn) : TGn := fun D ys σ H => wi σ H fun J H1 => ∃ W : Nat → Nat → List V → L2.St → Hp → Prop, (∃ m, W 0 m ys σ H1) ∧ ∀ i m ys σ H, W i m ys σ H →
  (J.stop i H ∧ D.nx ys σ H) ∨ (J.go i H ∧ ∃ N : List V → L2.St → Hp → Prop, (∀ ys' σ' H', N ys' σ' H' → ∃ m', m' < m ∧ W (i + 1) m' ys' σ' H') ∧ ∀ x H', J.yld i H x H' → g x σ H' fun σ2 H2 => tb { D with nx := N, ct := N, bk := D.nx } ys σ2 H2)
theorem gs_for {wi : TI} {g : TG} {tb : TGn} (hp : PassesOwn (model X.prog X.w) X.A X.env X.xe) (hc : X.calm = true) (hi : PI X tg iter wi) (hg : PG X tg g) (hb : GSs X body tb)
    (hs : ∀ x, foldedSetIterable iter X.env x = pure x := by intro _; rfl) : GS X (.For tg iter body [] pos) (tGFor wi g tb) := by
  refine ⟨fun A S ip R n ys s₀ c fs K J gd lv s σ H D g hn k hI ht => ?_⟩
  obtain ⟨acc, cc, r, I⟩ := hI
  refine seg_at ?_
  show Seg _ _ _ _ n s₀ c ((eval iter X.env >>= fun v => foldedSetIterable iter X.env v >>= fun x => standAt iter.pos >>= fun _ => holding [x] (pyIter x) >>= fun it => runOwn (.forLoop tg it body [] X.env) X.env).wrap K J gd lv) fs s
  refine seg_bind_wrap ?_
  rw [g.over]
  refine wpAny_mono (hi.run _ s σ H _ I ht) (fun v s1 h1 => ?_) fun x s' hx => k.exc n s₀ x s' hx
  refine seg_bind_wrap (wpAny_of_eq (hs v) ?_)
  refine seg_bind_wrap (wpAny_standAt ?_)
  refine seg_bind_wrap (wpAny_holding ?_)
  rw [g.over]
  refine wpAny_mono h1 (fun itv s2 h2 => ?_) fun x s' hx => k.exc n s₀ x s' hx
  obtain ⟨it, fp, tn, Jt, H2, e, I2, T, st2, f2, W, ⟨m0, w0⟩, turn⟩ := h2
  subst e
  have hSf : ∀ b ∈ fp, S ≠ b := fun b hb => (f2 b hb).2.2.2.2.2 (S, lstObj acc cc) (List.mem_append_right _ List.mem_cons_self)
  have stat : ∀ {acc : Array Value} {cc : Nat} {H' : Hp}, (∀ b ∈ fp, H' b = none) → ∀ b ∈ fp, FpOk X ((S, lstObj acc cc) :: ip) H' b := fun {acc cc H'} hn b hb => by
    obtain ⟨_, a1, a2, a3, a4, a5⟩ := f2 b hb
    refine ⟨hn b hb, a1, a2, a3, a4, fun p hp => ?_⟩
    rcases List.mem_append.mp hp with z | z
    · exact a5 p (List.mem_append_left _ z)
    · rcases List.mem_cons.mp z with z | z
      · rw [z]; exact hSf b hb
      · exact a5 p (List.mem_append_right _ (List.mem_cons_of_mem _ z))
  show Seg _ _ _ _ n s₀ c ((runOwn (.forLoop tg (.ref it) body [] X.env) X.env).wrap K J gd lv) fs s2
  refine seg_call fun p => ?_
  have gl := fun (kk : Result → Sem PySem.Fin) => gc_loop (k := kk) (c' := .forLoop tg (.ref it) body [] X.env) (l := lv []) (kp := []) (p := p) g rfl rfl
  have loop : ∀ (m i n : Nat) (ys : List V) (s₀ s : Shared) (σ : L2.St) (H : Hp), n + ys.length = sizeLine → W i m ys σ H → tn i s.heap → (∀ b ∈ fp, H b = none) → GI X S ip ys σ H s →
      Seg (model X.prog X.w) A R (GY X S) n s₀ (.forLoop tg (.ref it) body [] X.env) ((model X.prog X.w).den (.forLoop tg (.ref it) body [] X.env))
        (.ret (fun r => ((match r with | .ok f => (.pure f : Sem Flow) | .error e => .raise e).onRaise (cameBack X.env)).wrap K J gd lv) none (gd false) (lv []) c p [] :: fs) s := by
    intro m
    induction m using Nat.strongRecOn with
    | ind m ih =>
      intro i n ys s₀ s σ H hn w st fr hI
      have ee : ∀ (n : Nat) (s₀ : Shared) (x : Value) (s' : Shared), X.xe x s' → Seg (model X.prog X.w) A R (GY X S) n s₀ (.forLoop tg (.ref it) body [] X.env)
          ((do noteFrame x X.env; theTreesLotGoes x : Sem Unit).wrap (fun _ => .raise x) .raise id id)
          (.ret (fun r => ((match r with | .ok f => (.pure f : Sem Flow) | .error e => .raise e).onRaise (cameBack X.env)).wrap K J gd lv) none (gd false) (lv []) c p [] :: fs) s' := fun n s₀ x s' hx => by
        refine seg_wrap ?_
        rw [(gl _).over]
        refine wpAny_bind (wpAny_mono (hp x s' hx) (fun _ s'' hcb => wpAny_theTreesLotGoes ?_) fun y s'' hcb => ?_)
        · exact seg_leaf (.error x) (seg_cameBack g k hcb)
        · exact seg_leaf (.error y) (seg_cameBack g k hcb)
      refine seg_forLoop ?_
      rw [(gl _).over]
      obtain ⟨acc, cc, r, I⟩ := hI
      rcases turn i m ys σ H w with ⟨stop, qn⟩ | ⟨go, N, hN, step⟩
      · refine wpAny_mono (T.done X rfl rfl rfl hc i _ s σ H X.xe I (stat fr) st stop) (fun rr s4 ⟨hr, I4⟩ => ?_) fun x s' hx => ee n s₀ x s' hx
        subst hr
        refine seg_again rfl ?_
        show Seg _ _ _ _ n s₀ _ (((.pure .next : Sem Flow).onRaise _) >>= fun f => .pure (.done f)) _ _
        exact seg_leaf (.ok .next) (k.ok n ys s₀ s4 .next hn ⟨σ, H, ⟨acc, cc, r, I4⟩, qn⟩)
      · refine wpAny_mono (T.item X rfl rfl rfl hc i _ s σ H X.xe I (stat fr) st go) (fun rr s4 ⟨u, hr, h4⟩ => ?_) fun x s' hx => ee n s₀ x s' hx
        subst hr
        refine wpAny_mono h4 (fun _ s5 ⟨x, H5, I5, r5, y5, st5, fr5⟩ => ?_) fun x s' hx => ee n s₀ x s' hx
        have I5' := I5.pinned (stat fr5) (T.obj _ _ st5)
        refine wpAny_mono (hg.run _ s5 σ H5 x u _ I5' r5 (step x H5 y5)) (fun _ s6 ⟨σ6, H6, I6, q6⟩ => ?_) fun x s' hx => ee n s₀ x s' hx
        refine hb.run A S (ip ++ pinsAt fp s5.heap) R n ys s₀ _ _ _ _ id id s6 σ6 H6 { D with nx := N, ct := N, bk := D.nx } { gl _ with ip := fun p hp => ?_ } hn ⟨fun n' ys' s₀' s7 f hn' hs => ?_, fun n' s₀' x s7 hx => ee n' s₀' x s7 hx⟩ ⟨acc, cc, r, I6⟩ q6
        · rcases List.mem_append.mp hp with z | z
          · exact g.ip p z
          · exact fun e => hSf _ (of_pinsAt z).1 e.symm
        have again : ∀ {ys7 : List V} {σ7 : L2.St} {H7 : Hp}, GI X S (ip ++ pinsAt fp s5.heap) ys7 σ7 H7 s7 → GI X S ip ys7 σ7 H7 s7 ∧ tn (i + 1) s7.heap ∧ ∀ b ∈ fp, H7 b = none := fun {ys7 σ7 H7} G7 => by
          obtain ⟨acc7, cc7, r7, I7⟩ := G7
          have I7' : Inv X (((S, lstObj acc7 cc7) :: ip) ++ pinsAt fp s5.heap) σ7 H7 s7 := I7
          refine ⟨⟨acc7, cc7, r7, I7'.unpinned⟩, T.keep _ _ _ st5 fun b hb o e => (I7'.pin (b, o) (List.mem_append_right _ (List.mem_append_right _ (mem_pinsAt hb e)))).1, fun b hb => ?_⟩
          obtain ⟨o, e, d⟩ := T.obj _ _ st5 b hb
          exact (I7'.pin (b, o) (List.mem_append_right _ (List.mem_append_right _ (mem_pinsAt hb e)))).2.1
        cases f with
        | next =>
          obtain ⟨σ7, H7, G7, n7⟩ := hs
          obtain ⟨m', hm, w7⟩ := hN ys' σ7 H7 n7
          obtain ⟨G, t7, f7⟩ := again G7
          exact seg_again rfl (ih m' hm (i + 1) n' ys' s₀' s7 σ7 H7 hn' w7 t7 f7 G)
        | cont =>
          obtain ⟨σ7, H7, G7, n7⟩ := hs
          obtain ⟨m', hm, w7⟩ := hN ys' σ7 H7 n7
          obtain ⟨G, t7, f7⟩ := again G7
          exact seg_again rfl (ih m' hm (i + 1) n' ys' s₀' s7 σ7 H7 hn' w7 t7 f7 G)
        | brk =>
          obtain ⟨σ7, H7, G7, q7⟩ := hs
          exact seg_leaf (.ok .next) (k.ok n' ys' s₀' s7 .next hn' ⟨σ7, H7, (again G7).1, q7⟩)
        | ret v =>
          obtain ⟨x7, σ7, H7, G7, r7, q7⟩ := hs
          exact seg_leaf (.ok (.ret v)) (k.ok n' ys' s₀' s7 (.ret v) hn' ⟨x7, σ7, H7, (again G7).1, r7, q7⟩)
  exact loop m0 0 n ys s₀ s2 σ H2 hn w0 st2 (fun b hb => (f2 b hb).1) ⟨acc, cc, r, I2⟩
end
/-! ### generator methods -/
structure OkG (P : Program) (w : World) (K : PySem.W.Frag) (mg : Str → Option Value) (base : Heap) (k : Nat) (C : Addr) (m : Str) (ps : List Str) (sp : SpG) : Prop where
  ex : ∃ (f : Addr) (fd : FuncData), Cls K C ∧ Meth K C m f ∧ GFn P w K mg base k f fd ps sp ∧ Binds K fd ps []
section
variable {P : Program} {w : World} {K : PySem.W.Frag} {mg : Str → Option Value} {base : Heap} {x qual : Str} {params : Arguments} {body : List Stmt} {scope : Scope} {dvs : List V} {kws : List (Str × V)} {f : Addr} {fd : FuncData}
theorem _root_.L2.FunD.gok {N ps : List Str} {k : Nat} {sp : SpG} (F : FunD K x qual params body scope dvs kws f fd) (S : GScope N ps scope) (len : ∀ vs H Q E, sp vs H Q E → vs.length = ps.length)
    (hbody : ∀ (cdv : Value) (A : Around) (outer : List Env) (s : Shared) (H : Hp) (vs : List V) (Q : List V → Hp → Prop) (E : XK) (pn : List (Addr × Obj)), Room k (A.deeper (envOfC qual scope s.heap.objs.size f cdv)) → sp vs H Q E →
      ∃ t, GSs (gcxOf P w K mg base N qual scope f cdv A outer s H E pn) body t ∧ t { nx := fun ys _ H' => Q ys H', rt := fun ys v H' => v = .non ∧ Q ys H' } [] (start N vs) H) : GFn P w K mg base (k + 1) f fd ps sp := by
  obtain ⟨oc, od, dV, kV, doc, pm, an, cdv, ct, osl, rfl, lk, hcd, _, _⟩ := F.ex
  exact gfn_of lk hcd S len fun A outer s H vs Q E pn hr hsp => hbody cdv A outer s H vs Q E pn hr hsp
end
section
variable {X : Cx} {k : Nat} {C : Addr} {m : Str} {ps : List Str} {sp : SpG} {o : Expr} {ta : TE} {p pos pos' apos : Pos}
theorem pe_lg {pl : Sem Bool} (O : OkG X.prog X.w X.K X.mg X.base k C m ps sp) (he : PE X o ta) (hr : Room (k + 3) X.A) (hg : Gl X "list") (hmg : X.mg "list" = none)
    (ht : eval (.Call (.Attribute o m apos) [] [] pos') X.env = (do
      let ov ← eval o X.env
      standAt apos.atName
      let (f, first) ← holding [ov] (getMethod ov m pl)
      callWith pos' f first (backTo pos' (starEach [] X.env)) (backToKw pos' (keywordEach [] X.env))) := by rfl)
    (hst : starEach [.Call (.Attribute o m apos) [] [] pos'] X.env = (false, eval (.Call (.Attribute o m apos) [] [] pos') X.env) :: starEach [] X.env := by rfl) :
    PE X (.Call (.Name "list" p) [.Call (.Attribute o m apos) [] [] pos'] [] pos) (tListG (tMethG C m sp [] E0 ta tNil)) := by
  obtain ⟨f, fd, c, hm, F, hb⟩ := O.ex
  have hr' : Room k X.A := hr.mono (by omega)
  exact pe_listG (pgen_meth0 he c hm F hr' hb .nil ht) (fun _ _ _ _ _ _ _ h => by obtain ⟨_, _, _, _, _, _, _, _, _, _, _, _, hE⟩ := h; exact hE.elim) (fun _ _ _ h => h.elim) hr hg hmg (by decide +kernel) (by decide) (by decide) hst
end
section
variable {σ : L2.St} {H : Hp}
theorem r_lg {C : Addr} {m : Str} {sp : SpG} {ta : TE} {Q : VK} (h : ta σ H fun x H1 => ∃ a dx fs, x = .ref a ∧ H1 a = some (.ins C dx fs) ∧ fs.lookup m = none ∧ sp [x] H1 (fun out H2 => ∀ p, H2 p = none → Q (.ref p) (upd H2 p (.lst out))) E0) : tListG (tMethG C m sp [] E0 ta tNil) σ H Q :=
  h
variable {D : GEnds} {ys : List V}
theorem r_gThen {t u : TGn} (h : t { D with nx := fun ys' σ' H' => u D ys' σ' H' } ys σ H) : tGThen t u D ys σ H := h
theorem r_g0 (h : D.nx ys σ H) : tG0 D ys σ H := h
theorem r_gPlain {t : TS} (h : t (D.at ys) σ H) : tPlain t D ys σ H := h
theorem r_gIf {tc : TT} {t u : TGn} (h : tc σ H fun k H1 => if k = true then t D ys σ H1 else u D ys σ H1) : tGIf tc t u D ys σ H := h
theorem r_gYield {te : TE} (hl : ys.length < sizeLine) (h : te σ H fun x H1 => D.nx (ys ++ [x]) σ H1) : tGYield te D ys σ H := ⟨hl, h⟩
theorem r_gFor {wi : TI} {g : TG} {tb : TGn} (h : wi σ H fun J H1 => ∃ W : Nat → Nat → List V → L2.St → Hp → Prop, (∃ m, W 0 m ys σ H1) ∧ ∀ i m ys σ H, W i m ys σ H →
  (J.stop i H ∧ D.nx ys σ H) ∨ (J.go i H ∧ ∃ N : List V → L2.St → Hp → Prop, (∀ ys' σ' H', N ys' σ' H' → ∃ m', m' < m ∧ W (i + 1) m' ys' σ' H') ∧ ∀ x H', J.yld i H x H' → g x σ H' fun σ2 H2 => tb { D with nx := N, ct := N, bk := D.nx } ys σ2 H2)) : tGFor wi g tb D ys σ H := h
/-- a generator's loop over n things -/
theorem g_for {J : It} {n : Nat} {g : TG} {tb : TGn} (P : Nat → List V → L2.St → Hp → Prop) (h0 : P 0 ys σ H) (go : ∀ i ys σ H, i < n → P i ys σ H → J.go i H) (stop : ∀ ys σ H, P n ys σ H → J.stop n H)
    (step : ∀ i ys σ H, i < n → P i ys σ H → ∀ x H', J.yld i H x H' → g x σ H' fun σ2 H2 => tb { D with nx := P (i + 1), ct := P (i + 1), bk := D.nx } ys σ2 H2) (done : ∀ ys σ H, P n ys σ H → D.nx ys σ H) :
    ∃ W : Nat → Nat → List V → L2.St → Hp → Prop, (∃ m, W 0 m ys σ H) ∧ ∀ i m ys σ H, W i m ys σ H →
      (J.stop i H ∧ D.nx ys σ H) ∨ (J.go i H ∧ ∃ N : List V → L2.St → Hp → Prop, (∀ ys' σ' H', N ys' σ' H' → ∃ m', m' < m ∧ W (i + 1) m' ys' σ' H') ∧ ∀ x H', J.yld i H x H' → g x σ H' fun σ2 H2 => tb { D with nx := N, ct := N, bk := D.nx } ys σ2 H2) := by
  refine ⟨fun i m ys σ H => m = n - i ∧ i ≤ n ∧ P i ys σ H, ⟨n, by simp, Nat.zero_le _, h0⟩, ?_⟩
  rintro i m ys σ H ⟨rfl, hi, p⟩
  by_cases hlt : i < n
  · exact .inr ⟨go i ys σ H hlt p, P (i + 1), fun ys' σ' H' p' => ⟨n - (i + 1), by omega, rfl, hlt, p'⟩, fun x H' y => step i ys σ H hlt p x H' y⟩
  · have e : i = n := by omega
    subst e
    exact .inl ⟨stop ys σ H p, done ys σ H p⟩
theorem g_range {lo : Int} {n : Nat} {g : TG} {tb : TGn} (P : Nat → List V → L2.St → Hp → Prop) (h0 : P 0 ys σ H)
    (step : ∀ i ys σ H, i < n → P i ys σ H → g (.int (lo + i)) σ H fun σ2 H2 => tb { D with nx := P (i + 1), ct := P (i + 1), bk := D.nx } ys σ2 H2) (done : ∀ ys σ H, P n ys σ H → D.nx ys σ H) :
    ∃ W : Nat → Nat → List V → L2.St → Hp → Prop, (∃ m, W 0 m ys σ H) ∧ ∀ i m ys σ H, W i m ys σ H →
      ((Itr lo n).stop i H ∧ D.nx ys σ H) ∨ ((Itr lo n).go i H ∧ ∃ N : List V → L2.St → Hp → Prop, (∀ ys' σ' H', N ys' σ' H' → ∃ m', m' < m ∧ W (i + 1) m' ys' σ' H') ∧ ∀ x H', (Itr lo n).yld i H x H' → g x σ H' fun σ2 H2 => tb { D with nx := N, ct := N, bk := D.nx } ys σ2 H2) :=
  g_for P h0 (fun i ys σ H h _ => h) (fun _ _ _ _ => Nat.le_refl _) (fun i ys σ H h p x H' y => by
    obtain ⟨e1, e2⟩ := y
    subst e1 e2
    exact step i ys σ H' h p) done
end
end U
/-! U23: list(o) by the class' own __iter__ (an iterator over a list) and __len__. -/
namespace U
open PySem PySem.Spec PyProof.Rows L2
def LiO (l it : Addr) (i : Nat) : HO := .ext fun h => h.IsListIter it l i
def GoO (it : Addr) : HO := .ext fun h => ∃ o, h.get? it = some o
theorem liO_ok {P : Program} {w : World} {H : Hp} {h : Heap} {l it : Addr} {i : Nat} (e : h.IsListIter it l i) : ObjOk P w H h it (LiO l it i) :=
  ⟨e, let ⟨o, ho, _⟩ := e; ⟨o, ho⟩, fun h1 h2 q k => let ⟨o, ho, r⟩ := q; ⟨o, k _ ho, r⟩⟩
theorem goO_ok {P : Program} {w : World} {H : Hp} {h : Heap} {it : Addr} (e : ∃ o, h.get? it = some o) : ObjOk P w H h it (GoO it) :=
  ⟨e, e, fun h1 h2 q k => let ⟨o, ho⟩ := q; ⟨o, k _ ho⟩⟩
section
variable {prog : Program} {w : World} {A : Around} {E : Value → Shared → Prop} {s : Shared}
/-- as wpAny_pyNext_list_end; the iterator is still there -/
theorem next_end2 {it l : Addr} {i : Nat} {items} {Q : Option Value → Shared → Prop} (hh : A.handled = none)
    (hit : s.heap.IsListIter it l i) (hl : s.heap.IsList l items) (hx : items[i]? = none)
    (hQ : ∀ h', (∃ o, h'.get? it = some o) → Heap.ExtBut it s.heap h' → Q none { s with heap := h' }) : wpAny (model prog w) A (pyNext (.ref it)) Q E s := by
  obtain ⟨o, ho, hc, hd⟩ := id hit
  obtain ⟨ol, hol, _, nl, hdl⟩ := hl
  unfold pyNext
  refine wpAny_bind (wpAny_attempt (wpAny_callSpecial?_slot (name := Str.ofString "__next__") hit.typeIs slot_listiter_next
    (wpAny_call_entry slot_listiter_next hit.typeIs entry_listiter_next ?_ (args_listiter_next _))))
  show wpAny _ _ (field (.ref it) 0 >>= _) _ _ s
  refine wpAny_bind (wpAny_field ho hd (x := .ref l) rfl ?_)
  show wpAny _ _ (if (Value.ref l == Value.none) = true then _ else _) _ _ s
  rw [if_neg (show ¬ ((Value.ref l == Value.none) = true) from Bool.false_ne_true)]
  show wpAny _ _ (field (.ref it) 1 >>= _) _ _ s
  refine wpAny_bind (wpAny_field ho hd (x := .int i 0) rfl ?_)
  show wpAny _ _ (seqItems? (.ref l) >>= _) _ _ s
  refine wpAny_bind (wpAny_seqItems hol hdl ?_)
  simp only [Int.toNat_natCast, hx]
  refine wpAny_bind (wpAny_rule (wpAny_bind (wpAny_setField ho hd (by simp) ?_)))
  show wpAny _ _ (newExc (.type "StopIteration") [] >>= _) _ _ _
  refine wpAny_bind ?_
  simp only [newExc, newTuple]
  refine wpAny_bind (wpAny_newObj_type ?_ (by size_fits))
  refine wpAny_bind (m := firstArgMember _ _) (wpAny_of_eq (a := Value.none) (by first | rfl | (simp only [firstArgMember]; rfl)) ?_)
  refine wpAny_newObj_type ?_ (by size_fits)
  simp only [raiseNew]
  refine wpAny_bind (wpAny_handled ?_)
  rw [show A.in1.handled = none from hh]
  refine wpAny_bind (wpAny_pure (wpAny_throw ?_))
  refine wpAny_bind (wpAny_isInstance (T := "StopIteration") (b := true) ⟨_, Heap.get?_push_size _ rfl, rfl⟩ isSubtype_stop ?_)
  exact wpAny_pure (hQ _ ⟨_, Heap.get?_push_of_some _ (Heap.get?_push_of_some _ (Heap.get?_update_self _ ho (Obj.isFreed_of_fields (Obj.data_mapFields hd _))))⟩ (((Heap.SameBut.update ..).extBut.push _).push _))
end
section
variable {X : Cx} {pins : List (Addr × Obj)} {σ : L2.St} {l it S a C : Addr} {zs : List V} {A : Around} {H0 : Hp} {R : Result → Shared → Prop}
theorem lo_loop (hc : A.handled = none) (hn : zs.length ≤ 1000000) (h0S : H0 S = none) (h0i : H0 it = none) (h0l : H0 l = some (.lst zs)) (hSi : S ≠ it) (res : Value)
    (hR : ∀ H s, Inv X pins σ H s → Same H0 H → H S = some (.lst zs) → R (.ok (.ret res)) s) :
    ∀ (k i : Nat) (H : Hp) (s : Shared), zs.length - i = k → i ≤ zs.length → Inv X pins σ H s → H it = some (LiO l it i) → Same H0 H → H S = some (.lst (zs.take i)) →
      codeAny (model X.prog X.w) A (.builtin "list.extend.loop" ⟨[.ref S, .ref it, res], []⟩) R s := by
  intro k
  induction k with
  | zero =>
    intro i H s hk hi I ei sm eS
    have e : i = zs.length := by omega
    subst e
    refine codeAny_builtin PySem.F.entry_extend_loop ?_
    rw [Around.under_plainId PySem.F.plain_extend_loop _]
    show wpAny _ A.in1 (pyNext (.ref it) >>= _) _ _ _
    obtain ⟨its, rv, pl, _⟩ := I.list (SqL.of (sm _ _ h0l))
    have hl := rv.length
    refine wpAny_bind (next_end2 (A := A.in1) hc (I.hok it _ ei).1 pl.isList (by simp; omega) fun h' hg hk => wpAny_pure ?_)
    have I2 := I.write (x := it) (e := it) (t' := s.toks) (o := GoO it) (by rw [ei]; exact True.intro) (.inl rfl) (fun b u nb z => hk b u nb z) hg (goO_ok hg)
    have I3 := ItX.inv_drop I2 (φ := fun h => ∃ o, h.get? it = some o) upd_same
    rw [List.take_length] at eS
    refine hR _ _ I3 (fun c o e => ?_) ?_
    · have hci : c ≠ it := fun z => by rw [z, h0i] at e; cases e
      rw [ItX.dropH_ne hci, upd_ne hci]
      exact sm c o e
    · rw [ItX.dropH_ne hSi, upd_ne hSi]
      exact eS
  | succ k ih =>
    intro i H s hk hi I ei sm eS
    have hlt : i < zs.length := by omega
    refine codeAny_builtin PySem.F.entry_extend_loop ?_
    rw [Around.under_plainId PySem.F.plain_extend_loop _]
    show wpAny _ A.in1 (pyNext (.ref it) >>= _) _ _ _
    obtain ⟨its, rv, pl, _⟩ := I.list (SqL.of (sm _ _ h0l))
    have hx : zs[i]? = some zs[i] := List.getElem?_eq_getElem hlt
    obtain ⟨u, hu, ru⟩ := rv.get hx
    generalize zs[i] = x at hx ru
    refine wpAny_bind (wpAny_pyNext_list_item (I.hok it _ ei).1 pl.isList (x := u) (by simpa using hu) fun h' hit sb => ?_)
    have I2 : Inv X pins σ (upd H it (LiO l it (i + 1))) { s with heap := h' } := I.write (x := it) (e := it) (t' := s.toks) (by rw [ei]; exact True.intro) (.inl rfl) (fun b o nb z => (sb.2 b nb).trans z) (let ⟨o, ho, _⟩ := hit; ⟨o, ho⟩) (liO_ok hit)
    have eS2 : upd H it (LiO l it (i + 1)) S = some (.lst (zs.take i)) := by rw [upd_ne hSi]; exact eS
    obtain ⟨zz, lst, n, r, ll, e⟩ := I2.lstM eS2
    have hle : lst.length = i := by rw [← ll, List.length_take]; omega
    refine wpAny_bind ?_
    refine wpAny_updateSeq e rfl (wpAny_pure ⟨plainId_quiet PySem.F.plain_extend_loop _, ?_⟩) (by rw [List.size_toArray, hle, sizeLine_eq]; omega) (by rw [Array.size_push, List.size_toArray, hle, sizeLine_eq]; omega)
    have I3 := I2.lset (t' := s.toks) (f := (·.push u)) (its' := lst ++ [u]) (ys := zs.take i ++ [x]) eS2 e (by simp) (r.append (.cons ru .nil)) (by rw [List.length_append, List.length_take, sizeLine_eq]; show min i zs.length + 1 ≤ _; omega)
    refine ih (i + 1) _ _ (by omega) hlt I3 ?_ (fun c o e => ?_) (by rw [upd_same, List.take_add_one, hx]; rfl)
    · rw [upd_ne (Ne.symm hSi)]; exact upd_same
    · have c1 : c ≠ S := fun z => by rw [z, h0S] at e; cases e
      have c2 : c ≠ it := fun z => by rw [z, h0i] at e; cases e
      rw [upd_ne c1, upd_ne c2]
      exact sm c o e
variable {H : Hp} {s : Shared} {k : Nat} {f : Addr} {fd : FuncData} {ps : List Str} {sp spI spL : Sp}
theorem run_sub {A1 : Around} {Q : VK} {us : List Value} {vs : List V} {Ex : Value → Shared → Prop} (sb : Sub X k A1) (F : FnOk X.prog X.w X.K X.mg X.base CX0 k f fd ps sp) (hb : Binds X.K fd ps [])
    (I : Inv X pins σ H s) (r : Vals vs us) (h : sp vs H Q E0) : wpAny (model X.prog X.w) A1 (call (.ref f) us) (EP X pins σ Q) Ex s := by
  have hl : us.length = ps.length := by rw [← r.length]; exact F.len _ _ _ _ h
  have b := hb s us I.kIn (by rw [List.append_nil]; exact hl)
  rw [List.append_nil] at b
  have e0 : Env0 X.prog X.w X.K X.mg X.base A1 X.stack s H := by
    have e := I.env0
    exact ⟨by rw [sb.fr]; exact e.frames, e.mod, e.bs, e.bsz, e.funs, e.frf, e.hok, e.bare⟩
  refine wpAny_call (codeAny_mono (F.run A1 X.stack s H ⟨us, []⟩ us vs Q E0 sb.room e0 b r h) fun r s' hq => ?_)
  cases r with
  | error e => exact False.elim hq
  | ok fl =>
    cases fl with
    | ret u => exact I.after hq
    | next => exact False.elim hq
    | brk => exact False.elim hq
    | cont => exact False.elim hq
/-- list(o): what __iter__ and __len__ say -/
def rListO (C : Addr) (spI spL : Sp) : RC := fun xs H Q => ∃ a dx fs l zs, xs = [.ref a] ∧ H a = some (.ins C dx fs) ∧ H l = some (.lst zs) ∧ zs.length ≤ 1000000 ∧
  (∀ H1, Same H H1 → spI [.ref a] H1 (fun v H2 => ∃ it, v = .ref it ∧ H1 it = none ∧ H2 = upd H1 it (ItO l it 0)) E0) ∧
  (∀ H1, Same H H1 → spL [.ref a] H1 (fun v H2 => v = .int (zs.length : Nat) ∧ H2 = H1) E0) ∧
  ∀ S H1, H S = none → Same H H1 → H1 S = some (.lst zs) → Q (.ref S) H1
theorem c_listO0 (OI : OkOp X.prog X.w X.K X.mg X.base k C "__iter__" ps spI) {ps2 : List Str} (OL : OkOp X.prog X.w X.K X.mg X.base k C "__len__" ps2 spL) (hcalm : X.calm = true) (hr : Room (k + 4) X.A) : CallR X (.type "list") (rListO C spI spL) := by
  intro pins s σ H xs us Q I rv h
  obtain ⟨a, dx, fs, l, zs, rfl, ha, hl, hn, hI, hL, hq⟩ := h
  obtain ⟨u, rfl, ru⟩ := rv.one
  cases ru
  obtain ⟨fI, fdI, hsI, hfI, FI, bI⟩ := OI.ex
  obtain ⟨fL, fdL, hsL, hfL, FL, bL⟩ := OL.ex
  have hc : X.A.handled = none := I.ok.hd hcalm
  have sb2 : Sub X (k + 2) X.A.in1.in1 := (Sub.in1 (Sub.in1 (⟨hr, rfl⟩ : Sub X (k + 4) X.A)))
  have sb : Sub X k X.A.in1.in1 := ⟨sb2.room.mono (by omega), sb2.fr⟩
  have sb3 : Sub X (k + 1) X.A.in1.in1.in1 := Sub.in1 sb2
  have sbL : Sub X k X.A.in1.in1.in1 := ⟨sb3.room.mono (by omega), sb3.fr⟩
  refine callType_codes (Q₁ := fun obj s₁ => obj = .ref s.heap.objs.size ∧ s₁ = { s with heap := s.heap.push { cls := .type "list", data := .seq #[] } }) PySem.F.called_list (PySem.F.typeCall_list_1 _) PySem.F.entry_list_init
    (code_list_new _ ⟨rfl, rfl⟩) fun obj s₁ h₁ => ?_
  obtain ⟨rfl, rfl⟩ := h₁
  have hS : (s.heap.push { cls := .type "list", data := .seq #[] }).get? s.heap.objs.size = some { cls := .type "list", data := .seq #[] } := Heap.get?_push_size _ rfl
  refine ⟨⟨_, hS, rfl⟩, PySem.F.args_list_init_2 _ _, ?_⟩
  have fr : H s.heap.objs.size = none := I.hok.fresh (Nat.le_refl _)
  have I1 : Inv X pins σ (upd H s.heap.objs.size (.lst [])) { s with heap := s.heap.push { cls := .type "list", data := .seq #[] } } := I.lnew (its := []) (t' := s.toks) .nil (Nat.zero_le _)
  show wpAny _ _ (do let old ← Builtin.List.listItems (.ref s.heap.objs.size); Builtin.List.listUpdate (.ref s.heap.objs.size) (fun _ => #[]); letGo old.toList.reverse; Builtin.List.listExtendWith (.ref s.heap.objs.size) (.ref a) .none) _ _ _
  refine wpAny_bind ?_
  unfold Builtin.List.listItems
  refine wpAny_bind (wpAny_seqItems hS rfl (wpAny_pure ?_))
  show wpAny _ _ (updateSeq s.heap.objs.size (fun _ => #[]) >>= fun _ => letGo (#[] : Array Value).toList.reverse >>= fun _ => Builtin.List.listExtendWith (.ref s.heap.objs.size) (.ref a) .none) _ _ _
  refine wpAny_bind (wpAny_updateSeq hS rfl ?_)
  have I2 := I1.lset (f := fun _ => #[]) (its := []) (its' := []) (ys := []) (t' := s.toks) upd_same hS rfl .nil (Nat.zero_le _)
  rw [upd_upd] at I2
  refine wpAny_bind (wpAny_letGo ?_)
  generalize s.heap.objs.size = S at *
  have smS : Same H (upd H S (.lst [])) := same_new fr
  have ha2 := smS _ _ ha
  have hl2 := smS _ _ hl
  have eS2 : upd H S (.lst []) S = some (.lst []) := upd_same
  generalize upd H S (.lst []) = H2 at I2 smS ha2 hl2 eS2
  generalize hs2 : ({ s with heap := _ } : Shared) = s2 at I2 ⊢
  clear hs2 I1 hS
  have hne : S ≠ a := fun z => by rw [z, ha2] at eS2; cases eS2
  obtain ⟨mA, J, _⟩ := ins_get I2.hok ha2
  obtain ⟨od, J, _⟩ := J.look
  obtain ⟨m0, hF⟩ := I2.fr
  unfold Builtin.List.listExtendWith
  refine wpAny_bind (J.type.here ?_)
  have d1 : Builtin.List.listSameRef (.ref S) (.ref a) = false := by simp [Builtin.List.listSameRef, hne]
  have d2 : (Value.ref C == Value.type "list") = false := rfl
  have d3 : (Value.ref C == Value.type "tuple") = false := rfl
  simp only [d1, d2, d3, Bool.or_false, Bool.false_eq_true, if_false]
  refine wpAny_bind (PySem.W.owit_iter hF I2.ok.mod.kin J hsI hfI ?_)
  refine wpAny_mono (run_sub (us := [.ref a]) (vs := [.ref a]) sb FI bI I2 (.cons rfl .nil) (hI H2 smS)) (fun v s3 z => ?_) fun _ _ y => y
  obtain ⟨v', H3, I3, rv3, it, rfl, hit, rfl⟩ := z
  cases (show v = Value.ref it from rv3)
  have ei := itO_get I3 (upd_same (H := H2) (a := it))
  have li : s3.heap.IsListIter it l 0 := ⟨_, ei, rfl, rfl⟩
  have I4 := I3.write (x := it) (e := it) (t' := s3.toks) (o := LiO l it 0) (by rw [upd_same]; exact True.intro) (.inl rfl) (fun b u nb z => z) ⟨_, ei⟩ (liO_ok li)
  rw [upd_upd] at I4
  unfold PySem.W.OwitIt
  refine wpAny_bind (wpAny_typeOf (T := "list_iterator") ⟨_, ei, rfl⟩ ?_)
  refine wpAny_of_eq slot_listiter_next.lookup ?_
  have I4 : Inv X pins σ (upd H2 it (LiO l it 0)) s3 := I4
  have ha4 : upd H2 it (LiO l it 0) a = some (.ins C dx fs) := by rw [upd_ne (ne_of_none ha2 hit)]; exact ha2
  have sm4 : Same H (upd H2 it (LiO l it 0)) := smS.trans (same_new hit)
  obtain ⟨mA4, J4, _⟩ := ins_get I4.hok ha4
  obtain ⟨od4, J4, _⟩ := J4.look
  refine wpAny_bind (wpAny_holding ?_)
  unfold Builtin.List.listLengthHint
  refine wpAny_bind (wpAny_bind (J4.type.here ((PySem.W.looks_findIn I4.kIn hsL).here ?_)))
  refine PySem.W.KFB.if_not rfl ?_
  refine wpAny_bind (wpAny_rule (wpAny_bind (wpAny_attempt (len_fn I4.kIn J4 hsL hfL (wpAny_mono (run_sub (us := [.ref a]) (vs := [.ref a]) sbL FL bL I4 (.cons rfl .nil) (hL _ sm4)) (fun v s5 z => ?_) fun _ _ y => y)))))
  obtain ⟨v5, H5, I5', rv5, rfl, rfl⟩ := z
  obtain ⟨t5, rfl⟩ := (show ∃ t, v = Value.int (zs.length : Nat) t from rv5)
  refine ⟨_, _, rfl, by omega, by omega, ?_⟩
  have I5 := I5'.tok (s5.toks + 1)
  generalize ({ s5 with toks := s5.toks + 1 } : Shared) = s6 at I5 ⊢
  refine wpAny_bind (m := asInt? _) (wpAny_pure ?_)
  show wpAny _ _ (if Builtin.List.listTooLong ((zs.length : Nat) : Int).toNat = true then _ else pure (((zs.length : Nat) : Int) != 0)) _ _ _
  rw [if_neg (by unfold Builtin.List.listTooLong; rw [Int.toNat_natCast, sizeLine_eq]; simp; omega)]
  refine wpAny_pure ?_
  have eS4 : upd H2 it (LiO l it 0) S = some (.lst []) := by rw [upd_ne (ne_of_none eS2 hit)]; exact eS2
  have hSi : S ≠ it := ne_of_none eS2 hit
  have h0i : H it = none := by
    cases e : H it with
    | none => rfl
    | some o => rw [smS _ _ e] at hit; cases hit
  have loop : ∀ (H' : Hp) (s' : Shared), Inv X pins σ H' s' → H' it = some (LiO l it 0) → Same H H' → H' S = some (.lst []) → codeAny (model X.prog X.w) X.A.in1 (.builtin "list.extend.loop" ⟨[.ref S, .ref it, .none], []⟩) (wants (fun r s₂ => r = .none ∧ EP X pins σ Q (.ref S) s₂) X.xe) s' := fun H' s' I' e1 sm' e2 =>
    lo_loop (A := X.A.in1) (H0 := H) hc hn fr h0i hl hSi .none (fun H'' s'' I'' sm'' e'' => ⟨rfl, .ref S, H'', I'', rfl, hq S H'' fr sm'' e''⟩) zs.length 0 H' s' (Nat.sub_zero _) (Nat.zero_le _) I' e1 sm' e2
  refine wpAny_ite_split (fun _ => ?_) (fun _ => wpAny_pure ⟨plainId_quiet PySem.F.plain_extend_loop _, loop _ _ I5 upd_same sm4 eS4⟩)
  obtain ⟨z, its, kk, r3, hl3, e3⟩ := I5.lstM eS4
  cases r3
  refine wpAny_bind (wpAny_rule ?_)
  refine wpAny_bind ?_
  show wpAny _ _ (updateSeq S (·.push .none) >>= fun _ => updateSeq S (·.pop)) _ _ _
  refine wpAny_bind (wpAny_updateSeq e3 rfl ?_)
  have I6 := I5.lset (f := (·.push Value.none)) (its' := [Value.none]) (ys := [.non]) (t' := s6.toks) eS4 e3 (by simp) (.cons rfl .nil) (by rw [List.length_singleton, sizeLine_eq]; decide)
  obtain ⟨z4, its4, k4, r4, hl4, e4⟩ := I6.lstM upd_same
  obtain ⟨u4, rfl, ru4⟩ := r4.one
  refine wpAny_updateSeq e4 rfl ?_ (by show 1 ≤ sizeLine; rw [sizeLine_eq]; decide) (by show 0 ≤ sizeLine + 1; exact Nat.zero_le _)
  have I7 := I6.lset (f := (·.pop)) (its := [u4]) (its' := []) (ys := []) (t' := s6.toks) upd_same e4 (by rfl) .nil (Nat.zero_le _)
  rw [upd_upd] at I7
  have hH : upd (upd H2 it (LiO l it 0)) S (.lst []) = upd H2 it (LiO l it 0) := by
    funext b
    by_cases hb : b = S
    · rw [hb, upd_same, eS4]
    · rw [upd_ne hb]
  rw [hH] at I7
  exact wpAny_pure ⟨plainId_quiet PySem.F.plain_extend_loop _, loop _ _ I7 upd_same sm4 eS4⟩
theorem OkOp.mono {j k2 : Nat} {m : Str} {ps : List Str} {sp : Sp} (O : OkOp X.prog X.w X.K X.mg X.base j C m ps sp) (h : j ≤ k2) : OkOp X.prog X.w X.K X.mg X.base k2 C m ps sp := by
  obtain ⟨f, fd, a, b, F, d⟩ := O.ex
  exact ⟨f, fd, a, b, F.mono h, d⟩
theorem c_listO {k1 k2 : Nat} {ps2 : List Str} (OI : OkOp X.prog X.w X.K X.mg X.base k1 C "__iter__" ps spI) (OL : OkOp X.prog X.w X.K X.mg X.base k2 C "__len__" ps2 spL) (hcalm : X.calm = true) (hr : Room (k1 + k2 + 4) X.A) : CallR X (.type "list") (rListO C spI spL) :=
  c_listO0 (k := k1 + k2) (OkOp.mono OI (by omega)) (OkOp.mono OL (by omega)) hcalm hr
end
theorem r_listO {H : Hp} {C : Addr} {spI spL : Sp} {a dx l : Addr} {fs : List (Str × V)} {zs : List V} {Q : VK} (ha : H a = some (.ins C dx fs)) (hl : H l = some (.lst zs)) (hn : zs.length ≤ 1000000)
    (hI : ∀ H1, Same H H1 → spI [.ref a] H1 (fun v H2 => ∃ it, v = .ref it ∧ H1 it = none ∧ H2 = upd H1 it (ItO l it 0)) E0) (hL : ∀ H1, Same H H1 → spL [.ref a] H1 (fun v H2 => v = .int (zs.length : Nat) ∧ H2 = H1) E0)
    (q : ∀ S H1, H S = none → Same H H1 → H1 S = some (.lst zs) → Q (.ref S) H1) : rListO C spI spL [.ref a] H Q := ⟨a, dx, fs, l, zs, rfl, ha, hl, hn, hI, hL, q⟩
end U
/-! U24: with o as x: by the class' own __enter__ and __exit__; repr of data in the law's own def (its walk knows that no repr is under way). -/
namespace U
open PySem PySem.Spec PyProof.Rows L2
/-! ### with -/
def tWith (C : Addr) (spE spX : Sp) (te : TE) (g : TG) (tb : TS) : TS := fun D σ H => te σ H fun x H1 => ∃ a dx fs, x = .ref a ∧ H1 a = some (.ins C dx fs) ∧
  spE [x] H1 (fun v H2 => g v σ H2 fun σ3 H3 => tb { nx := fun σ4 H4 => spX [x, .non, .non, .non] H4 (fun _ H5 => D.nx σ4 H5) E0, rt := fun _ _ => False } σ3 H3) E0
section
variable {X : Cx} {kE kX : Nat} {C : Addr} {psE psX : List Str} {spE spX : Sp} {e : Expr} {te : TE} {g : TG} {y : Str} {py pos : Pos} {body : List Stmt} {tb : TS}
theorem ps_with (OE : OkOp X.prog X.w X.K X.mg X.base kE C "__enter__" psE spE) (OX : OkOp X.prog X.w X.K X.mg X.base kX C "__exit__" psX spX) (hrE : Room kE X.A) (hrX : Room kX X.A) (he : PE X e te) (hg : PG X.nox (.Name y py) g) (hb : PSs X.nox body tb) :
    PS X (.With [⟨e, some (.Name y py)⟩] body pos) (tWith C spE spX te g tb) := by
  obtain ⟨fE, fdE, hsE, hfE, FE, bE⟩ := OE.ex
  obtain ⟨fX, fdX, hsX, hfX, FX, bX⟩ := OX.ex
  refine ⟨fun pins s σ H D I h => PySem.W.kw_execN (thn (he.run pins s σ H _ I h) fun u s1 z => ?_)⟩
  obtain ⟨x, H1, I1, rx, a, dx, fs, rfl, ha, q⟩ := z
  cases (show u = Value.ref a from rx)
  obtain ⟨mA, J, _⟩ := ins_get I1.hok ha
  obtain ⟨od, J, _⟩ := J.look
  unfold PySem.W.KwIn
  refine PySem.W.kw_core I1.kIn J hsE hfE hsX hfX (wpAny_mono (run_fnS (CX := CX0) (E := fun _ => E0) (us := [.ref a]) (vs := [.ref a]) FE hrE bE (fun _ _ _ _ _ _ h => h.elim) I1 (.cons rfl .nil) q) (fun v s2 z => ?_) fun _ _ y => y)
  obtain ⟨v', H2, I2, rv, q2⟩ := z
  refine wpAny_mono (hg.run pins s2 σ H2 v' v _ (I2.wish _) rv q2) (fun _ s3 z => ?_) fun _ _ z => False.elim z
  obtain ⟨σ3, H3, I3, q3⟩ := z
  refine wpAny_mono (hb.run pins s3 σ3 H3 _ I3 q3) (fun f s4 z => ?_) fun _ _ z => False.elim z
  cases f with
  | next =>
    obtain ⟨σ4, H4, I4, q4⟩ := z
    refine wpAny_mono (run_fnS (CX := CX0) (E := fun _ => E0) (us := [.ref a, .none, .none, .none]) (vs := [.ref a, .non, .non, .non]) FX hrX bX (fun _ _ _ _ _ _ h => h.elim) I4.unwish (.cons rfl (.cons rfl (.cons rfl (.cons rfl .nil)))) q4) (fun v5 s5 z => ?_) fun _ _ y => y
    obtain ⟨_, H5, I5, _, q5⟩ := z
    exact ⟨σ4, H5, I5, q5⟩
  | ret u => obtain ⟨_, _, _, _, _, z⟩ := z; exact z.elim
  | brk => obtain ⟨_, _, _, z⟩ := z; exact z.elim
  | cont => obtain ⟨_, _, _, z⟩ := z; exact z.elim
end
theorem r_with {σ : L2.St} {H : Hp} {C : Addr} {spE spX : Sp} {te : TE} {g : TG} {tb : TS} {D : Ends} (h : te σ H fun x H1 => ∃ a dx fs, x = .ref a ∧ H1 a = some (.ins C dx fs) ∧
  spE [x] H1 (fun v H2 => g v σ H2 fun σ3 H3 => tb { nx := fun σ4 H4 => spX [x, .non, .non, .non] H4 (fun _ H5 => D.nx σ4 H5) E0, rt := fun _ _ => False } σ3 H3) E0) : tWith C spE spX te g tb D σ H := h
/-! ### the law's def, walked with no guard about -/
structure FnG (P : Program) (w : World) (K : PySem.W.Frag) (mg : Str → Option Value) (base : Heap) (k : Nat) (f : Addr) (fd : FuncData) (ps : List Str) (sp : Sp) : Prop where
  run : ∀ (A : Around) (s : Shared) (H : Hp) (args : Args) (us : List Value) (vs : List V) (Q : VK) (E : XK), Room k A → A.guards = some [] → Env0 P w K mg base A [] s H → BindsTo s fd args (ps.zip us) → Vals vs us → sp vs H Q E →
    codeAny (model P w) A (.call (.ref f) args) (CR CX0 [] P w H s Q E) s
theorem FunD.okG {P : Program} {w : World} {K : PySem.W.Frag} {mg : Str → Option Value} {base : Heap} {k : Nat} {f : Addr} {name qual : Str} {params : Arguments} {body : List Stmt} {scope : Scope} {dvs : List V} {kws : List (Str × V)} {fd : FuncData}
    {N ps : List Str} {sp : Sp} (F : FunD K name qual params body scope dvs kws f fd) (S : FnScope N ps scope)
    (len : ∀ vs H Q E, sp vs H Q E → vs.length = ps.length)
    (hbody : ∀ (cdv : Value) (A : Around) (s : Shared) (H : Hp) (vs : List V) (Q : VK) (E : XK), Room k (A.deeper (envOfC qual scope s.heap.objs.size f cdv)) → (A.deeper (envOfC qual scope s.heap.objs.size f cdv)).guards = some [] → sp vs H Q E →
      ∃ t, PSs (cxOf CX0 P w K mg base N qual scope f cdv A [] s H E) body t ∧ t { nx := fun _ H' => Q .non H', rt := Q } (L2.start N vs) H) :
    FnG P w K mg base (k + 1) f fd ps sp := by
  obtain ⟨oc, od, dV, kV, doc, pm, an, cdv, ct, osl, rfl, lk, hcd, _, _⟩ := F.ex
  refine ⟨fun A s H args us vs Q E hr hg e0 hb r hsp => ?_⟩
  have lim := e0.mod.nolimit.keeps fun b o z => (e0.bs b o z).1
  have KX : K.In s.heap := e0.mod.kin.keeps fun b o z => (e0.bs b o z).1
  refine codeAny_call_function hr.depth (KX _ _ lk) rfl S.co S.gen rfl (PySem.W.codeRec_of KX hcd) (hb _ _ _ _ (wpAny_newFunctionEnv_cells S.kind (fun ⟨n, v⟩ hy => ?_) fun env he s1 x => ?_))
  · rcases S.par n (List.of_mem_zip hy).1 with z | z
    · exact .inl z
    · exact .inr ⟨z, PySem.W.cellsFrom_some _ _ _ (.inl z)⟩
  subst he
  refine ⟨lim.keeps x.toInCall.keep, codeAny_func ?_⟩
  obtain ⟨t, ht, hq⟩ := hbody cdv A s H vs Q E (hr.deeper _) hg hsp
  have I : Inv (cxOf CX0 P w K mg base N qual scope f cdv A [] s H E) [] (L2.start N vs) H s1 := inv_start S hr.hd e0 (len _ _ _ _ hsp) r x
  refine wpAny_mono (ht.run [] s1 (L2.start N vs) H _ I hq) (fun fl s' hs => ?_) fun e s' hs => hs
  cases fl with
  | ret u =>
    obtain ⟨v, σ', H', J, rv, q⟩ := hs
    exact ⟨v, H', J.os, J.bare, J.base, J.hok, rv, q⟩
  | next =>
    obtain ⟨σ', H', J, q⟩ := hs
    exact ⟨V.non, H', J.os, J.bare, J.base, J.hok, rfl, q⟩
  | brk =>
    obtain ⟨_, _, _, q⟩ := hs
    exact False.elim q
  | cont =>
    obtain ⟨_, _, _, q⟩ := hs
    exact False.elim q
section
variable {P : Program} {w : World} {K : PySem.W.Frag} {mg mb : Str → Option Value} {k : Nat} {fa a : Addr} {fd : FuncData} {x : Str} {sp : Sp} {s1 : Shared} {vs : List Value} {ns : List Int}
/-- from a heap in which the script alone may be tracked -/
theorem law_coreG (KX : K.In s1.heap) (hns : s1.heap.Ns mainGlobals mg) (hb : s1.heap.Ns builtinsNs mb) (hbb : ∀ x : Str, x ≠ "__name__" → mb x = bootBuiltins x) (hlim : s1.heap.NoLimit) (hg : s1.gens = #[])
    (ha : s1.heap.get? a = some { cls := .type "list", data := .seq vs.toArray }) (hr : Room k callerA)
    (F : ∀ base : Heap, K.In base → base.Ns mainGlobals mg → FnG P w K mg base k fa fd [x] sp) (hbind : ∀ (s : Shared) (u : Value), BindsTo s fd ⟨[u], []⟩ [(x, u)]) {H : Hp} (hO : Only H) (hok : HOk P w H s1.heap) (hA : ∀ b, H b ≠ none → b = a) (hK : H a ≠ none → K.lookup a = none)
    (hsp : sp [.ref a] H (fun v _ => v = .bl true) fun _ _ _ => False) :
    codeAny (model P w) callerA (.call (.ref fa) ⟨[.ref a], []⟩) (fun r s' => r = .ok (.ret (.bool true)) ∧ OldK s1.heap s'.heap ∧ s'.os = s1.os ∧ AllBare s'.gens) s1 := by
  have un : ∀ b, b ≠ a → H b = none := fun b n => Classical.byContradiction fun z => n (hA b z)
  have nsK : ∀ {b : Addr} {m : Str → Option Value}, s1.heap.Ns b m → (hidT s1.heap H).Ns b m := fun {b m} z => by
    obtain ⟨o, es, ep, e, d, r⟩ := z
    refine ⟨o, es, ep, hidT_get e (un b fun z => ?_), d, r⟩
    subst z
    rw [ha] at e
    cases e
    cases (show Data.seq vs.toArray _ = Data.dict es ep from d)
  have hKb : K.In (hidT s1.heap H) := fun b o e => hidT_get (KX b o e) (Classical.byContradiction fun z => by
    obtain rfl := hA b z
    rw [hK z] at e
    cases e)
  obtain ⟨mc, l1, l2⟩ := hlim
  have e0 : Env0 P w K mg (hidT s1.heap H) callerA [] s1 H := by
    refine ⟨rfl, ⟨hKb, nsK hns, ⟨mb, nsK hb, hbb⟩, ⟨mc, nsK l1, l2⟩⟩, fun b o e => of_hidT e, Nat.le_of_eq (hidT_size _ _), trivial, fun b hb => ?_, hok, .of_eq hg⟩
    exact absurd (show b ∈ ([] : List Addr) from hb) (by simp)
  refine codeAny_mono ((F _ hKb (nsK hns)).run callerA s1 H ⟨[.ref a], []⟩ [.ref a] [.ref a] _ _ hr rfl e0 (hbind s1 (.ref a)) (.cons rfl .nil) hsp) fun r s' h => ?_
  cases r with
  | error e => exact False.elim h
  | ok fl =>
    cases fl with
    | next => exact False.elim h
    | brk => exact False.elim h
    | cont => exact False.elim h
    | ret u =>
      obtain ⟨v, H', os, bare, ub, hok', r', q⟩ := h
      obtain rfl : v = .bl true := q
      cases (show u = Value.bool true from r')
      refine ⟨rfl, OldK.of_keep fun b o e => ?_, os, bare⟩
      rcases hO b with z | ⟨ob, xs, z⟩
      · exact ub.keep b o e z (fun z => absurd (show b ∈ ([] : List Addr) from z) (by simp)) (by simp)
      · have e1 := (hok b _ z).1
        rw [e] at e1
        cases e1
        exact (hok' b _ (ub.frzs b _ _ z)).1
theorem law_callG (KX : K.In s1.heap) (hns : s1.heap.Ns mainGlobals mg) (hb : s1.heap.Ns builtinsNs mb) (hbb : ∀ x : Str, x ≠ "__name__" → mb x = bootBuiltins x) (hlim : s1.heap.NoLimit) (hg : s1.gens = #[])
    (ha : s1.heap.get? a = some { cls := .type "list", data := .seq vs.toArray }) (hi : IntsAre vs ns) (hl : ns.length ≤ sizeLine) (hr : Room k callerA)
    (F : ∀ base : Heap, K.In base → base.Ns mainGlobals mg → FnG P w K mg base k fa fd [x] sp) (hbind : ∀ (s : Shared) (u : Value), BindsTo s fd ⟨[u], []⟩ [(x, u)])
    (hsp : ∀ H : Hp, Only H → SqL K H a (ns.map V.int) → sp [.ref a] H (fun v _ => v = .bl true) fun _ _ _ => False) :
    codeAny (model P w) callerA (.call (.ref fa) ⟨[.ref a], []⟩) (fun r s' => r = .ok (.ret (.bool true)) ∧ OldK s1.heap s'.heap ∧ s'.os = s1.os ∧ AllBare s'.gens) s1 := by
  have rv := vals_ints hi
  have lenV := hi.length
  have sz : (List.map V.int ns).length ≤ sizeLine := by rw [List.length_map]; exact hl
  cases hk : K.lookup a with
  | some o =>
    have e := KX a o hk
    rw [ha] at e
    cases e
    have hO : Only (fun _ => none) := fun _ => .inl rfl
    refine law_coreG KX hns hb hbb hlim hg ha hr F hbind hO (fun b u z => ?_) (fun b z => absurd rfl z) (fun z => absurd rfl z) (hsp _ hO (.inr ⟨_, vs.toArray, _, hk, rfl, rfl, rfl, ?_, ?_⟩))
    · cases (show (none : Option HO) = some u from z)
    · rw [List.size_toArray, lenV]; exact hl
    · simpa using rv
  | none =>
    let c : HO := .frz { cls := .type "list", data := .seq vs.toArray } (.lst (ns.map V.int))
    let H : Hp := fun b => if b = a then some c else none
    have yes : H a = some c := if_pos rfl
    have no : ∀ b, b ≠ a → H b = none := fun b n => if_neg n
    have hO : Only H := fun b => by
      by_cases z : b = a
      · subst z; exact .inr ⟨_, _, yes⟩
      · exact .inl (no b z)
    refine law_coreG KX hns hb hbb hlim hg ha hr F hbind hO (fun b u z => ?_) (fun b z => ?_) (fun _ => hk) (hsp _ hO (.inl (.inr ⟨_, yes⟩)))
    · by_cases n : b = a
      · subst n
        rw [yes] at z
        cases z
        exact ⟨ha, sz, vs, _, rv, ha⟩
      · rw [no b n] at z
        cases z
    · exact Classical.byContradiction fun n => z (no b n)
end
theorem walk_ofG {l : PySem.W.OpenLaw} {n k : Nat} {q : Program} {loose : List Str} {XP : (Str → Option Value) → Heap → Prop} {YP : World → Heap → Prop} {d : DefRec} {x : Str}
    (hn : l.most = some n) (hn2 : n ≤ sizeLine) (hdf : d.params.defaults = []) (hr : Room k callerA)
    (F : ∀ (w : World) (mg : Str → Option Value) (fa : Addr) (h : Heap), YP w h → h.Ns mainGlobals mg → mg d.name = some (.ref fa) →
      ∃ (K : PySem.W.Frag) (fd : FuncData) (sp : Sp), K.In h ∧ (∀ (s : Shared) (u : Value), BindsTo s fd ⟨[u], []⟩ [(x, u)]) ∧
        (∀ (H : Hp) (a : Addr) (ns : List Int), ns.length ≤ n → Only H → SqL K H a (ns.map V.int) → sp [.ref a] H (fun v _ => v = .bl true) fun _ _ _ => False) ∧
        ∀ base : Heap, K.In base → base.Ns mainGlobals mg → FnG l.prog w K mg base k fa fd [x] sp) :
    PySem.W.WalkO q loose XP YP l.row.toRowW d [] (fun f vs => PySem.call f vs) := by
  refine Att.attach_call hn hdf fun w s0 s1 mg mb fa o pm cd doc a vs ns G Y _ _ _ hmg hobj hints hlen hg => ?_
  obtain ⟨K, fd, sp, KX, hb, hsp, hF⟩ := F w mg fa _ Y G.T.g hmg
  exact law_callG KX G.T.g G.T.b G.T.builtins G.T.nolimit hg hobj hints (Nat.le_trans hlen hn2) hr hF hb fun H hO hS => hsp H a ns hlen hO hS
/-! ### repr -/
def uRepr (K : PySem.W.Frag) : RC := fun xs H Q => ∃ (a : Addr) (d : PyData), xs = [.ref a] ∧ Dp K H (.ref a) d ∧ d.showable = true ∧ d.hasDict = false ∧ d.depth ≤ 60 ∧ d.shown.length ≤ sizeLine ∧ Q (.str d.shown) H
theorem c_repr {X : Cx} {k : Nat} (hg : X.A.guards = some []) (hr : Room k X.A) : CallR X (.builtin "repr") (uRepr X.K) := by
  intro pins s σ H xs us Q I r h
  obtain ⟨a, d, rfl, hd, hs, hn, hp, hz, q⟩ := h
  obtain ⟨u, rfl, ru⟩ := r.one
  cases (show u = Value.ref a from ru)
  obtain ⟨as, rd⟩ := Dp.reads I d _ _ hd ru
  have hu := hr.units
  refine repr_of_reads' rd hs (fun z => by rw [hn] at z; cases z) hg (by omega) (fun _ _ e => e) (fun h' u tk hk => ?_) hz
  exact ⟨.str d.shown, H, I.kept (t' := tk) hk, ⟨_, rfl⟩, q⟩
/-- data that is shown in a few signs -/
def repOk (d : D) : Prop := d.py.showable = true ∧ d.py.hasDict = false ∧ d.py.depth ≤ 50 ∧ d.py.leavesShort 60 = true ∧ d.py.weight ≤ 200
theorem rep_list {ds : List D} (h : ∀ d ∈ ds, repOk d) (hl : ds.length ≤ 1000) : (PyData.list (D.pyL ds)).showable = true ∧ (PyData.list (D.pyL ds)).hasDict = false ∧ (PyData.list (D.pyL ds)).depth ≤ 60 ∧ (PyData.list (D.pyL ds)).shown.length ≤ sizeLine := by
  have key : ∀ ds : List D, (∀ d ∈ ds, repOk d) → PyData.showableAll (D.pyL ds) = true ∧ PyData.hasDictAll (D.pyL ds) = false ∧ PyData.depthAll (D.pyL ds) ≤ 50 ∧ PyData.leavesShortAll 60 (D.pyL ds) = true ∧ PyData.weightAll (D.pyL ds) ≤ 201 * ds.length := by
    intro ds
    induction ds with
    | nil => intro _; exact ⟨by simp [D.pyL, PyData.showableAll], by simp [D.pyL, PyData.hasDictAll], by simp [D.pyL, PyData.depthAll], by simp [D.pyL, PyData.leavesShortAll], by simp [D.pyL, PyData.weightAll]⟩
    | cons d ds ih =>
      intro h
      obtain ⟨a1, a2, a3, a4, a5⟩ := h d (List.mem_cons_self ..)
      obtain ⟨b1, b2, b3, b4, b5⟩ := ih fun x hx => h x (List.mem_cons_of_mem _ hx)
      rw [D.pyL]
      simp only [PyData.showableAll, PyData.hasDictAll, PyData.depthAll, PyData.leavesShortAll, PyData.weightAll, List.length_cons]
      refine ⟨by rw [a1, b1]; rfl, by rw [a2, b2]; rfl, by omega, by rw [a4, b4]; rfl, by omega⟩
  obtain ⟨b1, b2, b3, b4, b5⟩ := key ds h
  have hd : (PyData.list (D.pyL ds)).leavesShort 60 = true := by simp only [PyData.leavesShort]; exact b4
  have hs := PyData.shown_le 60 (by decide) _ hd
  have hw : (PyData.list (D.pyL ds)).weight ≤ 201 * ds.length + 2 := by simp only [PyData.weight]; omega
  refine ⟨by simp only [PyData.showable]; exact b1, by simp only [PyData.hasDict]; exact b2, by simp only [PyData.depth]; omega, ?_⟩
  rw [sizeLine_eq]
  omega
theorem r_reprL {K : PySem.W.Frag} {H : Hp} {Q : VK} {p : Addr} {vs : List V} {ds : List D} (hp : SqL K H p vs) (t : TdL K H vs ds) (h : ∀ d ∈ ds, repOk d) (hl : ds.length ≤ 1000) (q : Q (.str (PyData.list (D.pyL ds)).shown) H) : uRepr K [.ref p] H Q := by
  obtain ⟨h1, h2, h3, h4⟩ := rep_list h hl
  exact ⟨p, _, rfl, dp_lst hp t, h1, h2, h3, h4, q⟩
end U
/-! U25: the Hook over what some names of the module reach (not over all that it holds). -/
namespace U
open PySem PySem.Spec PyProof.Rows L2
open He (DefD Fa frG frG_in refV)
/-- the objects that an object's own data names, as far as the facts ask -/
def refsX (o : Obj) : List Addr := refV o.cls ++ match o.data with
  | .func fd => refV fd.code ++ (refV fd.defaults ++ (refV fd.kwdefaults ++ fd.closure.map (·.2)))
  | .cls cd => cd.ns :: cd.mro.flatMap refV
  | .dict es _ => es.toList.flatMap fun e => refV e.val
  | .seq its _ => its.toList.flatMap refV
  | .fields vs => (match o.cls with
    | .type "property" => vs.toList.flatMap refV
    | _ => [])
  | _ => []
def bfsX (g : Addr → Option Obj) : Nat → List Addr → List Addr → List Addr
  | 0, _, _ => []
  | n + 1, front, seen => (fun new => new ++ bfsX g n new (new ++ seen)) ((front.flatMap fun a => match g a with
    | some o => refsX o
    | none => []).filter fun a => !seen.contains a).eraseDups
/-- the values of the names in the module -/
def rootsX (g : Addr → Option Obj) (xs : List Str) : List Addr := match g mainGlobals with
  | some o => (match o.data with
    | .dict es _ => es.toList.filterMap fun e => match e.key, e.val with
      | .str z _, .ref a => if xs.contains z then some a else none
      | _, _ => none
    | _ => [])
  | none => []
def adX (g : Addr → Option Obj) (xs : List Str) (n : Nat) : List Addr := (fun r => mainGlobals :: PySem.cStatics :: (r ++ bfsX g n r (mainGlobals :: PySem.cStatics :: r))) (rootsX g xs)
def obsXG (file : Str) (xs : List Str) (n : Nat) (fa : List Fa) (fn : List DefD) (en : List ErrD) (ds : List DicD) (pr : List PrD) (t : PySem.W.Frag → Bool) (g : Addr → Option Obj) : AlP := obsP file fa fn en ds pr t (frG g (adX g xs n))
def hookX (file : Str) (xs : List Str) (n : Nat) (fa : List Fa) (fn : List DefD) (en : List ErrD) (ds : List DicD) (pr : List PrD) (t : PySem.W.Frag → Bool) : PySem.W.Hook where
  α := AlP
  obs := fun s => obsXG file xs n fa fn en ds pr t s.heap.get?
  val := fun w => valP fn en ds pr w
  says := fun w h => ∃ K : PySem.W.Frag, K.In h ∧ SaysP file fa fn en ds pr t w K
  of := fun _ _ e => ⟨_, frG_in, e⟩
  keeps := fun _ _ _ ⟨K, hK, c⟩ k => ⟨K, PySem.W.Frag.In.keeps hK k, c⟩
theorem obsXG_eq {file : Str} {xs : List Str} {n : Nat} {fa : List Fa} {fn : List DefD} {en : List ErrD} {ds : List DicD} {pr : List PrD} {t : PySem.W.Frag → Bool} {g : Addr → Option Obj} {s : Shared} (h : ∀ a, g a = s.heap.get? a) : obsXG file xs n fa fn en ds pr t g = (hookX file xs n fa fn en ds pr t).obs s := by
  have e : g = s.heap.get? := funext h
  rw [e] <;> rfl
end U
/-! U26: enumerate(tuple). -/
namespace PySem
open Sem (wp)
set_option maxHeartbeats 1000000 in
theorem meets_enumerate_newT {v : Value} {o : Obj} {H : Heap → Prop} (B : Begins v o H) :
    Meets (Builtin.«enumerate.__new__» ⟨[.type "enumerate", v], []⟩) (fun _ R s => H s.heap ∧
      R (.ok (.ret (.ref (s.heap.push o).objs.size))) { s with heap := (s.heap.push o).push { cls := .type "enumerate", data := .fields #[.none, .bool false, .ref s.heap.objs.size, rawInt 0, .none, .none] } }) :=
  .of_wp fun prog w A R s h => by
    obtain ⟨hp, g, d, tk, os⟩ := s; obtain ⟨h1, h⟩ := h
    have hsub := sub_enumerate
    have q1 : ∀ {A' : Around} {E : Value → Shared → Prop} {Q : Value → Shared → Prop}, Q (.ref hp.objs.size) ⟨hp.push o, g, d, tk, os⟩ → wpAny (model prog w) A' (pyIter v) Q E ⟨hp, g, d, tk, os⟩ :=
      fun q => B.iter prog w _ _ ⟨hp, g, d, tk, os⟩ _ h1 q
    wp_walk using q1
    refine wpAny_stack_any fun st => wpAny_pure ?_
    split
    · rename_i c _ _ _ _ _
      cases (c == Value.type "enumerate")
      · wp_walk using q1
        exact ⟨_, rfl, h⟩
      · wp_walk using q1
        exact ⟨_, rfl, h⟩
    · wp_walk using q1
      exact ⟨_, rfl, h⟩
theorem call_enumerate_tuple {prog : Program} {w : World} {A : Around} {E : Value → Shared → Prop} {s : Shared} {t : Addr} {items : Array Value} {Q : Value → Shared → Prop} (hL : s.heap.IsTuple t items)
    (h : ∀ h', IsEnum h' (s.heap.objs.size + 1) s.heap.objs.size 0 .none → h'.IsTupleIter s.heap.objs.size t 0 → h'.objs.size = s.heap.objs.size + 2 →
      (∀ b o, s.heap.get? b = some o → h'.get? b = some o) → Q (.ref (s.heap.objs.size + 1)) { s with heap := h' }) :
    wpAny (model prog w) A (call (.type "enumerate") [.ref t]) Q E s := by
  refine callType_new F.called_enumerate (by decide) (F.typeCall_enumerate_1 _) (F.newCall_enumerate_1 _) (fun obj => F.args_object_init_2 obj _) F.entry_enumerate_new
    (meets_enumerate_newT (begins_tuple t items)) ⟨hL, ?_⟩
  have hz : (s.heap.push { cls := .type "tuple_iterator", data := .fields #[.ref t, .int 0 0] }).objs.size = s.heap.objs.size + 1 := Heap.size_push ..
  show _ ∧ _
  rw [hz]
  have he : IsEnum ((s.heap.push { cls := .type "tuple_iterator", data := .fields #[.ref t, .int 0 0] }).push
      { cls := .type "enumerate", data := .fields #[.none, .bool false, .ref s.heap.objs.size, rawInt 0, .none, .none] }) (s.heap.objs.size + 1) s.heap.objs.size 0 .none := by
    have := Heap.get?_push_size (s.heap.push { cls := .type "tuple_iterator", data := .fields #[.ref t, .int 0 0] })
      (o := { cls := .type "enumerate", data := .fields #[.none, .bool false, .ref s.heap.objs.size, rawInt 0, .none, .none] }) rfl
    rw [hz] at this; exact this
  refine ⟨⟨_, he, rfl⟩, h _ he ⟨_, Heap.get?_push_of_some _ (Heap.get?_push_size _ rfl), rfl, rfl⟩ (by rw [Heap.size_push, hz]) fun b o x => Heap.get?_push_of_some _ (Heap.get?_push_of_some _ x)⟩
end PySem
namespace U
open PySem PySem.Spec PyProof.Rows L2
/-- the items of the tuple at a with their places, in new pairs -/
def Itet (K : PySem.W.Frag) (a : Addr) : It :=
  ⟨fun i H => ∃ (xs : List V) (x : V), SqT K H a xs ∧ xs[i]? = some x, fun i H v H' => ∃ T x, v = .ref T ∧ H T = none ∧ H' = upd H T (.tup [.int (i : Nat), x]) ∧ ∀ xs, SqT K H a xs → xs[i]? = some x, fun i H => ∃ xs : List V, SqT K H a xs ∧ xs.length = i⟩
theorem turn_enumT {P : Program} {w : World} {K : PySem.W.Frag} {elts : List Expr} {kk : Nat} {tpos : Pos} (a e it : Addr) :
    Turn P w K (.Tuple elts kk tpos) (Itet K a) [e, it] e (fun i h => (∃ old, IsEnum h e it ((i : Nat) : Int) old) ∧ h.IsTupleIter it a i ∧ e ≠ it ∧ a ≠ it ∧ e ≠ a) where
  mem := by simp
  obj := fun i h st b hb => by
    obtain ⟨⟨old, he⟩, ⟨o, ho, hc, hd⟩, _⟩ := st
    have e' : b = e ∨ b = it := by simpa using hb
    rcases e' with z | z
    · rw [z]; exact ⟨_, he, fun v q => nomatch q⟩
    · rw [z]; exact ⟨o, ho, fun v q => by rw [hd] at q; cases q⟩
  keep := fun i h h' st k => let ⟨⟨old, he⟩, hi, hne⟩ := st; ⟨⟨old, k e (by simp) _ he⟩, hi.at fun o q => k it (by simp) o q, hne⟩
  item := by
    intro X hP hw hK hc i pins s σ H E I hf st hg
    subst hP hw hK
    obtain ⟨⟨old, he⟩, hit, hne, hna, hea⟩ := st
    obtain ⟨xs, x, hq, hx⟩ := hg
    obtain ⟨its, rv, p, hz⟩ := I.tuple hq
    obtain ⟨u, hu, ru⟩ := rv.get hx
    have hel : e < s.heap.objs.size := Heap.lt_size he
    have hil : it < s.heap.objs.size := by obtain ⟨_, q, _⟩ := hit; exact Heap.lt_size q
    have hlt : i < its.toArray.size := by rw [List.size_toArray]; exact (List.getElem?_eq_some_iff.mp hu).1
    refine wpAny_pyNext_enum_itemC (Draws.tuple (A := X.A.in1) (I.ok.hd hc) it a hna its.toArray) he ⟨hit, p⟩ hlt hne (by simp [hne, hea]) fun y h' tk hP ho hit' hT hsz hk => ?_
    have ey : y = u := by
      have hP : its.toArray[i]? = some y := hP
      rw [List.getElem?_toArray, hu] at hP
      exact (Option.some.inj hP).symm
    subst ey
    refine ⟨_, rfl, wpAny_letOwnedTupleGo_enum (s := { s with heap := h', toks := tk + 1 }) ho fun h'' he' sb => ?_⟩
    have hT2 : h''.get? s.heap.objs.size = some { cls := .type "tuple", data := .seq #[.int i tk, y] } := (sb.2 _ (Nat.ne_of_gt hel)).trans hT
    have new : ObjOk X.prog X.w (upd H s.heap.objs.size (.tup [.int (i : Nat), x])) h'' s.heap.objs.size (.tup [.int (i : Nat), x]) :=
      ⟨by show 2 ≤ sizeLine; decide, [.int i tk, y], .cons ⟨_, rfl⟩ (.cons ru .nil), ⟨_, hT2, rfl, _, rfl⟩⟩
    have I1 : Inv X pins σ (upd H s.heap.objs.size (.tup [.int (i : Nat), x])) { s with heap := h'', toks := tk + 1 } :=
      I.turnedNew (ch := [e, it]) (fun b ob hb q => (sb.2 b (fun z => hb (by simp [z]))).trans (hk b ob (fun z => hb (by simp [z])) (fun z => hb (by simp [z])) q)) hf (Nat.le_refl _) new
    refine ⟨.ref s.heap.objs.size, _, I1, rfl, ⟨_, x, rfl, I.hok.fresh (Nat.le_refl _), rfl, fun ys hy => by rw [I.tuple_inj hy hq]; exact hx⟩, ⟨⟨y, ?_⟩, hit'.1.at fun o q => (sb.2 it (Ne.symm hne)).trans q, hne, hna, hea⟩, fun b hb => ?_⟩
    · have e1 : ((i + 1 : Nat) : Int) = (i : Int) + 1 := by omega
      rw [e1]; exact he'
    · have hb' : b < s.heap.objs.size := by
        have e' : b = e ∨ b = it := by simpa using hb
        rcases e' with z | z
        · rw [z]; exact hel
        · rw [z]; exact hil
      rw [upd_ne (Nat.ne_of_lt hb')]
      exact (hf b hb).1
  done := by
    intro X hP hw hK hc i pins s σ H E I hf st hg
    subst hP hw hK
    obtain ⟨⟨old, he⟩, hit, hne, hna, hea⟩ := st
    obtain ⟨xs, hq, hx⟩ := hg
    obtain ⟨its, rv, p, hz⟩ := I.tuple hq
    obtain ⟨f0, f1, f2, f3, f4, f5⟩ := hf it (by simp)
    have hl : i = its.toArray.size := by rw [List.size_toArray, ← rv.length]; exact hx.symm
    subst hl
    exact wpAny_pyNext_enum_endD (Draws.tuple (A := X.A.in1) (I.ok.hd hc) it a hna its.toArray) he ⟨hit, p⟩ fun h' eb => ⟨rfl, I.turned (t' := s.toks) (fun b o hb q => eb b o hb q) f0 f1 f3 f4 f5⟩
  self := fun A i s Q E st h => let ⟨⟨_, he⟩, _⟩ := st; wpAny_pyIter_enum he h
/-- enumerate of a list, of a tuple -/
def iEnumB (K : PySem.W.Frag) (ta : TA) : TI := fun σ H R => (∃ Z : Prop, Z ∧ iEnum K ta σ H R) ∨ ta σ H fun vs H1 => ∃ a xs, vs = [.ref a] ∧ SqT K H1 a xs ∧ R (Itet K a) H1
theorem pi_enumB {X : Cx} {e : Expr} {ta : TA} {p pos tpos : Pos} {elts : List Expr} {kk : Nat} (hg : Gl X "enumerate") (hm : X.mg "enumerate" = none) (ha : PA X [e] ta) (hs : starEach [e] X.env = [(false, eval e X.env)] := by rfl) :
    PI X (.Tuple elts kk tpos) (.Call (.Name "enumerate" p) [e] [] pos) (iEnumB X.K ta) := by
  refine ⟨fun pins s σ H R I h => ?_⟩
  rcases h with ⟨_, _, h⟩ | h
  · exact (pi_enum hg hm ha hs).run pins s σ H R I h
  refine Call_ (ld_blt I hg hm PyProof.Rows.boot_enumerate (PyProof.Rows.callWith_type1 (thn (ha.run pos pins s σ H _ I h) fun us s1 ⟨vs, H1, I1, r1, q1⟩ => ?_) hs rfl))
  obtain ⟨a, xs, ex, hq, q⟩ := q1
  subst ex
  cases r1 with
  | cons r rr =>
    cases rr
    cases r
    obtain ⟨its, rv, p', hz⟩ := I1.tuple hq
    obtain ⟨ox, hox, _⟩ := id p'
    have hlt : a < s1.heap.objs.size := Heap.lt_size hox
    refine call_enumerate_tuple p' fun h' he hit hsz hk => wpAny_pyIter_enum he ?_
    have I2 : Inv X pins σ H1 { s1 with heap := h' } := I1.kept (t' := s1.toks) hk
    refine ⟨s1.heap.objs.size + 1, [s1.heap.objs.size + 1, s1.heap.objs.size], _, _, H1, rfl, I2, turn_enumT a (s1.heap.objs.size + 1) s1.heap.objs.size, ⟨⟨.none, he⟩, hit, Nat.succ_ne_self _, Nat.ne_of_lt hlt, (Nat.ne_of_lt (Nat.lt_succ_of_lt hlt)).symm⟩, fun b hb => ?_, q⟩
    have e' : b = s1.heap.objs.size + 1 ∨ b = s1.heap.objs.size := by simpa using hb
    have hle : s1.heap.objs.size ≤ b := by
      rcases e' with z | z
      · rw [z]; exact Nat.le_add_right _ _
      · rw [z]; exact Nat.le_refl _
    exact I1.fpOk hle (I1.hok.fresh hle)
section
variable {K : PySem.W.Frag} {σ : L2.St} {H : Hp} {D : Ends} {ta : TA} {R : It → Hp → Prop}
theorem r_enumB (h : iEnum K ta σ H R) : iEnumB K ta σ H R := .inl ⟨True, trivial, h⟩
theorem r_enumT (h : ta σ H fun vs H1 => ∃ a xs, vs = [.ref a] ∧ SqT K H1 a xs ∧ R (Itet K a) H1) : iEnumB K ta σ H R := .inr h
theorem f_enumT {a : Addr} {xs : List V} {g : TG} {tb : TS} (P : Nat → L2.St → Hp → Prop) (h0 : P 0 σ H) (hl : ∀ i σ H, P i σ H → SqT K H a xs)
    (step : ∀ (i : Nat) x σ H T H', xs[i]? = some x → P i σ H → H T = none → Same H H' → H' T = some (.tup [.int i, x]) → g (.ref T) σ H' fun σ2 H2 => tb { D with nx := P (i + 1), ct := P (i + 1), bk := D.nx } σ2 H2) (done : ∀ σ H, P xs.length σ H → D.nx σ H) :
    ∃ W : Nat → Nat → L2.St → Hp → Prop, (∃ m, W 0 m σ H) ∧ ∀ i m σ H, W i m σ H →
      ((Itet K a).stop i H ∧ D.nx σ H) ∨ ((Itet K a).go i H ∧ ∃ N : L2.St → Hp → Prop, (∀ σ' H', N σ' H' → ∃ m', m' < m ∧ W (i + 1) m' σ' H') ∧ ∀ x H', (Itet K a).yld i H x H' → g x σ H' fun σ2 H2 => tb { D with nx := N, ct := N, bk := D.nx } σ2 H2) :=
  l_for P h0 (fun i σ H h p => ⟨xs, xs[i], hl i σ H p, List.getElem?_eq_getElem h⟩) (fun σ H p => ⟨xs, hl _ σ H p, rfl⟩) (fun i σ H h p x H' y => by
    obtain ⟨T, z, e1, e2, e3, e4⟩ := y
    subst e1 e3
    exact step i z σ H T _ (e4 xs (hl i σ H p)) p e2 (same_new e2) upd_same) done
end
end U
namespace U
open PySem PySem.Spec L2
abbrev dd_TASKS : DicD := ⟨"TASKS", [(.inr "evaluate", .fn "evaluate"), (.inr "let", .fn "continue_let"), (.inr "seq", .fn "continue_seq"), (.inr "if", .fn "continue_if"), (.inr "case", .fn "continue_case"), (.inr "leave", .fn "leave"), (.inr "compute", .fn "compute")]⟩
def topS (i : Nat) : Stmt := PySem.Challenge.pw_escheat_k18_shared_cells.main.body.getD i (.Pass ⟨0, 0, 0, 0⟩)
abbrev s_wrap : Stmt := topS 3
abbrev s_divide : Stmt := topS 4
abbrev s_remainder : Stmt := topS 5
abbrev s_calculate : Stmt := topS 6
abbrev s_Evaluation___init__ : Stmt := inClass (topS 10) 0
abbrev s_Evaluation_plan : Stmt := inClass (topS 10) 1
abbrev s_Evaluation_spend : Stmt := inClass (topS 10) 2
abbrev s_Evaluation_throw : Stmt := inClass (topS 10) 3
abbrev s_Evaluation_finish : Stmt := inClass (topS 10) 4
abbrev s_find_variable : Stmt := topS 11
abbrev s_evaluate : Stmt := topS 12
abbrev s_continue_let : Stmt := topS 13
abbrev s_continue_seq : Stmt := topS 14
abbrev s_continue_if : Stmt := topS 15
abbrev s_continue_case : Stmt := topS 16
abbrev s_leave : Stmt := topS 17
abbrev s_compute : Stmt := topS 18
abbrev s_enter : Stmt := topS 19
abbrev s_compute_ref : Stmt := topS 20
abbrev s_compute_array : Stmt := topS 21
abbrev s_run : Stmt := topS 23
abbrev s_l_cell : Stmt := topS 25
abbrev s_l_whole : Stmt := topS 26
abbrev s_l_int : Stmt := topS 27
abbrev s_l_name : Stmt := topS 28
abbrev s_l_seq : Stmt := topS 29
abbrev s_l_let : Stmt := topS 30
abbrev s_l_deeds : Stmt := topS 31
abbrev s_l_print : Stmt := topS 32
abbrev s_l_expression : Stmt := topS 33
abbrev s_l_program : Stmt := topS 34
abbrev s_l_due : Stmt := topS 35
abbrev s_law : Stmt := topS 36
/-! ### the head -/
def d_Evaluation___init__ : He.DefD := ⟨("Evaluation", some "__init__"), "__init__", "Evaluation.__init__", defArgs s_Evaluation___init__, defBody s_Evaluation___init__, defScope s_Evaluation___init__, [], []⟩
def d_Evaluation_plan : He.DefD := ⟨("Evaluation", some "plan"), "plan", "Evaluation.plan", defArgs s_Evaluation_plan, defBody s_Evaluation_plan, defScope s_Evaluation_plan, [], []⟩
def d_Evaluation_spend : He.DefD := ⟨("Evaluation", some "spend"), "spend", "Evaluation.spend", defArgs s_Evaluation_spend, defBody s_Evaluation_spend, defScope s_Evaluation_spend, [], []⟩
def d_Evaluation_throw : He.DefD := ⟨("Evaluation", some "throw"), "throw", "Evaluation.throw", defArgs s_Evaluation_throw, defBody s_Evaluation_throw, defScope s_Evaluation_throw, [], []⟩
def d_Evaluation_finish : He.DefD := ⟨("Evaluation", some "finish"), "finish", "Evaluation.finish", defArgs s_Evaluation_finish, defBody s_Evaluation_finish, defScope s_Evaluation_finish, [], []⟩
def d_wrap : He.DefD := ⟨("wrap", none), "wrap", "wrap", defArgs s_wrap, defBody s_wrap, defScope s_wrap, [], []⟩
def d_divide : He.DefD := ⟨("divide", none), "divide", "divide", defArgs s_divide, defBody s_divide, defScope s_divide, [], []⟩
def d_remainder : He.DefD := ⟨("remainder", none), "remainder", "remainder", defArgs s_remainder, defBody s_remainder, defScope s_remainder, [], []⟩
def d_calculate : He.DefD := ⟨("calculate", none), "calculate", "calculate", defArgs s_calculate, defBody s_calculate, defScope s_calculate, [], []⟩
def d_find_variable : He.DefD := ⟨("find_variable", none), "find_variable", "find_variable", defArgs s_find_variable, defBody s_find_variable, defScope s_find_variable, [], []⟩
def d_evaluate : He.DefD := ⟨("evaluate", none), "evaluate", "evaluate", defArgs s_evaluate, defBody s_evaluate, defScope s_evaluate, [], []⟩
def d_continue_let : He.DefD := ⟨("continue_let", none), "continue_let", "continue_let", defArgs s_continue_let, defBody s_continue_let, defScope s_continue_let, [], []⟩
def d_continue_seq : He.DefD := ⟨("continue_seq", none), "continue_seq", "continue_seq", defArgs s_continue_seq, defBody s_continue_seq, defScope s_continue_seq, [], []⟩
def d_continue_if : He.DefD := ⟨("continue_if", none), "continue_if", "continue_if", defArgs s_continue_if, defBody s_continue_if, defScope s_continue_if, [], []⟩
def d_continue_case : He.DefD := ⟨("continue_case", none), "continue_case", "continue_case", defArgs s_continue_case, defBody s_continue_case, defScope s_continue_case, [], []⟩
def d_leave : He.DefD := ⟨("leave", none), "leave", "leave", defArgs s_leave, defBody s_leave, defScope s_leave, [], []⟩
def d_compute : He.DefD := ⟨("compute", none), "compute", "compute", defArgs s_compute, defBody s_compute, defScope s_compute, [], []⟩
def d_enter : He.DefD := ⟨("enter", none), "enter", "enter", defArgs s_enter, defBody s_enter, defScope s_enter, [], []⟩
def d_compute_ref : He.DefD := ⟨("compute_ref", none), "compute_ref", "compute_ref", defArgs s_compute_ref, defBody s_compute_ref, defScope s_compute_ref, [], []⟩
def d_compute_array : He.DefD := ⟨("compute_array", none), "compute_array", "compute_array", defArgs s_compute_array, defBody s_compute_array, defScope s_compute_array, [], []⟩
def d_run : He.DefD := ⟨("run", none), "run", "run", defArgs s_run, defBody s_run, defScope s_run, [], [(("fuel" : Str), .int 200)]⟩
def d_l_cell : He.DefD := ⟨("_law_cell", none), "_law_cell", "_law_cell", defArgs s_l_cell, defBody s_l_cell, defScope s_l_cell, [], []⟩
def d_l_whole : He.DefD := ⟨("_law_whole", none), "_law_whole", "_law_whole", defArgs s_l_whole, defBody s_l_whole, defScope s_l_whole, [], []⟩
def d_l_int : He.DefD := ⟨("_law_int", none), "_law_int", "_law_int", defArgs s_l_int, defBody s_l_int, defScope s_l_int, [], []⟩
def d_l_name : He.DefD := ⟨("_law_name", none), "_law_name", "_law_name", defArgs s_l_name, defBody s_l_name, defScope s_l_name, [], []⟩
def d_l_seq : He.DefD := ⟨("_law_seq", none), "_law_seq", "_law_seq", defArgs s_l_seq, defBody s_l_seq, defScope s_l_seq, [], []⟩
def d_l_let : He.DefD := ⟨("_law_let", none), "_law_let", "_law_let", defArgs s_l_let, defBody s_l_let, defScope s_l_let, [], []⟩
def d_l_deeds : He.DefD := ⟨("_law_deeds", none), "_law_deeds", "_law_deeds", defArgs s_l_deeds, defBody s_l_deeds, defScope s_l_deeds, [], []⟩
def d_l_print : He.DefD := ⟨("_law_print", none), "_law_print", "_law_print", defArgs s_l_print, defBody s_l_print, defScope s_l_print, [], []⟩
def d_l_expression : He.DefD := ⟨("_law_expression", none), "_law_expression", "_law_expression", defArgs s_l_expression, defBody s_l_expression, defScope s_l_expression, [], []⟩
def d_l_program : He.DefD := ⟨("_law_program", none), "_law_program", "_law_program", defArgs s_l_program, defBody s_l_program, defScope s_l_program, [], []⟩
def d_l_due : He.DefD := ⟨("_law_due", none), "_law_due", "_law_due", defArgs s_l_due, defBody s_l_due, defScope s_l_due, [], []⟩
def d_law : He.DefD := ⟨("law", none), "law", "law", defArgs s_law, defBody s_law, defScope s_law, [], []⟩
def fn : List He.DefD := [d_Evaluation___init__, d_Evaluation_plan, d_Evaluation_spend, d_Evaluation_throw, d_Evaluation_finish, d_wrap, d_divide, d_remainder, d_calculate, d_find_variable, d_evaluate, d_continue_let, d_continue_seq, d_continue_if, d_continue_case, d_leave, d_compute, d_enter, d_compute_ref, d_compute_array, d_run, d_l_cell, d_l_whole, d_l_int, d_l_name, d_l_seq, d_l_let, d_l_deeds, d_l_print, d_l_expression, d_l_program, d_l_due, d_law]
def en : List ErrD := []
def fa : List He.Fa := [.int "HALF" 2147483648, .int "SPAN" 4294967296, .free "abs", .cls "Evaluation", .noat "Evaluation" "program", .noat "Evaluation" "fuel", .noat "Evaluation" "ticks", .noat "Evaluation" "outs", .noat "Evaluation" "tasks", .noat "Evaluation" "results", .noat "Evaluation" "fault", .free "len", .glo "TASKS", .free "reversed", .free "zip", .free "tuple", .int "MAX_ARRAY" 12, .free "max", .free "min", .int "MAX_FUEL" 200, .free "int", .free "range", .free "str", .free "isinstance", .free "bool", .glo "Evaluation", .mkr "Evaluation", .meth "Evaluation" "plan", .meth "Evaluation" "spend", .meth "Evaluation" "throw", .meth "Evaluation" "finish", .glo "wrap", .glo "divide", .glo "remainder", .glo "calculate", .glo "find_variable", .glo "evaluate", .glo "continue_let", .glo "continue_seq", .glo "continue_if", .glo "continue_case", .glo "leave", .glo "compute", .glo "enter", .glo "compute_ref", .glo "compute_array", .glo "run", .glo "_law_cell", .glo "_law_whole", .glo "_law_int", .glo "_law_name", .glo "_law_seq", .glo "_law_let", .glo "_law_deeds", .glo "_law_print", .glo "_law_expression", .glo "_law_program", .glo "_law_due", .glo "law"]
def ts : List (PySem.W.Frag → Bool) := []
abbrev fil : Str := PySem.Challenge.pw_escheat_k18_shared_cells.main.file
abbrev tst : PySem.W.Frag → Bool := fun K => ts.all fun f => f K
abbrev R : PySem.W.OpenRow := PySem.W.OpenLaw.row PySem.Challenge.rw_escheat_k18_shared_cells
def dics : List DicD := [dd_TASKS]
def prs : List PrD := []
def rts : List Str := ["Evaluation", "wrap", "divide", "remainder", "calculate", "find_variable", "evaluate", "continue_let", "continue_seq", "continue_if", "continue_case", "leave", "compute", "enter", "compute_ref", "compute_array", "run", "_law_cell", "_law_whole", "_law_int", "_law_name", "_law_seq", "_law_let", "_law_deeds", "_law_print", "_law_expression", "_law_program", "_law_due", "law", "TASKS"]
abbrev hk : PySem.W.Hook := hookX fil rts 5 fa fn en dics prs tst
def ob (s : PySem.W.SharedT) : AlP := obsXG fil rts 5 fa fn en dics prs tst (HandSHeadRun.getT s)
theorem ob_eq (s : PySem.W.SharedT) : ob s = hk.obs s.abs := obsXG_eq (HandSHeadRun.getT_eq s)
theorem run_false (w : World) : HandSHeadRun.RunEq R (PySem.W.view R.prog [36]) hk ob 4000 (("SPAN" : Str) :: ("HALF" : Str) :: ("wrap" : Str) :: ("divide" : Str) :: ("remainder" : Str) :: ("calculate" : Str) :: ("MAX_ARRAY" : Str) :: ("MAX_FUEL" : Str) :: ("Evaluation" : Str) :: ("find_variable" : Str) :: ("evaluate" : Str) :: ("continue_let" : Str) :: ("continue_seq" : Str) :: ("continue_if" : Str) :: ("continue_case" : Str) :: ("leave" : Str) :: ("compute" : Str) :: ("enter" : Str) :: ("compute_ref" : Str) :: ("compute_array" : Str) :: ("TASKS" : Str) :: ("run" : Str) :: ("_law_cell" : Str) :: ("_law_whole" : Str) :: ("_law_int" : Str) :: ("_law_name" : Str) :: ("_law_seq" : Str) :: ("_law_let" : Str) :: ("_law_deeds" : Str) :: ("_law_print" : Str) :: ("_law_expression" : Str) :: ("_law_program" : Str) :: ("_law_due" : Str) :: []) (w.withFollow "special-get-raises" false) := by
  intro os
  kernel_rfl
theorem run_true (w : World) : HandSHeadRun.RunEq R (PySem.W.view R.prog [36]) hk ob 4000 (("SPAN" : Str) :: ("HALF" : Str) :: ("wrap" : Str) :: ("divide" : Str) :: ("remainder" : Str) :: ("calculate" : Str) :: ("MAX_ARRAY" : Str) :: ("MAX_FUEL" : Str) :: ("Evaluation" : Str) :: ("find_variable" : Str) :: ("evaluate" : Str) :: ("continue_let" : Str) :: ("continue_seq" : Str) :: ("continue_if" : Str) :: ("continue_case" : Str) :: ("leave" : Str) :: ("compute" : Str) :: ("enter" : Str) :: ("compute_ref" : Str) :: ("compute_array" : Str) :: ("TASKS" : Str) :: ("run" : Str) :: ("_law_cell" : Str) :: ("_law_whole" : Str) :: ("_law_int" : Str) :: ("_law_name" : Str) :: ("_law_seq" : Str) :: ("_law_let" : Str) :: ("_law_deeds" : Str) :: ("_law_print" : Str) :: ("_law_expression" : Str) :: ("_law_program" : Str) :: ("_law_due" : Str) :: []) (w.withFollow "special-get-raises" true) := by
  intro os
  kernel_rfl
theorem run (w : World) : HandSHeadRun.RunEq R (PySem.W.view R.prog [36]) hk ob 4000 (("SPAN" : Str) :: ("HALF" : Str) :: ("wrap" : Str) :: ("divide" : Str) :: ("remainder" : Str) :: ("calculate" : Str) :: ("MAX_ARRAY" : Str) :: ("MAX_FUEL" : Str) :: ("Evaluation" : Str) :: ("find_variable" : Str) :: ("evaluate" : Str) :: ("continue_let" : Str) :: ("continue_seq" : Str) :: ("continue_if" : Str) :: ("continue_case" : Str) :: ("leave" : Str) :: ("compute" : Str) :: ("enter" : Str) :: ("compute_ref" : Str) :: ("compute_array" : Str) :: ("TASKS" : Str) :: ("run" : Str) :: ("_law_cell" : Str) :: ("_law_whole" : Str) :: ("_law_int" : Str) :: ("_law_name" : Str) :: ("_law_seq" : Str) :: ("_law_let" : Str) :: ("_law_deeds" : Str) :: ("_law_print" : Str) :: ("_law_expression" : Str) :: ("_law_program" : Str) :: ("_law_due" : Str) :: []) w := by
  have e := World.withFollow_self w "special-get-raises"
  cases hb : w.params.followText "special-get-raises" with
  | false => rw [hb] at e; rw [← e]; exact run_false w
  | true => rw [hb] at e; rw [← e]; exact run_true w
def FactsT : Prop := ∀ (P : Program) (w : World) (K : PySem.W.Frag) (h : Heap) (mg : Str → Option Value) (f : Addr), P.main.file = fil → (P.main.scope.names.lookup ("super" : Str)).isSome = false → K.In h → h.Ns mainGlobals mg → mg ("law" : Str) = some (.ref f) → SaysP fil fa fn en dics prs tst w K →
  ∃ fd : FuncData, (∀ (s : Shared) (v : Value), BindsTo s fd ⟨[v], []⟩ [("_law_script", v)]) ∧ ∃ sp : Sp, (∀ (H : Hp) (a : Addr) (ns : List Int), ns.length ≤ 63 → SqL K H a (ns.map V.int) → sp [.ref a] H (fun v _ => v = .bl true) (fun _ _ _ => False)) ∧ ∀ base : Heap, K.In base → base.Ns mainGlobals mg → FnOk P w K mg base CX0 7 f fd ["_law_script"] sp
end U
section
open PySem PySem.W PySem.Calls PyProof.Rows
set_option maxHeartbeats 0 in
theorem U.early (facts : U.FactsT) : PySem.Challenge.rw_escheat_k18_shared_cells.Holds := by
  w_on; o_law
  refine HandSHeadRun.head_any (r := OpenLaw.row PySem.Challenge.rw_escheat_k18_shared_cells) (q := view (OpenLaw.row PySem.Challenge.rw_escheat_k18_shared_cells).prog [36]) (H := U.hk) (ob := U.ob) (M := 4000) (loose := (("SPAN" : Str) :: ("HALF" : Str) :: ("wrap" : Str) :: ("divide" : Str) :: ("remainder" : Str) :: ("calculate" : Str) :: ("MAX_ARRAY" : Str) :: ("MAX_FUEL" : Str) :: ("Evaluation" : Str) :: ("find_variable" : Str) :: ("evaluate" : Str) :: ("continue_let" : Str) :: ("continue_seq" : Str) :: ("continue_if" : Str) :: ("continue_case" : Str) :: ("leave" : Str) :: ("compute" : Str) :: ("enter" : Str) :: ("compute_ref" : Str) :: ("compute_array" : Str) :: ("TASKS" : Str) :: ("run" : Str) :: ("_law_cell" : Str) :: ("_law_whole" : Str) :: ("_law_int" : Str) :: ("_law_name" : Str) :: ("_law_seq" : Str) :: ("_law_let" : Str) :: ("_law_deeds" : Str) :: ("_law_print" : Str) :: ("_law_expression" : Str) :: ("_law_program" : Str) :: ("_law_due" : Str) :: [])) (d := HandSHeadRun.topDef (OpenLaw.row PySem.Challenge.rw_escheat_k18_shared_cells).prog 36) (kwd := []) U.ob_eq
    (by kernel_rfl) (fun s => by kernel_rfl) U.run (by kernel_rfl) (by kernel_rfl) (by kernel_rfl) (by rfl) (by first | assumption | decide +kernel) (by decide +kernel) ⟨rfl, rfl, rfl, rfl, rfl, by decide +kernel⟩ ?hw ?hc
  case hw => w_witness2
  case hc =>
    refine L2.walk_ofE (l := PySem.Challenge.rw_escheat_k18_shared_cells) (n := 63) (k := 7) (x := "_law_script") (CX := L2.CX0) rfl (by decide) (by kernel_rfl) ⟨rfl, by decide, by decide⟩ ?F (fun _ _ _ _ z => z)
    intro w mg fa h Y G hmg0
    obtain ⟨K, KX, c⟩ := Y
    have hmg : mg ("law" : PySem.Str) = some (.ref fa) := by
      have e : (HandSHeadRun.topDef (OpenLaw.row PySem.Challenge.rw_escheat_k18_shared_cells).prog 36).name = ("law" : PySem.Str) := by kernel_rfl
      rw [← e]
      exact hmg0
    obtain ⟨fd, hb, sp, hi, hF⟩ := facts (PySem.Challenge.rw_escheat_k18_shared_cells).prog w K h mg fa (by kernel_rfl) (by kernel_rfl) KX G hmg c
    exact ⟨K, fd, sp, KX, hb, fun H a ns hl _ hS => hi H a ns hl hS, hF⟩
end
namespace U
end U
/-! ### the plain meaning: values with cells, states, turns -/
namespace U
open PySem PySem.Spec L2
def wrapZ (n : Int) : Int := (n + 2147483648) % 4294967296 - 2147483648
def quoZ (a b : Int) : Int := if decide (a < 0) ≠ decide (b < 0) then -((a.natAbs : Int) / (b.natAbs : Int)) else (a.natAbs : Int) / (b.natAbs : Int)
def remZ (a b : Int) : Int := if a < 0 then -((a.natAbs : Int) % (b.natAbs : Int)) else (a.natAbs : Int) % (b.natAbs : Int)
theorem wrapZ_in (n : Int) : -2147483648 ≤ wrapZ n ∧ wrapZ n < 2147483648 := by unfold wrapZ; omega
def Word (n : Int) : Prop := -2147483648 ≤ n ∧ n ≤ 2147483648
abbrev arOps : List Str := ["add", "sub", "mul", "div", "rem"]
abbrev cmpOps : List Str := ["equal", "less"]
def calcI (op : Str) (a b : Int) : Int := if op = "add" then wrapZ (a + b) else if op = "sub" then wrapZ (a - b) else if op = "mul" then wrapZ (a * b) else if op = "div" then wrapZ (quoZ a b) else remZ a b
def calcB (op : Str) (a b : Int) : Bool := if op = "equal" then decide (a = b) else decide (a < b)
/-- the value of an operation -/
def calcD (op : Str) (a b : Int) : D := if op ∈ arOps then .int (calcI op a b) else .bl (calcB op a b)
def calcV (op : Str) (a b : Int) : V := if op ∈ arOps then .int (calcI op a b) else .bl (calcB op a b)
theorem calcV_td {K : PySem.W.Frag} {H : Hp} {op : Str} {a b : Int} : Td K H (calcV op a b) (calcD op a b) := by
  unfold calcV calcD
  split
  · exact .int _
  · exact .bl _
def opsL : List Str := arOps ++ cmpOps
inductive Vl where
  | non | bl (b : Bool) | int (i : Int) | str (x : Str) | tup (vs : List Vl) | loc (i : Nat)
mutual
def D.vl : D → Vl
  | .non => .non
  | .bl b => .bl b
  | .int i => .int i
  | .str x => .str x
  | .tup ds => .tup (D.vlL ds)
def D.vlL : List D → List Vl
  | [] => []
  | d :: ds => D.vl d :: D.vlL ds
end
theorem D.vlL_map : ∀ ds : List D, D.vlL ds = ds.map D.vl
  | [] => rfl
  | d :: ds => by rw [D.vlL, D.vlL_map ds]; rfl
mutual
inductive Tv (K : PySem.W.Frag) (ls : List Addr) (H : Hp) : V → Vl → Prop
  | non : Tv K ls H .non .non
  | bl (b : Bool) : Tv K ls H (.bl b) (.bl b)
  | int (i : Int) : Tv K ls H (.int i) (.int i)
  | str (x : Str) : Tv K ls H (.str x) (.str x)
  | tup {a : Addr} {vs : List V} {xs : List Vl} : SqT K H a vs → TvL K ls H vs xs → Tv K ls H (.ref a) (.tup xs)
  | loc {i : Nat} {a : Addr} : ls[i]? = some a → Tv K ls H (.ref a) (.loc i)
inductive TvL (K : PySem.W.Frag) (ls : List Addr) (H : Hp) : List V → List Vl → Prop
  | nil : TvL K ls H [] []
  | cons {v : V} {vs : List V} {x : Vl} {xs : List Vl} : Tv K ls H v x → TvL K ls H vs xs → TvL K ls H (v :: vs) (x :: xs)
end
/-- the cells so far stay -/
def Gr (ls ls' : List Addr) : Prop := ∀ (i : Nat) (a : Addr), ls[i]? = some a → ls'[i]? = some a
/-- all but the cells of a list stays -/
def FrN (ls : List Addr) (H H' : Hp) : Prop := ∀ c x, c ∉ ls → H c = some x → H' c = some x
section
variable {K : PySem.W.Frag} {H H' H2 H1 H3 : Hp} {p l t x : Addr} {o : HO} {ls : List Addr} {n : Nat}
theorem FrN.refl : FrN ls H H := fun _ _ _ h => h
theorem FrN.trans (a : FrN ls H H') (b : FrN ls H' H2) : FrN ls H H2 := fun c x hc e => b c x hc (a c x hc e)
theorem FrN.same (s : Same H H') : FrN ls H H' := fun c x _ e => s c x e
theorem FrN.fr (hp : p ∈ ls) (f : Fr p H H') : FrN ls H H' := fun c x hc e => f c x (fun h => hc (h ▸ hp)) e
theorem FrN.fr2 (hp : p ∈ ls) (ht : t ∈ ls) (f : Fr2 p t H H') : FrN ls H H' := fun c x hc e => f c x (fun h => hc (h ▸ hp)) (fun h => hc (h ▸ ht)) e
theorem FrN.mut (f : FrN ls H H') (h : H x = none) : FrN ls H (upd H' x o) := fun c y hc e => by
  rw [upd_ne (ne_of_none e h)]
  exact f c y hc e
theorem FrN.self (f : FrN ls H H') (h : x ∈ ls) : FrN ls H (upd H' x o) := fun c y hc e => by
  by_cases z : c = x
  · subst z; exact absurd h hc
  · rw [upd_ne z]
    exact f c y hc e
theorem FrN.cut (f : FrN (x :: ls) H1 H3) (h : H1 x = none) : FrN ls H1 H3 := fun c y hc e => f c y (fun m => by
  rcases List.mem_cons.mp m with m | m
  · rw [m, h] at e; cases e
  · exact hc m) e
theorem FrN.sub {ls' : List Addr} (f : FrN ls H H') (h : ∀ a ∈ ls, a ∈ ls') : FrN ls' H H' := fun c y hc e => f c y (fun m => hc (h c m)) e
theorem FrN.nix (f : FrN ls H H') (hx : x ∉ ls) (h : H' x = none) : H x = none := by
  cases e : H x with
  | none => rfl
  | some y => rw [f x y hx e] at h; cases h
/-- a cell that is new is no part of what was -/
theorem FrN.drop (f : FrN (x :: ls) H2 H3) (s : FrN ls H1 H2) (h : H1 x = none) : FrN ls H1 H3 := fun c y hc e => f c y (fun m => by
  rcases List.mem_cons.mp m with m | m
  · rw [m, h] at e; cases e
  · exact hc m) (s c y hc e)
theorem FrN.tk (f : FrN ls H H') (h : ∀ a ∈ ls, Nt H a) : Tk K H H' := fun a ys e => by
  rcases e with (e | ⟨ob, e⟩) | e
  · exact .inl (.inl (f _ _ (fun m => (h a m).1 _ e) e))
  · exact .inl (.inr ⟨ob, f _ _ (fun m => (h a m).2 _ _ e) e⟩)
  · exact .inr e
end
structure Task where
  nm : Str
  e : D
  sc : Vl
  m : Nat
def Task.v (t : Task) : Vl := .tup [.str t.nm, t.e.vl, t.sc, .int (t.m : Nat)]
structure PS where
  ts : List Task
  rs : List Vl
  st : List (List Vl)
  os : List Vl
  tk : Nat
  fl : Vl
structure PL where
  s : Addr
  tA : Addr
  rA : Addr
  oA : Addr
  ls : List Addr
abbrev PL.all (L : PL) : List Addr := L.s :: L.tA :: L.rA :: L.oA :: L.ls
def EvF (L : PL) (pv fv : V) (fu tk : Nat) : List (Str × V) := [("program", pv), ("fuel", .int (fu : Nat)), ("ticks", .int (tk : Nat)), ("outs", .ref L.oA), ("tasks", .ref L.tA), ("results", .ref L.rA), ("fault", fv)]
structure Ev (K : PySem.W.Frag) (H : Hp) (L : PL) (pd : D) (fu : Nat) (z : PS) : Prop where
  ins : ∃ dx pv fv, H L.s = some (.ins (He.ga K "Evaluation") dx (EvF L pv fv fu z.tk)) ∧ Td K H pv pd ∧ Tv K L.ls H fv z.fl
  ts : ∃ tv, H L.tA = some (.lst tv) ∧ TvL K L.ls H tv (z.ts.map Task.v)
  rs : ∃ rv, H L.rA = some (.lst rv) ∧ TvL K L.ls H rv z.rs
  os : ∃ ov, H L.oA = some (.lst ov) ∧ TvL K L.ls H ov z.os
  ce : ∀ (i : Nat) (a : Addr), L.ls[i]? = some a → ∃ us xs, z.st[i]? = some xs ∧ H a = some (.lst us) ∧ TvL K L.ls H us xs
  ln : L.ls.length = z.st.length
  ne : L.tA ≠ L.rA ∧ L.oA ≠ L.tA ∧ L.oA ≠ L.rA
  nc : ∀ (i : Nat) (a : Addr), L.ls[i]? = some a → a ≠ L.tA ∧ a ≠ L.rA ∧ a ≠ L.oA
  nj : ∀ (i j : Nat) (a : Addr), L.ls[i]? = some a → L.ls[j]? = some a → i = j
/-- what a turn leaves: all else stays, new cells are new -/
structure PFr (L L' : PL) (H H' : Hp) : Prop where
  fr : FrN L.all H H'
  ex : ∃ N, L' = { L with ls := L.ls ++ N } ∧ ∀ x ∈ N, H x = none
  up : ∀ x o, H x = some o → ∃ o', H' x = some o'
/-! expressions and scopes -/
abbrev pE (op : Str) (k info : D) (kids arms : List D) : D := .tup [.str op, k, info, .tup kids, .tup arms]
def scC (x : Str) (v sc : Vl) : Vl := .tup [.str x, v, sc]
inductive Look : Vl → Str → Vl → Prop
  | here {x : Str} {v r : Vl} : Look (scC x v r) x v
  | next {x y : Str} {v w r : Vl} : y ≠ x → Look r x v → Look (scC y w r) x v
def bindV : List (Str × Vl) → Vl → Vl
  | [], sc => sc
  | (x, v) :: r, sc => bindV r (scC x v sc)
def PS.push (z : PS) (nm : Str) (e : D) (sc : Vl) : PS := { z with ts := z.ts ++ [⟨nm, e, sc, z.rs.length⟩] }
def PS.res (z : PS) (v : Vl) : PS := { z with rs := z.rs ++ [v] }
/-- room for more -/
structure Small (z : PS) : Prop where
  t : z.ts.length ≤ 1000000
  r : z.rs.length ≤ 1000000
abbrev litOps : List Str := ["int", "bool", "unit"]
abbrev ctlOps : List Str := ["let", "seq", "if", "case"]
/-! turns -/
inductive TurnE : D → Vl → PS → PS → Prop
  | lit {op : Str} {k info : D} {kids arms : List D} {sc : Vl} {z : PS} : op ∈ litOps → TurnE (pE op k info kids arms) sc z (z.res info.vl)
  | name {x : Str} {k : D} {kids arms : List D} {sc v : Vl} {z : PS} : Look sc x v → TurnE (pE "name" k (.str x) kids arms) sc z (z.res v)
  | fn {x : Str} {k kd b : D} {arms : List D} {sc : Vl} {z : PS} : TurnE (pE "fn" k (.tup [.str x, kd]) [b] arms) sc z (z.res (.tup [.str x, b.vl, sc]))
  | ctl {op : Str} {k info k0 : D} {kids arms : List D} {sc : Vl} {z : PS} : op ∈ ctlOps → kids[0]? = some k0 → TurnE (pE op k info kids arms) sc z ((z.push op (pE op k info kids arms) sc).push "evaluate" k0 sc)
  | handle {k info k0 : D} {kids arms : List D} {sc : Vl} {z : PS} : kids[0]? = some k0 → TurnE (pE "handle" k info kids arms) sc z ((z.push "leave" (pE "handle" k info kids arms) sc).push "evaluate" k0 sc)
  | comp {op : Str} {k info : D} {kids arms : List D} {sc : Vl} {z : PS} : op ∉ litOps → op ∉ ctlOps → op ≠ "name" → op ≠ "fn" → op ≠ "handle" → kids.length ≤ 1000 →
      TurnE (pE op k info kids arms) sc z (kids.reverse.foldl (fun z k => z.push "evaluate" k sc) (z.push "compute" (pE op k info kids arms) sc))
inductive TurnL : D → Vl → PS → PS → Prop
  | mk {x : Str} {op : Str} {k a b : D} {arms : List D} {sc v : Vl} {R : List Vl} {z : PS} : z.rs = R ++ [v] → TurnL (pE op k (.str x) [a, b] arms) sc z ({ z with rs := R }.push "evaluate" b (scC x v sc))
inductive TurnS : D → Vl → PS → PS → Prop
  | mk {op : Str} {k info a b : D} {arms : List D} {sc v : Vl} {R : List Vl} {z : PS} : z.rs = R ++ [v] → TurnS (pE op k info [a, b] arms) sc z ({ z with rs := R }.push "evaluate" b sc)
inductive TurnI : D → Vl → PS → PS → Prop
  | mk {op : Str} {k info a b c : D} {arms : List D} {sc : Vl} {t : Bool} {R : List Vl} {z : PS} : z.rs = R ++ [.bl t] → TurnI (pE op k info [a, b, c] arms) sc z ({ z with rs := R }.push "evaluate" (if t then b else c) sc)
inductive TurnA : D → Vl → PS → PS → Prop
  | mk {op : Str} {k info nm body : D} {kids arms : List D} {xs : List Str} {sc : Vl} {fs : List Vl} {n : Nat} {R : List Vl} {z : PS} : z.rs = R ++ [.tup [.int (n : Nat), .tup fs]] → arms[n]? = some (.tup [nm, .tup (xs.map D.str), body]) → xs.length = fs.length → xs.length ≤ 1000 →
      TurnA (pE op k info kids arms) sc z ({ z with rs := R }.push "evaluate" body (bindV (xs.zip fs) sc))
/-- an arm for another exception -/
def ArmNot (n : Int) (a : D) : Prop := ∃ m y b, a = .tup [.int m, y, b] ∧ m ≠ n
inductive Thr (pd : D) (n : Int) (p : Vl) : PS → PS → Prop
  | out {z : PS} {a b : D} {ns : List D} {nm : Str} {i : Nat} : z.ts = [] → n = (i : Nat) → pd = .tup [a, .tup ns, b] → ns[i]? = some (.str nm) → Thr pd n p z { z with fl := .tup [.str "raised", .str nm, p] }
  | skip {z z' : PS} {T : List Task} {t : Task} : z.ts = T ++ [t] → t.nm ≠ "leave" → Thr pd n p { z with ts := T } z' → Thr pd n p z z'
  | pass {z z' : PS} {T : List Task} {t : Task} {op : Str} {k info : D} {kids arms : List D} : z.ts = T ++ [t] → t.nm = "leave" → t.e = pE op k info kids arms → (∀ a ∈ arms, ArmNot n a) → Thr pd n p { z with ts := T } z' → Thr pd n p z z'
  | got {z : PS} {T : List Task} {t : Task} {op x : Str} {k info body : D} {kids as bs xs : List D} : z.ts = T ++ [t] → t.nm = "leave" → t.e = pE op k info kids (as ++ .tup [.int n, .tup (.str x :: xs), body] :: bs) → (∀ a ∈ as, ArmNot n a) → t.m ≤ z.rs.length →
      Thr pd n p z ({ z with ts := T, rs := z.rs.take t.m }.push "evaluate" body (scC x p t.sc))
def PS.fail (z : PS) (fu : Nat) : PS := { z with tk := fu, fl := .tup [.str "fuel"] }
def PS.spend (z : PS) (c : Nat) : PS := { z with tk := z.tk + c }
def PS.out (z : PS) (v : Vl) : PS := { z with os := z.os ++ [v] }
def PS.new (z : PS) (xs : List Vl) : PS := { z with st := z.st ++ [xs], rs := z.rs ++ [.loc z.st.length] }
def PS.put (z : PS) (i : Nat) (xs : List Vl) : PS := { z with st := z.st.set i xs }
/-- a function of the program -/
def funD (pd : D) (i : Nat) (ps : List (Str × D)) (body : D) : Prop := ∃ a b fs nm k, pd = .tup [a, b, .tup fs] ∧ fs[i]? = some (.tup [nm, .tup (ps.map fun p => .tup [.str p.1, p.2]), k, body])
/-- entering a function or a closure; the arguments are off the results already -/
inductive Ent (pd : D) (fu : Nat) : Str → D → List Vl → PS → PS → Prop
  | no {op : Str} {info : D} {g : List Vl} {z : PS} : fu < z.tk + 1 → Ent pd fu op info g z (z.fail fu)
  | app {x : Str} {b info : D} {sc v : Vl} {z : PS} : z.tk + 1 ≤ fu → Ent pd fu "apply" info [.tup [.str x, b.vl, sc], v] z ((z.spend 1).push "evaluate" b (scC x v sc))
  | call {i : Nat} {ps : List (Str × D)} {body : D} {g : List Vl} {z : PS} : z.tk + 1 ≤ fu → funD pd i ps body → ps.length = g.length → Ent pd fu "call" (.int (i : Nat)) g z ((z.spend 1).push "evaluate" body (bindV ((ps.map (·.1)).zip g) .non))
inductive Rf : Str → List Vl → PS → PS → Prop
  | ref {v : Vl} {z : PS} : Rf "ref" [v] z (z.new [v])
  | deref {i : Nat} {v : Vl} {xs : List Vl} {z : PS} : z.st[i]? = some (v :: xs) → Rf "deref" [.loc i] z (z.res v)
  | set {i : Nat} {v w : Vl} {xs : List Vl} {z : PS} : z.st[i]? = some (v :: xs) → Rf "set" [.loc i, w] z ((z.put i (w :: xs)).res .non)
inductive Ary (pd : D) (fu : Nat) : Str → List Vl → PS → PS → Prop
  | len {i : Nat} {xs : List Vl} {z : PS} : z.st[i]? = some xs → Ary pd fu "len" [.loc i] z (z.res (.int (xs.length : Nat)))
  | size {c : Int} {v : Vl} {z z' : PS} : c < 0 ∨ 12 < c → Thr pd 2 (.int c) z z' → Ary pd fu "array" [.int c, v] z z'
  | fuel {c : Nat} {v : Vl} {z : PS} : c ≤ 12 → fu < z.tk + c → Ary pd fu "array" [.int (c : Nat), v] z (z.fail fu)
  | array {c : Nat} {v : Vl} {z : PS} : c ≤ 12 → z.tk + c ≤ fu → Ary pd fu "array" [.int (c : Nat), v] z ((z.spend c).new (List.replicate c v))
  | off {op : Str} {i : Nat} {k : Int} {g xs : List Vl} {z z' : PS} : op = "at" ∨ op = "put" → z.st[i]? = some xs → k < 0 ∨ (xs.length : Nat) ≤ k → Thr pd 1 (.int k) z z' → Ary pd fu op (.loc i :: .int k :: g) z z'
  | at_ {i k : Nat} {v : Vl} {xs : List Vl} {z : PS} : z.st[i]? = some xs → xs[k]? = some v → Ary pd fu "at" [.loc i, .int (k : Nat)] z (z.res v)
  | put {i k : Nat} {w : Vl} {xs : List Vl} {z : PS} : z.st[i]? = some xs → k < xs.length → Ary pd fu "put" [.loc i, .int (k : Nat), w] z ((z.put i (xs.set k w)).res .non)
/-- the value of an operation from the values of its kids -/
inductive Cmp (pd : D) (fu : Nat) : Str → D → List Vl → PS → PS → Prop
  | make {info : D} {g : List Vl} {z : PS} : Cmp pd fu "make" info g z (z.res (.tup [info.vl, .tup g]))
  | tuple {info : D} {g : List Vl} {z : PS} : Cmp pd fu "tuple" info g z (z.res (.tup g))
  | get {i : Nat} {xs g : List Vl} {v : Vl} {z : PS} : xs[i]? = some v → Cmp pd fu "get" (.int (i : Nat)) (.tup xs :: g) z (z.res v)
  | enter {op : Str} {info : D} {g : List Vl} {z z' : PS} : op = "call" ∨ op = "apply" → Ent pd fu op info g z z' → Cmp pd fu op info g z z'
  | raise {n : Int} {v : Vl} {g : List Vl} {z z' : PS} : Thr pd n v z z' → Cmp pd fu "raise" (.int n) (v :: g) z z'
  | print {info : D} {v : Vl} {g : List Vl} {z : PS} : z.os.length ≤ 1000000 → Cmp pd fu "print" info (v :: g) z ((z.out v).res .non)
  | rf {op : Str} {info : D} {g : List Vl} {z z' : PS} : op = "ref" ∨ op = "deref" ∨ op = "set" → Rf op g z z' → Cmp pd fu op info g z z'
  | ary {op : Str} {info : D} {g : List Vl} {z z' : PS} : op = "array" ∨ op = "at" ∨ op = "put" ∨ op = "len" → Ary pd fu op g z z' → Cmp pd fu op info g z z'
  | zero {op : Str} {info : D} {v : Vl} {g : List Vl} {z z' : PS} : op = "div" ∨ op = "rem" → Thr pd 0 (.int 0) z z' → Cmp pd fu op info (v :: .int 0 :: g) z z'
  | calc {op : Str} {info : D} {a b : Int} {z : PS} : op ∈ opsL → Word a → Word b → (op ∈ (["div", "rem"] : List Str) → b ≠ 0) → Cmp pd fu op info [.int a, .int b] z (z.res (calcD op a b).vl)
inductive TurnC (pd : D) (fu : Nat) : D → Vl → PS → PS → Prop
  | mk {op : Str} {k info : D} {kids arms : List D} {sc : Vl} {R g : List Vl} {z z' : PS} : z.rs = R ++ g → g.length = kids.length → Cmp pd fu op info g { z with rs := R } z' → TurnC pd fu (pE op k info kids arms) sc z z'
inductive Turn (pd : D) (fu : Nat) : Str → D → Vl → PS → PS → Prop
  | e {d : D} {sc : Vl} {z z' : PS} : TurnE d sc z z' → Turn pd fu "evaluate" d sc z z'
  | l {d : D} {sc : Vl} {z z' : PS} : TurnL d sc z z' → Turn pd fu "let" d sc z z'
  | s {d : D} {sc : Vl} {z z' : PS} : TurnS d sc z z' → Turn pd fu "seq" d sc z z'
  | i {d : D} {sc : Vl} {z z' : PS} : TurnI d sc z z' → Turn pd fu "if" d sc z z'
  | a {d : D} {sc : Vl} {z z' : PS} : TurnA d sc z z' → Turn pd fu "case" d sc z z'
  | v {d : D} {sc : Vl} {z : PS} : Turn pd fu "leave" d sc z z
  | c {d : D} {sc : Vl} {z z' : PS} : TurnC pd fu d sc z z' → Turn pd fu "compute" d sc z z'
/-- some turns -/
inductive Run (pd : D) (fu : Nat) : Nat → PS → PS → Prop
  | stop {z : PS} : Run pd fu 0 z z
  | go {n : Nat} {z z1 z2 : PS} {T : List Task} {t : Task} : z.ts = T ++ [t] → z.fl = .non → Small z → Turn pd fu t.nm t.e t.sc { z with ts := T } z1 → Run pd fu n z1 z2 → Run pd fu (n + 1) z z2
/-! promises -/
def sp_wrap (K : PySem.W.Frag) : Sp := fun vs H Q _ => ∃ n : Int, vs = [.int n] ∧ Q (.int (wrapZ n)) H
def sp_divide (K : PySem.W.Frag) : Sp := fun vs H Q _ => ∃ a b : Int, vs = [.int a, .int b] ∧ Word a ∧ Word b ∧ b ≠ 0 ∧ Q (.int (wrapZ (quoZ a b))) H
def sp_remainder (K : PySem.W.Frag) : Sp := fun vs H Q _ => ∃ a b : Int, vs = [.int a, .int b] ∧ Word a ∧ Word b ∧ b ≠ 0 ∧ Q (.int (remZ a b)) H
def sp_calculate (K : PySem.W.Frag) : Sp := fun vs H Q _ => ∃ (op : Str) (a b : Int), vs = [.str op, .int a, .int b] ∧ op ∈ opsL ∧ Word a ∧ Word b ∧ (op ∈ (["div", "rem"] : List Str) → b ≠ 0) ∧ Q (calcV op a b) H
def z00 : PS := ⟨[], [], [], [], 0, .non⟩
def sp_Evaluation___init__ (K : PySem.W.Frag) : Sp := fun vs H Q _ => ∃ s pv pd fu dx, vs = [.ref s, pv, .int (fu : Nat)] ∧ H s = some (.ins (He.ga K "Evaluation") dx []) ∧ Td K H pv pd ∧
  ∀ H' tA rA oA, Ev K H' ⟨s, tA, rA, oA, []⟩ pd fu z00 → (∀ x o, x ≠ s → H x = some o → H' x = some o) → (tA ≠ s ∧ H tA = none) → (rA ≠ s ∧ H rA = none) → (oA ≠ s ∧ H oA = none) → Q .non H'
def sp_Evaluation_plan (K : PySem.W.Frag) : Sp := fun vs H Q _ => ∃ L pd fu z nm e sc de dsc, vs = [.ref L.s, .str nm, e, sc] ∧ Ev K H L pd fu z ∧ Tv K L.ls H e (D.vl de) ∧ Tv K L.ls H sc dsc ∧ z.ts.length ≤ 2000000 ∧ z.rs.length ≤ 2000000 ∧
  ∀ H', Ev K H' L pd fu (z.push nm de dsc) → PFr L L H H' → Q .non H'
def sp_Evaluation_spend (K : PySem.W.Frag) : Sp := fun vs H Q _ => ∃ L pd fu z c, vs = [.ref L.s, .int (c : Nat)] ∧ Ev K H L pd fu z ∧
  (fu < z.tk + c → ∀ H', Ev K H' L pd fu (z.fail fu) → PFr L L H H' → Q (.bl false) H') ∧ (z.tk + c ≤ fu → ∀ H', Ev K H' L pd fu (z.spend c) → PFr L L H H' → Q (.bl true) H')
def sp_Evaluation_throw (K : PySem.W.Frag) : Sp := fun vs H Q _ => ∃ L pd fu z z' n p dp, vs = [.ref L.s, .int n, p] ∧ Ev K H L pd fu z ∧ Tv K L.ls H p dp ∧ Small z ∧ Thr pd n dp z z' ∧
  ∀ H', Ev K H' L pd fu z' → PFr L L H H' → Q .non H'
def sp_Evaluation_finish (K : PySem.W.Frag) : Sp := fun vs H Q _ => ∃ L pd fu z z' n, vs = [.ref L.s] ∧ Ev K H L pd fu z ∧ Run pd fu n z z' ∧ (z'.ts = [] ∨ (∃ xs, z'.fl = .tup xs)) ∧
  ∀ H' L', Ev K H' L' pd fu z' → PFr L L' H H' → Q .non H'
def sp_find_variable (K : PySem.W.Frag) : Sp := fun vs H Q _ => ∃ (ls : List Addr) (sc : V) (dsc : Vl) (x : Str) (d : Vl), vs = [sc, .str x] ∧ Tv K ls H sc dsc ∧ Look dsc x d ∧ ∀ v, Tv K ls H v d → Q v H
abbrev sp_turn (f : D → Nat → D → Vl → PS → PS → Prop) (K : PySem.W.Frag) : Sp := fun vs H Q _ => ∃ L pd fu z z' e sc de dsc, vs = [.ref L.s, e, sc] ∧ Ev K H L pd fu z ∧ Td K H e de ∧ Tv K L.ls H sc dsc ∧ Small z ∧ f pd fu de dsc z z' ∧
  ∀ H' L', Ev K H' L' pd fu z' → PFr L L' H H' → Q .non H'
def sp_evaluate (K : PySem.W.Frag) : Sp := sp_turn (fun _ _ => TurnE) K
def sp_continue_let (K : PySem.W.Frag) : Sp := sp_turn (fun _ _ => TurnL) K
def sp_continue_seq (K : PySem.W.Frag) : Sp := sp_turn (fun _ _ => TurnS) K
def sp_continue_if (K : PySem.W.Frag) : Sp := sp_turn (fun _ _ => TurnI) K
def sp_continue_case (K : PySem.W.Frag) : Sp := sp_turn (fun _ _ => TurnA) K
def sp_leave (K : PySem.W.Frag) : Sp := sp_turn (fun _ _ _ _ z z' => z' = z) K
def sp_compute (K : PySem.W.Frag) : Sp := sp_turn TurnC K
/-- the values of kids, as a list -/
structure Gv (K : PySem.W.Frag) (L : PL) (H : Hp) (p : Addr) (g : List Vl) : Prop where
  ex : ∃ us, H p = some (.lst us) ∧ TvL K L.ls H us g
  nm : p ∉ L.all
def sp_enter (K : PySem.W.Frag) : Sp := fun vs H Q _ => ∃ L pd fu z z' op i p di g, vs = [.ref L.s, .str op, i, .ref p] ∧ Ev K H L pd fu z ∧ Td K H i di ∧ Gv K L H p g ∧ Small z ∧ Ent pd fu op di g z z' ∧
  ∀ H', Ev K H' L pd fu z' → PFr L L H H' → Q .non H'
def sp_compute_ref (K : PySem.W.Frag) : Sp := fun vs H Q _ => ∃ L pd fu z z' op p g, vs = [.ref L.s, .str op, .ref p] ∧ Ev K H L pd fu z ∧ Gv K L H p g ∧ Small z ∧ Rf op g z z' ∧
  ∀ H' L', Ev K H' L' pd fu z' → PFr L L' H H' → Q .non H'
def sp_compute_array (K : PySem.W.Frag) : Sp := fun vs H Q _ => ∃ L pd fu z z' op p g, vs = [.ref L.s, .str op, .ref p] ∧ Ev K H L pd fu z ∧ Gv K L H p g ∧ Small z ∧ Ary pd fu op g z z' ∧
  ∀ H' L', Ev K H' L' pd fu z' → PFr L L' H H' → Q .non H'
/-- the result of a run -/
inductive Res (pd : D) (ns : List Int) (fu : Nat) : D → Prop
  | mk {a b nm k body fl ans : D} {fs os : List D} {ps : List (Str × D)} {n : Nat} {z : PS} : pd = .tup [a, b, .tup (fs ++ [.tup [nm, .tup (ps.map fun p => .tup [.str p.1, p.2]), k, body]])] → ps.length = ns.length →
      Run pd fu n ⟨[⟨"evaluate", body, bindV ((ps.map (·.1)).zip (ns.map fun n => .int (wrapZ n))) .non, 0⟩], [], [], [], 0, .non⟩ z → z.fl = fl.vl → z.os = os.map D.vl → os.length ≤ 1000000 →
      ((fl = .non ∧ z.ts = [] ∧ ∃ r, z.rs = ans.vl :: r) ∨ ((∃ xs, fl = .tup xs) ∧ ans = .int 0)) → Res pd ns fu (.tup [fl, ans, .tup os, .int (z.tk : Nat)])
def sp_run (K : PySem.W.Frag) : Sp := fun vs H Q _ => ∃ (p : V) (A : Addr) (pd r : D) (ns : List Int) (fu : Nat), vs = [p, .ref A, .int (fu : Nat)] ∧ Td K H p pd ∧ fu ≤ 200 ∧ (SqL K H A (ns.map V.int) ∨ SqT K H A (ns.map V.int)) ∧ Res pd ns fu r ∧ ∀ v H', Same H H' → Td K H' v r → Q v H'
/-! ### what the defs of k18's law promise -/
def wholeD : D := .tup [.str "int", .tup [], .int 0]
def unitD : D := .tup [.str "unit", .tup [], .int 0]
def refD : D := .tup [.str "ref", .tup [wholeD], .int 0]
def arrD : D := .tup [.str "array", .tup [wholeD], .int 0]
def intE (n : Int) : D := pE "int" wholeD (.int n) [] []
def nmE (k : D) (x : Str) : D := pE "name" k (.str x) [] []
def seqE (k a b : D) : D := pE "seq" k .non [a, b] []
def letE (k : D) (x : Str) (a b : D) : D := pE "let" k (.str x) [a, b] []
def prE (a : D) : D := pE "print" unitD .non [a] []
def derE (a : D) : D := pE "deref" wholeD .non [a] []
def atE (a b : D) : D := pE "at" wholeD .non [a, b] []
structure Deed where
  d : Int
  w : Int
  ix : Int
  v : Int
def Deed.dd (x : Deed) : D := .tup [.int x.d, .int x.w, .int x.ix, .int x.v]
def deedOf (many c : Int) : Deed := ⟨c % 6, c / 6 % 4, c / 24 % (many + 2) - 1, c / 24 % 2147483648 - 1073741824⟩
/-- what a deed keeps -/
structure Deed.Ok (many : Nat) (x : Deed) : Prop where
  d : 0 ≤ x.d ∧ x.d < 6
  w : 0 ≤ x.w ∧ x.w < 4
  ix : -1 ≤ x.ix ∧ x.ix ≤ many
def keptN (w : Int) : Str := if w = 0 then "a" else if w = 1 then "b" else if w = 2 then "c" else "d"
def rowN (w : Int) : Str := if w = 0 then "v" else if w = 1 then "w" else if w = 2 then "v" else "w"
def exprD (x : Deed) : D :=
  if x.d = 0 then pE "set" unitD .non [nmE refD (keptN x.w), intE x.v] []
  else if x.d = 1 then prE (derE (nmE refD (keptN x.w)))
  else if x.d = 2 then pE "put" unitD .non [nmE arrD (rowN x.w), intE x.ix, intE x.v] []
  else if x.d = 3 then prE (atE (nmE arrD (rowN x.w)) (intE x.ix))
  else if x.d = 4 then prE (pE "len" wholeD .non [nmE arrD (rowN x.w)] [])
  else pE "set" unitD .non [nmE refD (keptN x.w), atE (nmE arrD (rowN x.w)) (intE x.ix)] []
def grpD : List Deed → D
  | [] => .non
  | x :: r => r.foldl (fun g y => seqE unitD g (exprD y)) (exprD x)
def grpN (ds : List Deed) : Nat := (ds.length + 7) / 8
def grpI (ds : List Deed) (i : Nat) : D := grpD ((ds.drop (8 * i)).take 8)
def namesL : List D := [nmE refD "a", nmE refD "b", nmE refD "c", nmE refD "d", nmE arrD "v", nmE arrD "w"]
def kindsL : List (Str × D) := [("a", refD), ("b", refD), ("c", refD), ("d", refD), ("v", arrD), ("w", arrD)]
def kindsD : D := .tup (kindsL.map fun p => .tup [.str p.1, p.2])
def callE (k : Int) : D := pE "call" unitD (.int k) namesL []
def fbD (ds : List Deed) (i : Nat) : D := if i = 0 then grpI ds i else seqE unitD (callE ((i : Nat) - 1)) (grpI ds i)
def fnD (ds : List Deed) (i : Nat) : D := .tup [.str ("part" ++ toString ((i : Nat) : Int)), kindsD, unitD, fbD ds i]
def funsD (ds : List Deed) : List D := (List.range (grpN ds)).map (fnD ds)
def endD : D := derE (nmE refD "c")
def restD (ds : List Deed) : D := if grpN ds = 0 then endD else seqE wholeD (callE ((grpN ds : Nat) - 1)) endD
def bodyD (many start : Int) (ds : List Deed) : D :=
  letE wholeD "a" (pE "ref" refD .non [intE start] []) (letE wholeD "b" (pE "ref" refD .non [intE (start + 1)] []) (letE wholeD "c" (nmE refD "a") (letE wholeD "d" (nmE refD "b")
    (letE wholeD "v" (pE "array" arrD .non [intE many, intE start] []) (letE wholeD "w" (nmE arrD "v") (restD ds))))))
def mainD (many start : Int) (ds : List Deed) : D := .tup [.str "main", .tup [], wholeD, bodyD many start ds]
def progD (many start : Int) (ds : List Deed) : D := .tup [.tup [], .tup [.str "Div", .str "Index", .str "Size"], .tup (funsD ds ++ [mainD many start ds])]
/-! the law's own model -/
structure Me where
  k0 : Int
  k1 : Int
  row : List Int
  os : List Int
def Me.get (m : Me) (w : Int) : Int := if w % 2 = 0 then m.k0 else m.k1
def Me.set (m : Me) (w x : Int) : Me := if w % 2 = 0 then { m with k0 := x } else { m with k1 := x }
def Me.at_ (m : Me) (i : Int) : Int := (m.row[i.toNat]?).getD 0
def badDeed (many : Nat) (x : Deed) : Prop := (x.d = 2 ∨ x.d = 3 ∨ x.d = 5) ∧ (x.ix < 0 ∨ (many : Nat) ≤ x.ix)
instance (many : Nat) (x : Deed) : Decidable (badDeed many x) := by unfold badDeed; infer_instance
def Me.step (many : Nat) (m : Me) (x : Deed) : Me :=
  if x.d = 0 then m.set x.w x.v
  else if x.d = 1 then { m with os := m.os ++ [m.get x.w] }
  else if x.d = 2 then { m with row := m.row.set x.ix.toNat x.v }
  else if x.d = 3 then { m with os := m.os ++ [m.at_ x.ix] }
  else if x.d = 4 then { m with os := m.os ++ [((many : Nat) : Int)] }
  else m.set x.w (m.at_ x.ix)
/-- the deeds, one by one, until one is out of range -/
def runM (many : Nat) : List Deed → Me → Me × Option Int
  | [], m => (m, none)
  | x :: r, m => if badDeed many x then (m, some x.ix) else runM many r (m.step many x)
def me0 (many : Nat) (start : Int) : Me := ⟨start, start + 1, List.replicate many start, []⟩
def outD (os : List Int) : D := .tup (os.map D.int)
def endM (t : Int) (r : Me × Option Int) : D := match r.2 with
  | some ix => .tup [.tup [.str "raised", .str "Index", .int ix], .int 0, outD r.1.os, .int t]
  | none => .tup [.non, .int r.1.k0, outD r.1.os, .int t]
def tickN (many : Nat) (ds : List Deed) : Nat := many + grpN ds
def dueD (many : Nat) (start : Int) (ds : List Deed) (limit : Nat) : D :=
  if limit < tickN many ds then .tup [.tup [.str "fuel"], .int 0, .tup [], .int (limit : Nat)]
  else endM ((tickN many ds : Nat) : Int) (runM many ds (me0 many start))
/-! promises -/
def sp_l_cell (K : PySem.W.Frag) : Sp := fun vs H Q _ => ∃ (A : Addr) (ns : List Int) (k : Nat), vs = [.ref A, .int k] ∧ SqL K H A (ns.map V.int) ∧ ns.length ≤ 63 ∧ ∀ n : Int, Q (.int n) H
def sp_l_whole (K : PySem.W.Frag) : Sp := fun vs H Q _ => vs = [] ∧ ∀ v H', Same H H' → Td K H' v wholeD → Q v H'
def sp_l_int (K : PySem.W.Frag) : Sp := fun vs H Q _ => ∃ n : Int, vs = [.int n] ∧ ∀ v H', Same H H' → Td K H' v (intE n) → Q v H'
def sp_l_name (K : PySem.W.Frag) : Sp := fun vs H Q _ => ∃ (k : V) (dk : D) (x : Str), vs = [k, .str x] ∧ Td K H k dk ∧ ∀ v H', Same H H' → Td K H' v (nmE dk x) → Q v H'
def sp_l_seq (K : PySem.W.Frag) : Sp := fun vs H Q _ => ∃ (a b : V) (da k o : D) (r : List D), vs = [a, b] ∧ Td K H a da ∧ Td K H b (.tup (o :: k :: r)) ∧ ∀ v H', Same H H' → Td K H' v (seqE k da (.tup (o :: k :: r))) → Q v H'
def sp_l_let (K : PySem.W.Frag) : Sp := fun vs H Q _ => ∃ (x : Str) (a b : V) (da k o : D) (r : List D), vs = [.str x, a, b] ∧ Td K H a da ∧ Td K H b (.tup (o :: k :: r)) ∧ ∀ v H', Same H H' → Td K H' v (letE k x da (.tup (o :: k :: r))) → Q v H'
def sp_l_deeds (K : PySem.W.Frag) : Sp := fun vs H Q _ => ∃ (A : Addr) (ns : List Int) (many : Nat), vs = [.ref A, .int (many : Nat)] ∧ SqL K H A (ns.map V.int) ∧ ns.length ≤ 40 ∧
  ∀ p us H', Same H H' → H p = none → H' p = some (.lst us) → TdL K H' us ((ns.map (deedOf many)).map Deed.dd) → Q (.ref p) H'
def sp_l_print (K : PySem.W.Frag) : Sp := fun vs H Q _ => ∃ (a : V) (da : D), vs = [a] ∧ Td K H a da ∧ ∀ v H', Same H H' → Td K H' v (prE da) → Q v H'
def sp_l_expression (K : PySem.W.Frag) : Sp := fun vs H Q _ => ∃ (a : V) (x : Deed) (many : Nat), vs = [a] ∧ Td K H a x.dd ∧ x.Ok many ∧ ∀ v H', Same H H' → Td K H' v (exprD x) → Q v H'
def sp_l_program (K : PySem.W.Frag) : Sp := fun vs H Q _ => ∃ (many : Nat) (start : Int) (p : Addr) (us : List V) (ds : List Deed), vs = [.int (many : Nat), .int start, .ref p] ∧ H p = some (.lst us) ∧ TdL K H us (ds.map Deed.dd) ∧ ds.length ≤ 40 ∧ (∀ x ∈ ds, x.Ok many) ∧
  ∀ v H', Same H H' → Td K H' v (progD many start ds) → Q v H'
def sp_l_due (K : PySem.W.Frag) : Sp := fun vs H Q _ => ∃ (many : Nat) (start : Int) (p : Addr) (us : List V) (ds : List Deed) (limit : Nat), vs = [.int (many : Nat), .int start, .ref p, .int (limit : Nat)] ∧ H p = some (.lst us) ∧ TdL K H us (ds.map Deed.dd) ∧ ds.length ≤ 40 ∧ (∀ x ∈ ds, x.Ok many) ∧ many ≤ 12 ∧
  ∀ v H', Same H H' → Td K H' v (dueD many start ds limit) → Q v H'
def sp_law (K : PySem.W.Frag) : Sp := spLaw K
local macro_rules | `(tactic| walk_at "une") => `(tactic| first | assumption | (exact Ne.symm (by assumption)) | (exact ne_of_none (by assumption) (by assumption)) | (exact (ne_of_none (by assumption) (by assumption)).symm))
local macro_rules | `(tactic| walk_at "uh") => `(tactic| first | assumption | (exact upd_same) | (refine' (upd_ne ?n).trans ?h; (case n => walk_at "une"); (case h => walk_at "uh")))
local macro_rules | `(tactic| walk_at "usl") => `(tactic| first | assumption | (exact SqL.of (by walk_at "uh")))
local macro_rules | `(tactic| walk_at "ust") => `(tactic| first | assumption | (exact SqT.of (by walk_at "uh")))
local macro_rules | `(tactic| walk_at "us") => `(tactic| first | omega | decide | assumption | (exact szl (by omega)) | (exact szt (by omega)) | (exact wide_div (b := 64) (by omega) (by omega) (by decide) (by decide)) | (exact Or.inl (Or.inr (by decide))) | (exact Or.inl (Or.inl (by decide))))
local macro_rules | `(tactic| walk_at "u1") => `(tactic| first
  | (with_reducible refine r_sqA ?_) | (with_reducible refine r_sqP ?_) | (with_reducible refine r_dput ?_) | (with_reducible refine r_dget ?_) | (with_reducible refine r_din ?_) | (with_reducible refine r_dnotin ?_) | (with_reducible refine r_keys ?_) | (with_reducible refine r_dnew ?_) | (with_reducible refine r_isB ?_) | (with_reducible refine r_notB ?_) | (with_reducible refine r_xor ?_) | (with_reducible refine r_sqD ?_) | ((with_reducible refine' r_sqG ?hx ?_); (case hx => exact rfl)) | (with_reducible refine r_sqS ?_) | (with_reducible refine r_asg ?_) | ((with_reducible refine' r_var ?hx ?_); (case hx => exact rfl)) | (with_reducible refine r_c ?_) | (with_reducible refine r_op ?_)
  | (with_reducible refine r_gname ?_) | (with_reducible refine r_cons ?_) | (with_reducible refine r_nil ?_) | (with_reducible refine r_cb ?_) | (with_reducible refine r_call ?_)
  | (with_reducible refine r_ifS ?_) | (with_reducible refine r_test ?_) | (with_reducible refine r_bl ?_) | (with_reducible refine r_ret ?_) | (with_reducible refine r_next ?_) | (with_reducible refine r_drop ?_)
  | (with_reducible refine r_and ?_) | (with_reducible refine r_or ?_) | (with_reducible refine r_not ?_) | (with_reducible refine r_tru ?_) | (with_reducible refine r_truBl ?_) | (with_reducible refine r_truInt ?_) | (with_reducible refine r_truNon ?_) | (with_reducible refine r_tb ?_)
  | (with_reducible refine r_andV ?_) | (with_reducible refine r_orV ?_) | (with_reducible refine r_notV ?_) | (with_reducible refine r_chain ?_) | (with_reducible refine r_if ?_) | (with_reducible refine r_un ?_)
  | (with_reducible refine br_t ?_) | (with_reducible refine br_f ?_) | (with_reducible refine br_nt ?_) | (with_reducible refine br_nf ?_)
  | (with_reducible refine r_addI ?_) | (with_reducible refine r_sub ?_) | (with_reducible refine r_neg ?_) | (with_reducible refine r_cmpI ?_) | (with_reducible refine r_eqI ?_) | (with_reducible refine r_eqS ?_) | (with_reducible refine r_eqB ?_) | (with_reducible refine r_neI ?_) | (with_reducible refine r_neS ?_) | (with_reducible refine r_neB ?_)
  | ((with_reducible refine r_mod ?s ?_); (case s => walk_at "us")) | ((with_reducible refine r_mul ?s ?_); (case s => walk_at "us")) | ((with_reducible refine r_fdiv ?s ?_); (case s => walk_at "us"))
  | ((with_reducible refine r_addS ?s ?_); (case s => walk_at "us"))
  | (with_reducible refine r_isNN ?_) | (with_reducible refine r_isNI ?_) | (with_reducible refine r_isNB ?_) | (with_reducible refine r_isNS ?_) | (with_reducible refine r_isNR ?_) | (with_reducible refine r_notNN ?_) | (with_reducible refine r_notNI ?_) | (with_reducible refine r_notNB ?_) | (with_reducible refine r_notNS ?_) | (with_reducible refine r_notNR ?_)
  | (with_reducible refine r_abs ?_) | (with_reducible refine r_intI ?_) | (with_reducible refine r_intB ?_) | (with_reducible refine r_maxI ?_) | (with_reducible refine r_minI ?_) | (with_reducible refine r_starts ?_) | (with_reducible refine r_inC ?_) | (with_reducible refine r_notInC ?_)
  | (with_reducible refine r_iI_int ?_) | (with_reducible refine r_iI_bool ?_) | (with_reducible refine r_iI_str ?_) | (with_reducible refine r_iI_tuple ?_) | (with_reducible refine r_iI_list ?_) | (with_reducible refine r_iB_int ?_) | (with_reducible refine r_iB_bool ?_) | (with_reducible refine r_iB_str ?_) | (with_reducible refine r_iB_tuple ?_) | (with_reducible refine r_iB_list ?_) | (with_reducible refine r_iS_int ?_) | (with_reducible refine r_iS_bool ?_) | (with_reducible refine r_iS_str ?_) | (with_reducible refine r_iS_tuple ?_) | (with_reducible refine r_iS_list ?_) | (with_reducible refine r_iN_int ?_) | (with_reducible refine r_iN_bool ?_) | (with_reducible refine r_iN_str ?_) | (with_reducible refine r_iN_tuple ?_) | (with_reducible refine r_iN_list ?_)
  | ((with_reducible refine r_lenS ?s ?_); (case s => walk_at "us")) | ((with_reducible refine r_slS ?s ?_); (case s => walk_at "us"))
  | (with_reducible refine r_sl ?_) | (with_reducible refine r_nop ?_) | (with_reducible refine r_part ?_) | (with_reducible refine r_partI ?_) | (with_reducible refine r_tup ?_) | (with_reducible refine r_lst ?_)
  | (with_reducible refine r_bm ?_) | (with_reducible refine r_bm0 ?_) | (with_reducible refine r_tyStr ?_) | (with_reducible refine r_retN ?_) | (with_reducible refine r_brk ?_) | (with_reducible refine r_cont ?_) | (with_reducible refine r_nx ?_) | (with_reducible refine r_rt ?_)
  | (with_reducible refine r_callS ?_) | (with_reducible refine r_raise ?_) | (with_reducible refine r_tryAs ?_) | (with_reducible refine r_tryOnly ?_) | (with_reducible refine r_meth ?_) | (with_reducible refine r_methS ?_) | (with_reducible refine r_make ?_) | (with_reducible refine r_fldC ?_) | (with_reducible refine r_faug ?_) | (with_reducible refine r_sqFA ?_) | (with_reducible refine r_prop ?_) | (with_reducible refine r_slc ?_) | (with_reducible refine r_sqF ?_) | (with_reducible refine r_sfldC ?_) | (with_reducible refine r_enumT ?_) | (with_reducible refine r_enumS ?_) | (with_reducible refine r_enumSv ?_) | (with_reducible refine r_ord ?_) | (with_reducible refine r_lzip ?_) | (with_reducible refine r_zip ?_) | (with_reducible refine r_only ?_) | (with_reducible refine r_nevE ?_)
  | (with_reducible refine r_sub3 ?_) | (with_reducible refine r_augS ?_) | (with_reducible refine r_ipI ?_) | ((with_reducible refine' r_aug ?hx ?_); (case hx => exact rfl)) | (with_reducible refine r_for ?_) | (with_reducible refine r_lc ?_) | (with_reducible refine r_yes ?_) | (with_reducible refine r_rng1 ?_) | (with_reducible refine r_rng1v ?_) | (with_reducible refine r_rng2 ?_) | (with_reducible refine r_rng2v ?_) | (with_reducible refine r_enum ?_) | (with_reducible refine r_rng3 ?_) | (with_reducible refine r_rng3v ?_)
  | ((with_reducible refine' r_ixL ?s1 ?s2 ?_); (case s1 => walk_at "usl"); (case s2 => exact rfl)) | ((with_reducible refine' r_ixT ?s1 ?s2 ?_); (case s1 => walk_at "ust"); (case s2 => exact rfl))
  | ((with_reducible refine' r_lenL ?s1 ?_); (case s1 => walk_at "usl")) | ((with_reducible refine' r_lenT ?s1 ?_); (case s1 => walk_at "ust"))
  | ((with_reducible refine' r_setL ?s1 ?s2 ?_); (case s1 => walk_at "uh"); (case s2 => exact rfl)) | ((with_reducible refine' r_getL ?s1 ?s2 ?s3 ?_); (case s1 => walk_at "usl"); (case s2 => walk_at "us"); (case s3 => exact rfl))
  | ((with_reducible refine' r_tyLst ?s ?_); (case s => walk_at "uh")) | ((with_reducible refine' r_append ?s1 ?s2 ?_); (case s1 => walk_at "uh"); (case s2 => walk_at "us")))
local macro_rules | `(tactic| walk_at "ub") => `(tactic| first
  | ((with_reducible refine br_y ?s ?_); (case s => (first | assumption | (with_reducible rfl) | omega | decide))) | ((with_reducible refine br_n ?s ?_); (case s => (first | assumption | (with_reducible rfl) | omega | decide))) | ((with_reducible refine br_ny ?s ?_); (case s => (first | assumption | (with_reducible rfl) | omega | decide))) | ((with_reducible refine br_nn ?s ?_); (case s => (first | assumption | (with_reducible rfl) | omega | decide))))
local macro_rules | `(tactic| walk_at "u") => `(tactic| repeat (first | walk_at "u1" | walk_at "ub"))
local macro_rules | `(tactic| walk_at "ui") => `(tactic| ((with_reducible refine r_sq ?_); walk_at "u"))
local macro_rules | `(tactic| walk_at "umk") => `(tactic| ((refine' r_mkE ?hl ?hn ?_); (case hl => exact rfl); (case hn => decide)))
/-- what the written part says, of K alone -/
structure KF (K : PySem.W.Frag) : Prop where
def t_wrap (K : PySem.W.Frag) : TS :=
  (tRet (tOp (uSub) (tOp (uMod) (tOp (uAdd K) (tVar 0) (tC (.int 2147483648))) (tC (.int 4294967296))) (tC (.int 2147483648))))
abbrev n_wrap : List Str := ["number"]
def t_divide (K : PySem.W.Frag) : TS :=
  (tSq (tAsg (tOp (uFdiv) (tCB (uAbs) (tCons (tVar 0) tNil)) (tCB (uAbs) (tCons (tVar 1) tNil))) (gName 2))
    (tSq (tIfS (tTest (tOp (uNe K) (tOp (uLt) (tVar 0) (tC (.int 0))) (tOp (uLt) (tVar 1) (tC (.int 0))))) (tAsg (tUn uNeg (tVar 2)) (gName 2)) tNext)
    (tRet (tCall (sp_wrap K) [] E0 (tCons (tVar 2) tNil)))))
abbrev n_divide : List Str := ["first", "second", "quotient"]
def t_remainder (K : PySem.W.Frag) : TS :=
  (tSq (tAsg (tOp (uMod) (tCB (uAbs) (tCons (tVar 0) tNil)) (tCB (uAbs) (tCons (tVar 1) tNil))) (gName 2))
    (tSq (tIfS (tTest (tOp (uLt) (tVar 0) (tC (.int 0)))) (tRet (tUn uNeg (tVar 2))) tNext)
    (tRet (tVar 2))))
abbrev n_remainder : List Str := ["first", "second", "rest"]
def t_calculate (K : PySem.W.Frag) : TS :=
  (tSq (tIfS (tTest (tOp (uEq K) (tVar 0) (tC (.str "add")))) (tRet (tCall (sp_wrap K) [] E0 (tCons (tOp (uAdd K) (tVar 1) (tVar 2)) tNil))) tNext)
    (tSq (tIfS (tTest (tOp (uEq K) (tVar 0) (tC (.str "sub")))) (tRet (tCall (sp_wrap K) [] E0 (tCons (tOp (uSub) (tVar 1) (tVar 2)) tNil))) tNext)
    (tSq (tIfS (tTest (tOp (uEq K) (tVar 0) (tC (.str "mul")))) (tRet (tCall (sp_wrap K) [] E0 (tCons (tOp (uMul) (tVar 1) (tVar 2)) tNil))) tNext)
    (tSq (tIfS (tTest (tOp (uEq K) (tVar 0) (tC (.str "div")))) (tRet (tCall (sp_divide K) [] E0 (tCons (tVar 1) (tCons (tVar 2) tNil)))) tNext)
    (tSq (tIfS (tTest (tOp (uEq K) (tVar 0) (tC (.str "rem")))) (tRet (tCall (sp_remainder K) [] E0 (tCons (tVar 1) (tCons (tVar 2) tNil)))) tNext)
    (tSq (tIfS (tTest (tOp (uEq K) (tVar 0) (tC (.str "equal")))) (tRet (tOp (uEq K) (tVar 1) (tVar 2))) tNext)
    (tRet (tOp (uLt) (tVar 1) (tVar 2)))))))))
abbrev n_calculate : List Str := ["op", "first", "second"]
def t_Evaluation___init__ (K : PySem.W.Frag) : TS :=
  (tSq (sFldC (He.ga K "Evaluation") (tVar 0) (tVar 1) "program")
    (tSq (sFldC (He.ga K "Evaluation") (tVar 0) (tVar 2) "fuel")
    (tSq (sFldC (He.ga K "Evaluation") (tVar 0) (tC (.int 0)) "ticks")
    (tSq (sFldC (He.ga K "Evaluation") (tVar 0) (tLst tNil) "outs")
    (tSq (sFldC (He.ga K "Evaluation") (tVar 0) (tLst tNil) "tasks")
    (tSq (sFldC (He.ga K "Evaluation") (tVar 0) (tLst tNil) "results")
    (sFldC (He.ga K "Evaluation") (tVar 0) (tC .non) "fault")))))))
abbrev n_Evaluation___init__ : List Str := ["self", "program", "fuel"]
def t_Evaluation_plan (K : PySem.W.Frag) : TS :=
  (tDrop (tBM K "list" (uAppend) (tFldC (He.ga K "Evaluation") (tVar 0) "tasks") (tCons (tTup (tCons (tVar 1) (tCons (tVar 2) (tCons (tVar 3) (tCons (tCB (uLen K) (tCons (tFldC (He.ga K "Evaluation") (tVar 0) "results") tNil)) tNil))))) tNil)))
abbrev n_Evaluation_plan : List Str := ["self", "name", "expression", "scope"]
def t_Evaluation_spend (K : PySem.W.Frag) : TS :=
  (tSq (tIfS (tTest (tOp (uGt) (tOp (uAdd K) (tFldC (He.ga K "Evaluation") (tVar 0) "ticks") (tVar 1)) (tFldC (He.ga K "Evaluation") (tVar 0) "fuel"))) (tSq (sFldC (He.ga K "Evaluation") (tVar 0) (tFldC (He.ga K "Evaluation") (tVar 0) "fuel") "ticks")
    (tSq (sFldC (He.ga K "Evaluation") (tVar 0) (tTup (tCons (tC (.str "fuel")) tNil)) "fault")
    (tRet (tC (.bl false))))) tNext)
    (tSq (sFldAugC (He.ga K "Evaluation") (tVar 0) (tVar 1) (uIpI fun i j => i + j) "ticks")
    (tRet (tC (.bl true)))))
abbrev n_Evaluation_spend : List Str := ["self", "count"]
def t_Evaluation_throw (K : PySem.W.Frag) : TS :=
  (tSq (tWhile (uTru K (tFldC (He.ga K "Evaluation") (tVar 0) "tasks")) (tSq (tAsg (tBM0 K "list" (uPop0) (tFldC (He.ga K "Evaluation") (tVar 0) "tasks")) (gTup K 4 (gCons (gName 3) (gCons (gName 4) (gCons (gName 5) (gCons (gName 6) gNil))))))
    (tSq (tIfS (tTest (tOp (uNe K) (tVar 3) (tC (.str "leave")))) tCont tNext)
    (tFor (uIt K (tOp (uIx K) (tVar 4) (tC (.int 4)))) (gName 7) (tIfS (tTest (tOp (uEq K) (tOp (uIx K) (tVar 7) (tC (.int 0))) (tVar 1))) (tSq (tDelK (tFldC (He.ga K "Evaluation") (tVar 0) "results") (tVar 6))
    (tSq (tDrop (tMeth (He.ga K "Evaluation") "plan" (sp_Evaluation_plan K) [] E0 (tVar 0) (tCons (tC (.str "evaluate")) (tCons (tOp (uIx K) (tVar 7) (tC (.int 2))) (tCons (tTup (tCons (tOp (uIx K) (tOp (uIx K) (tVar 7) (tC (.int 1))) (tC (.int 0))) (tCons (tVar 2) (tCons (tVar 5) tNil)))) tNil)))))
    tRetN)) tNext)))))
    (sFldC (He.ga K "Evaluation") (tVar 0) (tTup (tCons (tC (.str "raised")) (tCons (tOp (uIx K) (tOp (uIx K) (tFldC (He.ga K "Evaluation") (tVar 0) "program") (tC (.int 1))) (tVar 1)) (tCons (tVar 2) tNil)))) "fault"))
abbrev n_Evaluation_throw : List Str := ["self", "number", "payload", "name", "expression", "scope", "mark", "arm"]
def t_Evaluation_finish (K : PySem.W.Frag) : TS :=
  (tWhile (tAnd (uTru K (tFldC (He.ga K "Evaluation") (tVar 0) "tasks")) (tTest (tOp (uIsN id) (tFldC (He.ga K "Evaluation") (tVar 0) "fault") (tC .non)))) (tSq (tAsg (tBM0 K "list" (uPop0) (tFldC (He.ga K "Evaluation") (tVar 0) "tasks")) (gTup K 4 (gCons (gName 1) (gCons (gName 2) (gCons (gName 3) (gCons (gName 4) gNil))))))
    (tSq (tAsg (tKGet (dd_TASKS.kv K) (tVar 1)) (gName 5))
    (tDrop (tCallM 5 [(He.ga K "evaluate", sp_evaluate K), (He.ga K "continue_let", sp_continue_let K), (He.ga K "continue_seq", sp_continue_seq K), (He.ga K "continue_if", sp_continue_if K), (He.ga K "continue_case", sp_continue_case K), (He.ga K "leave", sp_leave K), (He.ga K "compute", sp_compute K)] (tCons (tVar 0) (tCons (tVar 2) (tCons (tVar 3) tNil))))))))
abbrev n_Evaluation_finish : List Str := ["self", "name", "expression", "scope", "mark", "action"]
def t_find_variable (K : PySem.W.Frag) : TS :=
  (tSq (tWhile (tTest (tOp (uNe K) (tOp (uIx K) (tVar 0) (tC (.int 0))) (tVar 1))) (tAsg (tOp (uIx K) (tVar 0) (tC (.int 2))) (gName 0)))
    (tRet (tOp (uIx K) (tVar 0) (tC (.int 1)))))
abbrev n_find_variable : List Str := ["scope", "name"]
def t_evaluate (K : PySem.W.Frag) : TS :=
  (tSq (tAsg (tVar 1) (gTup K 5 (gCons (gName 3) (gCons (gName 4) (gCons (gName 5) (gCons (gName 6) (gCons (gName 7) gNil)))))))
    (tIfS (tTest (tOp (uIn K id) (tVar 3) (tTup (tCons (tC (.str "int")) (tCons (tC (.str "bool")) (tCons (tC (.str "unit")) tNil)))))) (tDrop (tBM K "list" (uAppend) (tFldC (He.ga K "Evaluation") (tVar 0) "results") (tCons (tVar 5) tNil))) (tIfS (tTest (tOp (uEq K) (tVar 3) (tC (.str "name")))) (tDrop (tBM K "list" (uAppend) (tFldC (He.ga K "Evaluation") (tVar 0) "results") (tCons (tCall (sp_find_variable K) [] E0 (tCons (tVar 2) (tCons (tVar 5) tNil))) tNil))) (tIfS (tTest (tOp (uEq K) (tVar 3) (tC (.str "fn")))) (tDrop (tBM K "list" (uAppend) (tFldC (He.ga K "Evaluation") (tVar 0) "results") (tCons (tTup (tCons (tOp (uIx K) (tVar 5) (tC (.int 0))) (tCons (tOp (uIx K) (tVar 6) (tC (.int 0))) (tCons (tVar 2) tNil)))) tNil))) (tIfS (tTest (tOp (uIn K id) (tVar 3) (tTup (tCons (tC (.str "let")) (tCons (tC (.str "seq")) (tCons (tC (.str "if")) (tCons (tC (.str "case")) tNil))))))) (tSq (tDrop (tMeth (He.ga K "Evaluation") "plan" (sp_Evaluation_plan K) [] E0 (tVar 0) (tCons (tVar 3) (tCons (tVar 1) (tCons (tVar 2) tNil)))))
    (tDrop (tMeth (He.ga K "Evaluation") "plan" (sp_Evaluation_plan K) [] E0 (tVar 0) (tCons (tC (.str "evaluate")) (tCons (tOp (uIx K) (tVar 6) (tC (.int 0))) (tCons (tVar 2) tNil)))))) (tIfS (tTest (tOp (uEq K) (tVar 3) (tC (.str "handle")))) (tSq (tDrop (tMeth (He.ga K "Evaluation") "plan" (sp_Evaluation_plan K) [] E0 (tVar 0) (tCons (tC (.str "leave")) (tCons (tVar 1) (tCons (tVar 2) tNil)))))
    (tDrop (tMeth (He.ga K "Evaluation") "plan" (sp_Evaluation_plan K) [] E0 (tVar 0) (tCons (tC (.str "evaluate")) (tCons (tOp (uIx K) (tVar 6) (tC (.int 0))) (tCons (tVar 2) tNil)))))) (tSq (tDrop (tMeth (He.ga K "Evaluation") "plan" (sp_Evaluation_plan K) [] E0 (tVar 0) (tCons (tC (.str "compute")) (tCons (tVar 1) (tCons (tVar 2) tNil)))))
    (tFor (RT.iRevA K (tVar 6)) (gName 8) (tDrop (tMeth (He.ga K "Evaluation") "plan" (sp_Evaluation_plan K) [] E0 (tVar 0) (tCons (tC (.str "evaluate")) (tCons (tVar 8) (tCons (tVar 2) tNil)))))))))))))
abbrev n_evaluate : List Str := ["state", "expression", "scope", "op", "kind", "info", "kids", "arms", "kid"]
def t_continue_let (K : PySem.W.Frag) : TS :=
  (tSq (tAsg (tBM0 K "list" (uPop0) (tFldC (He.ga K "Evaluation") (tVar 0) "results")) (gName 3))
    (tDrop (tMeth (He.ga K "Evaluation") "plan" (sp_Evaluation_plan K) [] E0 (tVar 0) (tCons (tC (.str "evaluate")) (tCons (tOp (uIx K) (tOp (uIx K) (tVar 1) (tC (.int 3))) (tC (.int 1))) (tCons (tTup (tCons (tOp (uIx K) (tVar 1) (tC (.int 2))) (tCons (tVar 3) (tCons (tVar 2) tNil)))) tNil))))))
abbrev n_continue_let : List Str := ["state", "expression", "scope", "value"]
def t_continue_seq (K : PySem.W.Frag) : TS :=
  (tSq (tDrop (tBM0 K "list" (uPop0) (tFldC (He.ga K "Evaluation") (tVar 0) "results")))
    (tDrop (tMeth (He.ga K "Evaluation") "plan" (sp_Evaluation_plan K) [] E0 (tVar 0) (tCons (tC (.str "evaluate")) (tCons (tOp (uIx K) (tOp (uIx K) (tVar 1) (tC (.int 3))) (tC (.int 1))) (tCons (tVar 2) tNil))))))
abbrev n_continue_seq : List Str := ["state", "expression", "scope"]
def t_continue_if (K : PySem.W.Frag) : TS :=
  (tIfS (uTru K (tBM0 K "list" (uPop0) (tFldC (He.ga K "Evaluation") (tVar 0) "results"))) (tDrop (tMeth (He.ga K "Evaluation") "plan" (sp_Evaluation_plan K) [] E0 (tVar 0) (tCons (tC (.str "evaluate")) (tCons (tOp (uIx K) (tOp (uIx K) (tVar 1) (tC (.int 3))) (tC (.int 1))) (tCons (tVar 2) tNil))))) (tDrop (tMeth (He.ga K "Evaluation") "plan" (sp_Evaluation_plan K) [] E0 (tVar 0) (tCons (tC (.str "evaluate")) (tCons (tOp (uIx K) (tOp (uIx K) (tVar 1) (tC (.int 3))) (tC (.int 2))) (tCons (tVar 2) tNil))))))
abbrev n_continue_if : List Str := ["state", "expression", "scope"]
def t_continue_case (K : PySem.W.Frag) : TS :=
  (tSq (tAsg (tBM0 K "list" (uPop0) (tFldC (He.ga K "Evaluation") (tVar 0) "results")) (gTup K 2 (gCons (gName 3) (gCons (gName 4) gNil))))
    (tSq (tAsg (tOp (uIx K) (tOp (uIx K) (tVar 1) (tC (.int 4))) (tVar 3)) (gName 5))
    (tSq (tFor (iZipB K (tCons (tOp (uIx K) (tVar 5) (tC (.int 1))) (tCons (tVar 4) tNil))) (gTup K 2 (gCons (gName 6) (gCons (gName 7) gNil))) (tAsg (tTup (tCons (tVar 6) (tCons (tVar 7) (tCons (tVar 2) tNil)))) (gName 2)))
    (tDrop (tMeth (He.ga K "Evaluation") "plan" (sp_Evaluation_plan K) [] E0 (tVar 0) (tCons (tC (.str "evaluate")) (tCons (tOp (uIx K) (tVar 5) (tC (.int 2))) (tCons (tVar 2) tNil))))))))
abbrev n_continue_case : List Str := ["state", "expression", "scope", "number", "fields", "arm", "name", "value"]
def t_leave (K : PySem.W.Frag) : TS :=
  tNext
abbrev n_leave : List Str := ["state", "expression", "scope"]
def t_compute (K : PySem.W.Frag) : TS :=
  (tSq (tAsg (tVar 1) (gTup K 5 (gCons (gName 3) (gCons (gName 4) (gCons (gName 5) (gCons (gName 6) (gCons (gName 7) gNil)))))))
    (tSq (tAsg (tOp (uSub) (tCB (uLen K) (tCons (tFldC (He.ga K "Evaluation") (tVar 0) "results") tNil)) (tCB (uLen K) (tCons (tVar 6) tNil))) (gName 8))
    (tSq (tAsg (tSl (uSl K) (tFldC (He.ga K "Evaluation") (tVar 0) "results") (tPart (tVar 8)) tNoPart) (gName 9))
    (tSq (tDelK (tFldC (He.ga K "Evaluation") (tVar 0) "results") (tVar 8))
    (tIfS (tTest (tOp (uIn K id) (tVar 3) (tTup (tCons (tC (.str "make")) (tCons (tC (.str "tuple")) tNil))))) (tDrop (tBM K "list" (uAppend) (tFldC (He.ga K "Evaluation") (tVar 0) "results") (tCons (tIf (tTest (tOp (uEq K) (tVar 3) (tC (.str "make")))) (tTup (tCons (tVar 5) (tCons (tCB (uTuple K) (tCons (tVar 9) tNil)) tNil))) (tCB (uTuple K) (tCons (tVar 9) tNil))) tNil))) (tIfS (tTest (tOp (uEq K) (tVar 3) (tC (.str "get")))) (tDrop (tBM K "list" (uAppend) (tFldC (He.ga K "Evaluation") (tVar 0) "results") (tCons (tOp (uIx K) (tOp (uIx K) (tVar 9) (tC (.int 0))) (tVar 5)) tNil))) (tIfS (tTest (tOp (uIn K id) (tVar 3) (tTup (tCons (tC (.str "call")) (tCons (tC (.str "apply")) tNil))))) (tDrop (tCall (sp_enter K) [] E0 (tCons (tVar 0) (tCons (tVar 3) (tCons (tVar 5) (tCons (tVar 9) tNil)))))) (tIfS (tTest (tOp (uEq K) (tVar 3) (tC (.str "raise")))) (tDrop (tMeth (He.ga K "Evaluation") "throw" (sp_Evaluation_throw K) [] E0 (tVar 0) (tCons (tVar 5) (tCons (tOp (uIx K) (tVar 9) (tC (.int 0))) tNil)))) (tIfS (tTest (tOp (uEq K) (tVar 3) (tC (.str "print")))) (tSq (tDrop (tBM K "list" (uAppend) (tFldC (He.ga K "Evaluation") (tVar 0) "outs") (tCons (tOp (uIx K) (tVar 9) (tC (.int 0))) tNil)))
    (tDrop (tBM K "list" (uAppend) (tFldC (He.ga K "Evaluation") (tVar 0) "results") (tCons (tC .non) tNil)))) (tIfS (tTest (tOp (uIn K id) (tVar 3) (tTup (tCons (tC (.str "ref")) (tCons (tC (.str "deref")) (tCons (tC (.str "set")) tNil)))))) (tDrop (tCall (sp_compute_ref K) [] E0 (tCons (tVar 0) (tCons (tVar 3) (tCons (tVar 9) tNil))))) (tIfS (tTest (tOp (uIn K id) (tVar 3) (tTup (tCons (tC (.str "array")) (tCons (tC (.str "at")) (tCons (tC (.str "put")) (tCons (tC (.str "len")) tNil))))))) (tDrop (tCall (sp_compute_array K) [] E0 (tCons (tVar 0) (tCons (tVar 3) (tCons (tVar 9) tNil))))) (tIfS (tAnd (tTest (tOp (uIn K id) (tVar 3) (tTup (tCons (tC (.str "div")) (tCons (tC (.str "rem")) tNil))))) (tTest (tOp (uEq K) (tOp (uIx K) (tVar 9) (tC (.int 1))) (tC (.int 0))))) (tDrop (tMeth (He.ga K "Evaluation") "throw" (sp_Evaluation_throw K) [] E0 (tVar 0) (tCons (tC (.int 0)) (tCons (tC (.int 0)) tNil)))) (tDrop (tBM K "list" (uAppend) (tFldC (He.ga K "Evaluation") (tVar 0) "results") (tCons (tCall (sp_calculate K) [] E0 (tCons (tVar 3) (tCons (tOp (uIx K) (tVar 9) (tC (.int 0))) (tCons (tOp (uIx K) (tVar 9) (tC (.int 1))) tNil)))) tNil)))))))))))))))
abbrev n_compute : List Str := ["state", "expression", "scope", "op", "kind", "info", "kids", "arms", "mark", "given"]
def t_enter (K : PySem.W.Frag) : TS :=
  (tSq (tIfS (tNot (uTru K (tMeth (He.ga K "Evaluation") "spend" (sp_Evaluation_spend K) [] E0 (tVar 0) (tCons (tC (.int 1)) tNil)))) tRetN tNext)
    (tSq (tIfS (tTest (tOp (uEq K) (tVar 1) (tC (.str "apply")))) (tSq (tAsg (tOp (uIx K) (tVar 3) (tC (.int 0))) (gTup K 3 (gCons (gName 4) (gCons (gName 5) (gCons (gName 6) gNil)))))
    (tSq (tDrop (tMeth (He.ga K "Evaluation") "plan" (sp_Evaluation_plan K) [] E0 (tVar 0) (tCons (tC (.str "evaluate")) (tCons (tVar 5) (tCons (tTup (tCons (tVar 4) (tCons (tOp (uIx K) (tVar 3) (tC (.int 1))) (tCons (tVar 6) tNil)))) tNil)))))
    tRetN)) tNext)
    (tSq (tAsg (tOp (uIx K) (tOp (uIx K) (tFldC (He.ga K "Evaluation") (tVar 0) "program") (tC (.int 2))) (tVar 2)) (gName 7))
    (tSq (tAsg (tC .non) (gName 6))
    (tSq (tFor (iZipB K (tCons (tOp (uIx K) (tVar 7) (tC (.int 1))) (tCons (tVar 3) tNil))) (gTup K 2 (gCons (gName 8) (gCons (gName 9) gNil))) (tAsg (tTup (tCons (tOp (uIx K) (tVar 8) (tC (.int 0))) (tCons (tVar 9) (tCons (tVar 6) tNil)))) (gName 6)))
    (tDrop (tMeth (He.ga K "Evaluation") "plan" (sp_Evaluation_plan K) [] E0 (tVar 0) (tCons (tC (.str "evaluate")) (tCons (tOp (uIx K) (tVar 7) (tC (.int 3))) (tCons (tVar 6) tNil))))))))))
abbrev n_enter : List Str := ["state", "op", "info", "given", "name", "body", "scope", "function", "parameter", "value"]
def t_compute_ref (K : PySem.W.Frag) : TS :=
  (tIfS (tTest (tOp (uEq K) (tVar 1) (tC (.str "ref")))) (tDrop (tBM K "list" (uAppend) (tFldC (He.ga K "Evaluation") (tVar 0) "results") (tCons (tLst (tCons (tOp (uIx K) (tVar 2) (tC (.int 0))) tNil)) tNil))) (tIfS (tTest (tOp (uEq K) (tVar 1) (tC (.str "deref")))) (tDrop (tBM K "list" (uAppend) (tFldC (He.ga K "Evaluation") (tVar 0) "results") (tCons (tOp (uIx K) (tOp (uIx K) (tVar 2) (tC (.int 0))) (tC (.int 0))) tNil))) (tSq (tAsg (tOp (uIx K) (tVar 2) (tC (.int 1))) (gSub (tOp (uIx K) (tVar 2) (tC (.int 0))) (tC (.int 0)) uSetL))
    (tDrop (tBM K "list" (uAppend) (tFldC (He.ga K "Evaluation") (tVar 0) "results") (tCons (tC .non) tNil))))))
abbrev n_compute_ref : List Str := ["state", "op", "given"]
def t_compute_array (K : PySem.W.Frag) : TS :=
  (tIfS (tTest (tOp (uEq K) (tVar 1) (tC (.str "len")))) (tDrop (tBM K "list" (uAppend) (tFldC (He.ga K "Evaluation") (tVar 0) "results") (tCons (tCB (uLen K) (tCons (tOp (uIx K) (tVar 2) (tC (.int 0))) tNil)) tNil))) (tIfS (tTest (tOp (uEq K) (tVar 1) (tC (.str "array")))) (tSq (tAsg (tOp (uIx K) (tVar 2) (tC (.int 0))) (gName 3))
    (tIfS (tOr (tTest (tOp (uLt) (tVar 3) (tC (.int 0)))) (tTest (tOp (uGt) (tVar 3) (tC (.int 12))))) (tDrop (tMeth (He.ga K "Evaluation") "throw" (sp_Evaluation_throw K) [] E0 (tVar 0) (tCons (tC (.int 2)) (tCons (tVar 3) tNil)))) (tIfS (uTru K (tMeth (He.ga K "Evaluation") "spend" (sp_Evaluation_spend K) [] E0 (tVar 0) (tCons (tVar 3) tNil))) (tDrop (tBM K "list" (uAppend) (tFldC (He.ga K "Evaluation") (tVar 0) "results") (tCons (tOp (uMul) (tLst (tCons (tOp (uIx K) (tVar 2) (tC (.int 1))) tNil)) (tVar 3)) tNil))) tNext))) (tIfS (tOr (tTest (tOp (uLt) (tOp (uIx K) (tVar 2) (tC (.int 1))) (tC (.int 0)))) (tTest (tOp (uGe) (tOp (uIx K) (tVar 2) (tC (.int 1))) (tCB (uLen K) (tCons (tOp (uIx K) (tVar 2) (tC (.int 0))) tNil))))) (tDrop (tMeth (He.ga K "Evaluation") "throw" (sp_Evaluation_throw K) [] E0 (tVar 0) (tCons (tC (.int 1)) (tCons (tOp (uIx K) (tVar 2) (tC (.int 1))) tNil)))) (tIfS (tTest (tOp (uEq K) (tVar 1) (tC (.str "at")))) (tDrop (tBM K "list" (uAppend) (tFldC (He.ga K "Evaluation") (tVar 0) "results") (tCons (tOp (uIx K) (tOp (uIx K) (tVar 2) (tC (.int 0))) (tOp (uIx K) (tVar 2) (tC (.int 1)))) tNil))) (tSq (tAsg (tOp (uIx K) (tVar 2) (tC (.int 2))) (gSub (tOp (uIx K) (tVar 2) (tC (.int 0))) (tOp (uIx K) (tVar 2) (tC (.int 1))) uSetL))
    (tDrop (tBM K "list" (uAppend) (tFldC (He.ga K "Evaluation") (tVar 0) "results") (tCons (tC .non) tNil))))))))
abbrev n_compute_array : List Str := ["state", "op", "given", "count"]
def t_run (K : PySem.W.Frag) : TS :=
  (tSq (tAsg (tOp (uIx K) (tOp (uIx K) (tVar 0) (tC (.int 2))) (tUn uNeg (tC (.int 1)))) (gName 3))
    (tSq (tIfS (tTest (tOp (uNe K) (tCB (uLen K) (tCons (tVar 1) tNil)) (tCB (uLen K) (tCons (tOp (uIx K) (tVar 3) (tC (.int 1))) tNil)))) (tRet (tTup (tCons (tTup (tCons (tC (.str "stuck")) tNil)) (tCons (tC (.int 0)) (tCons (tTup tNil) (tCons (tC (.int 0)) tNil)))))) tNext)
    (tSq (tAsg (tC .non) (gName 4))
    (tSq (tFor (iZipB K (tCons (tOp (uIx K) (tVar 3) (tC (.int 1))) (tCons (tVar 1) tNil))) (gTup K 2 (gCons (gName 5) (gCons (gName 6) gNil))) (tAsg (tTup (tCons (tOp (uIx K) (tVar 5) (tC (.int 0))) (tCons (tCall (sp_wrap K) [] E0 (tCons (tVar 6) tNil)) (tCons (tVar 4) tNil)))) (gName 4)))
    (tSq (tAsg (tMake (He.ga K "Evaluation") (sp_Evaluation___init__ K) [] E0 (tCons (tVar 0) (tCons (tCB (uMax) (tCons (tC (.int 0)) (tCons (tCB (uMin) (tCons (tVar 2) (tCons (tC (.int 200)) tNil))) tNil))) tNil))) (gName 7))
    (tSq (tDrop (tMeth (He.ga K "Evaluation") "plan" (sp_Evaluation_plan K) [] E0 (tVar 7) (tCons (tC (.str "evaluate")) (tCons (tOp (uIx K) (tVar 3) (tC (.int 3))) (tCons (tVar 4) tNil)))))
    (tSq (tDrop (tMeth (He.ga K "Evaluation") "finish" (sp_Evaluation_finish K) [] E0 (tVar 7) tNil))
    (tSq (tAsg (tC (.int 0)) (gName 8))
    (tSq (tIfS (tTest (tOp (uIsN id) (tFldC (He.ga K "Evaluation") (tVar 7) "fault") (tC .non))) (tAsg (tOp (uIx K) (tFldC (He.ga K "Evaluation") (tVar 7) "results") (tC (.int 0))) (gName 8)) tNext)
    (tRet (tTup (tCons (tFldC (He.ga K "Evaluation") (tVar 7) "fault") (tCons (tVar 8) (tCons (tCB (uTuple K) (tCons (tFldC (He.ga K "Evaluation") (tVar 7) "outs") tNil)) (tCons (tFldC (He.ga K "Evaluation") (tVar 7) "ticks") tNil)))))))))))))))
abbrev n_run : List Str := ["program", "arguments", "fuel", "main", "scope", "parameter", "value", "state", "answer"]
def t_l_cell (K : PySem.W.Frag) : TS :=
  (tSq (tIfS (tTest (tOp (uLt) (tVar 1) (tCB (uLen K) (tCons (tVar 0) tNil)))) (tRet (tOp (uIx K) (tVar 0) (tVar 1))) tNext)
    (tRet (tC (.int 0))))
abbrev n_l_cell : List Str := ["_law_script", "_law_at"]
def t_l_whole (K : PySem.W.Frag) : TS :=
  (tRet (tTup (tCons (tC (.str "int")) (tCons (tTup tNil) (tCons (tC (.int 0)) tNil)))))
abbrev n_l_whole : List Str := []
def t_l_int (K : PySem.W.Frag) : TS :=
  (tRet (tTup (tCons (tC (.str "int")) (tCons (tCall (sp_l_whole K) [] E0 tNil) (tCons (tVar 0) (tCons (tTup tNil) (tCons (tTup tNil) tNil)))))))
abbrev n_l_int : List Str := ["_law_value"]
def t_l_name (K : PySem.W.Frag) : TS :=
  (tRet (tTup (tCons (tC (.str "name")) (tCons (tVar 0) (tCons (tVar 1) (tCons (tTup tNil) (tCons (tTup tNil) tNil)))))))
abbrev n_l_name : List Str := ["_law_kind", "_law_name_here"]
def t_l_seq (K : PySem.W.Frag) : TS :=
  (tRet (tTup (tCons (tC (.str "seq")) (tCons (tOp (uIx K) (tVar 1) (tC (.int 1))) (tCons (tC .non) (tCons (tTup (tCons (tVar 0) (tCons (tVar 1) tNil))) (tCons (tTup tNil) tNil)))))))
abbrev n_l_seq : List Str := ["_law_first", "_law_second"]
def t_l_let (K : PySem.W.Frag) : TS :=
  (tRet (tTup (tCons (tC (.str "let")) (tCons (tOp (uIx K) (tVar 2) (tC (.int 1))) (tCons (tVar 0) (tCons (tTup (tCons (tVar 1) (tCons (tVar 2) tNil))) (tCons (tTup tNil) tNil)))))))
abbrev n_l_let : List Str := ["_law_name_here", "_law_value", "_law_body"]
def t_l_deeds (K : PySem.W.Frag) : TS :=
  (tSq (tAsg (tLst tNil) (gName 2))
    (tSq (tFor (uIt K (tVar 0)) (gName 3) (tSq (tAsg (tOp (uMod) (tVar 3) (tC (.int 6))) (gName 4))
    (tSq (tAsg (tOp (uMod) (tOp (uFdiv) (tVar 3) (tC (.int 6))) (tC (.int 4))) (gName 5))
    (tSq (tAsg (tOp (uSub) (tOp (uMod) (tOp (uFdiv) (tVar 3) (tC (.int 24))) (tOp (uAdd K) (tVar 1) (tC (.int 2)))) (tC (.int 1))) (gName 6))
    (tSq (tAsg (tOp (uSub) (tOp (uMod) (tCB (uInt) (tCons (tOp (uFdiv) (tVar 3) (tC (.int 24))) tNil)) (tOp (uPow) (tC (.int 2)) (tC (.int 31)))) (tOp (uPow) (tC (.int 2)) (tC (.int 30)))) (gName 7))
    (tDrop (tBM K "list" (uAppend) (tVar 2) (tCons (tTup (tCons (tVar 4) (tCons (tVar 5) (tCons (tVar 6) (tCons (tVar 7) tNil))))) tNil))))))))
    (tRet (tVar 2))))
abbrev n_l_deeds : List Str := ["_law_cells", "_law_many", "_law_deeds_here", "_law_cell_here", "_law_deed", "_law_which", "_law_index", "_law_value"]
def t_l_print (K : PySem.W.Frag) : TS :=
  (tRet (tTup (tCons (tC (.str "print")) (tCons (tTup (tCons (tC (.str "unit")) (tCons (tTup tNil) (tCons (tC (.int 0)) tNil)))) (tCons (tC .non) (tCons (tTup (tCons (tVar 0) tNil)) (tCons (tTup tNil) tNil)))))))
abbrev n_l_print : List Str := ["_law_kid"]
def t_l_expression (K : PySem.W.Frag) : TS :=
  (tSq (tAsg (tTup (tCons (tC (.str "unit")) (tCons (tTup tNil) (tCons (tC (.int 0)) tNil)))) (gName 1))
    (tSq (tAsg (tCall (sp_l_whole K) [] E0 tNil) (gName 2))
    (tSq (tAsg (tTup (tCons (tC (.str "ref")) (tCons (tTup (tCons (tVar 2) tNil)) (tCons (tC (.int 0)) tNil)))) (gName 3))
    (tSq (tAsg (tTup (tCons (tC (.str "array")) (tCons (tTup (tCons (tVar 2) tNil)) (tCons (tC (.int 0)) tNil)))) (gName 4))
    (tSq (tAsg (tCall (sp_l_name K) [] E0 (tCons (tVar 3) (tCons (tOp (uIx K) (tLst (tCons (tC (.str "a")) (tCons (tC (.str "b")) (tCons (tC (.str "c")) (tCons (tC (.str "d")) tNil))))) (tOp (uIx K) (tVar 0) (tC (.int 1)))) tNil))) (gName 5))
    (tSq (tAsg (tCall (sp_l_name K) [] E0 (tCons (tVar 4) (tCons (tOp (uIx K) (tLst (tCons (tC (.str "v")) (tCons (tC (.str "w")) (tCons (tC (.str "v")) (tCons (tC (.str "w")) tNil))))) (tOp (uIx K) (tVar 0) (tC (.int 1)))) tNil))) (gName 6))
    (tSq (tIfS (tTest (tOp (uEq K) (tOp (uIx K) (tVar 0) (tC (.int 0))) (tC (.int 0)))) (tRet (tTup (tCons (tC (.str "set")) (tCons (tVar 1) (tCons (tC .non) (tCons (tTup (tCons (tVar 5) (tCons (tCall (sp_l_int K) [] E0 (tCons (tOp (uIx K) (tVar 0) (tC (.int 3))) tNil)) tNil))) (tCons (tTup tNil) tNil))))))) tNext)
    (tSq (tIfS (tTest (tOp (uEq K) (tOp (uIx K) (tVar 0) (tC (.int 0))) (tC (.int 1)))) (tRet (tCall (sp_l_print K) [] E0 (tCons (tTup (tCons (tC (.str "deref")) (tCons (tVar 2) (tCons (tC .non) (tCons (tTup (tCons (tVar 5) tNil)) (tCons (tTup tNil) tNil)))))) tNil))) tNext)
    (tSq (tIfS (tTest (tOp (uEq K) (tOp (uIx K) (tVar 0) (tC (.int 0))) (tC (.int 2)))) (tRet (tTup (tCons (tC (.str "put")) (tCons (tVar 1) (tCons (tC .non) (tCons (tTup (tCons (tVar 6) (tCons (tCall (sp_l_int K) [] E0 (tCons (tOp (uIx K) (tVar 0) (tC (.int 2))) tNil)) (tCons (tCall (sp_l_int K) [] E0 (tCons (tOp (uIx K) (tVar 0) (tC (.int 3))) tNil)) tNil)))) (tCons (tTup tNil) tNil))))))) tNext)
    (tSq (tIfS (tTest (tOp (uEq K) (tOp (uIx K) (tVar 0) (tC (.int 0))) (tC (.int 3)))) (tRet (tCall (sp_l_print K) [] E0 (tCons (tTup (tCons (tC (.str "at")) (tCons (tVar 2) (tCons (tC .non) (tCons (tTup (tCons (tVar 6) (tCons (tCall (sp_l_int K) [] E0 (tCons (tOp (uIx K) (tVar 0) (tC (.int 2))) tNil)) tNil))) (tCons (tTup tNil) tNil)))))) tNil))) tNext)
    (tSq (tIfS (tTest (tOp (uEq K) (tOp (uIx K) (tVar 0) (tC (.int 0))) (tC (.int 4)))) (tRet (tCall (sp_l_print K) [] E0 (tCons (tTup (tCons (tC (.str "len")) (tCons (tVar 2) (tCons (tC .non) (tCons (tTup (tCons (tVar 6) tNil)) (tCons (tTup tNil) tNil)))))) tNil))) tNext)
    (tSq (tAsg (tTup (tCons (tC (.str "at")) (tCons (tVar 2) (tCons (tC .non) (tCons (tTup (tCons (tVar 6) (tCons (tCall (sp_l_int K) [] E0 (tCons (tOp (uIx K) (tVar 0) (tC (.int 2))) tNil)) tNil))) (tCons (tTup tNil) tNil)))))) (gName 7))
    (tRet (tTup (tCons (tC (.str "set")) (tCons (tVar 1) (tCons (tC .non) (tCons (tTup (tCons (tVar 5) (tCons (tVar 7) tNil))) (tCons (tTup tNil) tNil)))))))))))))))))))
abbrev n_l_expression : List Str := ["_law_deed", "_law_unit", "_law_whole_here", "_law_ref", "_law_array", "_law_kept", "_law_row", "_law_copied"]
def t_l_program (K : PySem.W.Frag) : TS :=
  (tSq (tAsg (tCall (sp_l_whole K) [] E0 tNil) (gName 3))
    (tSq (tAsg (tTup (tCons (tC (.str "ref")) (tCons (tTup (tCons (tVar 3) tNil)) (tCons (tC (.int 0)) tNil)))) (gName 4))
    (tSq (tAsg (tTup (tCons (tC (.str "array")) (tCons (tTup (tCons (tVar 3) tNil)) (tCons (tC (.int 0)) tNil)))) (gName 5))
    (tSq (tAsg (tLst tNil) (gName 6))
    (tSq (tFor (iRng3 (tCons (tC (.int 0)) (tCons (tCB (uLen K) (tCons (tVar 2) tNil)) (tCons (tC (.int 8)) tNil)))) (gName 7) (tSq (tAsg (tCall (sp_l_expression K) [] E0 (tCons (tOp (uIx K) (tVar 2) (tVar 7)) tNil)) (gName 8))
    (tSq (tFor (uIt K (tSl (uSl K) (tVar 2) (tPart (tOp (uAdd K) (tVar 7) (tC (.int 1)))) (tPart (tOp (uAdd K) (tVar 7) (tC (.int 8)))))) (gName 9) (tAsg (tCall (sp_l_seq K) [] E0 (tCons (tVar 8) (tCons (tCall (sp_l_expression K) [] E0 (tCons (tVar 9) tNil)) tNil))) (gName 8)))
    (tDrop (tBM K "list" (uAppend) (tVar 6) (tCons (tVar 8) tNil))))))
    (tSq (tAsg (tTup (tCons (tC (.str "deref")) (tCons (tVar 3) (tCons (tC .non) (tCons (tTup (tCons (tCall (sp_l_name K) [] E0 (tCons (tVar 4) (tCons (tC (.str "c")) tNil))) tNil)) (tCons (tTup tNil) tNil)))))) (gName 10))
    (tSq (tAsg (tLst tNil) (gName 11))
    (tSq (tAsg (tTup (tCons (tTup (tCons (tC (.str "a")) (tCons (tVar 4) tNil))) (tCons (tTup (tCons (tC (.str "b")) (tCons (tVar 4) tNil))) (tCons (tTup (tCons (tC (.str "c")) (tCons (tVar 4) tNil))) (tCons (tTup (tCons (tC (.str "d")) (tCons (tVar 4) tNil))) (tCons (tTup (tCons (tC (.str "v")) (tCons (tVar 5) tNil))) (tCons (tTup (tCons (tC (.str "w")) (tCons (tVar 5) tNil))) tNil))))))) (gName 12))
    (tSq (tAsg (tCB (uTuple K) (tCons (tLc (uIt K (tVar 12)) (gName 15) tYes (tCall (sp_l_name K) [] E0 (tCons (tOp (uIx K) (tVar 15) (tC (.int 1))) (tCons (tOp (uIx K) (tVar 15) (tC (.int 0))) tNil))) [15]) tNil)) (gName 13))
    (tSq (tFor (uIt K (tVar 6)) (gName 8) (tSq (tIfS (uTru K (tVar 11)) (tSq (tAsg (tTup (tCons (tC (.str "call")) (tCons (tTup (tCons (tC (.str "unit")) (tCons (tTup tNil) (tCons (tC (.int 0)) tNil)))) (tCons (tOp (uSub) (tCB (uLen K) (tCons (tVar 11) tNil)) (tC (.int 1))) (tCons (tVar 13) (tCons (tTup tNil) tNil)))))) (gName 14))
    (tAsg (tCall (sp_l_seq K) [] E0 (tCons (tVar 14) (tCons (tVar 8) tNil))) (gName 8))) tNext)
    (tDrop (tBM K "list" (uAppend) (tVar 11) (tCons (tTup (tCons (tOp (uAdd K) (tC (.str "part")) (tCB (uStr) (tCons (tCB (uLen K) (tCons (tVar 11) tNil)) tNil))) (tCons (tVar 12) (tCons (tTup (tCons (tC (.str "unit")) (tCons (tTup tNil) (tCons (tC (.int 0)) tNil)))) (tCons (tVar 8) tNil))))) tNil)))))
    (tSq (tIfS (uTru K (tVar 11)) (tAsg (tCall (sp_l_seq K) [] E0 (tCons (tTup (tCons (tC (.str "call")) (tCons (tTup (tCons (tC (.str "unit")) (tCons (tTup tNil) (tCons (tC (.int 0)) tNil)))) (tCons (tOp (uSub) (tCB (uLen K) (tCons (tVar 11) tNil)) (tC (.int 1))) (tCons (tVar 13) (tCons (tTup tNil) tNil)))))) (tCons (tVar 10) tNil))) (gName 10)) tNext)
    (tSq (tAsg (tCall (sp_l_let K) [] E0 (tCons (tC (.str "w")) (tCons (tCall (sp_l_name K) [] E0 (tCons (tVar 5) (tCons (tC (.str "v")) tNil))) (tCons (tVar 10) tNil)))) (gName 10))
    (tSq (tAsg (tCall (sp_l_let K) [] E0 (tCons (tC (.str "v")) (tCons (tTup (tCons (tC (.str "array")) (tCons (tVar 5) (tCons (tC .non) (tCons (tTup (tCons (tCall (sp_l_int K) [] E0 (tCons (tVar 0) tNil)) (tCons (tCall (sp_l_int K) [] E0 (tCons (tVar 1) tNil)) tNil))) (tCons (tTup tNil) tNil)))))) (tCons (tVar 10) tNil)))) (gName 10))
    (tSq (tAsg (tCall (sp_l_let K) [] E0 (tCons (tC (.str "d")) (tCons (tCall (sp_l_name K) [] E0 (tCons (tVar 4) (tCons (tC (.str "b")) tNil))) (tCons (tVar 10) tNil)))) (gName 10))
    (tSq (tAsg (tCall (sp_l_let K) [] E0 (tCons (tC (.str "c")) (tCons (tCall (sp_l_name K) [] E0 (tCons (tVar 4) (tCons (tC (.str "a")) tNil))) (tCons (tVar 10) tNil)))) (gName 10))
    (tSq (tAsg (tCall (sp_l_let K) [] E0 (tCons (tC (.str "b")) (tCons (tTup (tCons (tC (.str "ref")) (tCons (tVar 4) (tCons (tC .non) (tCons (tTup (tCons (tCall (sp_l_int K) [] E0 (tCons (tOp (uAdd K) (tVar 1) (tC (.int 1))) tNil)) tNil)) (tCons (tTup tNil) tNil)))))) (tCons (tVar 10) tNil)))) (gName 10))
    (tSq (tAsg (tCall (sp_l_let K) [] E0 (tCons (tC (.str "a")) (tCons (tTup (tCons (tC (.str "ref")) (tCons (tVar 4) (tCons (tC .non) (tCons (tTup (tCons (tCall (sp_l_int K) [] E0 (tCons (tVar 1) tNil)) tNil)) (tCons (tTup tNil) tNil)))))) (tCons (tVar 10) tNil)))) (gName 10))
    (tRet (tTup (tCons (tTup tNil) (tCons (tTup (tCons (tC (.str "Div")) (tCons (tC (.str "Index")) (tCons (tC (.str "Size")) tNil)))) (tCons (tCB (uTuple K) (tCons (tOp (uAdd K) (tVar 11) (tLst (tCons (tTup (tCons (tC (.str "main")) (tCons (tTup tNil) (tCons (tVar 3) (tCons (tVar 10) tNil))))) tNil))) tNil)) tNil))))))))))))))))))))))
abbrev n_l_program : List Str := ["_law_many", "_law_start", "_law_deeds_here", "_law_whole_here", "_law_ref", "_law_array", "_law_groups", "_law_at", "_law_group", "_law_deed", "_law_body", "_law_functions", "_law_kinds", "_law_names", "_law_call", "_law_row"]
def t_l_due (K : PySem.W.Frag) : TS :=
  (tSq (tAsg (tOp (uAdd K) (tVar 0) (tOp (uFdiv) (tOp (uAdd K) (tCB (uLen K) (tCons (tVar 2) tNil)) (tC (.int 7))) (tC (.int 8)))) (gName 4))
    (tSq (tIfS (tTest (tOp (uLt) (tVar 3) (tVar 4))) (tRet (tTup (tCons (tTup (tCons (tC (.str "fuel")) tNil)) (tCons (tC (.int 0)) (tCons (tTup tNil) (tCons (tVar 3) tNil)))))) tNext)
    (tSq (tAsg (tLst (tCons (tVar 1) (tCons (tOp (uAdd K) (tVar 1) (tC (.int 1))) tNil))) (gName 5))
    (tSq (tAsg (tLc (iRng1 (tCons (tVar 0) tNil)) (gName 12) tYes (tVar 1) [12]) (gName 6))
    (tSq (tAsg (tLst tNil) (gName 7))
    (tSq (tFor (uIt K (tVar 2)) (gTup K 4 (gCons (gName 8) (gCons (gName 9) (gCons (gName 10) (gCons (gName 11) gNil))))) (tSq (tIfS (tAnd (tTest (tOp (uIn K id) (tVar 8) (tTup (tCons (tC (.int 2)) (tCons (tC (.int 3)) (tCons (tC (.int 5)) tNil)))))) (tOr (tTest (tOp (uLt) (tVar 10) (tC (.int 0)))) (tTest (tOp (uGe) (tVar 10) (tVar 0))))) (tRet (tTup (tCons (tTup (tCons (tC (.str "raised")) (tCons (tC (.str "Index")) (tCons (tVar 10) tNil)))) (tCons (tC (.int 0)) (tCons (tCB (uTuple K) (tCons (tVar 7) tNil)) (tCons (tVar 4) tNil)))))) tNext)
    (tIfS (tTest (tOp (uEq K) (tVar 8) (tC (.int 0)))) (tAsg (tVar 11) (gSub (tVar 5) (tOp (uMod) (tVar 9) (tC (.int 2))) uSetL)) (tIfS (tTest (tOp (uEq K) (tVar 8) (tC (.int 1)))) (tDrop (tBM K "list" (uAppend) (tVar 7) (tCons (tOp (uIx K) (tVar 5) (tOp (uMod) (tVar 9) (tC (.int 2)))) tNil))) (tIfS (tTest (tOp (uEq K) (tVar 8) (tC (.int 2)))) (tAsg (tVar 11) (gSub (tVar 6) (tVar 10) uSetL)) (tIfS (tTest (tOp (uEq K) (tVar 8) (tC (.int 3)))) (tDrop (tBM K "list" (uAppend) (tVar 7) (tCons (tOp (uIx K) (tVar 6) (tVar 10)) tNil))) (tIfS (tTest (tOp (uEq K) (tVar 8) (tC (.int 4)))) (tDrop (tBM K "list" (uAppend) (tVar 7) (tCons (tVar 0) tNil))) (tAsg (tOp (uIx K) (tVar 6) (tVar 10)) (gSub (tVar 5) (tOp (uMod) (tVar 9) (tC (.int 2))) uSetL)))))))))
    (tRet (tTup (tCons (tC .non) (tCons (tOp (uIx K) (tVar 5) (tC (.int 0))) (tCons (tCB (uTuple K) (tCons (tVar 7) tNil)) (tCons (tVar 4) tNil))))))))))))
abbrev n_l_due : List Str := ["_law_many", "_law_start", "_law_deeds_here", "_law_limit", "_law_ticks", "_law_kept", "_law_row", "_law_outs", "_law_deed", "_law_which", "_law_index", "_law_value", "_law_k"]
def t_law (K : PySem.W.Frag) : TS :=
  (tSq (tAsg (tCall (sp_l_cell K) [] E0 (tCons (tVar 0) (tCons (tC (.int 0)) tNil))) (gName 1))
    (tSq (tAsg (tOp (uMod) (tVar 1) (tC (.int 13))) (gName 2))
    (tSq (tAsg (tOp (uMod) (tOp (uFdiv) (tVar 1) (tC (.int 13))) (tOp (uPow) (tC (.int 2)) (tC (.int 30)))) (gName 3))
    (tSq (tAsg (tCall (sp_l_deeds K) [] E0 (tCons (tSl (uSl K) (tVar 0) (tPart (tC (.int 1))) (tPart (tC (.int 41)))) (tCons (tVar 2) tNil))) (gName 4))
    (tSq (tAsg (tOp (uAdd K) (tVar 2) (tOp (uFdiv) (tOp (uAdd K) (tCB (uLen K) (tCons (tVar 4) tNil)) (tC (.int 7))) (tC (.int 8)))) (gName 5))
    (tSq (tIfS (tTest (tOp (uEq K) (tOp (uMod) (tOp (uFdiv) (tOp (uFdiv) (tVar 1) (tC (.int 13))) (tOp (uPow) (tC (.int 2)) (tC (.int 30)))) (tC (.int 4))) (tC (.int 1)))) (tAsg (tOp (uMod) (tOp (uFdiv) (tOp (uFdiv) (tVar 1) (tC (.int 13))) (tOp (uPow) (tC (.int 2)) (tC (.int 32)))) (tOp (uAdd K) (tVar 5) (tC (.int 1)))) (gName 5)) tNext)
    (tSq (tAsg (tCall (sp_l_program K) [] E0 (tCons (tVar 2) (tCons (tVar 3) (tCons (tVar 4) tNil)))) (gName 6))
    (tSq (tAsg (tCallN 2 1 (sp_run K) (fun vs zs => vs ++ zs) E0 (tCons (tVar 6) (tCons (tLst tNil) tNil)) (tCons (tVar 5) tNil)) (gName 7))
    (tSq (tIfS (tOr (tNot (uTru K (tCB (uIsi K) (tCons (tVar 7) (tCons (tC (.ty "tuple")) tNil))))) (tOr (tTest (tOp (uNe K) (tCB (uLen K) (tCons (tVar 7) tNil)) (tC (.int 4)))) (uTru K (tCB (uIsi K) (tCons (tOp (uIx K) (tVar 7) (tC (.int 1))) (tCons (tC (.ty "bool")) tNil)))))) (tRet (tC (.bl false))) tNext)
    (tSq (tAsg (tCall (sp_l_due K) [] E0 (tCons (tVar 2) (tCons (tVar 3) (tCons (tVar 4) (tCons (tVar 5) tNil))))) (gName 8))
    (tRet (tAndV (tOp (uEq K) (tVar 7) (tVar 8)) (tOp (uEq K) (tCallN 2 1 (sp_run K) (fun vs zs => vs ++ zs) E0 (tCons (tVar 6) (tCons (tTup tNil) tNil)) (tCons (tVar 5) tNil)) (tVar 8))))))))))))))
abbrev n_law : List Str := ["_law_script", "_law_head", "_law_many", "_law_start", "_law_deeds_here", "_law_limit", "_law_program_here", "_law_actual", "_law_due_here"]
section
variable {K : PySem.W.Frag} {H H' H2 : Hp} {ls ls' : List Addr} {L L' Lz : PL} {pd : D} {fu : Nat} {z z' : PS}
theorem Gr.refl : Gr ls ls := fun _ _ h => h
theorem Gr.app {N : List Addr} : Gr ls (ls ++ N) := fun i a h => by
  rw [List.getElem?_append_left (List.getElem?_eq_some_iff.mp h).1]; exact h
mutual
theorem Tv.k (k : Tk K H H') (g : Gr ls ls') : ∀ {v : V} {x : Vl}, Tv K ls H v x → Tv K ls' H' v x
  | _, _, .non => .non
  | _, _, .bl b => .bl b
  | _, _, .int b => .int b
  | _, _, .str b => .str b
  | _, _, .tup s t => .tup (k _ _ s) (TvL.k k g t)
  | _, _, .loc h => .loc (g _ _ h)
theorem TvL.k (k : Tk K H H') (g : Gr ls ls') : ∀ {vs : List V} {xs : List Vl}, TvL K ls H vs xs → TvL K ls' H' vs xs
  | _, _, .nil => .nil
  | _, _, .cons h t => .cons (Tv.k k g h) (TvL.k k g t)
end
mutual
theorem Td.tv : ∀ {v : V} {d : D}, Td K H v d → Tv K ls H v d.vl
  | _, _, .non => .non
  | _, _, .bl b => .bl b
  | _, _, .int b => .int b
  | _, _, .str b => .str b
  | _, _, .tup s t => .tup s (TdL.tv t)
theorem TdL.tv : ∀ {vs : List V} {ds : List D}, TdL K H vs ds → TvL K ls H vs (D.vlL ds)
  | _, _, .nil => .nil
  | _, _, .cons h t => .cons (Td.tv h) (TdL.tv t)
end
mutual
theorem Tv.td : ∀ {d : D} {v : V}, Tv K ls H v d.vl → Td K H v d
  | .non, _, h => by cases h; exact .non
  | .bl _, _, h => by cases h; exact .bl _
  | .int _, _, h => by cases h; exact .int _
  | .str _, _, h => by cases h; exact .str _
  | .tup ds, _, h => by
    cases h with
    | tup s t => exact .tup s (TvL.td t)
theorem TvL.td : ∀ {ds : List D} {vs : List V}, TvL K ls H vs (D.vlL ds) → TdL K H vs ds
  | [], _, h => by cases h; exact .nil
  | d :: ds, _, h => by
    cases h with
    | cons h t => exact .cons (Tv.td h) (TvL.td t)
end
theorem TvL.len : ∀ {vs : List V} {xs : List Vl}, TvL K ls H vs xs → vs.length = xs.length
  | _, _, .nil => rfl
  | _, _, .cons _ t => by simp [TvL.len t]
theorem TvL.append : ∀ {vs ws : List V} {xs ys : List Vl}, TvL K ls H vs xs → TvL K ls H ws ys → TvL K ls H (vs ++ ws) (xs ++ ys)
  | _, _, _, _, .nil, b => b
  | _, _, _, _, .cons h t, b => .cons h (TvL.append t b)
theorem TvL.one {v : V} {x : Vl} (h : Tv K ls H v x) : TvL K ls H [v] [x] := .cons h .nil
theorem TvL.appI : ∀ {xs : List Vl} {vs : List V} {ys : List Vl}, TvL K ls H vs (xs ++ ys) → ∃ us ws, vs = us ++ ws ∧ TvL K ls H us xs ∧ TvL K ls H ws ys
  | [], vs, ys, h => ⟨[], vs, rfl, .nil, h⟩
  | x :: xs, _, ys, .cons h t => by
    obtain ⟨us, ws, rfl, t1, t2⟩ := TvL.appI t
    exact ⟨_ :: us, ws, rfl, .cons h t1, t2⟩
theorem TvL.snocI {vs : List V} {xs : List Vl} {x : Vl} (h : TvL K ls H vs (xs ++ [x])) : ∃ us y, vs = us ++ [y] ∧ TvL K ls H us xs ∧ Tv K ls H y x := by
  obtain ⟨us, ws, rfl, t1, t2⟩ := TvL.appI h
  cases t2 with
  | cons a t => cases t; exact ⟨us, _, rfl, t1, a⟩
theorem TvL.get : ∀ {vs : List V} {xs : List Vl} {i : Nat} {x : Vl}, TvL K ls H vs xs → xs[i]? = some x → ∃ v, vs[i]? = some v ∧ Tv K ls H v x
  | _, _, i, _, .nil, h => by simp at h
  | _, _, 0, _, .cons h t, e => by simp at e; subst e; exact ⟨_, rfl, h⟩
  | _, _, i + 1, _, .cons h t, e => by
    obtain ⟨d, h1, h2⟩ := TvL.get (i := i) t (by simpa using e)
    exact ⟨d, by simpa using h1, h2⟩
theorem TvL.set : ∀ {vs : List V} {xs : List Vl} {v : V} {x : Vl} (i : Nat), TvL K ls H vs xs → Tv K ls H v x → TvL K ls H (vs.set i v) (xs.set i x)
  | _, _, _, _, _, .nil, _ => .nil
  | _, _, _, _, 0, .cons h t, e => .cons e t
  | _, _, _, _, i + 1, .cons h t, e => .cons h (TvL.set i t e)
theorem TvL.rep {v : V} {x : Vl} (h : Tv K ls H v x) : ∀ n : Nat, TvL K ls H (List.replicate n v) (List.replicate n x)
  | 0 => .nil
  | n + 1 => .cons h (TvL.rep h n)
theorem TvL.take : ∀ {vs : List V} {xs : List Vl} (n : Nat), TvL K ls H vs xs → TvL K ls H (vs.take n) (xs.take n)
  | _, _, 0, _ => by rw [List.take_zero, List.take_zero]; exact .nil
  | _, _, n + 1, .nil => .nil
  | _, _, n + 1, .cons h t => .cons h (TvL.take n t)
theorem Tv.inv {v : V} {xs : List Vl} (h : Tv K ls H v (.tup xs)) : ∃ a vs, v = .ref a ∧ SqT K H a vs ∧ TvL K ls H vs xs := by
  cases h with
  | tup s t => exact ⟨_, _, rfl, s, t⟩
theorem Tv.invL {v : V} {i : Nat} (h : Tv K ls H v (.loc i)) : ∃ a, v = .ref a ∧ ls[i]? = some a := by
  cases h with
  | loc s => exact ⟨_, rfl, s⟩
theorem Tv.invI {v : V} {i : Int} (h : Tv K ls H v (.int i)) : v = .int i := by cases h; rfl
theorem Tv.invB {v : V} {i : Bool} (h : Tv K ls H v (.bl i)) : v = .bl i := by cases h; rfl
theorem Tv.invS {v : V} {i : Str} (h : Tv K ls H v (.str i)) : v = .str i := by cases h; rfl
theorem Tv.invN {v : V} (h : Tv K ls H v .non) : v = .non := by cases h; rfl
theorem Tv.lay {a : Addr} {vs : List V} {xs : List Vl} (ha : H a = none) (t : TvL K ls H vs xs) : ∃ H', upd H a (.tup vs) = H' ∧ Same H H' ∧ Tv K ls H' (.ref a) (.tup xs) :=
  ⟨_, rfl, same_new ha, .tup (SqT.of upd_same) (t.k (Same.tk (same_new ha)) Gr.refl)⟩
theorem r_ixV {Q : VK} {v : V} {xs : List Vl} {x : Vl} {k : Nat} (h : Tv K ls H v (.tup xs)) (e : xs[k]? = some x) (q : ∀ u, Tv K ls H u x → Q u H) : uIx K v (.int (k : Int)) H Q := by
  obtain ⟨a, vs, rfl, h1, h2⟩ := h.inv
  obtain ⟨u, h3, h4⟩ := h2.get e
  exact ⟨vs, u, .inr h1, atI_nat h3, q u h4⟩
theorem r_gV2 {σ : L2.St} {v : V} {a b : Vl} {i j : Nat} {R : L2.St → Hp → Prop} (h : Tv K ls H v (.tup [a, b])) (q : ∀ x y, Tv K ls H x a → Tv K ls H y b → R ((σ.set i (some x)).set j (some y)) H) :
    gTup K 2 (gCons (gName i) (gCons (gName j) gNil)) v σ H R := by
  obtain ⟨p, vs, rfl, s, t⟩ := h.inv
  cases t with
  | cons h1 t => cases t with
    | cons h2 t =>
      cases t
      exact ⟨p, _, rfl, s, rfl, _, _, rfl, _, _, rfl, rfl, q _ _ h1 h2⟩
theorem r_gV3 {σ : L2.St} {v : V} {a b c : Vl} {i j k : Nat} {R : L2.St → Hp → Prop} (h : Tv K ls H v (.tup [a, b, c])) (q : ∀ x y z, Tv K ls H x a → Tv K ls H y b → Tv K ls H z c → R (((σ.set i (some x)).set j (some y)).set k (some z)) H) :
    gTup K 3 (gCons (gName i) (gCons (gName j) (gCons (gName k) gNil))) v σ H R := by
  obtain ⟨p, vs, rfl, s, t⟩ := h.inv
  cases t with
  | cons h1 t => cases t with
    | cons h2 t => cases t with
      | cons h3 t =>
        cases t
        exact ⟨p, _, rfl, s, rfl, _, _, rfl, _, _, rfl, _, _, rfl, rfl, q _ _ _ h1 h2 h3⟩
theorem r_gV4 {σ : L2.St} {v : V} {a b c d : Vl} {i j k m : Nat} {R : L2.St → Hp → Prop} (h : Tv K ls H v (.tup [a, b, c, d])) (q : ∀ x y z u, Tv K ls H x a → Tv K ls H y b → Tv K ls H z c → Tv K ls H u d → R ((((σ.set i (some x)).set j (some y)).set k (some z)).set m (some u)) H) :
    gTup K 4 (gCons (gName i) (gCons (gName j) (gCons (gName k) (gCons (gName m) gNil)))) v σ H R := by
  obtain ⟨p, vs, rfl, s, t⟩ := h.inv
  cases t with
  | cons h1 t => cases t with
    | cons h2 t => cases t with
      | cons h3 t => cases t with
        | cons h4 t =>
          cases t
          exact ⟨p, _, rfl, s, rfl, _, _, rfl, _, _, rfl, _, _, rfl, _, _, rfl, rfl, q _ _ _ _ h1 h2 h3 h4⟩
theorem r_gT5 {σ : L2.St} {v : V} {a b c d e : D} {i j k m o : Nat} {R : L2.St → Hp → Prop} (h : Td K H v (.tup [a, b, c, d, e])) (q : ∀ x y z u w, Td K H x a → Td K H y b → Td K H z c → Td K H u d → Td K H w e → R (((((σ.set i (some x)).set j (some y)).set k (some z)).set m (some u)).set o (some w)) H) :
    gTup K 5 (gCons (gName i) (gCons (gName j) (gCons (gName k) (gCons (gName m) (gCons (gName o) gNil))))) v σ H R := by
  obtain ⟨p, vs, rfl, s, t⟩ := h.inv
  cases t with
  | cons h1 t => cases t with
    | cons h2 t => cases t with
      | cons h3 t => cases t with
        | cons h4 t => cases t with
          | cons h5 t =>
            cases t
            exact ⟨p, _, rfl, s, rfl, _, _, rfl, _, _, rfl, _, _, rfl, _, _, rfl, _, _, rfl, rfl, q _ _ _ _ _ h1 h2 h3 h4 h5⟩
theorem r_truL {p : Addr} {xs : List V} {P : Bool → Prop} (hp : SqL K H p xs) (h : P (!xs.isEmpty)) : ∃ k, TruV K (.ref p) H k ∧ P k := ⟨_, .inl ⟨xs, hp, rfl⟩, h⟩
theorem lay_set {H1 : Hp} {s : Addr} {o : HO} : ∃ H2, upd H1 s o = H2 ∧ H2 s = some o ∧ ∀ x, x ≠ s → H2 x = H1 x := ⟨_, rfl, upd_same, fun x h => upd_ne h⟩
theorem Nt.ins {u C dx : Addr} {fs : List (Str × V)} (h : H u = some (.ins C dx fs)) : Nt H u := ⟨fun xs e => by rw [h] at e; (cases e), fun ob xs e => by rw [h] at e; (cases e)⟩
/-! frames -/
theorem PFr.refl : PFr L L H H := ⟨FrN.refl, ⟨[], by simp, fun x h => by simp at h⟩, fun x o h => ⟨o, h⟩⟩
theorem PFr.trans (a : PFr L L' H H') (b : PFr L' Lz H' H2) : PFr L Lz H H2 := by
  obtain ⟨N, e, hn⟩ := a.ex
  obtain ⟨M, e2, hm⟩ := b.ex
  subst e
  refine ⟨fun c x hc h => ?_, ⟨N ++ M, ?_, fun x hx => ?_⟩, fun x o h => ?_⟩
  · have h1 := a.fr c x hc h
    refine b.fr c x (fun m => ?_) h1
    have hc2 : c ∉ N := fun m => by rw [hn c m] at h; cases h
    simp only [PL.all, List.mem_cons, List.mem_append, not_or] at m hc
    rcases m with m | m | m | m | m | m
    · exact hc.1 m
    · exact hc.2.1 m
    · exact hc.2.2.1 m
    · exact hc.2.2.2.1 m
    · exact hc.2.2.2.2 m
    · exact hc2 m
  · rw [e2]
    simp
  · rcases List.mem_append.mp hx with h | h
    · exact hn x h
    · cases e : H x with
      | none => rfl
      | some o =>
        obtain ⟨o', e'⟩ := a.up x o e
        rw [hm x h] at e'
        cases e'
  · obtain ⟨o1, h1⟩ := a.up x o h
    exact b.up x o1 h1
theorem PFr.same (s : Same H H') : PFr L L H H' := ⟨FrN.same s, ⟨[], by simp, fun x h => by simp at h⟩, fun x o h => ⟨o, s x o h⟩⟩
theorem PFr.upd {a : Addr} {o : HO} (h : a ∈ L.all) : PFr L L H (upd H a o) := ⟨FrN.self FrN.refl h, ⟨[], by simp, fun x h => by simp at h⟩, fun x o' hx => by
  by_cases e : x = a
  · exact ⟨o, by rw [e]; exact upd_same⟩
  · exact ⟨o', by rw [upd_ne e]; exact hx⟩⟩
theorem PFr.gr (a : PFr L L' H H') : Gr L.ls L'.ls := by
  obtain ⟨N, e, _⟩ := a.ex
  subst e
  exact Gr.app
/-! the state -/
theorem Ev.nt (e : Ev K H L pd fu z) : ∀ a ∈ L.all, Nt H a := by
  obtain ⟨⟨dx, pv, fv, h1, _⟩, ⟨tv, h2, _⟩, ⟨rv, h3, _⟩, ⟨ov, h4, _⟩, ce, _⟩ := e
  intro a ha
  simp only [PL.all, List.mem_cons] at ha
  rcases ha with rfl | rfl | rfl | rfl | ha
  · exact Nt.ins h1
  · exact Nt.lst h2
  · exact Nt.lst h3
  · exact Nt.lst h4
  · obtain ⟨i, hi⟩ := List.getElem?_of_mem ha
    obtain ⟨us, xs, _, h, _⟩ := ce i a hi
    exact Nt.lst h
theorem Ev.fr (e : Ev K H L pd fu z) (f : PFr L L' H H') : Tk K H H' := f.fr.tk e.nt
theorem Ev.tk1 {a : Addr} {o : HO} (e : Ev K H L pd fu z) (ha : a ∈ L.all) : Tk K H (upd H a o) := (FrN.self FrN.refl ha).tk e.nt
theorem Ev.same (e : Ev K H L pd fu z) (sm : Same H H') : Ev K H' L pd fu z := by
  obtain ⟨⟨dx, pv, fv, h1, p1, p2⟩, ⟨tv, h2, p3⟩, ⟨rv, h3, p4⟩, ⟨ov, h4, p5⟩, ce, ln, ne, nc, nj⟩ := e
  have k := Same.tk (K := K) sm
  exact ⟨⟨dx, pv, fv, sm _ _ h1, p1.k k, p2.k k Gr.refl⟩, ⟨tv, sm _ _ h2, p3.k k Gr.refl⟩, ⟨rv, sm _ _ h3, p4.k k Gr.refl⟩, ⟨ov, sm _ _ h4, p5.k k Gr.refl⟩, fun i a h => by
    obtain ⟨us, xs, h5, h6, h7⟩ := ce i a h
    exact ⟨us, xs, h5, sm _ _ h6, h7.k k Gr.refl⟩, ln, ne, nc, nj⟩
theorem Ev.fld {P : V → Prop} {f : Str} (e : Ev K H L pd fu z) (q : ∀ dx pv fv, H L.s = some (.ins (He.ga K "Evaluation") dx (EvF L pv fv fu z.tk)) → Td K H pv pd → Tv K L.ls H fv z.fl → ∃ v, (EvF L pv fv fu z.tk).lookup f = some v ∧ P v) : ∃ a dx fs v, V.ref L.s = .ref a ∧ H a = some (.ins (He.ga K "Evaluation") dx fs) ∧ fs.lookup f = some v ∧ P v := by
  obtain ⟨⟨dx, pv, fv, h1, p1, p2⟩, _⟩ := e
  obtain ⟨v, h, p⟩ := q dx pv fv h1 p1 p2
  exact ⟨L.s, dx, _, v, rfl, h1, h, p⟩
theorem Ev.fT {P : V → Prop} (e : Ev K H L pd fu z) (q : P (.ref L.tA)) : ∃ a dx fs v, V.ref L.s = .ref a ∧ H a = some (.ins (He.ga K "Evaluation") dx fs) ∧ fs.lookup ("tasks" : Str) = some v ∧ P v := e.fld fun dx pv fv _ _ _ => ⟨_, rfl, q⟩
theorem Ev.fR {P : V → Prop} (e : Ev K H L pd fu z) (q : P (.ref L.rA)) : ∃ a dx fs v, V.ref L.s = .ref a ∧ H a = some (.ins (He.ga K "Evaluation") dx fs) ∧ fs.lookup ("results" : Str) = some v ∧ P v := e.fld fun dx pv fv _ _ _ => ⟨_, rfl, q⟩
theorem Ev.fO {P : V → Prop} (e : Ev K H L pd fu z) (q : P (.ref L.oA)) : ∃ a dx fs v, V.ref L.s = .ref a ∧ H a = some (.ins (He.ga K "Evaluation") dx fs) ∧ fs.lookup ("outs" : Str) = some v ∧ P v := e.fld fun dx pv fv _ _ _ => ⟨_, rfl, q⟩
theorem Ev.fK {P : V → Prop} (e : Ev K H L pd fu z) (q : P (.int (z.tk : Nat))) : ∃ a dx fs v, V.ref L.s = .ref a ∧ H a = some (.ins (He.ga K "Evaluation") dx fs) ∧ fs.lookup ("ticks" : Str) = some v ∧ P v := e.fld fun dx pv fv _ _ _ => ⟨_, rfl, q⟩
theorem Ev.fFu {P : V → Prop} (e : Ev K H L pd fu z) (q : P (.int (fu : Nat))) : ∃ a dx fs v, V.ref L.s = .ref a ∧ H a = some (.ins (He.ga K "Evaluation") dx fs) ∧ fs.lookup ("fuel" : Str) = some v ∧ P v := e.fld fun dx pv fv _ _ _ => ⟨_, rfl, q⟩
theorem Ev.fF {P : V → Prop} (e : Ev K H L pd fu z) (q : ∀ v, Tv K L.ls H v z.fl → P v) : ∃ a dx fs v, V.ref L.s = .ref a ∧ H a = some (.ins (He.ga K "Evaluation") dx fs) ∧ fs.lookup ("fault" : Str) = some v ∧ P v := e.fld fun dx pv fv _ _ h => ⟨_, rfl, q _ h⟩
theorem Ev.fP {P : V → Prop} (e : Ev K H L pd fu z) (q : ∀ v, Td K H v pd → P v) : ∃ a dx fs v, V.ref L.s = .ref a ∧ H a = some (.ins (He.ga K "Evaluation") dx fs) ∧ fs.lookup ("program" : Str) = some v ∧ P v := e.fld fun dx pv fv _ h _ => ⟨_, rfl, q _ h⟩
theorem Ev.meth {P : Prop} {m : Str} (e : Ev K H L pd fu z) (hm : ∀ pv fv, (EvF L pv fv fu z.tk).lookup m = none) (q : P) : ∃ a dx fs, V.ref L.s = .ref a ∧ H a = some (.ins (He.ga K "Evaluation") dx fs) ∧ fs.lookup m = none ∧ P := by
  obtain ⟨⟨dx, pv, fv, h1, p1, p2⟩, _⟩ := e
  exact ⟨L.s, dx, _, rfl, h1, hm _ _, q⟩
theorem Ev.tyT {B : Prop} (e : Ev K H L pd fu z) (b : B) : tyV K "list" (.ref L.tA) H ∧ B := by
  obtain ⟨tv, h2, _⟩ := e.ts
  exact ⟨.inl ⟨rfl, _, SqL.of h2⟩, b⟩
theorem Ev.tyR {B : Prop} (e : Ev K H L pd fu z) (b : B) : tyV K "list" (.ref L.rA) H ∧ B := by
  obtain ⟨tv, h2, _⟩ := e.rs
  exact ⟨.inl ⟨rfl, _, SqL.of h2⟩, b⟩
theorem Ev.tyO {B : Prop} (e : Ev K H L pd fu z) (b : B) : tyV K "list" (.ref L.oA) H ∧ B := by
  obtain ⟨tv, h2, _⟩ := e.os
  exact ⟨.inl ⟨rfl, _, SqL.of h2⟩, b⟩
theorem Ev.updT {tv2 : List V} {T2 : List Task} (e : Ev K H L pd fu z) (t : TvL K L.ls H tv2 (T2.map Task.v)) : Ev K (upd H L.tA (.lst tv2)) L pd fu { z with ts := T2 } ∧ PFr L L H (upd H L.tA (.lst tv2)) := by
  have k : Tk K H (upd H L.tA (.lst tv2)) := e.tk1 (by simp)
  refine ⟨?_, PFr.upd (by simp)⟩
  obtain ⟨⟨dx, pv, fv, h1, p1, p2⟩, ⟨tv, h2, p3⟩, ⟨rv, h3, p4⟩, ⟨ov, h4, p5⟩, ce, ln, ne, nc, nj⟩ := e
  have hs : L.s ≠ L.tA := fun z => by rw [z, h2] at h1; cases h1
  exact ⟨⟨dx, pv, fv, by rw [upd_ne hs]; exact h1, p1.k k, p2.k k Gr.refl⟩, ⟨_, upd_same, t.k k Gr.refl⟩, ⟨rv, by rw [upd_ne ne.1.symm]; exact h3, p4.k k Gr.refl⟩, ⟨ov, by rw [upd_ne ne.2.1]; exact h4, p5.k k Gr.refl⟩, fun i a h => by
    obtain ⟨us, xs, h5, h6, h7⟩ := ce i a h
    exact ⟨us, xs, h5, by rw [upd_ne (nc i a h).1]; exact h6, h7.k k Gr.refl⟩, ln, ne, nc, nj⟩
theorem Ev.updR {rv2 : List V} {R2 : List Vl} (e : Ev K H L pd fu z) (t : TvL K L.ls H rv2 R2) : Ev K (upd H L.rA (.lst rv2)) L pd fu { z with rs := R2 } ∧ PFr L L H (upd H L.rA (.lst rv2)) := by
  have k : Tk K H (upd H L.rA (.lst rv2)) := e.tk1 (by simp)
  refine ⟨?_, PFr.upd (by simp)⟩
  obtain ⟨⟨dx, pv, fv, h1, p1, p2⟩, ⟨tv, h2, p3⟩, ⟨rv, h3, p4⟩, ⟨ov, h4, p5⟩, ce, ln, ne, nc, nj⟩ := e
  have hs : L.s ≠ L.rA := fun z => by rw [z, h3] at h1; cases h1
  exact ⟨⟨dx, pv, fv, by rw [upd_ne hs]; exact h1, p1.k k, p2.k k Gr.refl⟩, ⟨tv, by rw [upd_ne ne.1]; exact h2, p3.k k Gr.refl⟩, ⟨_, upd_same, t.k k Gr.refl⟩, ⟨ov, by rw [upd_ne ne.2.2]; exact h4, p5.k k Gr.refl⟩, fun i a h => by
    obtain ⟨us, xs, h5, h6, h7⟩ := ce i a h
    exact ⟨us, xs, h5, by rw [upd_ne (nc i a h).2.1]; exact h6, h7.k k Gr.refl⟩, ln, ne, nc, nj⟩
theorem Ev.updO {ov2 : List V} {O2 : List Vl} (e : Ev K H L pd fu z) (t : TvL K L.ls H ov2 O2) : Ev K (upd H L.oA (.lst ov2)) L pd fu { z with os := O2 } ∧ PFr L L H (upd H L.oA (.lst ov2)) := by
  have k : Tk K H (upd H L.oA (.lst ov2)) := e.tk1 (by simp)
  refine ⟨?_, PFr.upd (by simp)⟩
  obtain ⟨⟨dx, pv, fv, h1, p1, p2⟩, ⟨tv, h2, p3⟩, ⟨rv, h3, p4⟩, ⟨ov, h4, p5⟩, ce, ln, ne, nc, nj⟩ := e
  have hs : L.s ≠ L.oA := fun z => by rw [z, h4] at h1; cases h1
  exact ⟨⟨dx, pv, fv, by rw [upd_ne hs]; exact h1, p1.k k, p2.k k Gr.refl⟩, ⟨tv, by rw [upd_ne ne.2.1.symm]; exact h2, p3.k k Gr.refl⟩, ⟨rv, by rw [upd_ne ne.2.2.symm]; exact h3, p4.k k Gr.refl⟩, ⟨_, upd_same, t.k k Gr.refl⟩, fun i a h => by
    obtain ⟨us, xs, h5, h6, h7⟩ := ce i a h
    exact ⟨us, xs, h5, by rw [upd_ne (nc i a h).2.2]; exact h6, h7.k k Gr.refl⟩, ln, ne, nc, nj⟩
/-- a field of the state itself: ticks, fault -/
theorem Ev.updS {dx : Addr} {pv fv : V} {n : Nat} {f : Vl} (e : Ev K H L pd fu z) (p1 : Td K H pv pd) (p2 : Tv K L.ls H fv f) : Ev K (upd H L.s (.ins (He.ga K "Evaluation") dx (EvF L pv fv fu n))) L pd fu { z with tk := n, fl := f } ∧ PFr L L H (upd H L.s (.ins (He.ga K "Evaluation") dx (EvF L pv fv fu n))) := by
  have k : Tk K H (upd H L.s (.ins (He.ga K "Evaluation") dx (EvF L pv fv fu n))) := e.tk1 (by simp)
  refine ⟨?_, PFr.upd (by simp)⟩
  obtain ⟨⟨dx0, pv0, fv0, h1, _, _⟩, ⟨tv, h2, p3⟩, ⟨rv, h3, p4⟩, ⟨ov, h4, p5⟩, ce, ln, ne, nc, nj⟩ := e
  have ns : ∀ {x : Addr} {xs : List V}, H x = some (.lst xs) → x ≠ L.s := fun hx z => by rw [z, h1] at hx; cases hx
  exact ⟨⟨dx, pv, fv, upd_same, p1.k k, p2.k k Gr.refl⟩, ⟨tv, by rw [upd_ne (ns h2)]; exact h2, p3.k k Gr.refl⟩, ⟨rv, by rw [upd_ne (ns h3)]; exact h3, p4.k k Gr.refl⟩, ⟨ov, by rw [upd_ne (ns h4)]; exact h4, p5.k k Gr.refl⟩, fun i a h => by
    obtain ⟨us, xs, h5, h6, h7⟩ := ce i a h
    exact ⟨us, xs, h5, by rw [upd_ne (ns h6)]; exact h6, h7.k k Gr.refl⟩, ln, ne, nc, nj⟩
/-- a cell is written -/
theorem Ev.updC {i : Nat} {a : Addr} {us : List V} {xs : List Vl} (e : Ev K H L pd fu z) (hi : L.ls[i]? = some a) (t : TvL K L.ls H us xs) : Ev K (upd H a (.lst us)) L pd fu (z.put i xs) ∧ PFr L L H (upd H a (.lst us)) := by
  have hm : a ∈ L.all := by simp [List.mem_of_getElem? hi]
  have k : Tk K H (upd H a (.lst us)) := e.tk1 hm
  refine ⟨?_, PFr.upd hm⟩
  obtain ⟨⟨dx, pv, fv, h1, p1, p2⟩, ⟨tv, h2, p3⟩, ⟨rv, h3, p4⟩, ⟨ov, h4, p5⟩, ce, ln, ne, nc, nj⟩ := e
  obtain ⟨n1, n2, n3⟩ := nc i a hi
  obtain ⟨us0, xs0, h5, h6, _⟩ := ce i a hi
  have hs : L.s ≠ a := fun z => by rw [z, h6] at h1; cases h1
  refine ⟨⟨dx, pv, fv, by rw [upd_ne hs]; exact h1, p1.k k, p2.k k Gr.refl⟩, ⟨tv, by rw [upd_ne n1.symm]; exact h2, p3.k k Gr.refl⟩, ⟨rv, by rw [upd_ne n2.symm]; exact h3, p4.k k Gr.refl⟩, ⟨ov, by rw [upd_ne n3.symm]; exact h4, p5.k k Gr.refl⟩, fun j b h => ?_, by simpa [PS.put] using ln, ne, nc, nj⟩
  by_cases hj : j = i
  · subst hj
    have : b = a := by rw [hi] at h; exact (Option.some.inj h).symm
    subst this
    refine ⟨us, xs, ?_, upd_same, t.k k Gr.refl⟩
    have hl := (List.getElem?_eq_some_iff.mp h5).1
    simp [PS.put, List.getElem?_set, hl]
  · obtain ⟨us1, xs1, h7, h8, h9⟩ := ce j b h
    refine ⟨us1, xs1, ?_, ?_, h9.k k Gr.refl⟩
    · simp only [PS.put]
      rw [List.getElem?_set_ne (fun z => hj z.symm)]
      exact h7
    · have hb : b ≠ a := fun z => hj (nj j i a (by rw [← z]; exact h) hi)
      rw [upd_ne hb]
      exact h8
/-- a new cell -/
theorem Ev.newC {a : Addr} {us : List V} {xs : List Vl} (e : Ev K H L pd fu z) (ha : H a = none) (t : TvL K L.ls H us xs) : Ev K (upd H a (.lst us)) { L with ls := L.ls ++ [a] } pd fu { z with st := z.st ++ [xs] } ∧ PFr L { L with ls := L.ls ++ [a] } H (upd H a (.lst us)) := by
  have sm : Same H (upd H a (.lst us)) := same_new ha
  have k : Tk K H (upd H a (.lst us)) := Same.tk sm
  have g : Gr L.ls (L.ls ++ [a]) := Gr.app
  refine ⟨?_, FrN.same sm, ⟨[a], rfl, fun x hx => by rw [List.mem_singleton.mp hx]; exact ha⟩, fun x o h => ⟨o, sm x o h⟩⟩
  obtain ⟨⟨dx, pv, fv, h1, p1, p2⟩, ⟨tv, h2, p3⟩, ⟨rv, h3, p4⟩, ⟨ov, h4, p5⟩, ce, ln, ne, nc, nj⟩ := e
  have spl : ∀ (i : Nat) (b : Addr), (L.ls ++ [a])[i]? = some b → L.ls[i]? = some b ∨ (i = L.ls.length ∧ b = a) := fun i b h => by
    by_cases hi : i < L.ls.length
    · rw [List.getElem?_append_left hi] at h; exact .inl h
    · rw [List.getElem?_append_right (by omega)] at h
      by_cases h0 : i - L.ls.length = 0
      · rw [h0] at h
        exact .inr ⟨by omega, (Option.some.inj h).symm⟩
      · rw [List.getElem?_eq_none (by simp; omega)] at h
        cases h
  have nea : ∀ (j : Nat), L.ls[j]? ≠ some a := fun j h => by
    obtain ⟨us1, xs1, _, h8, _⟩ := ce j a h
    rw [ha] at h8
    cases h8
  refine ⟨⟨dx, pv, fv, sm _ _ h1, p1.k k, p2.k k g⟩, ⟨tv, sm _ _ h2, p3.k k g⟩, ⟨rv, sm _ _ h3, p4.k k g⟩, ⟨ov, sm _ _ h4, p5.k k g⟩, fun j b h => ?_, by simp [ln], ne, fun j b h => ?_, fun i j b h1 h2 => ?_⟩
  · rcases spl j b h with h | ⟨rfl, rfl⟩
    · obtain ⟨us1, xs1, h7, h8, h9⟩ := ce j b h
      exact ⟨us1, xs1, by
        show (z.st ++ [xs])[j]? = _
        rw [List.getElem?_append_left (List.getElem?_eq_some_iff.mp h7).1]; exact h7, sm _ _ h8, h9.k k g⟩
    · refine ⟨us, xs, ?_, upd_same, t.k k g⟩
      show (z.st ++ [xs])[L.ls.length]? = _
      rw [ln]
      simp
  · rcases spl j b h with h | ⟨rfl, rfl⟩
    · exact nc j b h
    · exact ⟨fun z => (by rw [z, h2] at ha; cases ha), fun z => (by rw [z, h3] at ha; cases ha), fun z => (by rw [z, h4] at ha; cases ha)⟩
  · rcases spl i b h1 with h1 | ⟨e1, h1⟩ <;> rcases spl j b h2 with h2 | ⟨e2, h2⟩
    · exact nj i j b h1 h2
    · exact absurd (show L.ls[i]? = some a by rw [← h2]; exact h1) (nea i)
    · exact absurd (show L.ls[j]? = some a by rw [← h1]; exact h2) (nea j)
    · rw [e1, e2]
/-! steps -/
theorem Ev.pushT {Q : VK} {y : V} {t : Task} (e : Ev K H L pd fu z) (hl : z.ts.length ≤ 2000000) (t1 : Tv K L.ls H y t.v) (q : ∀ H', Ev K H' L pd fu { z with ts := z.ts ++ [t] } → PFr L L H H' → Q .non H') : uAppend (.ref L.tA) [y] H Q := by
  obtain ⟨tv, h2, p3⟩ := e.ts
  have w := e.updT (T2 := z.ts ++ [t]) (by rw [List.map_append]; exact p3.append (.one t1))
  exact ⟨tv, h2, szt (by rw [p3.len, List.length_map]; omega), q _ w.1 w.2⟩
theorem Ev.pushR {Q : VK} {y : V} {d : Vl} (e : Ev K H L pd fu z) (hl : z.rs.length ≤ 2000000) (t : Tv K L.ls H y d) (q : ∀ H', Ev K H' L pd fu (z.res d) → PFr L L H H' → Q .non H') : uAppend (.ref L.rA) [y] H Q := by
  obtain ⟨tv, h2, p3⟩ := e.rs
  have w := e.updR (p3.append (.one t))
  exact ⟨tv, h2, szt (by rw [p3.len]; omega), q _ w.1 w.2⟩
theorem Ev.pushO {Q : VK} {y : V} {d : Vl} (e : Ev K H L pd fu z) (hl : z.os.length ≤ 2000000) (t : Tv K L.ls H y d) (q : ∀ H', Ev K H' L pd fu (z.out d) → PFr L L H H' → Q .non H') : uAppend (.ref L.oA) [y] H Q := by
  obtain ⟨tv, h2, p3⟩ := e.os
  have w := e.updO (p3.append (.one t))
  exact ⟨tv, h2, szt (by rw [p3.len]; omega), q _ w.1 w.2⟩
theorem Ev.popT {Q : VK} {T : List Task} {t : Task} (e : Ev K H L pd fu z) (et : z.ts = T ++ [t]) (q : ∀ y H', Tv K L.ls H' y t.v → Ev K H' L pd fu { z with ts := T } → PFr L L H H' → Q y H') : uPop0 (.ref L.tA) [] H Q := by
  obtain ⟨tv, h2, p3⟩ := e.ts
  rw [et, List.map_append] at p3
  obtain ⟨us, y, rfl, t2, hy⟩ := TvL.snocI p3
  have w := e.updT t2
  refine ⟨_, y, h2, by simp, ?_⟩
  rw [List.dropLast_concat]
  exact q y _ (hy.k (e.fr w.2) Gr.refl) w.1 w.2
theorem Ev.popR {Q : VK} {R : List Vl} {d : Vl} (e : Ev K H L pd fu z) (er : z.rs = R ++ [d]) (q : ∀ y H', Tv K L.ls H' y d → Ev K H' L pd fu { z with rs := R } → PFr L L H H' → Q y H') : uPop0 (.ref L.rA) [] H Q := by
  obtain ⟨tv, h2, p3⟩ := e.rs
  rw [er] at p3
  obtain ⟨us, y, rfl, t2, hy⟩ := TvL.snocI p3
  have w := e.updR t2
  refine ⟨_, y, h2, by simp, ?_⟩
  rw [List.dropLast_concat]
  exact q y _ (hy.k (e.fr w.2) Gr.refl) w.1 w.2
end
section
variable {K : PySem.W.Frag} {vs : List V} {H : Hp} {Q : VK} {E : XK} {n : Nat}
theorem rd_wrap (h : sp_wrap K vs H Q E) : t_wrap K { nx := fun _ H' => Q .non H', rt := Q } (start n_wrap vs) H := by
  obtain ⟨n, rfl, q⟩ := h
  unfold t_wrap
  walk_at "u"
  exact q
theorem Word.abs {a : Int} (h : Word a) : (a.natAbs : Int) ≤ 2147483648 := by unfold Word at h; omega
theorem r_pw {k : Nat} {z : Int} {H : Hp} {Q : VK} (hk : k ≤ 60) (e : (2 : Int) ^ k = z) (h : Q (.int z) H) : uPow (.int 2) (.int k) H Q := by
  refine ⟨⟨by omega, by omega, by decide⟩, ?_⟩
  have : ((k : Int)).toNat = k := Int.toNat_natCast k
  rw [this, e]
  exact h
theorem mul_ok {i j : Int} (h1 : -9223372036854775808 ≤ j) (h2 : j ≤ 9223372036854775808) : CMul i j ∨ CMulW i j := by
  refine .inl (.inr ⟨?_, ?_⟩)
  · have : (2 : Int) ^ 64 = 18446744073709551616 := by decide
    omega
  · have : (2 : Int) ^ 64 = 18446744073709551616 := by decide
    omega
theorem mul_okL {i j : Int} (h1 : -9223372036854775808 ≤ i) (h2 : i ≤ 9223372036854775808) : CMul i j ∨ CMulW i j := by
  refine .inl (.inl ⟨?_, ?_⟩)
  · have : (2 : Int) ^ 64 = 18446744073709551616 := by decide
    omega
  · have : (2 : Int) ^ 64 = 18446744073709551616 := by decide
    omega
theorem quo_rem {a b : Int} : a - b * quoZ a b = remZ a b := by
  have h := Int.mul_ediv_add_emod (a.natAbs : Int) (b.natAbs : Int)
  unfold quoZ remZ
  by_cases ha : a < 0
  · have ea : a = -(a.natAbs : Int) := by omega
    by_cases hb : b < 0
    · have eb : b = -(b.natAbs : Int) := by omega
      rw [decide_eq_true ha, decide_eq_true hb, if_neg (by simp), if_pos ha]
      generalize (a.natAbs : Int) = m at *
      generalize (b.natAbs : Int) = n at *
      subst ea eb
      rw [Int.neg_mul]
      generalize n * (m / n) = p at *
      omega
    · have eb : b = (b.natAbs : Int) := by omega
      rw [decide_eq_true ha, decide_eq_false hb, if_pos (by simp), if_pos ha]
      generalize (a.natAbs : Int) = m at *
      generalize (b.natAbs : Int) = n at *
      subst ea eb
      rw [Int.mul_neg]
      generalize b * (m / b) = p at *
      omega
  · have ea : a = (a.natAbs : Int) := by omega
    by_cases hb : b < 0
    · have eb : b = -(b.natAbs : Int) := by omega
      rw [decide_eq_false ha, decide_eq_true hb, if_pos (by simp), if_neg ha]
      generalize (a.natAbs : Int) = m at *
      generalize (b.natAbs : Int) = n at *
      subst ea eb
      rw [Int.mul_neg, Int.neg_mul, Int.neg_neg]
      generalize n * (a / n) = p at *
      omega
    · have eb : b = (b.natAbs : Int) := by omega
      rw [decide_eq_false ha, decide_eq_false hb, if_neg (by simp), if_neg ha]
      generalize (a.natAbs : Int) = m at *
      generalize (b.natAbs : Int) = n at *
      subst ea eb
      generalize b * (a / b) = p at *
      omega
theorem rd_divide (h : sp_divide K vs H Q E) : t_divide K { nx := fun _ H' => Q .non H', rt := Q } (start n_divide vs) H := by
  obtain ⟨a, b, rfl, wa, wb, hb, q⟩ := h
  have ha := wa.abs
  have hb2 := wb.abs
  unfold t_divide
  walk_at "u"
  unfold quoZ at q
  by_cases c : decide (a < 0) = decide (b < 0)
  · rw [if_neg (fun h => h c)] at q
    walk_at "ui"
    exact ⟨_, rfl, q⟩
  · rw [if_pos c] at q
    walk_at "ui"
    exact ⟨_, rfl, q⟩
theorem rd_remainder (h : sp_remainder K vs H Q E) : t_remainder K { nx := fun _ H' => Q .non H', rt := Q } (start n_remainder vs) H := by
  obtain ⟨a, b, rfl, wa, wb, hb, q⟩ := h
  have ha := wa.abs
  have hb2 := wb.abs
  unfold t_remainder
  walk_at "u"
  walk_at "ui"
  unfold remZ at q
  by_cases c : a < 0
  · rw [if_pos c] at q
    walk_at "u"
    exact q
  · rw [if_neg c] at q
    walk_at "u"
    exact q
theorem rd_calculate (h : sp_calculate K vs H Q E) : t_calculate K { nx := fun _ H' => Q .non H', rt := Q } (start n_calculate vs) H := by
  obtain ⟨op, a, b, rfl, ho, wa, wb, hd, q⟩ := h
  unfold t_calculate
  unfold Word at wa wb
  simp only [opsL, List.mem_append, List.mem_cons, List.not_mem_nil, or_false] at ho
  rcases ho with (rfl | rfl | rfl | rfl | rfl) | (rfl | rfl)
  · walk_at "ui"
    exact ⟨_, rfl, q⟩
  · walk_at "ui"
    walk_at "ui"
    exact ⟨_, rfl, q⟩
  · walk_at "ui"
    walk_at "ui"
    walk_at "ui"
    refine r_mul (mul_ok (by omega) (by omega)) ?_
    walk_at "u"
    exact ⟨_, rfl, q⟩
  · walk_at "ui"
    walk_at "ui"
    walk_at "ui"
    walk_at "ui"
    exact ⟨_, _, rfl, wa, wb, hd (by decide +kernel), q⟩
  · walk_at "ui"
    walk_at "ui"
    walk_at "ui"
    walk_at "ui"
    walk_at "ui"
    exact ⟨_, _, rfl, wa, wb, hd (by decide +kernel), q⟩
  · walk_at "ui"
    walk_at "ui"
    walk_at "ui"
    walk_at "ui"
    walk_at "ui"
    walk_at "ui"
    exact q
  · walk_at "ui"
    walk_at "ui"
    walk_at "ui"
    walk_at "ui"
    walk_at "ui"
    walk_at "ui"
    exact q
end
section
variable {K : PySem.W.Frag} {vs : List V} {H : Hp} {Q : VK} {E : XK} {n : Nat}
theorem rd_Evaluation___init__ (h : sp_Evaluation___init__ K vs H Q E) : t_Evaluation___init__ K { nx := fun _ H' => Q .non H', rt := Q } (start n_Evaluation___init__ vs) H := by
  obtain ⟨s, pv, pd, fu, dx, rfl, hs, hp, q⟩ := h
  unfold t_Evaluation___init__
  walk_at "u"
  refine ⟨s, dx, [], rfl, hs, by decide, ?_⟩
  obtain ⟨H1, e1, i1, k1⟩ := lay_set (H1 := H) (s := s) (o := .ins (He.ga K "Evaluation") dx (putF "program" pv []))
  rw [e1]
  walk_at "u"
  refine ⟨s, dx, _, rfl, i1, (show 1 < 1000 by decide), ?_⟩
  obtain ⟨H2, e2, i2, k2⟩ := lay_set (H1 := H1) (s := s) (o := .ins (He.ga K "Evaluation") dx (putF "fuel" (.int (fu : Nat)) (putF "program" pv [])))
  rw [e2]
  walk_at "u"
  refine ⟨s, dx, _, rfl, i2, (show 2 < 1000 by decide), ?_⟩
  obtain ⟨H3, e3, i3, k3⟩ := lay_set (H1 := H2) (s := s) (o := .ins (He.ga K "Evaluation") dx [("program", pv), ("fuel", .int (fu : Nat)), ("ticks", .int 0)])
  refine (congrArg (fun Z => _) e3).mpr ?_
  walk_at "u"
  refine ⟨szl (by simp), fun oA hoA => ?_⟩
  obtain ⟨H4a, eoA, soA, loA⟩ := lay_new (o := .lst []) hoA
  rw [eoA]
  walk_at "u"
  refine ⟨s, dx, _, rfl, soA _ _ i3, (show 3 < 1000 by decide), ?_⟩
  have noA : oA ≠ s := fun z => by rw [z, i3] at hoA; cases hoA
  obtain ⟨H4, e4, i4, k4⟩ := lay_set (H1 := H4a) (s := s) (o := .ins (He.ga K "Evaluation") dx [("program", pv), ("fuel", .int (fu : Nat)), ("ticks", .int 0), ("outs", .ref oA)])
  refine (congrArg (fun Z => _) e4).mpr ?_
  walk_at "u"
  refine ⟨szl (by simp), fun tA htA => ?_⟩
  obtain ⟨H5a, etA, stA, ltA⟩ := lay_new (o := .lst []) htA
  rw [etA]
  walk_at "u"
  refine ⟨s, dx, _, rfl, stA _ _ i4, (show 4 < 1000 by decide), ?_⟩
  have ntA : tA ≠ s := fun z => by rw [z, i4] at htA; cases htA
  obtain ⟨H5, e5, i5, k5⟩ := lay_set (H1 := H5a) (s := s) (o := .ins (He.ga K "Evaluation") dx [("program", pv), ("fuel", .int (fu : Nat)), ("ticks", .int 0), ("outs", .ref oA), ("tasks", .ref tA)])
  refine (congrArg (fun Z => _) e5).mpr ?_
  walk_at "u"
  refine ⟨szl (by simp), fun rA hrA => ?_⟩
  obtain ⟨H6a, erA, srA, lrA⟩ := lay_new (o := .lst []) hrA
  rw [erA]
  walk_at "u"
  refine ⟨s, dx, _, rfl, srA _ _ i5, (show 5 < 1000 by decide), ?_⟩
  have nrA : rA ≠ s := fun z => by rw [z, i5] at hrA; cases hrA
  obtain ⟨H6, e6, i6, k6⟩ := lay_set (H1 := H6a) (s := s) (o := .ins (He.ga K "Evaluation") dx [("program", pv), ("fuel", .int (fu : Nat)), ("ticks", .int 0), ("outs", .ref oA), ("tasks", .ref tA), ("results", .ref rA)])
  refine (congrArg (fun Z => _) e6).mpr ?_
  walk_at "u"
  refine ⟨s, dx, _, rfl, i6, (show 6 < 1000 by decide), ?_⟩
  obtain ⟨H7, e7, i7, k7⟩ := lay_set (H1 := H6) (s := s) (o := .ins (He.ga K "Evaluation") dx (EvF ⟨s, tA, rA, oA, []⟩ pv .non fu 0))
  refine (congrArg (fun Z => _) e7).mpr ?_
  have old : ∀ x o, x ≠ s → H x = some o → H7 x = some o := fun x o hx h0 => by
    have h3 : H3 x = some o := by rw [k3 x hx, k2 x hx, k1 x hx]; exact h0
    have h4 : H4 x = some o := by rw [k4 x hx]; exact soA _ _ h3
    have h5 : H5 x = some o := by rw [k5 x hx]; exact stA _ _ h4
    have h6 : H6 x = some o := by rw [k6 x hx]; exact srA _ _ h5
    rw [k7 x hx]
    exact h6
  have o4 : H4 oA = some (.lst []) := by rw [k4 _ noA]; exact loA
  have o5 : H5 oA = some (.lst []) := by rw [k5 _ noA]; exact stA _ _ o4
  have o6 : H6 oA = some (.lst []) := by rw [k6 _ noA]; exact srA _ _ o5
  have t5 : H5 tA = some (.lst []) := by rw [k5 _ ntA]; exact ltA
  have t6 : H6 tA = some (.lst []) := by rw [k6 _ ntA]; exact srA _ _ t5
  have r6 : H6 rA = some (.lst []) := by rw [k6 _ nrA]; exact lrA
  have tk : Tk K H H7 := fun a ys h => by
    rcases h with (h | ⟨ob, h⟩) | h
    · exact .inl (.inl (old _ _ (fun e => by rw [e, hs] at h; cases h) h))
    · exact .inl (.inr ⟨ob, old _ _ (fun e => by rw [e, hs] at h; cases h) h⟩)
    · exact .inr h
  have o7 : H7 oA = some (.lst []) := by rw [k7 _ noA]; exact o6
  have t7 : H7 tA = some (.lst []) := by rw [k7 _ ntA]; exact t6
  have r7 : H7 rA = some (.lst []) := by rw [k7 _ nrA]; exact r6
  refine q H7 tA rA oA ⟨⟨dx, pv, .non, i7, hp.k tk, .non⟩, ⟨[], t7, .nil⟩, ⟨[], r7, .nil⟩, ⟨[], o7, .nil⟩, fun i a h => by simp at h, rfl, ⟨?_, ?_, ?_⟩, fun i a h => by simp at h, fun i j a h => by simp at h⟩ old ⟨ntA, ?_⟩ ⟨nrA, ?_⟩ ⟨noA, ?_⟩
  · exact ne_of_none t5 hrA
  · exact ne_of_none o4 htA
  · exact ne_of_none o5 hrA
  · cases z : H tA with
    | none => rfl
    | some o =>
      have h3 : H3 tA = some o := by rw [k3 _ ntA, k2 _ ntA, k1 _ ntA]; exact z
      have h4 : H4 tA = some o := by rw [k4 _ ntA]; exact soA _ _ h3
      rw [h4] at htA
      cases htA
  · cases z : H rA with
    | none => rfl
    | some o =>
      have h3 : H3 rA = some o := by rw [k3 _ nrA, k2 _ nrA, k1 _ nrA]; exact z
      have h4 : H4 rA = some o := by rw [k4 _ nrA]; exact soA _ _ h3
      have h5 : H5 rA = some o := by rw [k5 _ nrA]; exact stA _ _ h4
      rw [h5] at hrA
      cases hrA
  · cases z : H oA with
    | none => rfl
    | some o =>
      have h3 : H3 oA = some o := by rw [k3 _ noA, k2 _ noA, k1 _ noA]; exact z
      rw [h3] at hoA
      cases hoA
theorem rd_Evaluation_plan (h : sp_Evaluation_plan K vs H Q E) : t_Evaluation_plan K { nx := fun _ H' => Q .non H', rt := Q } (start n_Evaluation_plan vs) H := by
  obtain ⟨L, pd, fu, z, nm, e, sc, de, dsc, rfl, ev, he, hsc, lT, lR, q⟩ := h
  unfold t_Evaluation_plan
  walk_at "u"
  refine ev.fT ?_
  refine ev.tyT ?_
  walk_at "u"
  refine ev.fR ?_
  obtain ⟨rv, hr, pr⟩ := ev.rs
  walk_at "u"
  rw [pr.len]
  walk_at "u"
  refine ⟨szl (by simp), fun p hp => ?_⟩
  obtain ⟨H1, e1, s1, t1⟩ := Tv.lay (K := K) (ls := L.ls) (xs := [.str nm, de.vl, dsc, .int (z.rs.length : Nat)]) hp (.cons (.str _) (.cons he (.cons hsc (.cons (.int _) .nil))))
  rw [e1]
  walk_at "u"
  refine (ev.same s1).pushT (t := ⟨nm, de, dsc, z.rs.length⟩) lT t1 fun H2 ev2 f2 => ?_
  walk_at "u"
  exact q H2 ev2 ((PFr.same s1).trans f2)
/-- a call of plan -/
theorem plan_call {L : PL} {pd : D} {fu : Nat} {z : PS} {nm : Str} {e sc : V} {de : D} {dsc : Vl} {P : VK} (ev : Ev K H L pd fu z) (he : Tv K L.ls H e de.vl) (hsc : Tv K L.ls H sc dsc) (lT : z.ts.length ≤ 2000000) (lR : z.rs.length ≤ 2000000)
    (q : ∀ H', Ev K H' L pd fu (z.push nm de dsc) → PFr L L H H' → P .non H') : sp_Evaluation_plan K [.ref L.s, .str nm, e, sc] H P E0 := ⟨L, pd, fu, z, nm, e, sc, de, dsc, rfl, ev, he, hsc, lT, lR, q⟩
theorem rd_find_variable (h : sp_find_variable K vs H Q E) : t_find_variable K { nx := fun _ H' => Q .non H', rt := Q } (start n_find_variable vs) H := by
  obtain ⟨ls, sc, dsc, x, d, rfl, hsc, hl, q⟩ := h
  unfold t_find_variable
  refine r_cut (fun σ' H' => H' = H ∧ ∃ u r, σ' = [some u, some (.str x)] ∧ Tv K ls H u (scC x d r)) ?_ ?_
  · have dep : ∃ m, ∃ W : Nat → Vl → Prop, (∀ m s, W m s → Look s x d ∧ ((m = 0 ∧ ∃ r, s = scC x d r) ∨ (∃ k y w r, m = k + 1 ∧ y ≠ x ∧ s = scC y w r ∧ W k r))) ∧ W m dsc := by
      let W : Nat → Vl → Prop := fun m s => Nat.rec (motive := fun _ => Vl → Prop) (fun s => ∃ r, s = scC x d r) (fun _ ih s => ∃ y w r, y ≠ x ∧ s = scC y w r ∧ ih r) m s
      have hW : ∀ m s, W m s → Look s x d ∧ ((m = 0 ∧ ∃ r, s = scC x d r) ∨ (∃ k y w r, m = k + 1 ∧ y ≠ x ∧ s = scC y w r ∧ W k r)) := by
        intro m
        induction m with
        | zero =>
          rintro s ⟨r, rfl⟩
          exact ⟨.here, .inl ⟨rfl, r, rfl⟩⟩
        | succ k ih =>
          rintro s ⟨y, w, r, hy, rfl, hr⟩
          exact ⟨.next hy (ih r hr).1, .inr ⟨k, y, w, r, rfl, hy, rfl, hr⟩⟩
      have ex : ∀ {s : Vl} {x' : Str} {d' : Vl}, Look s x' d' → x' = x → d' = d → ∃ m, W m s := by
        intro s x' d' h
        induction h with
        | here => intro e1 e2; subst e1 e2; exact ⟨0, _, rfl⟩
        | next hy _ ih =>
          intro e1 e2
          obtain ⟨m, hm⟩ := ih e1 e2
          subst e1
          exact ⟨m + 1, _, _, _, hy, rfl, hm⟩
      obtain ⟨m, hm⟩ := ex hl rfl rfl
      exact ⟨m, W, hW, hm⟩
    obtain ⟨m0, W, hW, hm0⟩ := dep
    refine ⟨fun m σ' H' => H' = H ∧ ∃ u s, σ' = [some u, some (.str x)] ∧ Tv K ls H u s ∧ W m s, ⟨m0, rfl, sc, dsc, rfl, hsc, hm0⟩, ?_⟩
    rintro m σ' H' ⟨rfl, u, s, rfl, hu, hw⟩
    rcases (hW m s hw).2 with ⟨rfl, r, rfl⟩ | ⟨k, y, w, r, rfl, hy, rfl, hr⟩
    · walk_at "u"
      refine r_ixV (k := 0) hu rfl fun y hy => ?_
      have hy := hy.invS
      subst hy
      walk_at "u"
      exact ⟨rfl, u, r, rfl, hu⟩
    · walk_at "u"
      refine r_ixV (k := 0) hu rfl fun y2 hy2 => ?_
      have hy2 := hy2.invS
      subst hy2
      walk_at "u"
      refine ⟨fun σ' H'' => H'' = H' ∧ ∃ u s, σ' = [some u, some (.str x)] ∧ Tv K ls H' u s ∧ W k s, fun σ' H'' z => ⟨k, Nat.lt_succ_self k, z.1, z.2⟩, ?_⟩
      refine r_asg ?_
      walk_at "u"
      refine r_ixV (k := 2) hu rfl fun y3 hy3 => ?_
      walk_at "u"
      exact ⟨rfl, y3, r, rfl, hy3, hr⟩
  rintro σ' H' ⟨rfl, u, r, rfl, hu⟩
  walk_at "u"
  refine r_ixV (k := 1) hu rfl fun y hy => ?_
  exact q _ hy
theorem rd_Evaluation_spend (h : sp_Evaluation_spend K vs H Q E) : t_Evaluation_spend K { nx := fun _ H' => Q .non H', rt := Q } (start n_Evaluation_spend vs) H := by
  obtain ⟨L, pd, fu, z, c, rfl, ev, qn, qy⟩ := h
  unfold t_Evaluation_spend
  walk_at "ui"
  refine ev.fK ?_
  walk_at "u"
  refine ev.fFu ?_
  walk_at "u"
  refine br_d (fun hc => ?_) (fun hc => ?_)
  · have hc : fu < z.tk + c := by omega
    walk_at "u"
    refine ev.fFu ?_
    walk_at "u"
    obtain ⟨⟨dx, pv, fv, h1, p1, p2⟩, _⟩ := id ev
    refine ⟨L.s, dx, _, rfl, h1, (show 7 < 1000 by decide), ?_⟩
    have w := ev.updS (dx := dx) (n := fu) p1 p2
    obtain ⟨H1, e1, i1, k1⟩ := lay_set (H1 := H) (s := L.s) (o := .ins (He.ga K "Evaluation") dx (EvF L pv fv fu fu))
    rw [e1] at w
    refine (congrArg (fun Z => _) e1).mpr ?_
    walk_at "u"
    refine ⟨szl (by simp), fun p hp => ?_⟩
    obtain ⟨H2, e2, s2, t2⟩ := Tv.lay (K := K) (ls := L.ls) (xs := [.str "fuel"]) hp (.cons (.str _) .nil)
    rw [e2]
    have ev2 := w.1.same s2
    walk_at "u"
    refine ⟨L.s, dx, _, rfl, s2 _ _ i1, (show 7 < 1000 by decide), ?_⟩
    have w2 := ev2.updS (dx := dx) (pv := pv) (fv := .ref p) (n := fu) ((p1.k (ev.fr w.2)).k (Same.tk s2)) t2
    obtain ⟨H3, e3, i3, k3⟩ := lay_set (H1 := H2) (s := L.s) (o := .ins (He.ga K "Evaluation") dx (EvF L pv (.ref p) fu fu))
    rw [e3] at w2
    refine (congrArg (fun Z => _) e3).mpr ?_
    walk_at "u"
    exact qn hc H3 w2.1 (w.2.trans ((PFr.same s2).trans w2.2))
  · have hc : z.tk + c ≤ fu := by omega
    walk_at "u"
    obtain ⟨⟨dx, pv, fv, h1, p1, p2⟩, _⟩ := id ev
    refine ⟨L.s, dx, _, .int (z.tk : Nat), rfl, h1, rfl, ?_⟩
    walk_at "u"
    refine ⟨dx, _, h1, (show 7 < 1000 by decide), ?_⟩
    have w := ev.updS (dx := dx) (n := z.tk + c) p1 p2
    obtain ⟨H1, e1, i1, k1⟩ := lay_set (H1 := H) (s := L.s) (o := .ins (He.ga K "Evaluation") dx (EvF L pv fv fu (z.tk + c)))
    rw [e1] at w
    refine (congrArg (fun Z => _) e1).mpr ?_
    walk_at "u"
    exact qy hc H1 w.1 w.2
end
section
variable {K : PySem.W.Frag} {vs : List V} {H : Hp} {Q : VK} {E : XK} {n : Nat}
theorem tasks_split (T : List Task) : T = [] ∨ ∃ T0 t, T = T0 ++ [t] := by
  rcases List.eq_nil_or_concat T with h | ⟨a, b, h⟩
  · exact .inl h
  · exact .inr ⟨a, b, by simpa using h⟩
theorem isE_of {tv : List V} {T0 : List Task} {t : Task} {ls : List Addr} (p : TvL K ls H tv ((T0 ++ [t]).map Task.v)) : tv.isEmpty = false := by
  have := p.len
  cases tv with
  | nil => simp at this
  | cons _ _ => rfl
theorem app_inj {T T0 : List Task} {t t0 : Task} (h : T ++ [t] = T0 ++ [t0]) : T = T0 ∧ t = t0 := by
  have := List.append_inj' h rfl
  exact ⟨this.1, by simpa using this.2⟩
theorem rd_Evaluation_throw (h : sp_Evaluation_throw K vs H Q E) : t_Evaluation_throw K { nx := fun _ H' => Q .non H', rt := Q } (start n_Evaluation_throw vs) H := by
  obtain ⟨L, pd, fu, z0, z', n, p, dp, rfl, ev0, hp0, sm0, ht0, q⟩ := h
  unfold t_Evaluation_throw
  refine r_cut (fun σ' H' => ∃ z y3 y4 y5 y6 y7, Ev K H' L pd fu z ∧ PFr L L H H' ∧ Tv K L.ls H' p dp ∧ z.ts = [] ∧ Thr pd n dp z z' ∧ σ' = [some (.ref L.s), some (.int n), some p, y3, y4, y5, y6, y7]) ?_ ?_
  · refine ⟨fun m σ' H' => ∃ z y3 y4 y5 y6 y7, Ev K H' L pd fu z ∧ PFr L L H H' ∧ Tv K L.ls H' p dp ∧ z.ts.length = m ∧ Small z ∧ Thr pd n dp z z' ∧ σ' = [some (.ref L.s), some (.int n), some p, y3, y4, y5, y6, y7], ⟨_, z0, none, none, none, none, none, ev0, PFr.refl, hp0, rfl, sm0, ht0, rfl⟩, ?_⟩
    rintro m σ' H1 ⟨z, y3, y4, y5, y6, y7, ev, f, hp, rfl, sm, ht, rfl⟩
    obtain ⟨tv, htv, ptv⟩ := ev.ts
    rcases tasks_split z.ts with et | ⟨T, t, et⟩
    · walk_at "u"
      refine ev.fT ?_
      refine r_truL (SqL.of htv) ?_
      rw [et] at ptv
      cases ptv
      exact ⟨z, _, _, _, _, _, ev, f, hp, et, ht, rfl⟩
    · walk_at "u"
      refine ev.fT ?_
      refine r_truL (SqL.of htv) ?_
      rw [et] at ptv
      rw [isE_of ptv]
      walk_at "u"
      refine ⟨fun σ' H'' => ∃ z y3 y4 y5 y6 y7, Ev K H'' L pd fu z ∧ PFr L L H H'' ∧ Tv K L.ls H'' p dp ∧ z.ts.length = T.length ∧ Small z ∧ Thr pd n dp z z' ∧ σ' = [some (.ref L.s), some (.int n), some p, y3, y4, y5, y6, y7], fun σ' H'' w => ⟨T.length, by rw [et]; simp, w⟩, ?_⟩
      walk_at "u"
      refine ev.fT ?_
      refine ev.tyT ?_
      refine ev.popT et fun y H2 hy ev2 f2 => ?_
      have hp2 := hp.k (ev.fr f2) Gr.refl
      have sm2 : Small { z with ts := T } := ⟨by have := sm.t; rw [et] at this; simp at this; show T.length ≤ _; omega, sm.r⟩
      refine r_gV4 hy fun x1 x2 x3 x4 h1 h2 h3 h4 => ?_
      have h1 := h1.invS
      subst h1
      have h4 := h4.invI
      subst h4
      walk_at "ui"
      cases ht with
      | out e0 _ _ _ => rw [et] at e0; simp at e0
      | @skip z z' T1 t1 e1 hn h2 =>
        obtain ⟨rfl, rfl⟩ := app_inj (et.symm.trans e1)
        refine br_nn hn ?_
        walk_at "u"
        exact ⟨_, _, _, _, _, _, ev2, f.trans f2, hp2, rfl, sm2, h2, rfl⟩
      | @pass z z' T1 t1 op k info kids arms e1 hn he ha h2' =>
        obtain ⟨rfl, rfl⟩ := app_inj (et.symm.trans e1)
        refine br_ny hn ?_
        rw [he] at h2
        walk_at "u"
        refine it_tup ?_
        walk_at "u"
        refine r_ixD (k := 4) h2.td rfl fun u hu => ?_
        obtain ⟨b, us, rfl, sb, tb⟩ := hu.inv
        refine ⟨b, rfl, ⟨_, sb⟩, f_tup (xs := us) (fun i σ' H' => H' = H2 ∧ ∃ y7, σ' = [some (.ref L.s), some (.int n), some p, some (.str t.nm), some x2, some x3, some (.int (t.m : Nat)), y7]) ⟨rfl, y7, rfl⟩ (fun i σ' H' P => by rw [P.1]; exact sb) ?_ ?_⟩
        · rintro i x σ' H3 hx ⟨rfl, y7, rfl⟩
          obtain ⟨ad, had, htd⟩ := tb.getV hx
          obtain ⟨m, yy, bb, rfl, hm⟩ := ha ad (List.mem_of_getElem? had)
          walk_at "u"
          refine r_ixD (k := 0) htd rfl fun u hu => ?_
          have hu := hu.invI
          subst hu
          walk_at "u"
          exact ⟨rfl, _, rfl⟩
        · rintro σ' H3 ⟨rfl, y7, rfl⟩
          exact ⟨_, _, _, _, _, _, ev2, f.trans f2, hp2, rfl, sm2, h2', rfl⟩
      | @got z T1 t1 op x k info body kids as bs xs e1 hn he ha hm =>
        obtain ⟨rfl, rfl⟩ := app_inj (et.symm.trans e1)
        refine br_ny hn ?_
        rw [he] at h2
        walk_at "u"
        refine it_tup ?_
        walk_at "u"
        refine r_ixD (k := 4) h2.td rfl fun u hu => ?_
        obtain ⟨b, us, rfl, sb, tb⟩ := hu.inv
        have lus := tb.len
        refine ⟨b, rfl, ⟨_, sb⟩, f_tup (xs := us) (fun i σ' H' => H' = H2 ∧ i ≤ as.length ∧ ∃ y7, σ' = [some (.ref L.s), some (.int n), some p, some (.str t.nm), some x2, some x3, some (.int (t.m : Nat)), y7]) ⟨rfl, Nat.zero_le _, y7, rfl⟩ (fun i σ' H' P => by rw [P.1]; exact sb) ?_ ?_⟩
        · rintro i xv σ' H3 hx ⟨rfl, hi, y7, rfl⟩
          obtain ⟨ad, had, htd⟩ := tb.getV hx
          by_cases hlt : i < as.length
          · rw [List.getElem?_append_left hlt] at had
            obtain ⟨m, yy, bb, rfl, hm⟩ := ha ad (List.mem_of_getElem? had)
            walk_at "u"
            refine r_ixD (k := 0) htd rfl fun u hu => ?_
            have hu := hu.invI
            subst hu
            walk_at "u"
            exact ⟨rfl, hlt, _, rfl⟩
          · have hi2 : i = as.length := by omega
            subst hi2
            rw [List.getElem?_append_right (Nat.le_refl _), Nat.sub_self] at had
            have had := (Option.some.inj had).symm
            subst had
            walk_at "u"
            refine r_ixD (k := 0) htd rfl fun u hu => ?_
            have hu := hu.invI
            subst hu
            walk_at "u"
            refine r_sq ?_
            refine r_delK ?_
            walk_at "u"
            refine ev2.fR ?_
            walk_at "u"
            obtain ⟨rv, hr, pr⟩ := ev2.rs
            refine ⟨L.rA, rv, t.m, rfl, rfl, hr, by rw [pr.len]; exact hm, ?_⟩
            have w := ev2.updR (pr.take t.m)
            obtain ⟨H4, e4, i4, k4⟩ := lay_set (H1 := H3) (s := L.rA) (o := .lst (rv.take t.m))
            rw [e4] at w ⊢
            obtain ⟨ev4, f4⟩ := w
            have k34 := ev2.fr f4
            walk_at "u"
            refine ev4.meth (fun _ _ => rfl) ?_
            walk_at "u"
            refine r_ixD (k := 2) (htd.k k34) rfl fun bv hbv => ?_
            walk_at "u"
            refine r_ixD (k := 1) (htd.k k34) rfl fun nv hnv => ?_
            walk_at "u"
            refine r_ixD (k := 0) hnv rfl fun nm hnm => ?_
            have hnm := hnm.invS
            subst hnm
            walk_at "u"
            refine ⟨szl (by simp), fun P hP => ?_⟩
            obtain ⟨H5, e5, s5, t5⟩ := Tv.lay (K := K) (ls := L.ls) (xs := [.str x, dp, t.sc]) hP (.cons (.str _) (.cons (hp2.k k34 Gr.refl) (.cons (h3.k k34 Gr.refl) .nil)))
            rw [e5]
            walk_at "u"
            refine plan_call (ev4.same s5) (de := body) ((hbv.k (Same.tk s5)).tv) t5 ?_ ?_ fun H6 ev6 f6 => ?_
            · have : T.length ≤ 1000000 := sm2.t
              show T.length ≤ _; omega
            · have := sm2.r; show (z.rs.take t.m).length ≤ _; rw [List.length_take]; exact Nat.le_trans (Nat.min_le_right _ _) (by have : z.rs.length ≤ 1000000 := this; omega)
            walk_at "u"
            exact q H6 ev6 (f.trans (f2.trans (f4.trans ((PFr.same s5).trans f6))))
        · rintro σ' H3 ⟨rfl, hi, y7, rfl⟩
          rw [lus, List.length_append, List.length_cons] at hi
          omega
  · rintro σ' H1 ⟨z, y3, y4, y5, y6, y7, ev, f, hp, et, ht, rfl⟩
    cases ht with
    | skip e1 _ _ => rw [et] at e1; simp at e1
    | pass e1 _ _ _ _ => rw [et] at e1; simp at e1
    | got e1 _ _ _ _ => rw [et] at e1; simp at e1
    | @out z a b ns nm i e0 hn hpd hi =>
      subst hn hpd
      walk_at "u"
      refine ev.fP fun v hv => ?_
      walk_at "u"
      refine r_ixD (k := 1) hv rfl fun y hy => ?_
      walk_at "u"
      refine r_ixD (k := i) hy hi fun y hy => ?_
      have hy := hy.invS
      subst hy
      walk_at "u"
      refine ⟨szl (by simp), fun P hP => ?_⟩
      obtain ⟨H2, e2, s2, t2⟩ := Tv.lay (K := K) (ls := L.ls) (xs := [.str "raised", .str nm, dp]) hP (.cons (.str _) (.cons (.str _) (.cons hp .nil)))
      rw [e2]
      walk_at "u"
      have ev2 := ev.same s2
      obtain ⟨⟨dx, pv, fv, h1, p1, p2⟩, _⟩ := id ev2
      refine ⟨L.s, dx, _, rfl, h1, (show 7 < 1000 by decide), ?_⟩
      have w := ev2.updS (dx := dx) (n := z.tk) p1 t2
      obtain ⟨H3, e3, i3, k3⟩ := lay_set (H1 := H2) (s := L.s) (o := .ins (He.ga K "Evaluation") dx (EvF L pv (.ref P) fu z.tk))
      rw [e3] at w
      refine (congrArg (fun Z => _) e3).mpr ?_
      walk_at "u"
      exact q H3 w.1 (f.trans ((PFr.same s2).trans w.2))
end
section
variable {K : PySem.W.Frag} {vs : List V} {H : Hp} {Q : VK} {E : XK} {n : Nat}
theorem pushes (sc : Vl) : ∀ (l : List D) (z : PS), l.foldl (fun z k => z.push "evaluate" k sc) z = { z with ts := z.ts ++ l.map fun k => ⟨"evaluate", k, sc, z.rs.length⟩ }
  | [], z => by simp
  | k :: l, z => by
    rw [List.foldl_cons, pushes sc l]
    simp [PS.push]
theorem Small.cut {z : PS} {T : List Task} {t : Task} (s : Small z) (e : z.ts = T ++ [t]) : Small { z with ts := T } := ⟨by have := s.t; rw [e] at this; simp at this; show T.length ≤ _; omega, s.r⟩
theorem rd_evaluate (h : sp_evaluate K vs H Q E) : t_evaluate K { nx := fun _ H' => Q .non H', rt := Q } (start n_evaluate vs) H := by
  obtain ⟨L, pd, fu, z, z', e, sc, de, dsc, rfl, ev, he, hsc, sm, ht, q⟩ := h
  have lT : z.ts.length ≤ 1000000 := sm.t
  have lR : z.rs.length ≤ 1000000 := sm.r
  unfold t_evaluate
  cases ht with
  | @lit op k info kids arms _ _ ho =>
    walk_at "u"
    refine r_gT5 he fun x y zz u w hx hy hz hu hw => ?_
    have hx := hx.invS
    subst hx
    walk_at "u"
    refine ⟨szl (by simp), fun p hp => ?_⟩
    obtain ⟨H1, e1, s1, eT⟩ := lay_new (o := .tup [.str "int", .str "bool", .str "unit"]) hp
    rw [e1]
    refine r_inS (ss := ["int", "bool", "unit"]) (SqT.of eT) ?_
    walk_at "u"
    try refine br_y ho ?_
    walk_at "u"
    refine (ev.same s1).fR ?_
    refine (ev.same s1).tyR ?_
    walk_at "u"
    refine (ev.same s1).pushR (by omega) (hz.k (Same.tk s1)).tv fun H2 ev2 f2 => ?_
    walk_at "u"
    exact q H2 L ev2 ((PFr.same s1).trans f2)
  | @name x0 k kids arms _ v _ hl =>
    walk_at "u"
    refine r_gT5 he fun x y zz u w hx hy hz hu hw => ?_
    have hx := hx.invS
    have hz := hz.invS
    subst hx hz
    walk_at "u"
    refine ⟨szl (by simp), fun p hp => ?_⟩
    obtain ⟨H1, e1, s1, eT⟩ := lay_new (o := .tup [.str "int", .str "bool", .str "unit"]) hp
    rw [e1]
    refine r_inS (ss := ["int", "bool", "unit"]) (SqT.of eT) ?_
    walk_at "u"
    try refine br_n (by decide +kernel) ?_
    walk_at "u"
    try refine br_y (by decide +kernel) ?_
    walk_at "u"
    refine (ev.same s1).fR ?_
    refine (ev.same s1).tyR ?_
    walk_at "u"
    refine ⟨L.ls, sc, dsc, x0, v, rfl, hsc.k (Same.tk s1) Gr.refl, hl, fun y hy => ?_⟩
    walk_at "u"
    refine (ev.same s1).pushR (by omega) hy fun H2 ev2 f2 => ?_
    walk_at "u"
    exact q H2 L ev2 ((PFr.same s1).trans f2)
  | @fn x0 k kd b arms _ _ =>
    walk_at "u"
    refine r_gT5 he fun x y zz u w hx hy hz hu hw => ?_
    have hx := hx.invS
    subst hx
    walk_at "u"
    refine ⟨szl (by simp), fun p hp => ?_⟩
    obtain ⟨H1, e1, s1, eT⟩ := lay_new (o := .tup [.str "int", .str "bool", .str "unit"]) hp
    rw [e1]
    refine r_inS (ss := ["int", "bool", "unit"]) (SqT.of eT) ?_
    walk_at "u"
    try refine br_n (by decide +kernel) ?_
    walk_at "u"
    try refine br_n (by decide +kernel) ?_
    walk_at "u"
    try refine br_y (by decide +kernel) ?_
    walk_at "u"
    refine (ev.same s1).fR ?_
    refine (ev.same s1).tyR ?_
    walk_at "u"
    refine r_ixD (k := 0) (hz.k (Same.tk s1)) rfl fun y1 hy1 => ?_
    walk_at "u"
    refine r_ixD (k := 0) (hu.k (Same.tk s1)) rfl fun y2 hy2 => ?_
    walk_at "u"
    refine ⟨szl (by simp), fun P hP => ?_⟩
    obtain ⟨H3, e3, s3, t3⟩ := Tv.lay (K := K) (ls := L.ls) (xs := [.str x0, b.vl, dsc]) hP (.cons hy1.tv (.cons hy2.tv (.cons (hsc.k (Same.tk s1) Gr.refl) .nil)))
    rw [e3]
    walk_at "u"
    refine ((ev.same s1).same s3).pushR (by omega) t3 fun H2 ev2 f2 => ?_
    walk_at "u"
    exact q H2 L ev2 ((PFr.same (s1.trans s3)).trans f2)
  | @ctl op k info k0 kids arms _ _ ho hk =>
    have o1 : op ∉ (["int", "bool", "unit"] : List Str) ∧ op ≠ "name" ∧ op ≠ "fn" := by
      have : ∀ z ∈ ctlOps, z ∉ (["int", "bool", "unit"] : List Str) ∧ z ≠ "name" ∧ z ≠ "fn" := by decide +kernel
      exact this op ho
    obtain ⟨o1, o2, o3⟩ := o1
    walk_at "u"
    refine r_gT5 he fun x y zz u w hx hy hz hu hw => ?_
    have hx := hx.invS
    subst hx
    walk_at "u"
    refine ⟨szl (by simp), fun p hp => ?_⟩
    obtain ⟨H1, e1, s1, eT⟩ := lay_new (o := .tup [.str "int", .str "bool", .str "unit"]) hp
    rw [e1]
    refine r_inS (ss := ["int", "bool", "unit"]) (SqT.of eT) ?_
    walk_at "u"
    try refine br_n o1 ?_
    walk_at "u"
    refine ⟨szl (by simp), fun p2 hp2 => ?_⟩
    obtain ⟨H2, e2, s2, eT2⟩ := lay_new (o := .tup [.str "let", .str "seq", .str "if", .str "case"]) hp2
    rw [e2]
    refine r_inS (ss := ["let", "seq", "if", "case"]) (SqT.of eT2) ?_
    have s12 := s1.trans s2
    have ev2 := ev.same s12
    have hu2 := hu.k (Same.tk s12)
    have he2 := he.k (Same.tk s12)
    have hsc2 := hsc.k (Same.tk s12) (Gr.refl (ls := L.ls))
    clear eT eT2 e1 e2 hp hp2
    walk_at "u"
    try refine br_y ho ?_
    walk_at "u"
    refine ev2.meth (fun _ _ => rfl) ?_
    walk_at "u"
    refine plan_call ev2 (Td.tv he2) hsc2 (by omega) (by omega) fun H3 ev3 f3 => ?_
    have k3 := ev2.fr f3
    walk_at "u"
    refine ev3.meth (fun _ _ => rfl) ?_
    walk_at "u"
    refine r_ixD (k := 0) (hu2.k k3) hk fun v hv => ?_
    walk_at "u"
    refine plan_call ev3 hv.tv (hsc2.k k3 Gr.refl) (by simp [PS.push]; omega) (by simp [PS.push]; omega) fun H4 ev4 f4 => ?_
    walk_at "u"
    exact q H4 L ev4 ((PFr.same s12).trans (f3.trans f4))
  | @handle k info k0 kids arms _ _ hk =>
    walk_at "u"
    refine r_gT5 he fun x y zz u w hx hy hz hu hw => ?_
    have hx := hx.invS
    subst hx
    walk_at "u"
    refine ⟨szl (by simp), fun p hp => ?_⟩
    obtain ⟨H1, e1, s1, eT⟩ := lay_new (o := .tup [.str "int", .str "bool", .str "unit"]) hp
    rw [e1]
    refine r_inS (ss := ["int", "bool", "unit"]) (SqT.of eT) ?_
    walk_at "u"
    try refine br_n (by decide +kernel) ?_
    walk_at "u"
    refine ⟨szl (by simp), fun p2 hp2 => ?_⟩
    obtain ⟨H2, e2, s2, eT2⟩ := lay_new (o := .tup [.str "let", .str "seq", .str "if", .str "case"]) hp2
    rw [e2]
    refine r_inS (ss := ["let", "seq", "if", "case"]) (SqT.of eT2) ?_
    have s12 := s1.trans s2
    have ev2 := ev.same s12
    have hu2 := hu.k (Same.tk s12)
    have he2 := he.k (Same.tk s12)
    have hsc2 := hsc.k (Same.tk s12) (Gr.refl (ls := L.ls))
    clear eT eT2 e1 e2 hp hp2
    walk_at "u"
    try refine br_n (by decide +kernel) ?_
    walk_at "u"
    try refine br_y (by decide +kernel) ?_
    walk_at "u"
    refine ev2.meth (fun _ _ => rfl) ?_
    walk_at "u"
    refine plan_call ev2 (Td.tv he2) hsc2 (by omega) (by omega) fun H3 ev3 f3 => ?_
    have k3 := ev2.fr f3
    walk_at "u"
    refine ev3.meth (fun _ _ => rfl) ?_
    walk_at "u"
    refine r_ixD (k := 0) (hu2.k k3) hk fun v hv => ?_
    walk_at "u"
    refine plan_call ev3 hv.tv (hsc2.k k3 Gr.refl) (by simp [PS.push]; omega) (by simp [PS.push]; omega) fun H4 ev4 f4 => ?_
    walk_at "u"
    exact q H4 L ev4 ((PFr.same s12).trans (f3.trans f4))
  | @comp op k info kids arms _ _ o1 o2 o3 o4 o5 hk =>
    walk_at "u"
    refine r_gT5 he fun x y zz u w hx hy hz hu hw => ?_
    have hx := hx.invS
    subst hx
    walk_at "u"
    refine ⟨szl (by simp), fun p hp => ?_⟩
    obtain ⟨H1, e1, s1, eT⟩ := lay_new (o := .tup [.str "int", .str "bool", .str "unit"]) hp
    rw [e1]
    refine r_inS (ss := ["int", "bool", "unit"]) (SqT.of eT) ?_
    walk_at "u"
    try refine br_n o1 ?_
    walk_at "u"
    refine ⟨szl (by simp), fun p2 hp2 => ?_⟩
    obtain ⟨H2, e2, s2, eT2⟩ := lay_new (o := .tup [.str "let", .str "seq", .str "if", .str "case"]) hp2
    rw [e2]
    refine r_inS (ss := ["let", "seq", "if", "case"]) (SqT.of eT2) ?_
    have s12 := s1.trans s2
    have ev2 := ev.same s12
    have hu2 := hu.k (Same.tk s12)
    have he2 := he.k (Same.tk s12)
    have hsc2 := hsc.k (Same.tk s12) (Gr.refl (ls := L.ls))
    clear eT eT2 e1 e2 hp hp2
    walk_at "u"
    try refine br_n o2 ?_
    walk_at "u"
    refine ev2.meth (fun _ _ => rfl) ?_
    walk_at "u"
    refine plan_call ev2 (Td.tv he2) hsc2 (by omega) (by omega) fun H3 ev3 f3 => ?_
    have k3 := ev2.fr f3
    walk_at "u"
    refine r_revA ?_
    walk_at "u"
    obtain ⟨ka, us, rfl, sb, tb⟩ := (hu2.k k3).inv
    have lus : us.length = kids.length := tb.len
    have hsc3 := hsc2.k k3 (Gr.refl (ls := L.ls))
    refine ⟨ka, us, rfl, .inr ⟨sb, f_revT (fun i σ' H' => Ev K H' L pd fu ((kids.reverse.take i).foldl (fun z k => z.push "evaluate" k dsc) (z.push "compute" (pE op k info kids arms) dsc)) ∧ PFr L L H3 H' ∧ ∃ y8, σ' = [some (.ref L.s), some e, some sc, some (.str op), some y, some zz, some (.ref ka), some w, y8]) ⟨by simpa using ev3, PFr.refl, none, rfl⟩ (fun i σ' H' P => (ev3.fr P.2.1) _ _ sb) ?_ ?_⟩⟩
    · rintro i x σ' H4 hi hx ⟨ev4, f4, y8, rfl⟩
      have k4 := ev3.fr f4
      obtain ⟨d, hd, htd⟩ := tb.getV hx
      have hd2 : kids.reverse[i]? = some d := by
        rw [List.getElem?_reverse (by omega), ← lus]
        exact hd
      walk_at "u"
      refine ev4.meth (fun _ _ => rfl) ?_
      walk_at "u"
      refine plan_call ev4 (htd.k k4).tv (hsc3.k k4 Gr.refl) ?_ ?_ fun H5 ev5 f5 => ?_
      · rw [pushes]
        simp only [PS.push, List.length_append, List.length_map, List.length_take, List.length_cons, List.length_nil, List.length_reverse]
        omega
      · rw [pushes]
        exact Nat.le_trans lR (by decide)
      walk_at "u"
      refine ⟨?_, f4.trans f5, _, rfl⟩
      rw [List.take_add_one, hd2, List.foldl_append]
      exact ev5
    · rintro σ' H4 ⟨ev4, f4, y8, rfl⟩
      rw [lus, ← List.length_reverse, List.take_length] at ev4
      exact q H4 L ev4 ((PFr.same s12).trans (f3.trans f4))
end
section
variable {K : PySem.W.Frag} {vs : List V} {H : Hp} {Q : VK} {E : XK} {n : Nat}
theorem bindV_app : ∀ (l : List (Str × Vl)) (x : Str) (v sc : Vl), bindV (l ++ [(x, v)]) sc = scC x v (bindV l sc)
  | [], _, _, _ => rfl
  | (y, w) :: l, x, v, sc => bindV_app l x v (scC y w sc)
theorem D.map_strs (xs : List Str) : D.vlL (xs.map D.str) = xs.map Vl.str := by
  rw [D.vlL_map, List.map_map]; rfl
theorem rd_continue_let (h : sp_continue_let K vs H Q E) : t_continue_let K { nx := fun _ H' => Q .non H', rt := Q } (start n_continue_let vs) H := by
  obtain ⟨L, pd, fu, z, z', e, sc, de, dsc, rfl, ev, he, hsc, sm, ht, q⟩ := h
  have lT : z.ts.length ≤ 1000000 := sm.t
  have lR : z.rs.length ≤ 1000000 := sm.r
  unfold t_continue_let
  cases ht with
  | @mk x0 op k a b arms _ v R _ er =>
    rw [er] at lR
    simp only [List.length_append, List.length_cons, List.length_nil] at lR
    walk_at "u"
    refine ev.fR ?_
    refine ev.tyR ?_
    refine ev.popR er fun y H1 hy ev1 f1 => ?_
    have k1 := ev.fr f1
    walk_at "u"
    refine ev1.meth (fun _ _ => rfl) ?_
    walk_at "u"
    refine r_ixD (k := 3) (he.k k1) rfl fun u hu => ?_
    walk_at "u"
    refine r_ixD (k := 1) hu rfl fun w hw => ?_
    walk_at "u"
    refine r_ixD (k := 2) (he.k k1) rfl fun u2 hu2 => ?_
    have hu2 := hu2.invS
    subst hu2
    walk_at "u"
    refine ⟨szl (by simp), fun P hP => ?_⟩
    obtain ⟨H3, e3, s3, t3⟩ := Tv.lay (K := K) (ls := L.ls) (xs := [.str x0, v, dsc]) hP (.cons (.str _) (.cons hy (.cons (hsc.k k1 Gr.refl) .nil)))
    rw [e3]
    walk_at "u"
    refine plan_call (ev1.same s3) (hw.k (Same.tk s3)).tv t3 (by show z.ts.length ≤ _; omega) (by show R.length ≤ _; omega) fun H2 ev2 f2 => ?_
    walk_at "u"
    exact q H2 L ev2 (f1.trans ((PFr.same s3).trans f2))
theorem rd_continue_seq (h : sp_continue_seq K vs H Q E) : t_continue_seq K { nx := fun _ H' => Q .non H', rt := Q } (start n_continue_seq vs) H := by
  obtain ⟨L, pd, fu, z, z', e, sc, de, dsc, rfl, ev, he, hsc, sm, ht, q⟩ := h
  have lT : z.ts.length ≤ 1000000 := sm.t
  have lR : z.rs.length ≤ 1000000 := sm.r
  unfold t_continue_seq
  cases ht with
  | @mk op k info a b arms _ v R _ er =>
    rw [er] at lR
    simp only [List.length_append, List.length_cons, List.length_nil] at lR
    walk_at "u"
    refine ev.fR ?_
    refine ev.tyR ?_
    refine ev.popR er fun y H1 hy ev1 f1 => ?_
    have k1 := ev.fr f1
    walk_at "u"
    refine ev1.meth (fun _ _ => rfl) ?_
    walk_at "u"
    refine r_ixD (k := 3) (he.k k1) rfl fun u hu => ?_
    walk_at "u"
    refine r_ixD (k := 1) hu rfl fun w hw => ?_
    walk_at "u"
    refine plan_call ev1 hw.tv (hsc.k k1 Gr.refl) (by show z.ts.length ≤ _; omega) (by show R.length ≤ _; omega) fun H2 ev2 f2 => ?_
    walk_at "u"
    exact q H2 L ev2 (f1.trans f2)
theorem rd_continue_if (h : sp_continue_if K vs H Q E) : t_continue_if K { nx := fun _ H' => Q .non H', rt := Q } (start n_continue_if vs) H := by
  obtain ⟨L, pd, fu, z, z', e, sc, de, dsc, rfl, ev, he, hsc, sm, ht, q⟩ := h
  have lT : z.ts.length ≤ 1000000 := sm.t
  have lR : z.rs.length ≤ 1000000 := sm.r
  unfold t_continue_if
  cases ht with
  | @mk op k info a b c arms _ t R _ er =>
    rw [er] at lR
    simp only [List.length_append, List.length_cons, List.length_nil] at lR
    walk_at "u"
    refine ev.fR ?_
    refine ev.tyR ?_
    refine ev.popR er fun y H1 hy ev1 f1 => ?_
    have hy := hy.invB
    subst hy
    have k1 := ev.fr f1
    cases t
    · walk_at "u"
      refine ev1.meth (fun _ _ => rfl) ?_
      walk_at "u"
      refine r_ixD (k := 3) (he.k k1) rfl fun u hu => ?_
      walk_at "u"
      refine r_ixD (k := 2) hu rfl fun w hw => ?_
      walk_at "u"
      refine plan_call ev1 hw.tv (hsc.k k1 Gr.refl) (by show z.ts.length ≤ _; omega) (by show R.length ≤ _; omega) fun H2 ev2 f2 => ?_
      walk_at "u"
      exact q H2 L ev2 (f1.trans f2)
    · walk_at "u"
      refine ev1.meth (fun _ _ => rfl) ?_
      walk_at "u"
      refine r_ixD (k := 3) (he.k k1) rfl fun u hu => ?_
      walk_at "u"
      refine r_ixD (k := 1) hu rfl fun w hw => ?_
      walk_at "u"
      refine plan_call ev1 hw.tv (hsc.k k1 Gr.refl) (by show z.ts.length ≤ _; omega) (by show R.length ≤ _; omega) fun H2 ev2 f2 => ?_
      walk_at "u"
      exact q H2 L ev2 (f1.trans f2)
theorem rd_leave (h : sp_leave K vs H Q E) : t_leave K { nx := fun _ H' => Q .non H', rt := Q } (start n_leave vs) H := by
  obtain ⟨L, pd, fu, z, z', e, sc, de, dsc, rfl, ev, he, hsc, sm, rfl, q⟩ := h
  unfold t_leave
  walk_at "u"
  exact q H L ev PFr.refl
theorem rd_continue_case (h : sp_continue_case K vs H Q E) : t_continue_case K { nx := fun _ H' => Q .non H', rt := Q } (start n_continue_case vs) H := by
  obtain ⟨L, pd, fu, z, z', e, sc, de, dsc, rfl, ev, he, hsc, sm, ht, q⟩ := h
  have lT : z.ts.length ≤ 1000000 := sm.t
  have lR : z.rs.length ≤ 1000000 := sm.r
  unfold t_continue_case
  cases ht with
  | @mk op k info nm body kids arms xs _ fs n R _ er ha hl hl2 =>
    rw [er] at lR
    simp only [List.length_append, List.length_cons, List.length_nil] at lR
    walk_at "u"
    refine ev.fR ?_
    refine ev.tyR ?_
    refine ev.popR er fun y H1 hy ev1 f1 => ?_
    have k1 := ev.fr f1
    refine r_gV2 hy fun y1 y2 h1 h2 => ?_
    have h1 := h1.invI
    subst h1
    walk_at "u"
    refine r_ixD (k := 4) (he.k k1) rfl fun as has => ?_
    walk_at "u"
    refine r_ixD (k := n) has ha fun am ham => ?_
    walk_at "u"
    have hsc1 := hsc.k k1 (Gr.refl (ls := L.ls))
    obtain ⟨fa, fv, rfl, sf, tf⟩ := h2.inv
    have lfv := tf.len
    refine r_cut (fun σ' H' => Same H1 H' ∧ ∃ sc2 y6 y7, Tv K L.ls H' sc2 (bindV (xs.zip fs) dsc) ∧ σ' = [some (.ref L.s), some e, some sc2, some (.int (n : Nat)), some (.ref fa), some am, y6, y7]) ?_ ?_
    · walk_at "u"
      refine r_zipA ?_
      walk_at "u"
      refine r_ixD (k := 1) ham rfl fun pr hpr => ?_
      obtain ⟨kb, us, rfl, su, tu⟩ := hpr.inv
      have lus : us.length = xs.length := by rw [tu.len, List.length_map]
      walk_at "u"
      refine ⟨kb, fa, us, fv, rfl, .inr ⟨su, sf, RZ.for_zipT (xs := us) (ys := fv) (by rw [lus, lfv, hl]) (fun i σ' H' => Same H1 H' ∧ ∃ sc2 y6 y7, Tv K L.ls H' sc2 (bindV ((xs.zip fs).take i) dsc) ∧ σ' = [some (.ref L.s), some e, some sc2, some (.int (n : Nat)), some (.ref fa), some am, y6, y7]) ⟨Same.refl _, sc, none, none, hsc1, rfl⟩ (fun i σ' H' P => ⟨Same.tk P.1 _ _ su, Same.tk P.1 _ _ sf⟩) ?_ ?_⟩⟩
      · rintro i pv yv T σ' H2 hpv hyv ⟨s1, sc2, y6, y7, hsc2, rfl⟩ hT
        obtain ⟨pd', hpd, hpt⟩ := tu.getV hpv
        rw [List.getElem?_map] at hpd
        obtain ⟨xn, hxn, rfl⟩ := Option.map_eq_some_iff.mp hpd
        have hpt := hpt.invS
        subst hpt
        obtain ⟨fx, hfx⟩ : ∃ fx, fs[i]? = some fx := ⟨_, List.getElem?_eq_getElem (by have := (List.getElem?_eq_some_iff.mp hyv).1; omega)⟩
        obtain ⟨v2, hv2, tv2⟩ := tf.get hfx
        rw [hyv] at hv2
        cases hv2
        obtain ⟨H3, e3, s3, eT⟩ := lay_new (o := .tup [.str xn, yv]) hT
        rw [e3]
        refine r_gT2v (SqT.of eT) ?_
        walk_at "u"
        refine ⟨szl (by simp), fun P hP => ?_⟩
        obtain ⟨H4, e4, s4, t4⟩ := Tv.lay (K := K) (ls := L.ls) (xs := [.str xn, fx, bindV ((xs.zip fs).take i) dsc]) hP (.cons (.str _) (.cons (tv2.k (Same.tk (s1.trans s3)) Gr.refl) (.cons (hsc2.k (Same.tk s3) Gr.refl) .nil)))
        rw [e4]
        walk_at "u"
        refine ⟨s1.trans (s3.trans s4), .ref P, _, _, ?_, rfl⟩
        have hz : (xs.zip fs)[i]? = some (xn, fx) := by
          rw [List.getElem?_zip_eq_some]
          exact ⟨hxn, hfx⟩
        rw [List.take_add_one, hz]
        show Tv K L.ls H4 _ (bindV ((xs.zip fs).take i ++ [(xn, fx)]) dsc)
        rw [bindV_app]
        exact t4
      · rintro σ' H2 ⟨s1, sc2, y6, y7, hsc2, rfl⟩
        refine ⟨s1, sc2, y6, y7, ?_, rfl⟩
        rw [lus, List.take_of_length_le (by rw [List.length_zip]; omega)] at hsc2
        exact hsc2
    rintro σ' H2 ⟨s1, sc2, y6, y7, hsc2, rfl⟩
    have ev2 := ev1.same s1
    walk_at "u"
    refine ev2.meth (fun _ _ => rfl) ?_
    walk_at "u"
    refine r_ixD (k := 2) (ham.k (Same.tk s1)) rfl fun u hu => ?_
    walk_at "u"
    refine plan_call ev2 hu.tv hsc2 (by show z.ts.length ≤ _; omega) (by show R.length ≤ _; omega) fun H3 ev3 f3 => ?_
    walk_at "u"
    exact q H3 L ev3 (f1.trans ((PFr.same s1).trans f3))
end
section
variable {K : PySem.W.Frag} {vs : List V} {H H' : Hp} {Q : VK} {E : XK} {n : Nat} {L : PL} {pd : D} {fu : Nat} {z : PS} {p : Addr} {g : List Vl}
theorem Gv.k (gv : Gv K L H p g) (ev : Ev K H L pd fu z) (f : PFr L L H H') : Gv K L H' p g := by
  obtain ⟨us, h, t⟩ := gv.ex
  exact ⟨⟨us, f.fr _ _ gv.nm h, t.k (ev.fr f) Gr.refl⟩, gv.nm⟩
theorem Gv.ks (gv : Gv K L H p g) (s : Same H H') : Gv K L H' p g := by
  obtain ⟨us, h, t⟩ := gv.ex
  exact ⟨⟨us, s _ _ h, t.k (Same.tk s) Gr.refl⟩, gv.nm⟩
theorem r_ixG {v : Vl} {k : Nat} (gv : Gv K L H p g) (e : g[k]? = some v) (q : ∀ u, Tv K L.ls H u v → Q u H) : uIx K (.ref p) (.int (k : Int)) H Q := by
  obtain ⟨us, h, t⟩ := gv.ex
  obtain ⟨u, h1, h2⟩ := t.get e
  exact r_ixL (SqL.of h) (atI_nat h1) (q u h2)
theorem rd_enter (h : sp_enter K vs H Q E) : t_enter K { nx := fun _ H' => Q .non H', rt := Q } (start n_enter vs) H := by
  obtain ⟨L, pd, fu, z, z', op, i, p, di, g, rfl, ev, hi, gv, sm, ht, q⟩ := h
  have lT : z.ts.length ≤ 1000000 := sm.t
  have lR : z.rs.length ≤ 1000000 := sm.r
  unfold t_enter
  walk_at "ui"
  refine ev.meth (fun _ _ => rfl) ?_
  walk_at "u"
  refine ⟨L, pd, fu, z, 1, rfl, ev, fun hc H1 ev1 f1 => ?_, fun hc H1 ev1 f1 => ?_⟩
  · cases ht with
    | no _ =>
      walk_at "u"
      exact q H1 ev1 f1
    | app h1 => omega
    | call h1 _ _ => omega
  · have k1 := ev.fr f1
    have gv1 := gv.k ev f1
    cases ht with
    | no h1 => omega
    | @app x b info sc v _ h1 =>
      walk_at "u"
      walk_at "ui"
      refine r_ixG (k := 0) gv1 rfl fun u hu => ?_
      refine r_gV3 hu fun y1 y2 y3 g1 g2 g3 => ?_
      have g1 := g1.invS
      subst g1
      walk_at "u"
      refine ev1.meth (fun _ _ => rfl) ?_
      walk_at "u"
      refine r_ixG (k := 1) gv1 rfl fun u2 hu2 => ?_
      walk_at "u"
      refine ⟨szl (by simp), fun P hP => ?_⟩
      obtain ⟨H3, e3, s3, t3⟩ := Tv.lay (K := K) (ls := L.ls) (xs := [.str x, v, sc]) hP (.cons (.str _) (.cons hu2 (.cons g3 .nil)))
      rw [e3]
      walk_at "u"
      refine plan_call (ev1.same s3) (g2.k (Same.tk s3) Gr.refl) t3 (by show z.ts.length ≤ _; omega) (by show z.rs.length ≤ _; omega) fun H2 ev2 f2 => ?_
      walk_at "u"
      exact q H2 ev2 (f1.trans ((PFr.same s3).trans f2))
    | @call i ps body _ _ h1 hf hl =>
      obtain ⟨a0, b0, fs, nm, k0, rfl, hfi⟩ := hf
      have hi := hi.invI
      subst hi
      walk_at "u"
      walk_at "ui"
      refine ev1.fP fun v hv => ?_
      walk_at "u"
      refine r_ixD (k := 2) hv rfl fun u1 hu1 => ?_
      walk_at "u"
      refine r_ixD (k := i) hu1 hfi fun fv hfv => ?_
      obtain ⟨gs, hgs, tgs⟩ := gv1.ex
      have lgs := tgs.len
      walk_at "u"
      refine r_cut (fun σ' H' => Same H1 H' ∧ ∃ sc2 y8 y9, Tv K L.ls H' sc2 (bindV ((ps.map (·.1)).zip g) .non) ∧ σ' = [some (.ref L.s), some (.str "call"), some (.int (i : Nat)), some (.ref p), none, none, some sc2, some fv, y8, y9]) ?_ ?_
      · walk_at "u"
        refine r_zipM ?_
        walk_at "u"
        refine r_ixD (k := 1) hfv rfl fun pr hpr => ?_
        obtain ⟨kb, us, rfl, su, tu⟩ := hpr.inv
        have lus : us.length = ps.length := by rw [tu.len, List.length_map]
        walk_at "u"
        refine ⟨kb, p, us, gs, rfl, ⟨su, SqL.of hgs⟩, f_zipM (xs := us) (ys := gs) (by rw [lus, lgs, hl]) (fun j σ' H' => Same H1 H' ∧ ∃ sc2 y8 y9, Tv K L.ls H' sc2 (bindV (((ps.map (·.1)).zip g).take j) .non) ∧ σ' = [some (.ref L.s), some (.str "call"), some (.int (i : Nat)), some (.ref p), none, none, some sc2, some fv, y8, y9]) ⟨Same.refl _, .non, none, none, .non, rfl⟩ (fun i σ' H' P => ⟨Same.tk P.1 _ _ su, SqL.of (P.1 _ _ hgs)⟩) ?_ ?_⟩
        · rintro j pv yv T σ' H2 hpv hyv ⟨s1, sc2, y6, y7, hsc2, rfl⟩ hT
          obtain ⟨pd', hpd, hpt⟩ := tu.getV hpv
          rw [List.getElem?_map] at hpd
          obtain ⟨xn, hxn, rfl⟩ := Option.map_eq_some_iff.mp hpd
          obtain ⟨fx, hfx⟩ : ∃ fx, g[j]? = some fx := ⟨_, List.getElem?_eq_getElem (by have := (List.getElem?_eq_some_iff.mp hyv).1; omega)⟩
          obtain ⟨v2, hv2, tv2⟩ := tgs.get hfx
          rw [hyv] at hv2
          cases hv2
          obtain ⟨H3, e3, s3, eT⟩ := lay_new (o := .tup [pv, yv]) hT
          rw [e3]
          refine r_gT2v (SqT.of eT) ?_
          walk_at "u"
          refine r_ixD (k := 0) (hpt.k (Same.tk (s1.trans s3))) rfl fun zz hz => ?_
          have hz := hz.invS
          subst hz
          walk_at "u"
          refine ⟨szl (by simp), fun P hP => ?_⟩
          obtain ⟨H4, e4, s4, t4⟩ := Tv.lay (K := K) (ls := L.ls) (xs := [.str xn.1, fx, bindV (((ps.map (·.1)).zip g).take j) .non]) hP (.cons (.str _) (.cons (tv2.k (Same.tk (s1.trans s3)) Gr.refl) (.cons (hsc2.k (Same.tk s3) Gr.refl) .nil)))
          rw [e4]
          walk_at "u"
          refine ⟨s1.trans (s3.trans s4), .ref P, _, _, ?_, rfl⟩
          have hz : ((ps.map (·.1)).zip g)[j]? = some (xn.1, fx) := by
            rw [List.getElem?_zip_eq_some]
            exact ⟨by rw [List.getElem?_map, hxn]; rfl, hfx⟩
          rw [List.take_add_one, hz]
          show Tv K L.ls H4 _ (bindV (((ps.map (·.1)).zip g).take j ++ [(xn.1, fx)]) .non)
          rw [bindV_app]
          exact t4
        · rintro σ' H2 ⟨s1, sc2, y6, y7, hsc2, rfl⟩
          refine ⟨s1, sc2, y6, y7, ?_, rfl⟩
          rw [lus, List.take_of_length_le (by rw [List.length_zip, List.length_map]; omega)] at hsc2
          exact hsc2
      rintro σ' H2 ⟨s1, sc2, y6, y7, hsc2, rfl⟩
      have ev2 := ev1.same s1
      walk_at "u"
      refine ev2.meth (fun _ _ => rfl) ?_
      walk_at "u"
      refine r_ixD (k := 3) (hfv.k (Same.tk s1)) rfl fun u hu => ?_
      walk_at "u"
      refine plan_call ev2 hu.tv hsc2 (by show z.ts.length ≤ _; omega) (by show z.rs.length ≤ _; omega) fun H3 ev3 f3 => ?_
      walk_at "u"
      exact q H3 ev3 (f1.trans ((PFr.same s1).trans f3))
end
section
variable {K : PySem.W.Frag} {vs : List V} {H H' : Hp} {Q : VK} {E : XK} {n : Nat} {L : PL} {pd : D} {fu : Nat} {z : PS} {p : Addr} {g : List Vl}
theorem ixN_nat {n r : Nat} (h : r < n) : ixN n (r : Int) = some r := by
  unfold ixN
  rw [if_pos (by omega), if_pos (by omega)]
  simp
theorem Ev.cell {i : Nat} {v : V} {xs : List Vl} (e : Ev K H L pd fu z) (h : Tv K L.ls H v (.loc i)) (hx : z.st[i]? = some xs) : ∃ a us, v = .ref a ∧ L.ls[i]? = some a ∧ H a = some (.lst us) ∧ TvL K L.ls H us xs := by
  obtain ⟨a, rfl, hi⟩ := h.invL
  obtain ⟨us, xs', h1, h2, h3⟩ := e.ce i a hi
  rw [hx] at h1
  cases h1
  exact ⟨a, us, rfl, hi, h2, h3⟩
theorem Ev.pushNew {xs : List Vl} {us : List V} {P : Addr} (ev : Ev K H L pd fu z) (hP : H P = none) (t : TvL K L.ls H us xs) (lR : z.rs.length ≤ 1000000) (q : ∀ H' L', Ev K H' L' pd fu (z.new xs) → PFr L L' H H' → Q .non H') : uAppend (.ref L.rA) [.ref P] (upd H P (.lst us)) Q := by
  have w := ev.newC hP t
  have tl : Tv K ({ L with ls := L.ls ++ [P] } : PL).ls (upd H P (.lst us)) (.ref P) (.loc z.st.length) := .loc (by
    show (L.ls ++ [P])[z.st.length]? = some P
    rw [← ev.ln]
    simp)
  refine w.1.pushR (L := { L with ls := L.ls ++ [P] }) (by show z.rs.length ≤ _; omega) tl fun H2 ev2 f2 => ?_
  exact q H2 _ ev2 (w.2.trans f2)
theorem rd_compute_ref (h : sp_compute_ref K vs H Q E) : t_compute_ref K { nx := fun _ H' => Q .non H', rt := Q } (start n_compute_ref vs) H := by
  obtain ⟨L, pd, fu, z, z', op, p, g, rfl, ev, gv, sm, ht, q⟩ := h
  have lT : z.ts.length ≤ 1000000 := sm.t
  have lR : z.rs.length ≤ 1000000 := sm.r
  unfold t_compute_ref
  cases ht with
  | ref =>
    walk_at "u"
    refine ev.fR ?_
    refine ev.tyR ?_
    walk_at "u"
    refine r_ixG (k := 0) gv rfl fun u hu => ?_
    walk_at "u"
    refine ⟨szl (by simp), fun P hP => ?_⟩
    refine ev.pushNew hP (.one hu) lR fun H2 L2 ev2 f2 => ?_
    walk_at "u"
    exact q H2 L2 ev2 f2
  | deref hst =>
    walk_at "u"
    walk_at "u"
    refine ev.fR ?_
    refine ev.tyR ?_
    walk_at "u"
    refine r_ixG (k := 0) gv rfl fun u hu => ?_
    obtain ⟨a, us, rfl, hi, ha, ta⟩ := ev.cell hu hst
    obtain ⟨w, hw, tw⟩ := ta.get (i := 0) rfl
    walk_at "u"
    refine r_ixL (SqL.of ha) (atI_nat (j := 0) hw) ?_
    walk_at "u"
    refine ev.pushR (by omega) tw fun H2 ev2 f2 => ?_
    walk_at "u"
    exact q H2 L ev2 f2
  | @set i v w xs _ hst =>
    walk_at "u"
    walk_at "u"
    refine r_ixG (k := 1) gv rfl fun wv hw => ?_
    walk_at "u"
    refine r_ixG (k := 0) gv rfl fun u hu => ?_
    obtain ⟨a, us, rfl, hi, ha, ta⟩ := ev.cell hu hst
    cases ta with
    | cons t0 tr =>
    walk_at "u"
    refine r_setL ha (ixN_nat (r := 0) (by simp)) ?_
    have w2 := ev.updC hi (TvL.cons hw tr)
    rename_i v0 vs0
    obtain ⟨H1, e1, i1, k1⟩ := lay_set (H1 := H) (s := a) (o := .lst (wv :: vs0))
    rw [e1] at w2
    refine (congrArg (fun Z => _) e1).mpr ?_
    walk_at "u"
    refine w2.1.fR ?_
    refine w2.1.tyR ?_
    walk_at "u"
    refine w2.1.pushR (by show z.rs.length ≤ _; omega) .non fun H2 ev2 f2 => ?_
    walk_at "u"
    exact q H2 L ev2 (w2.2.trans f2)
theorem rd_compute_array (h : sp_compute_array K vs H Q E) : t_compute_array K { nx := fun _ H' => Q .non H', rt := Q } (start n_compute_array vs) H := by
  obtain ⟨L, pd, fu, z, z', op, p, g, rfl, ev, gv, sm, ht, q⟩ := h
  have lT : z.ts.length ≤ 1000000 := sm.t
  have lR : z.rs.length ≤ 1000000 := sm.r
  unfold t_compute_array
  cases ht with
  | @len i xs _ hst =>
    walk_at "u"
    refine ev.fR ?_
    refine ev.tyR ?_
    walk_at "u"
    refine r_ixG (k := 0) gv rfl fun u hu => ?_
    obtain ⟨a, us, rfl, hi, ha, ta⟩ := ev.cell hu hst
    walk_at "u"
    rw [ta.len]
    refine ev.pushR (by omega) (.int _) fun H2 ev2 f2 => ?_
    walk_at "u"
    exact q H2 L ev2 f2
  | @size c v _ _ hc hth =>
    walk_at "u"
    refine r_ixG (k := 0) gv rfl fun u hu => ?_
    have hu := hu.invI
    subst hu
    walk_at "u"
    refine br_d (fun h1 => ?_) (fun h1 => ?_)
    · walk_at "u"
      refine ev.meth (fun _ _ => rfl) ?_
      walk_at "u"
      refine ⟨L, pd, fu, z, z', 2, .int c, .int c, rfl, ev, .int c, sm, hth, fun H2 ev2 f2 => ?_⟩
      walk_at "u"
      exact q H2 L ev2 f2
    · walk_at "u"
      refine ev.meth (fun _ _ => rfl) ?_
      walk_at "u"
      refine ⟨L, pd, fu, z, z', 2, .int c, .int c, rfl, ev, .int c, sm, hth, fun H2 ev2 f2 => ?_⟩
      walk_at "u"
      exact q H2 L ev2 f2
  | @fuel c v _ hc hf =>
    walk_at "u"
    refine r_ixG (k := 0) gv rfl fun u hu => ?_
    have hu := hu.invI
    subst hu
    walk_at "u"
    refine ev.meth (fun _ _ => rfl) ?_
    walk_at "u"
    refine ⟨L, pd, fu, z, c, rfl, ev, fun hc H1 ev1 f1 => ?_, fun hc H1 ev1 f1 => by omega⟩
    walk_at "u"
    exact q H1 L ev1 f1
  | @array c v _ hc hf =>
    walk_at "u"
    refine r_ixG (k := 0) gv rfl fun u hu => ?_
    have hu := hu.invI
    subst hu
    walk_at "u"
    refine ev.meth (fun _ _ => rfl) ?_
    walk_at "u"
    refine ⟨L, pd, fu, z, c, rfl, ev, fun hc H1 ev1 f1 => by omega, fun hc2 H1 ev1 f1 => ?_⟩
    have gv1 := gv.k ev f1
    walk_at "u"
    refine ev1.fR ?_
    refine ev1.tyR ?_
    walk_at "u"
    refine r_ixG (k := 1) gv1 rfl fun u hu => ?_
    walk_at "u"
    refine ⟨szl (by simp), fun P0 hP0 => ?_⟩
    obtain ⟨H2, e2, s2, eL⟩ := lay_new (o := .lst [u]) hP0
    rw [e2]
    walk_at "u"
    refine ⟨[u], eL, by omega, by omega, szl (by simp; omega), fun P hP => ?_⟩
    have ev2 := ev1.same s2
    rw [Int.toNat_natCast, List.flatten_replicate_singleton]
    refine ev2.pushNew hP ((TvL.rep hu c).k (Same.tk s2) Gr.refl) lR fun H3 L3 ev3 f3 => ?_
    walk_at "u"
    exact q H3 L3 ev3 (f1.trans ((PFr.same s2).trans f3))
  | @off op i k g xs _ _ hop hst hk hth =>
    rcases hop with rfl | rfl
    · walk_at "u"
      refine r_ixG (k := 1) gv rfl fun u1 hu1 => ?_
      have hu1 := hu1.invI
      subst hu1
      walk_at "u"
      refine br_d (fun h1 => ?_) (fun h1 => ?_)
      · walk_at "u"
        refine ev.meth (fun _ _ => rfl) ?_
        walk_at "u"
        refine r_ixG (k := 1) gv rfl fun u1 hu1 => ?_
        have hu1 := hu1.invI
        subst hu1
        walk_at "u"
        refine ⟨L, pd, fu, z, z', 1, .int k, .int k, rfl, ev, .int k, sm, hth, fun H2 ev2 f2 => ?_⟩
        walk_at "u"
        exact q H2 L ev2 f2
      · walk_at "u"
        refine r_ixG (k := 1) gv rfl fun u1 hu1 => ?_
        have hu1 := hu1.invI
        subst hu1
        walk_at "u"
        refine r_ixG (k := 0) gv rfl fun u hu => ?_
        obtain ⟨a, us, rfl, hi, ha, ta⟩ := ev.cell hu hst
        walk_at "u"
        rw [ta.len]
        refine br_y (by omega) ?_
        walk_at "u"
        refine ev.meth (fun _ _ => rfl) ?_
        walk_at "u"
        refine r_ixG (k := 1) gv rfl fun u1 hu1 => ?_
        have hu1 := hu1.invI
        subst hu1
        walk_at "u"
        refine ⟨L, pd, fu, z, z', 1, .int k, .int k, rfl, ev, .int k, sm, hth, fun H2 ev2 f2 => ?_⟩
        walk_at "u"
        exact q H2 L ev2 f2
    · walk_at "u"
      refine r_ixG (k := 1) gv rfl fun u1 hu1 => ?_
      have hu1 := hu1.invI
      subst hu1
      walk_at "u"
      refine br_d (fun h1 => ?_) (fun h1 => ?_)
      · walk_at "u"
        refine ev.meth (fun _ _ => rfl) ?_
        walk_at "u"
        refine r_ixG (k := 1) gv rfl fun u1 hu1 => ?_
        have hu1 := hu1.invI
        subst hu1
        walk_at "u"
        refine ⟨L, pd, fu, z, z', 1, .int k, .int k, rfl, ev, .int k, sm, hth, fun H2 ev2 f2 => ?_⟩
        walk_at "u"
        exact q H2 L ev2 f2
      · walk_at "u"
        refine r_ixG (k := 1) gv rfl fun u1 hu1 => ?_
        have hu1 := hu1.invI
        subst hu1
        walk_at "u"
        refine r_ixG (k := 0) gv rfl fun u hu => ?_
        obtain ⟨a, us, rfl, hi, ha, ta⟩ := ev.cell hu hst
        walk_at "u"
        rw [ta.len]
        refine br_y (by omega) ?_
        walk_at "u"
        refine ev.meth (fun _ _ => rfl) ?_
        walk_at "u"
        refine r_ixG (k := 1) gv rfl fun u1 hu1 => ?_
        have hu1 := hu1.invI
        subst hu1
        walk_at "u"
        refine ⟨L, pd, fu, z, z', 1, .int k, .int k, rfl, ev, .int k, sm, hth, fun H2 ev2 f2 => ?_⟩
        walk_at "u"
        exact q H2 L ev2 f2
  | @at_ i k v xs _ hst hk =>
    have hl := (List.getElem?_eq_some_iff.mp hk).1
    walk_at "u"
    refine r_ixG (k := 1) gv rfl fun u1 hu1 => ?_
    have hu1 := hu1.invI
    subst hu1
    walk_at "u"
    refine r_ixG (k := 1) gv rfl fun u1 hu1 => ?_
    have hu1 := hu1.invI
    subst hu1
    walk_at "u"
    refine r_ixG (k := 0) gv rfl fun u hu => ?_
    obtain ⟨a, us, rfl, hi, ha, ta⟩ := ev.cell hu hst
    walk_at "u"
    rw [ta.len]
    refine br_n (by omega) ?_
    walk_at "u"
    refine ev.fR ?_
    refine ev.tyR ?_
    walk_at "u"
    refine r_ixG (k := 0) gv rfl fun u hu => ?_
    obtain ⟨a2, us2, rfl, hi2, ha2, ta2⟩ := ev.cell hu hst
    walk_at "u"
    refine r_ixG (k := 1) gv rfl fun u1 hu1 => ?_
    have hu1 := hu1.invI
    subst hu1
    obtain ⟨w, hw, tw⟩ := ta2.get hk
    walk_at "u"
    refine r_ixL (SqL.of ha2) (atI_nat hw) ?_
    walk_at "u"
    refine ev.pushR (by omega) tw fun H2 ev2 f2 => ?_
    walk_at "u"
    exact q H2 L ev2 f2
  | @put i k w xs _ hst hl =>
    walk_at "u"
    refine r_ixG (k := 1) gv rfl fun u1 hu1 => ?_
    have hu1 := hu1.invI
    subst hu1
    walk_at "u"
    refine r_ixG (k := 1) gv rfl fun u1 hu1 => ?_
    have hu1 := hu1.invI
    subst hu1
    walk_at "u"
    refine r_ixG (k := 0) gv rfl fun u hu => ?_
    obtain ⟨a, us, rfl, hi, ha, ta⟩ := ev.cell hu hst
    walk_at "u"
    rw [ta.len]
    refine br_n (by omega) ?_
    walk_at "u"
    refine r_ixG (k := 2) gv rfl fun wv hw => ?_
    walk_at "u"
    refine r_ixG (k := 0) gv rfl fun u hu => ?_
    obtain ⟨a2, us2, rfl, hi2, ha2, ta2⟩ := ev.cell hu hst
    walk_at "u"
    refine r_ixG (k := 1) gv rfl fun u1 hu1 => ?_
    have hu1 := hu1.invI
    subst hu1
    walk_at "u"
    refine r_setL ha2 (ixN_nat (r := k) (by rw [ta2.len]; exact hl)) ?_
    have w2 := ev.updC hi2 (ta2.set k hw)
    obtain ⟨H1, e1, i1, k1⟩ := lay_set (H1 := H) (s := a2) (o := .lst (us2.set k wv))
    rw [e1] at w2
    refine (congrArg (fun Z => _) e1).mpr ?_
    walk_at "u"
    refine w2.1.fR ?_
    refine w2.1.tyR ?_
    walk_at "u"
    refine w2.1.pushR (by show z.rs.length ≤ _; omega) .non fun H2 ev2 f2 => ?_
    walk_at "u"
    exact q H2 L ev2 (w2.2.trans f2)
end
section
variable {K : PySem.W.Frag} {vs : List V} {H H' : Hp} {Q : VK} {E : XK} {n : Nat} {L : PL} {pd : D} {fu : Nat} {z : PS} {p : Addr} {g : List Vl}
theorem Ev.full (e : Ev K H L pd fu z) (hp : H p = none) : p ∉ L.all := fun m => by
  obtain ⟨⟨dx, pv, fv, h1, _⟩, ⟨tv, h2, _⟩, ⟨rv, h3, _⟩, ⟨ov, h4, _⟩, ce, _⟩ := e
  simp only [PL.all, List.mem_cons] at m
  rcases m with rfl | rfl | rfl | rfl | m
  · rw [hp] at h1; cases h1
  · rw [hp] at h2; cases h2
  · rw [hp] at h3; cases h3
  · rw [hp] at h4; cases h4
  · obtain ⟨i, hi⟩ := List.getElem?_of_mem m
    obtain ⟨us, xs, _, h, _⟩ := ce i p hi
    rw [hp] at h; cases h
/-- the rest of compute, the kids' values off the results -/
def t_comp2 (K : PySem.W.Frag) : TS := (tIfS (tTest (tOp (uIn K id) (tVar 3) (tTup (tCons (tC (.str "make")) (tCons (tC (.str "tuple")) tNil))))) (tDrop (tBM K "list" (uAppend) (tFldC (He.ga K "Evaluation") (tVar 0) "results") (tCons (tIf (tTest (tOp (uEq K) (tVar 3) (tC (.str "make")))) (tTup (tCons (tVar 5) (tCons (tCB (uTuple K) (tCons (tVar 9) tNil)) tNil))) (tCB (uTuple K) (tCons (tVar 9) tNil))) tNil))) (tIfS (tTest (tOp (uEq K) (tVar 3) (tC (.str "get")))) (tDrop (tBM K "list" (uAppend) (tFldC (He.ga K "Evaluation") (tVar 0) "results") (tCons (tOp (uIx K) (tOp (uIx K) (tVar 9) (tC (.int 0))) (tVar 5)) tNil))) (tIfS (tTest (tOp (uIn K id) (tVar 3) (tTup (tCons (tC (.str "call")) (tCons (tC (.str "apply")) tNil))))) (tDrop (tCall (sp_enter K) [] E0 (tCons (tVar 0) (tCons (tVar 3) (tCons (tVar 5) (tCons (tVar 9) tNil)))))) (tIfS (tTest (tOp (uEq K) (tVar 3) (tC (.str "raise")))) (tDrop (tMeth (He.ga K "Evaluation") "throw" (sp_Evaluation_throw K) [] E0 (tVar 0) (tCons (tVar 5) (tCons (tOp (uIx K) (tVar 9) (tC (.int 0))) tNil)))) (tIfS (tTest (tOp (uEq K) (tVar 3) (tC (.str "print")))) (tSq (tDrop (tBM K "list" (uAppend) (tFldC (He.ga K "Evaluation") (tVar 0) "outs") (tCons (tOp (uIx K) (tVar 9) (tC (.int 0))) tNil)))
    (tDrop (tBM K "list" (uAppend) (tFldC (He.ga K "Evaluation") (tVar 0) "results") (tCons (tC .non) tNil)))) (tIfS (tTest (tOp (uIn K id) (tVar 3) (tTup (tCons (tC (.str "ref")) (tCons (tC (.str "deref")) (tCons (tC (.str "set")) tNil)))))) (tDrop (tCall (sp_compute_ref K) [] E0 (tCons (tVar 0) (tCons (tVar 3) (tCons (tVar 9) tNil))))) (tIfS (tTest (tOp (uIn K id) (tVar 3) (tTup (tCons (tC (.str "array")) (tCons (tC (.str "at")) (tCons (tC (.str "put")) (tCons (tC (.str "len")) tNil))))))) (tDrop (tCall (sp_compute_array K) [] E0 (tCons (tVar 0) (tCons (tVar 3) (tCons (tVar 9) tNil))))) (tIfS (tAnd (tTest (tOp (uIn K id) (tVar 3) (tTup (tCons (tC (.str "div")) (tCons (tC (.str "rem")) tNil))))) (tTest (tOp (uEq K) (tOp (uIx K) (tVar 9) (tC (.int 1))) (tC (.int 0))))) (tDrop (tMeth (He.ga K "Evaluation") "throw" (sp_Evaluation_throw K) [] E0 (tVar 0) (tCons (tC (.int 0)) (tCons (tC (.int 0)) tNil)))) (tDrop (tBM K "list" (uAppend) (tFldC (He.ga K "Evaluation") (tVar 0) "results") (tCons (tCall (sp_calculate K) [] E0 (tCons (tVar 3) (tCons (tOp (uIx K) (tVar 9) (tC (.int 0))) (tCons (tOp (uIx K) (tVar 9) (tC (.int 1))) tNil)))) tNil)))))))))))
theorem r_comp2 {z' : PS} {op : Str} {e sc y i u w m : V} {di : D} {H0 : Hp} (ev : Ev K H L pd fu z) (gv : Gv K L H p g) (hz : Td K H i di) (sm : Small z) (f : PFr L L H0 H) (hc : Cmp pd fu op di g z z')
    (q : ∀ H' L', Ev K H' L' pd fu z' → PFr L L' H0 H' → Q .non H') : t_comp2 K { nx := fun _ H' => Q .non H', rt := Q } [some (.ref L.s), some e, some sc, some (.str op), some y, some i, some u, some w, some m, some (.ref p)] H := by
  have lT : z.ts.length ≤ 1000000 := sm.t
  have lR : z.rs.length ≤ 1000000 := sm.r
  unfold t_comp2
  cases hc with
  | @make info g z =>
    obtain o0 : ("make" : Str) ∈ (["make", "tuple"] : List Str) := by decide +kernel
    walk_at "u"
    refine ⟨szl (by simp), fun t1 ht1 => ?_⟩
    obtain ⟨H3, e3, s3, w3⟩ := lay_new (o := .tup [.str "make", .str "tuple"]) ht1
    rw [e3]
    refine r_inS (ss := ["make", "tuple"]) (SqT.of w3) ?_
    replace ev := ev.same s3
    replace gv := gv.ks s3
    replace hz := hz.k (Same.tk s3)
    replace f := f.trans (PFr.same s3)
    clear w3 e3 ht1 s3
    walk_at "u"
    try refine br_y o0 ?_
    walk_at "u"
    refine ev.fR ?_
    refine ev.tyR ?_
    walk_at "u"
    obtain ⟨us, hus, tus⟩ := gv.ex
    refine r_tupleL (SqL.of hus) fun l hl => ?_
    obtain ⟨H4, e4, s4, t4⟩ := Tv.lay (K := K) (ls := L.ls) (xs := g) hl tus
    rw [e4]
    replace ev := ev.same s4
    replace hz := hz.k (Same.tk s4)
    replace f := f.trans (PFr.same s4)
    walk_at "u"
    refine ⟨szl (by simp), fun P hP => ?_⟩
    obtain ⟨H5, e5, s5, t5⟩ := Tv.lay (K := K) (ls := L.ls) (xs := [di.vl, .tup g]) hP (.cons hz.tv (.cons t4 .nil))
    rw [e5]
    replace ev := ev.same s5
    replace f := f.trans (PFr.same s5)
    walk_at "u"
    refine ev.pushR (by omega) t5 fun H8 ev8 f8 => ?_
    walk_at "u"
    exact q H8 L ev8 (f.trans f8)
  | @tuple info g z =>
    obtain o0 : ("tuple" : Str) ∈ (["make", "tuple"] : List Str) := by decide +kernel
    walk_at "u"
    refine ⟨szl (by simp), fun t1 ht1 => ?_⟩
    obtain ⟨H3, e3, s3, w3⟩ := lay_new (o := .tup [.str "make", .str "tuple"]) ht1
    rw [e3]
    refine r_inS (ss := ["make", "tuple"]) (SqT.of w3) ?_
    replace ev := ev.same s3
    replace gv := gv.ks s3
    replace hz := hz.k (Same.tk s3)
    replace f := f.trans (PFr.same s3)
    clear w3 e3 ht1 s3
    walk_at "u"
    try refine br_y o0 ?_
    walk_at "u"
    refine ev.fR ?_
    refine ev.tyR ?_
    walk_at "u"
    obtain ⟨us, hus, tus⟩ := gv.ex
    refine r_tupleL (SqL.of hus) fun l hl => ?_
    obtain ⟨H4, e4, s4, t4⟩ := Tv.lay (K := K) (ls := L.ls) (xs := g) hl tus
    rw [e4]
    replace ev := ev.same s4
    replace hz := hz.k (Same.tk s4)
    replace f := f.trans (PFr.same s4)
    walk_at "u"
    refine ev.pushR (by omega) t4 fun H8 ev8 f8 => ?_
    walk_at "u"
    exact q H8 L ev8 (f.trans f8)
  | @get i xs g v z hx =>
    obtain ⟨o0, o1⟩ : ("get" : Str) ∉ (["make", "tuple"] : List Str) ∧ ("get" : Str) = "get" := by decide +kernel
    walk_at "u"
    refine ⟨szl (by simp), fun t1 ht1 => ?_⟩
    obtain ⟨H3, e3, s3, w3⟩ := lay_new (o := .tup [.str "make", .str "tuple"]) ht1
    rw [e3]
    refine r_inS (ss := ["make", "tuple"]) (SqT.of w3) ?_
    replace ev := ev.same s3
    replace gv := gv.ks s3
    replace hz := hz.k (Same.tk s3)
    replace f := f.trans (PFr.same s3)
    clear w3 e3 ht1 s3
    walk_at "u"
    try refine br_n o0 ?_
    walk_at "u"
    try refine br_y o1 ?_
    walk_at "u"
    refine ev.fR ?_
    refine ev.tyR ?_
    walk_at "u"
    have hz := hz.invI
    subst hz
    refine r_ixG (k := 0) gv rfl fun u hu => ?_
    walk_at "u"
    refine r_ixV (k := i) hu hx fun w hw => ?_
    walk_at "u"
    refine ev.pushR (by omega) hw fun H8 ev8 f8 => ?_
    walk_at "u"
    exact q H8 L ev8 (f.trans f8)
  | @enter op info g z z' ho he =>
    have ho' : op ∈ (["call", "apply"] : List Str) := by simpa using ho
    obtain ⟨o0, o1, o2⟩ : op ∉ (["make", "tuple"] : List Str) ∧ op ≠ "get" ∧ op ∈ (["call", "apply"] : List Str) := by
      have : ∀ z ∈ (["call", "apply"] : List Str), z ∉ (["make", "tuple"] : List Str) ∧ z ≠ "get" ∧ z ∈ (["call", "apply"] : List Str) := by decide +kernel
      exact this op ho'
    walk_at "u"
    refine ⟨szl (by simp), fun t1 ht1 => ?_⟩
    obtain ⟨H3, e3, s3, w3⟩ := lay_new (o := .tup [.str "make", .str "tuple"]) ht1
    rw [e3]
    refine r_inS (ss := ["make", "tuple"]) (SqT.of w3) ?_
    replace ev := ev.same s3
    replace gv := gv.ks s3
    replace hz := hz.k (Same.tk s3)
    replace f := f.trans (PFr.same s3)
    clear w3 e3 ht1 s3
    walk_at "u"
    try refine br_n o0 ?_
    walk_at "u"
    try refine br_n o1 ?_
    walk_at "u"
    refine ⟨szl (by simp), fun t1 ht1 => ?_⟩
    obtain ⟨H3, e3, s3, w3⟩ := lay_new (o := .tup [.str "call", .str "apply"]) ht1
    rw [e3]
    refine r_inS (ss := ["call", "apply"]) (SqT.of w3) ?_
    replace ev := ev.same s3
    replace gv := gv.ks s3
    replace hz := hz.k (Same.tk s3)
    replace f := f.trans (PFr.same s3)
    clear w3 e3 ht1 s3
    walk_at "u"
    try refine br_y o2 ?_
    walk_at "u"
    refine ⟨L, pd, fu, z, z', op, _, p, di, g, rfl, ev, hz, gv, sm, he, fun H8 ev8 f8 => ?_⟩
    walk_at "u"
    exact q H8 L ev8 (f.trans f8)
  | @raise n v g z z' ht =>
    obtain ⟨o0, o1, o2, o3⟩ : ("raise" : Str) ∉ (["make", "tuple"] : List Str) ∧ ("raise" : Str) ≠ "get" ∧ ("raise" : Str) ∉ (["call", "apply"] : List Str) ∧ ("raise" : Str) = "raise" := by decide +kernel
    walk_at "u"
    refine ⟨szl (by simp), fun t1 ht1 => ?_⟩
    obtain ⟨H3, e3, s3, w3⟩ := lay_new (o := .tup [.str "make", .str "tuple"]) ht1
    rw [e3]
    refine r_inS (ss := ["make", "tuple"]) (SqT.of w3) ?_
    replace ev := ev.same s3
    replace gv := gv.ks s3
    replace hz := hz.k (Same.tk s3)
    replace f := f.trans (PFr.same s3)
    clear w3 e3 ht1 s3
    walk_at "u"
    try refine br_n o0 ?_
    walk_at "u"
    try refine br_n o1 ?_
    walk_at "u"
    refine ⟨szl (by simp), fun t1 ht1 => ?_⟩
    obtain ⟨H3, e3, s3, w3⟩ := lay_new (o := .tup [.str "call", .str "apply"]) ht1
    rw [e3]
    refine r_inS (ss := ["call", "apply"]) (SqT.of w3) ?_
    replace ev := ev.same s3
    replace gv := gv.ks s3
    replace hz := hz.k (Same.tk s3)
    replace f := f.trans (PFr.same s3)
    clear w3 e3 ht1 s3
    walk_at "u"
    try refine br_n o2 ?_
    walk_at "u"
    try refine br_y o3 ?_
    walk_at "u"
    have hz := hz.invI
    subst hz
    refine ev.meth (fun _ _ => rfl) ?_
    walk_at "u"
    refine r_ixG (k := 0) gv rfl fun u hu => ?_
    walk_at "u"
    refine ⟨L, pd, fu, z, z', n, u, v, rfl, ev, hu, sm, ht, fun H8 ev8 f8 => ?_⟩
    walk_at "u"
    exact q H8 L ev8 (f.trans f8)
  | @print info v g z lo =>
    obtain ⟨o0, o1, o2, o3, o4⟩ : ("print" : Str) ∉ (["make", "tuple"] : List Str) ∧ ("print" : Str) ≠ "get" ∧ ("print" : Str) ∉ (["call", "apply"] : List Str) ∧ ("print" : Str) ≠ "raise" ∧ ("print" : Str) = "print" := by decide +kernel
    walk_at "u"
    refine ⟨szl (by simp), fun t1 ht1 => ?_⟩
    obtain ⟨H3, e3, s3, w3⟩ := lay_new (o := .tup [.str "make", .str "tuple"]) ht1
    rw [e3]
    refine r_inS (ss := ["make", "tuple"]) (SqT.of w3) ?_
    replace ev := ev.same s3
    replace gv := gv.ks s3
    replace hz := hz.k (Same.tk s3)
    replace f := f.trans (PFr.same s3)
    clear w3 e3 ht1 s3
    walk_at "u"
    try refine br_n o0 ?_
    walk_at "u"
    try refine br_n o1 ?_
    walk_at "u"
    refine ⟨szl (by simp), fun t1 ht1 => ?_⟩
    obtain ⟨H3, e3, s3, w3⟩ := lay_new (o := .tup [.str "call", .str "apply"]) ht1
    rw [e3]
    refine r_inS (ss := ["call", "apply"]) (SqT.of w3) ?_
    replace ev := ev.same s3
    replace gv := gv.ks s3
    replace hz := hz.k (Same.tk s3)
    replace f := f.trans (PFr.same s3)
    clear w3 e3 ht1 s3
    walk_at "u"
    try refine br_n o2 ?_
    walk_at "u"
    try refine br_n o3 ?_
    walk_at "u"
    try refine br_y o4 ?_
    walk_at "u"
    refine ev.fO ?_
    refine ev.tyO ?_
    walk_at "u"
    refine r_ixG (k := 0) gv rfl fun u hu => ?_
    walk_at "u"
    refine ev.pushO (by omega) hu fun H7 ev7 f7 => ?_
    walk_at "u"
    refine ev7.fR ?_
    refine ev7.tyR ?_
    walk_at "u"
    refine ev7.pushR (by show z.rs.length ≤ _; omega) .non fun H8 ev8 f8 => ?_
    walk_at "u"
    exact q H8 L ev8 (f.trans (f7.trans f8))
  | @rf op info g z z' ho hr =>
    have ho' : op ∈ (["ref", "deref", "set"] : List Str) := by simpa using ho
    obtain ⟨o0, o1, o2, o3, o4, o5⟩ : op ∉ (["make", "tuple"] : List Str) ∧ op ≠ "get" ∧ op ∉ (["call", "apply"] : List Str) ∧ op ≠ "raise" ∧ op ≠ "print" ∧ op ∈ (["ref", "deref", "set"] : List Str) := by
      have : ∀ z ∈ (["ref", "deref", "set"] : List Str), z ∉ (["make", "tuple"] : List Str) ∧ z ≠ "get" ∧ z ∉ (["call", "apply"] : List Str) ∧ z ≠ "raise" ∧ z ≠ "print" ∧ z ∈ (["ref", "deref", "set"] : List Str) := by decide +kernel
      exact this op ho'
    walk_at "u"
    refine ⟨szl (by simp), fun t1 ht1 => ?_⟩
    obtain ⟨H3, e3, s3, w3⟩ := lay_new (o := .tup [.str "make", .str "tuple"]) ht1
    rw [e3]
    refine r_inS (ss := ["make", "tuple"]) (SqT.of w3) ?_
    replace ev := ev.same s3
    replace gv := gv.ks s3
    replace hz := hz.k (Same.tk s3)
    replace f := f.trans (PFr.same s3)
    clear w3 e3 ht1 s3
    walk_at "u"
    try refine br_n o0 ?_
    walk_at "u"
    try refine br_n o1 ?_
    walk_at "u"
    refine ⟨szl (by simp), fun t1 ht1 => ?_⟩
    obtain ⟨H3, e3, s3, w3⟩ := lay_new (o := .tup [.str "call", .str "apply"]) ht1
    rw [e3]
    refine r_inS (ss := ["call", "apply"]) (SqT.of w3) ?_
    replace ev := ev.same s3
    replace gv := gv.ks s3
    replace hz := hz.k (Same.tk s3)
    replace f := f.trans (PFr.same s3)
    clear w3 e3 ht1 s3
    walk_at "u"
    try refine br_n o2 ?_
    walk_at "u"
    try refine br_n o3 ?_
    walk_at "u"
    try refine br_n o4 ?_
    walk_at "u"
    refine ⟨szl (by simp), fun t1 ht1 => ?_⟩
    obtain ⟨H3, e3, s3, w3⟩ := lay_new (o := .tup [.str "ref", .str "deref", .str "set"]) ht1
    rw [e3]
    refine r_inS (ss := ["ref", "deref", "set"]) (SqT.of w3) ?_
    replace ev := ev.same s3
    replace gv := gv.ks s3
    replace hz := hz.k (Same.tk s3)
    replace f := f.trans (PFr.same s3)
    clear w3 e3 ht1 s3
    walk_at "u"
    try refine br_y o5 ?_
    walk_at "u"
    refine ⟨L, pd, fu, z, z', op, p, g, rfl, ev, gv, sm, hr, fun H8 L8 ev8 f8 => ?_⟩
    walk_at "u"
    exact q H8 L8 ev8 (f.trans f8)
  | @ary op info g z z' ho hr =>
    have ho' : op ∈ (["array", "at", "put", "len"] : List Str) := by simpa using ho
    obtain ⟨o0, o1, o2, o3, o4, o5, o6⟩ : op ∉ (["make", "tuple"] : List Str) ∧ op ≠ "get" ∧ op ∉ (["call", "apply"] : List Str) ∧ op ≠ "raise" ∧ op ≠ "print" ∧ op ∉ (["ref", "deref", "set"] : List Str) ∧ op ∈ (["array", "at", "put", "len"] : List Str) := by
      have : ∀ z ∈ (["array", "at", "put", "len"] : List Str), z ∉ (["make", "tuple"] : List Str) ∧ z ≠ "get" ∧ z ∉ (["call", "apply"] : List Str) ∧ z ≠ "raise" ∧ z ≠ "print" ∧ z ∉ (["ref", "deref", "set"] : List Str) ∧ z ∈ (["array", "at", "put", "len"] : List Str) := by decide +kernel
      exact this op ho'
    walk_at "u"
    refine ⟨szl (by simp), fun t1 ht1 => ?_⟩
    obtain ⟨H3, e3, s3, w3⟩ := lay_new (o := .tup [.str "make", .str "tuple"]) ht1
    rw [e3]
    refine r_inS (ss := ["make", "tuple"]) (SqT.of w3) ?_
    replace ev := ev.same s3
    replace gv := gv.ks s3
    replace hz := hz.k (Same.tk s3)
    replace f := f.trans (PFr.same s3)
    clear w3 e3 ht1 s3
    walk_at "u"
    try refine br_n o0 ?_
    walk_at "u"
    try refine br_n o1 ?_
    walk_at "u"
    refine ⟨szl (by simp), fun t1 ht1 => ?_⟩
    obtain ⟨H3, e3, s3, w3⟩ := lay_new (o := .tup [.str "call", .str "apply"]) ht1
    rw [e3]
    refine r_inS (ss := ["call", "apply"]) (SqT.of w3) ?_
    replace ev := ev.same s3
    replace gv := gv.ks s3
    replace hz := hz.k (Same.tk s3)
    replace f := f.trans (PFr.same s3)
    clear w3 e3 ht1 s3
    walk_at "u"
    try refine br_n o2 ?_
    walk_at "u"
    try refine br_n o3 ?_
    walk_at "u"
    try refine br_n o4 ?_
    walk_at "u"
    refine ⟨szl (by simp), fun t1 ht1 => ?_⟩
    obtain ⟨H3, e3, s3, w3⟩ := lay_new (o := .tup [.str "ref", .str "deref", .str "set"]) ht1
    rw [e3]
    refine r_inS (ss := ["ref", "deref", "set"]) (SqT.of w3) ?_
    replace ev := ev.same s3
    replace gv := gv.ks s3
    replace hz := hz.k (Same.tk s3)
    replace f := f.trans (PFr.same s3)
    clear w3 e3 ht1 s3
    walk_at "u"
    try refine br_n o5 ?_
    walk_at "u"
    refine ⟨szl (by simp), fun t1 ht1 => ?_⟩
    obtain ⟨H3, e3, s3, w3⟩ := lay_new (o := .tup [.str "array", .str "at", .str "put", .str "len"]) ht1
    rw [e3]
    refine r_inS (ss := ["array", "at", "put", "len"]) (SqT.of w3) ?_
    replace ev := ev.same s3
    replace gv := gv.ks s3
    replace hz := hz.k (Same.tk s3)
    replace f := f.trans (PFr.same s3)
    clear w3 e3 ht1 s3
    walk_at "u"
    try refine br_y o6 ?_
    walk_at "u"
    refine ⟨L, pd, fu, z, z', op, p, g, rfl, ev, gv, sm, hr, fun H8 L8 ev8 f8 => ?_⟩
    walk_at "u"
    exact q H8 L8 ev8 (f.trans f8)
  | @zero op info v g z z' ho ht =>
    have ho' : op ∈ (["div", "rem"] : List Str) := by simpa using ho
    obtain ⟨o0, o1, o2, o3, o4, o5, o6, o7⟩ : op ∉ (["make", "tuple"] : List Str) ∧ op ≠ "get" ∧ op ∉ (["call", "apply"] : List Str) ∧ op ≠ "raise" ∧ op ≠ "print" ∧ op ∉ (["ref", "deref", "set"] : List Str) ∧ op ∉ (["array", "at", "put", "len"] : List Str) ∧ op ∈ (["div", "rem"] : List Str) := by
      have : ∀ z ∈ (["div", "rem"] : List Str), z ∉ (["make", "tuple"] : List Str) ∧ z ≠ "get" ∧ z ∉ (["call", "apply"] : List Str) ∧ z ≠ "raise" ∧ z ≠ "print" ∧ z ∉ (["ref", "deref", "set"] : List Str) ∧ z ∉ (["array", "at", "put", "len"] : List Str) ∧ z ∈ (["div", "rem"] : List Str) := by decide +kernel
      exact this op ho'
    walk_at "u"
    refine ⟨szl (by simp), fun t1 ht1 => ?_⟩
    obtain ⟨H3, e3, s3, w3⟩ := lay_new (o := .tup [.str "make", .str "tuple"]) ht1
    rw [e3]
    refine r_inS (ss := ["make", "tuple"]) (SqT.of w3) ?_
    replace ev := ev.same s3
    replace gv := gv.ks s3
    replace hz := hz.k (Same.tk s3)
    replace f := f.trans (PFr.same s3)
    clear w3 e3 ht1 s3
    walk_at "u"
    try refine br_n o0 ?_
    walk_at "u"
    try refine br_n o1 ?_
    walk_at "u"
    refine ⟨szl (by simp), fun t1 ht1 => ?_⟩
    obtain ⟨H3, e3, s3, w3⟩ := lay_new (o := .tup [.str "call", .str "apply"]) ht1
    rw [e3]
    refine r_inS (ss := ["call", "apply"]) (SqT.of w3) ?_
    replace ev := ev.same s3
    replace gv := gv.ks s3
    replace hz := hz.k (Same.tk s3)
    replace f := f.trans (PFr.same s3)
    clear w3 e3 ht1 s3
    walk_at "u"
    try refine br_n o2 ?_
    walk_at "u"
    try refine br_n o3 ?_
    walk_at "u"
    try refine br_n o4 ?_
    walk_at "u"
    refine ⟨szl (by simp), fun t1 ht1 => ?_⟩
    obtain ⟨H3, e3, s3, w3⟩ := lay_new (o := .tup [.str "ref", .str "deref", .str "set"]) ht1
    rw [e3]
    refine r_inS (ss := ["ref", "deref", "set"]) (SqT.of w3) ?_
    replace ev := ev.same s3
    replace gv := gv.ks s3
    replace hz := hz.k (Same.tk s3)
    replace f := f.trans (PFr.same s3)
    clear w3 e3 ht1 s3
    walk_at "u"
    try refine br_n o5 ?_
    walk_at "u"
    refine ⟨szl (by simp), fun t1 ht1 => ?_⟩
    obtain ⟨H3, e3, s3, w3⟩ := lay_new (o := .tup [.str "array", .str "at", .str "put", .str "len"]) ht1
    rw [e3]
    refine r_inS (ss := ["array", "at", "put", "len"]) (SqT.of w3) ?_
    replace ev := ev.same s3
    replace gv := gv.ks s3
    replace hz := hz.k (Same.tk s3)
    replace f := f.trans (PFr.same s3)
    clear w3 e3 ht1 s3
    walk_at "u"
    try refine br_n o6 ?_
    walk_at "u"
    refine ⟨szl (by simp), fun t1 ht1 => ?_⟩
    obtain ⟨H3, e3, s3, w3⟩ := lay_new (o := .tup [.str "div", .str "rem"]) ht1
    rw [e3]
    refine r_inS (ss := ["div", "rem"]) (SqT.of w3) ?_
    replace ev := ev.same s3
    replace gv := gv.ks s3
    replace hz := hz.k (Same.tk s3)
    replace f := f.trans (PFr.same s3)
    clear w3 e3 ht1 s3
    walk_at "u"
    try refine br_y o7 ?_
    walk_at "u"
    refine r_ixG (k := 1) gv rfl fun u hu => ?_
    have hu := hu.invI
    subst hu
    walk_at "u"
    refine ev.meth (fun _ _ => rfl) ?_
    walk_at "u"
    refine ⟨L, pd, fu, z, z', 0, .int 0, .int 0, rfl, ev, .int 0, sm, ht, fun H8 ev8 f8 => ?_⟩
    walk_at "u"
    exact q H8 L ev8 (f.trans f8)
  | @«calc» op info a b z ho wa wb hd =>
    have ho' := ho
    obtain ⟨o0, o1, o2, o3, o4, o5, o6⟩ : op ∉ (["make", "tuple"] : List Str) ∧ op ≠ "get" ∧ op ∉ (["call", "apply"] : List Str) ∧ op ≠ "raise" ∧ op ≠ "print" ∧ op ∉ (["ref", "deref", "set"] : List Str) ∧ op ∉ (["array", "at", "put", "len"] : List Str) := by
      have : ∀ z ∈ opsL, z ∉ (["make", "tuple"] : List Str) ∧ z ≠ "get" ∧ z ∉ (["call", "apply"] : List Str) ∧ z ≠ "raise" ∧ z ≠ "print" ∧ z ∉ (["ref", "deref", "set"] : List Str) ∧ z ∉ (["array", "at", "put", "len"] : List Str) := by decide +kernel
      exact this op ho'
    walk_at "u"
    refine ⟨szl (by simp), fun t1 ht1 => ?_⟩
    obtain ⟨H3, e3, s3, w3⟩ := lay_new (o := .tup [.str "make", .str "tuple"]) ht1
    rw [e3]
    refine r_inS (ss := ["make", "tuple"]) (SqT.of w3) ?_
    replace ev := ev.same s3
    replace gv := gv.ks s3
    replace hz := hz.k (Same.tk s3)
    replace f := f.trans (PFr.same s3)
    clear w3 e3 ht1 s3
    walk_at "u"
    try refine br_n o0 ?_
    walk_at "u"
    try refine br_n o1 ?_
    walk_at "u"
    refine ⟨szl (by simp), fun t1 ht1 => ?_⟩
    obtain ⟨H3, e3, s3, w3⟩ := lay_new (o := .tup [.str "call", .str "apply"]) ht1
    rw [e3]
    refine r_inS (ss := ["call", "apply"]) (SqT.of w3) ?_
    replace ev := ev.same s3
    replace gv := gv.ks s3
    replace hz := hz.k (Same.tk s3)
    replace f := f.trans (PFr.same s3)
    clear w3 e3 ht1 s3
    walk_at "u"
    try refine br_n o2 ?_
    walk_at "u"
    try refine br_n o3 ?_
    walk_at "u"
    try refine br_n o4 ?_
    walk_at "u"
    refine ⟨szl (by simp), fun t1 ht1 => ?_⟩
    obtain ⟨H3, e3, s3, w3⟩ := lay_new (o := .tup [.str "ref", .str "deref", .str "set"]) ht1
    rw [e3]
    refine r_inS (ss := ["ref", "deref", "set"]) (SqT.of w3) ?_
    replace ev := ev.same s3
    replace gv := gv.ks s3
    replace hz := hz.k (Same.tk s3)
    replace f := f.trans (PFr.same s3)
    clear w3 e3 ht1 s3
    walk_at "u"
    try refine br_n o5 ?_
    walk_at "u"
    refine ⟨szl (by simp), fun t1 ht1 => ?_⟩
    obtain ⟨H3, e3, s3, w3⟩ := lay_new (o := .tup [.str "array", .str "at", .str "put", .str "len"]) ht1
    rw [e3]
    refine r_inS (ss := ["array", "at", "put", "len"]) (SqT.of w3) ?_
    replace ev := ev.same s3
    replace gv := gv.ks s3
    replace hz := hz.k (Same.tk s3)
    replace f := f.trans (PFr.same s3)
    clear w3 e3 ht1 s3
    walk_at "u"
    try refine br_n o6 ?_
    walk_at "u"
    refine ⟨szl (by simp), fun t1 ht1 => ?_⟩
    obtain ⟨H3, e3, s3, w3⟩ := lay_new (o := .tup [.str "div", .str "rem"]) ht1
    rw [e3]
    refine r_inS (ss := ["div", "rem"]) (SqT.of w3) ?_
    replace ev := ev.same s3
    replace gv := gv.ks s3
    replace hz := hz.k (Same.tk s3)
    replace f := f.trans (PFr.same s3)
    clear w3 e3 ht1 s3
    walk_at "u"
    refine br_d (fun hm => ?_) (fun hm => ?_)
    · walk_at "u"
      refine r_ixG (k := 1) gv rfl fun u hu => ?_
      have hu := hu.invI
      subst hu
      walk_at "u"
      refine br_n (hd hm) ?_
      walk_at "u"
      refine ev.fR ?_
      refine ev.tyR ?_
      walk_at "u"
      refine r_ixG (k := 0) gv rfl fun u hu => ?_
      have hu := hu.invI
      subst hu
      walk_at "u"
      refine r_ixG (k := 1) gv rfl fun u hu => ?_
      have hu := hu.invI
      subst hu
      walk_at "u"
      refine ⟨op, a, b, rfl, ho, wa, wb, hd, ?_⟩
      walk_at "u"
      refine ev.pushR (by omega) (Td.tv calcV_td) fun H8 ev8 f8 => ?_
      walk_at "u"
      exact q H8 L ev8 (f.trans f8)
    · walk_at "u"
      refine ev.fR ?_
      refine ev.tyR ?_
      walk_at "u"
      refine r_ixG (k := 0) gv rfl fun u hu => ?_
      have hu := hu.invI
      subst hu
      walk_at "u"
      refine r_ixG (k := 1) gv rfl fun u hu => ?_
      have hu := hu.invI
      subst hu
      walk_at "u"
      refine ⟨op, a, b, rfl, ho, wa, wb, hd, ?_⟩
      walk_at "u"
      refine ev.pushR (by omega) (Td.tv calcV_td) fun H8 ev8 f8 => ?_
      walk_at "u"
      exact q H8 L ev8 (f.trans f8)
end
section
variable {K : PySem.W.Frag} {vs : List V} {H H' : Hp} {Q : VK} {E : XK} {n : Nat} {L : PL} {pd : D} {fu : Nat} {z : PS} {p : Addr} {g : List Vl}
theorem rd_compute (h : sp_compute K vs H Q E) : t_compute K { nx := fun _ H' => Q .non H', rt := Q } (start n_compute vs) H := by
  obtain ⟨L, pd, fu, z, z', e, sc, de, dsc, rfl, ev, he, hsc, sm, ht, q⟩ := h
  have lT : z.ts.length ≤ 1000000 := sm.t
  have lR : z.rs.length ≤ 1000000 := sm.r
  unfold t_compute
  cases ht with
  | @mk op k info kids arms _ R g _ _ er hl hc =>
    walk_at "u"
    refine r_gT5 he fun x y i u w hx hy hz hu hw => ?_
    have hx := hx.invS
    subst hx
    walk_at "u"
    refine ev.fR ?_
    obtain ⟨rv, hr, pr⟩ := ev.rs
    rw [er] at pr
    obtain ⟨r0, gv, rfl, pr0, prg⟩ := pr.appI
    have l0 : r0.length = R.length := pr0.len
    have lg : gv.length = g.length := prg.len
    obtain ⟨ka, us, rfl, su, tu⟩ := hu.inv
    have lus : us.length = kids.length := tu.len
    walk_at "u"
    have emk : ((r0 ++ gv).length : Int) - (us.length : Int) = (r0.length : Nat) := by
      rw [lus, List.length_append, ← hl, lg]
      omega
    rw [emk]
    walk_at "u"
    refine ev.fR ?_
    walk_at "u"
    refine r_slL (SqL.of hr) fun p hp => ?_
    have ecut : cutV (r0 ++ gv) (some ((r0.length : Nat) : Int)) none = gv := by
      unfold cutV
      rw [HT.sIx_nat, HT.sIx_none]
      simp
    rw [ecut]
    obtain ⟨H1, e1, s1, g1⟩ := lay_new (o := .lst gv) hp
    rw [e1]
    have ev1 := ev.same s1
    have hr1 := s1 _ _ hr
    have hpn : p ∉ L.all := ev.full hp
    have hp2 : p ≠ L.rA := fun z => hpn (by rw [z]; simp)
    clear e1 hp ecut emk hr pr
    walk_at "u"
    refine r_sq ?_
    refine r_delK ?_
    walk_at "u"
    refine ev1.fR ?_
    walk_at "u"
    refine ⟨L.rA, _, r0.length, rfl, rfl, hr1, by simp, ?_⟩
    have etk : (r0 ++ gv).take r0.length = r0 := by simp
    rw [etk]
    have z2 := ev1.updR (pr0.k (Same.tk s1) Gr.refl)
    obtain ⟨H2, e2, i2, k2⟩ := lay_set (H1 := H1) (s := L.rA) (o := .lst r0)
    rw [e2] at z2 ⊢
    obtain ⟨ev2, f2⟩ := z2
    have g2 : H2 p = some (.lst gv) := by rw [k2 p hp2]; exact g1
    have f02 : PFr L L H H2 := (PFr.same s1).trans f2
    have k12 : Tk K H H2 := ev.fr f02
    have gvv : Gv K L H2 p g := ⟨⟨gv, g2, prg.k k12 Gr.refl⟩, hpn⟩
    refine r_comp2 ev2 gvv (hz.k k12) ⟨lT, ?_⟩ f02 hc q
    rw [er, List.length_append] at lR
    show R.length ≤ _
    omega
end
section
variable {K : PySem.W.Frag} {vs : List V} {H H' : Hp} {Q : VK} {E : XK} {n : Nat} {L : PL} {pd : D} {fu : Nat} {z : PS} {p : Addr} {g : List Vl}
theorem Run.inv {z z2 : PS} (h : Run pd fu n z z2) : (n = 0 ∧ z2 = z) ∨ ∃ m T t z1, n = m + 1 ∧ z.ts = T ++ [t] ∧ z.fl = .non ∧ Small z ∧ Turn pd fu t.nm t.e t.sc { z with ts := T } z1 ∧ Run pd fu m z1 z2 := by
  cases h with
  | stop => exact .inl ⟨rfl, rfl⟩
  | go a b c d e => exact .inr ⟨_, _, _, _, rfl, a, b, c, d, e⟩
theorem Turn.inv {nm : Str} {d : D} {sc : Vl} {z z1 : PS} (h : Turn pd fu nm d sc z z1) : (nm = "evaluate" ∧ TurnE d sc z z1) ∨ (nm = "let" ∧ TurnL d sc z z1) ∨ (nm = "seq" ∧ TurnS d sc z z1) ∨ (nm = "if" ∧ TurnI d sc z z1) ∨ (nm = "case" ∧ TurnA d sc z z1) ∨ (nm = "leave" ∧ z1 = z) ∨ (nm = "compute" ∧ TurnC pd fu d sc z z1) := by
  cases h with
  | e h => exact .inl ⟨rfl, h⟩
  | l h => exact .inr (.inl ⟨rfl, h⟩)
  | s h => exact .inr (.inr (.inl ⟨rfl, h⟩))
  | i h => exact .inr (.inr (.inr (.inl ⟨rfl, h⟩)))
  | a h => exact .inr (.inr (.inr (.inr (.inl ⟨rfl, h⟩))))
  | v => exact .inr (.inr (.inr (.inr (.inr (.inl ⟨rfl, rfl⟩)))))
  | c h => exact .inr (.inr (.inr (.inr (.inr (.inr ⟨rfl, h⟩)))))
theorem rd_Evaluation_finish (h : sp_Evaluation_finish K vs H Q E) : t_Evaluation_finish K { nx := fun _ H' => Q .non H', rt := Q } (start n_Evaluation_finish vs) H := by
  obtain ⟨L, pd, fu, z0, z', n, rfl, ev0, hrun0, hend, q⟩ := h
  unfold t_Evaluation_finish
  refine ⟨fun m σ' H' => ∃ z L1, Ev K H' L1 pd fu z ∧ Run pd fu m z z' ∧ PFr L L1 H H' ∧ ∃ y1 y2 y3 y4 y5, σ' = [some (.ref L1.s), y1, y2, y3, y4, y5], ⟨n, z0, L, ev0, hrun0, PFr.refl, none, none, none, none, none, rfl⟩, ?_⟩
  rintro m σ' H' ⟨z, L1, ev, hrun, f, y1, y2, y3, y4, y5, rfl⟩
  obtain ⟨tv, htv, ptv⟩ := ev.ts
  rcases hrun.inv with ⟨rfl, rfl⟩ | ⟨m, T, t, z1, rfl, et, hfl, sm, hturn, hrun2⟩
  · walk_at "u"
    refine ev.fT ?_
    refine r_truL (SqL.of htv) ?_
    cases tv with
    | nil => exact q H' L1 ev f
    | cons v0 tv0 =>
      rcases hend with h0 | ⟨xs, hx⟩
      · rw [h0] at ptv; cases ptv
      · refine br_t ?_
        walk_at "u"
        refine ev.fF fun v hv => ?_
        rw [hx] at hv
        obtain ⟨b, us, rfl, _, _⟩ := hv.inv
        walk_at "u"
        exact q H' L1 ev f
  · walk_at "u"
    refine ev.fT ?_
    refine r_truL (SqL.of htv) ?_
    rw [et] at ptv
    rw [isE_of ptv]
    walk_at "u"
    refine ev.fF fun v hv => ?_
    rw [hfl] at hv
    have hv := hv.invN
    subst hv
    walk_at "u"
    refine ⟨fun σ' H'' => ∃ z L1, Ev K H'' L1 pd fu z ∧ Run pd fu m z z' ∧ PFr L L1 H H'' ∧ ∃ y1 y2 y3 y4 y5, σ' = [some (.ref L1.s), y1, y2, y3, y4, y5], fun σ' H'' z => ⟨m, Nat.lt_succ_self m, z⟩, ?_⟩
    walk_at "u"
    refine ev.fT ?_
    refine ev.tyT ?_
    refine ev.popT et fun y H1 hy ev1 f1 => ?_
    have sm1 := sm.cut et
    refine r_gV4 hy fun x1 x2 x3 x4 h1 h2 h3 h4 => ?_
    have h1 := h1.invS
    subst h1
    walk_at "u"
    refine r_kget ?_
    walk_at "u"
    rcases hturn.inv with ⟨enm, ht⟩ | ⟨enm, ht⟩ | ⟨enm, ht⟩ | ⟨enm, ht⟩ | ⟨enm, ht⟩ | ⟨enm, ht⟩ | ⟨enm, ht⟩
    · rw [enm]
      refine ⟨.inr "evaluate", .ref (He.ga K "evaluate"), rfl, rfl, ?_⟩
      walk_at "u"
      refine r_callM (f := He.ga K "evaluate") (sp := sp_evaluate K) rfl (by simp) ?_
      walk_at "u"
      refine ⟨L1, pd, fu, { z with ts := T }, z1, x2, x3, t.e, t.sc, rfl, ev1, h2.td, h3, sm1, ht, fun H2 L2' ev2 f2 => ?_⟩
      walk_at "u"
      have hs : L2'.s = L1.s := by
        obtain ⟨N, e, _⟩ := f2.ex
        rw [e]
      exact ⟨z1, L2', ev2, hrun2, f.trans (f1.trans f2), _, _, _, _, _, by rw [hs]; rfl⟩
    · rw [enm]
      refine ⟨.inr "let", .ref (He.ga K "continue_let"), rfl, rfl, ?_⟩
      walk_at "u"
      refine r_callM (f := He.ga K "continue_let") (sp := sp_continue_let K) rfl (by simp) ?_
      walk_at "u"
      refine ⟨L1, pd, fu, { z with ts := T }, z1, x2, x3, t.e, t.sc, rfl, ev1, h2.td, h3, sm1, ht, fun H2 L2' ev2 f2 => ?_⟩
      walk_at "u"
      have hs : L2'.s = L1.s := by
        obtain ⟨N, e, _⟩ := f2.ex
        rw [e]
      exact ⟨z1, L2', ev2, hrun2, f.trans (f1.trans f2), _, _, _, _, _, by rw [hs]; rfl⟩
    · rw [enm]
      refine ⟨.inr "seq", .ref (He.ga K "continue_seq"), rfl, rfl, ?_⟩
      walk_at "u"
      refine r_callM (f := He.ga K "continue_seq") (sp := sp_continue_seq K) rfl (by simp) ?_
      walk_at "u"
      refine ⟨L1, pd, fu, { z with ts := T }, z1, x2, x3, t.e, t.sc, rfl, ev1, h2.td, h3, sm1, ht, fun H2 L2' ev2 f2 => ?_⟩
      walk_at "u"
      have hs : L2'.s = L1.s := by
        obtain ⟨N, e, _⟩ := f2.ex
        rw [e]
      exact ⟨z1, L2', ev2, hrun2, f.trans (f1.trans f2), _, _, _, _, _, by rw [hs]; rfl⟩
    · rw [enm]
      refine ⟨.inr "if", .ref (He.ga K "continue_if"), rfl, rfl, ?_⟩
      walk_at "u"
      refine r_callM (f := He.ga K "continue_if") (sp := sp_continue_if K) rfl (by simp) ?_
      walk_at "u"
      refine ⟨L1, pd, fu, { z with ts := T }, z1, x2, x3, t.e, t.sc, rfl, ev1, h2.td, h3, sm1, ht, fun H2 L2' ev2 f2 => ?_⟩
      walk_at "u"
      have hs : L2'.s = L1.s := by
        obtain ⟨N, e, _⟩ := f2.ex
        rw [e]
      exact ⟨z1, L2', ev2, hrun2, f.trans (f1.trans f2), _, _, _, _, _, by rw [hs]; rfl⟩
    · rw [enm]
      refine ⟨.inr "case", .ref (He.ga K "continue_case"), rfl, rfl, ?_⟩
      walk_at "u"
      refine r_callM (f := He.ga K "continue_case") (sp := sp_continue_case K) rfl (by simp) ?_
      walk_at "u"
      refine ⟨L1, pd, fu, { z with ts := T }, z1, x2, x3, t.e, t.sc, rfl, ev1, h2.td, h3, sm1, ht, fun H2 L2' ev2 f2 => ?_⟩
      walk_at "u"
      have hs : L2'.s = L1.s := by
        obtain ⟨N, e, _⟩ := f2.ex
        rw [e]
      exact ⟨z1, L2', ev2, hrun2, f.trans (f1.trans f2), _, _, _, _, _, by rw [hs]; rfl⟩
    · rw [enm]
      refine ⟨.inr "leave", .ref (He.ga K "leave"), rfl, rfl, ?_⟩
      walk_at "u"
      refine r_callM (f := He.ga K "leave") (sp := sp_leave K) rfl (by simp) ?_
      walk_at "u"
      refine ⟨L1, pd, fu, { z with ts := T }, z1, x2, x3, t.e, t.sc, rfl, ev1, h2.td, h3, sm1, ht, fun H2 L2' ev2 f2 => ?_⟩
      walk_at "u"
      have hs : L2'.s = L1.s := by
        obtain ⟨N, e, _⟩ := f2.ex
        rw [e]
      exact ⟨z1, L2', ev2, hrun2, f.trans (f1.trans f2), _, _, _, _, _, by rw [hs]; rfl⟩
    · rw [enm]
      refine ⟨.inr "compute", .ref (He.ga K "compute"), rfl, rfl, ?_⟩
      walk_at "u"
      refine r_callM (f := He.ga K "compute") (sp := sp_compute K) rfl (by simp) ?_
      walk_at "u"
      refine ⟨L1, pd, fu, { z with ts := T }, z1, x2, x3, t.e, t.sc, rfl, ev1, h2.td, h3, sm1, ht, fun H2 L2' ev2 f2 => ?_⟩
      walk_at "u"
      have hs : L2'.s = L1.s := by
        obtain ⟨N, e, _⟩ := f2.ex
        rw [e]
      exact ⟨z1, L2', ev2, hrun2, f.trans (f1.trans f2), _, _, _, _, _, by rw [hs]; rfl⟩
end
section
variable {K : PySem.W.Frag} {vs : List V} {H H' : Hp} {Q : VK} {E : XK} {n : Nat} {L : PL} {pd : D} {fu : Nat} {z : PS} {p : Addr} {g : List Vl}
theorem r_ixEnd {v : V} {ds : List D} {d : D} (h : Td K H v (.tup (ds ++ [d]))) (q : ∀ u, Td K H u d → Q u H) : uIx K v (.int (-1)) H Q := by
  obtain ⟨a, vs, rfl, h1, h2⟩ := h.inv
  have hl := h2.len
  rw [List.length_append, List.length_cons, List.length_nil] at hl
  obtain ⟨u, h3, h4⟩ := h2.get (i := ds.length) (d := d) (by simp)
  have e : ixN vs.length (-1) = some (vs.length - 1) := by
    unfold ixN
    rw [if_neg (by decide), if_pos (by omega)]
    congr 1
    omega
  refine ⟨vs, u, .inr h1, ?_, q u h4⟩
  unfold atI
  rw [e]
  rw [hl]
  simpa using h3
theorem rd_run (h : sp_run K vs H Q E) : t_run K { nx := fun _ H' => Q .non H', rt := Q } (start n_run vs) H := by
  obtain ⟨p, A, pd, r, ns, fu, rfl, hp, hfu, hA, hres, q⟩ := h
  cases hres with
  | @mk a0 b0 nm k0 body fl ans fs os ps n z hpd hlen hrun hfl hos hol hend =>
  subst hpd
  unfold t_run
  walk_at "u"
  refine r_ixD (k := 2) hp rfl fun u hu => ?_
  walk_at "u"
  refine r_ixEnd hu fun mv hmv => ?_
  walk_at "u"
  refine r_sq ?_
  walk_at "u"
  refine ⟨_, hA, ?_⟩
  walk_at "u"
  refine r_ixD (k := 1) hmv rfl fun pr hpr => ?_
  walk_at "u"
  refine r_lenD hpr ?_
  walk_at "u"
  rw [List.length_map, List.length_map, hlen]
  refine br_ny rfl ?_
  walk_at "u"
  refine r_cut (fun σ' H' => Same H H' ∧ ∃ sc y5 y6, Tv K [] H' sc (bindV ((ps.map (·.1)).zip (ns.map fun n => Vl.int (wrapZ n))) .non) ∧ σ' = [some p, some (.ref A), some (.int (fu : Nat)), some mv, some sc, y5, y6, none, none]) ?_ ?_
  · walk_at "u"
    rcases hA with hA | hA
    · refine r_zipM ?_
      walk_at "u"
      refine r_ixD (k := 1) hmv rfl fun pr2 hpr2 => ?_
      obtain ⟨kb, us, rfl, su, tu⟩ := hpr2.inv
      have lus : us.length = ps.length := by rw [tu.len, List.length_map]
      walk_at "u"
      refine ⟨kb, A, us, ns.map V.int, rfl, ⟨su, hA⟩, f_zipM (xs := us) (ys := ns.map V.int) (by rw [lus, List.length_map, hlen]) (fun i σ' H' => Same H H' ∧ ∃ sc y5 y6, Tv K [] H' sc (bindV (((ps.map (·.1)).zip (ns.map fun n => Vl.int (wrapZ n))).take i) .non) ∧ σ' = [some p, some (.ref A), some (.int (fu : Nat)), some mv, some sc, y5, y6, none, none]) ⟨Same.refl _, .non, none, none, .non, rfl⟩ (fun i σ' H' P => ⟨Same.tk P.1 _ _ su, SqL.k hA P.1⟩) ?_ ?_⟩
      · rintro i pv yv T σ' H1 hpv hyv ⟨s1, sc, y5, y6, hsc, rfl⟩ hT
        have tu1 := tu.k (Same.tk s1)
        obtain ⟨pd', hpd, hpt⟩ := tu1.getV hpv
        rw [List.getElem?_map] at hpd hyv
        obtain ⟨xn, hxn, rfl⟩ := Option.map_eq_some_iff.mp hpd
        obtain ⟨nn, hnn, rfl⟩ := Option.map_eq_some_iff.mp hyv
        obtain ⟨H2, e2, s2, eT⟩ := lay_new (o := .tup [pv, .int nn]) hT
        rw [e2]
        refine r_gT2v (SqT.of eT) ?_
        walk_at "u"
        refine r_ixD (k := 0) (hpt.k (Same.tk s2)) rfl fun zz hz => ?_
        have hz := hz.invS
        subst hz
        walk_at "u"
        refine ⟨nn, rfl, ?_⟩
        walk_at "u"
        refine ⟨szl (by simp), fun q1 hq1 => ?_⟩
        obtain ⟨H3, e3, s3, t3⟩ := Tv.lay (K := K) (ls := []) (xs := [.str xn.1, .int (wrapZ nn), bindV (((ps.map (·.1)).zip (ns.map fun n => Vl.int (wrapZ n))).take i) .non]) hq1 (.cons (.str _) (.cons (.int _) (.cons (hsc.k (Same.tk s2) Gr.refl) .nil)))
        rw [e3]
        walk_at "u"
        refine ⟨s1.trans (s2.trans s3), _, _, _, ?_, rfl⟩
        have hz : ((ps.map (·.1)).zip (ns.map fun n => Vl.int (wrapZ n)))[i]? = some (xn.1, .int (wrapZ nn)) := by
          rw [List.getElem?_zip_eq_some]
          exact ⟨by rw [List.getElem?_map, hxn]; rfl, by rw [List.getElem?_map, hnn]; rfl⟩
        rw [List.take_add_one, hz]
        show Tv K [] H3 _ (bindV (((ps.map (·.1)).zip (ns.map fun n => Vl.int (wrapZ n))).take i ++ [(xn.1, .int (wrapZ nn))]) .non)
        rw [bindV_app]
        exact t3
      · rintro σ' H1 ⟨s1, sc, y5, y6, hsc, rfl⟩
        rw [lus, List.take_of_length_le (by rw [List.length_zip, List.length_map, List.length_map]; omega)] at hsc
        exact ⟨s1, sc, y5, y6, hsc, rfl⟩
    · refine r_zipA ?_
      walk_at "u"
      refine r_ixD (k := 1) hmv rfl fun pr2 hpr2 => ?_
      obtain ⟨kb, us, rfl, su, tu⟩ := hpr2.inv
      have lus : us.length = ps.length := by rw [tu.len, List.length_map]
      walk_at "u"
      refine ⟨kb, A, us, ns.map V.int, rfl, .inr ⟨su, hA, RZ.for_zipT (xs := us) (ys := ns.map V.int) (by rw [lus, List.length_map, hlen]) (fun i σ' H' => Same H H' ∧ ∃ sc y5 y6, Tv K [] H' sc (bindV (((ps.map (·.1)).zip (ns.map fun n => Vl.int (wrapZ n))).take i) .non) ∧ σ' = [some p, some (.ref A), some (.int (fu : Nat)), some mv, some sc, y5, y6, none, none]) ⟨Same.refl _, .non, none, none, .non, rfl⟩ (fun i σ' H' P => ⟨Same.tk P.1 _ _ su, Same.tk P.1 _ _ hA⟩) ?_ ?_⟩⟩
      · rintro i pv yv T σ' H1 hpv hyv ⟨s1, sc, y5, y6, hsc, rfl⟩ hT
        have tu1 := tu.k (Same.tk s1)
        obtain ⟨pd', hpd, hpt⟩ := tu1.getV hpv
        rw [List.getElem?_map] at hpd hyv
        obtain ⟨xn, hxn, rfl⟩ := Option.map_eq_some_iff.mp hpd
        obtain ⟨nn, hnn, rfl⟩ := Option.map_eq_some_iff.mp hyv
        obtain ⟨H2, e2, s2, eT⟩ := lay_new (o := .tup [pv, .int nn]) hT
        rw [e2]
        refine r_gT2v (SqT.of eT) ?_
        walk_at "u"
        refine r_ixD (k := 0) (hpt.k (Same.tk s2)) rfl fun zz hz => ?_
        have hz := hz.invS
        subst hz
        walk_at "u"
        refine ⟨nn, rfl, ?_⟩
        walk_at "u"
        refine ⟨szl (by simp), fun q1 hq1 => ?_⟩
        obtain ⟨H3, e3, s3, t3⟩ := Tv.lay (K := K) (ls := []) (xs := [.str xn.1, .int (wrapZ nn), bindV (((ps.map (·.1)).zip (ns.map fun n => Vl.int (wrapZ n))).take i) .non]) hq1 (.cons (.str _) (.cons (.int _) (.cons (hsc.k (Same.tk s2) Gr.refl) .nil)))
        rw [e3]
        walk_at "u"
        refine ⟨s1.trans (s2.trans s3), _, _, _, ?_, rfl⟩
        have hz : ((ps.map (·.1)).zip (ns.map fun n => Vl.int (wrapZ n)))[i]? = some (xn.1, .int (wrapZ nn)) := by
          rw [List.getElem?_zip_eq_some]
          exact ⟨by rw [List.getElem?_map, hxn]; rfl, by rw [List.getElem?_map, hnn]; rfl⟩
        rw [List.take_add_one, hz]
        show Tv K [] H3 _ (bindV (((ps.map (·.1)).zip (ns.map fun n => Vl.int (wrapZ n))).take i ++ [(xn.1, .int (wrapZ nn))]) .non)
        rw [bindV_app]
        exact t3
      · rintro σ' H1 ⟨s1, sc, y5, y6, hsc, rfl⟩
        rw [lus, List.take_of_length_le (by rw [List.length_zip, List.length_map, List.length_map]; omega)] at hsc
        exact ⟨s1, sc, y5, y6, hsc, rfl⟩
  rintro σ' H1 ⟨s1, sc, y5, y6, hsc, rfl⟩
  walk_at "u"
  intro s dx hs hdx hne
  have hp1 := hp.k (Same.tk s1)
  have hmv1 := hmv.k (Same.tk s1)
  have kn : Same H1 (upd (upd H1 dx (.own s)) s (.ins (He.ga K "Evaluation") dx [])) := fun c o h0 => by
    rw [upd_ne (ne_of_none h0 hs), upd_ne (ne_of_none h0 hdx)]
    exact h0
  have efu : max (0 : Int) (min ((fu : Nat) : Int) 200) = ((fu : Nat) : Int) := by omega
  rw [efu]
  refine ⟨s, p, _, fu, dx, rfl, upd_same, hp1.k (Same.tk kn), fun H2 tA rA oA ev2 old nt nr no => ⟨rfl, ?_⟩⟩
  have back : ∀ {c : Addr}, c ≠ s → upd (upd H1 dx (.own s)) s (.ins (He.ga K "Evaluation") dx []) c = none → H1 c = none := fun {c} h1 h2 => by
    rw [upd_ne h1] at h2
    by_cases e : c = dx
    · rw [e]; exact hdx
    · rw [upd_ne e] at h2; exact h2
  have s12 : Same H1 H2 := fun c o h0 => old c o (ne_of_none h0 hs) (kn c o h0)
  have nt1 : H1 tA = none := back nt.1 nt.2
  have nr1 : H1 rA = none := back nr.1 nr.2
  have no1 : H1 oA = none := back no.1 no.2
  clear kn old nt nr no back
  generalize hL : (⟨s, tA, rA, oA, []⟩ : PL) = L at ev2
  have els : L.ls = [] := by rw [← hL]
  have es : L.s = s := by rw [← hL]
  have frS : ∀ {Ha Hb : Hp} {L' : PL}, Same H1 Ha → PFr L L' Ha Hb → Same H1 Hb := fun {Ha Hb L'} sa fb c o h0 => fb.fr c o (by
    rw [← hL]
    simp only [PL.all, List.mem_cons, List.not_mem_nil, or_false, not_or]
    exact ⟨ne_of_none h0 hs, ne_of_none h0 nt1, ne_of_none h0 nr1, ne_of_none h0 no1⟩) (sa c o h0)
  clear hL nt1 nr1 no1 hne hdx hs
  subst es
  have hsc2 : Tv K L.ls H2 sc (bindV ((ps.map (·.1)).zip (ns.map fun n => Vl.int (wrapZ n))) .non) := by
    rw [els]
    exact hsc.k (Same.tk s12) Gr.refl
  walk_at "u"
  refine ev2.meth (fun _ _ => rfl) ?_
  walk_at "u"
  refine r_ixD (k := 3) (hmv1.k (Same.tk s12)) rfl fun be hbe => ?_
  walk_at "u"
  refine plan_call ev2 hbe.tv hsc2 (by decide) (by decide) fun H3 ev3 f3 => ?_
  have s13 := frS s12 f3
  walk_at "u"
  refine ev3.meth (fun _ _ => rfl) ?_
  refine ⟨L, _, fu, _, z, n, rfl, ev3, hrun, ?_, fun H4 L4 ev4 f4 => ?_⟩
  · rcases hend with ⟨_, h, _⟩ | ⟨⟨xs, h⟩, _⟩
    · exact .inl h
    · exact .inr ⟨D.vlL xs, by rw [hfl, h]; rfl⟩
  have f34 := f3.trans f4
  have s14 := frS s12 f34
  have es4 : L4.s = L.s := by
    obtain ⟨N, e, _⟩ := f4.ex
    rw [e]
  rw [← es4]
  walk_at "u"
  refine r_cut (fun σ' H' => H' = H4 ∧ ∃ va, Td K H4 va ans ∧ σ' = [some p, some (.ref A), some (.int (fu : Nat)), some mv, some sc, y5, y6, some (.ref L4.s), some va]) ?_ ?_
  · walk_at "u"
    refine ev4.fF fun v hv => ?_
    rw [hfl] at hv
    have hv := hv.td
    rcases hend with ⟨rfl, _, rr, hr⟩ | ⟨⟨xs, rfl⟩, rfl⟩
    · have hv := hv.invN
      subst hv
      walk_at "u"
      refine ev4.fR ?_
      obtain ⟨rv, hrv, prv⟩ := ev4.rs
      rw [hr] at prv
      cases prv with
      | cons h1 ht =>
        walk_at "u"
        try refine r_ixL (SqL.of hrv) (atI_nat (j := 0) rfl) ?_
        walk_at "u"
        exact ⟨rfl, _, h1.td, rfl⟩
    · obtain ⟨b, us, rfl, _, _⟩ := hv.inv
      walk_at "u"
      exact ⟨rfl, _, .int 0, rfl⟩
  rintro σ' H' ⟨rfl, va, hva, rfl⟩
  walk_at "u"
  refine ev4.fF fun v hv => ?_
  rw [hfl] at hv
  have hv := hv.td
  walk_at "u"
  refine ev4.fO ?_
  obtain ⟨ov, hov, pov⟩ := ev4.os
  rw [hos, ← D.vlL_map] at pov
  walk_at "u"
  refine r_tupleD (ds := os) (SqL.of hov) pov.td fun ot H5 s5 t5 => ?_
  walk_at "u"
  refine (ev4.same s5).fK ?_
  walk_at "u"
  refine ⟨szl (by simp), fun q1 hq1 => ?_⟩
  obtain ⟨H6, e6, s6, t6⟩ := Td.lay (K := K) (ds := [fl, ans, .tup os, .int (z.tk : Nat)]) hq1 (.cons (hv.k (Same.tk s5)) (.cons (hva.k (Same.tk s5)) (.cons t5 (.cons (.int _) .nil))))
  rw [e6]
  exact q _ _ (s1.trans (s14.trans (s5.trans s6))) t6
end
section
variable {pd : D} {fu : Nat}
def Rn (pd : D) (fu : Nat) (z z' : PS) : Prop := ∃ n, Run pd fu n z z'
theorem Run.trans : ∀ {n : Nat} {z z1 z2 : PS} {m : Nat}, Run pd fu n z z1 → Run pd fu m z1 z2 → Run pd fu (n + m) z z2
  | _, _, _, _, _, .stop, b => by rw [Nat.zero_add]; exact b
  | _, _, _, _, m, .go (n := n) h1 h2 h3 h4 h5, b => by
    rw [Nat.succ_add]
    exact .go h1 h2 h3 h4 (Run.trans h5 b)
theorem Rn.refl {z : PS} : Rn pd fu z z := ⟨0, .stop⟩
theorem Rn.trans {z z1 z2 : PS} (a : Rn pd fu z z1) (b : Rn pd fu z1 z2) : Rn pd fu z z2 := by
  obtain ⟨n, a⟩ := a
  obtain ⟨m, b⟩ := b
  exact ⟨n + m, a.trans b⟩
structure Mm where
  st : List (List Vl)
  os : List Vl
  tk : Nat
abbrev stt (T : List Task) (R : List Vl) (m : Mm) (fl : Vl) : PS := ⟨T, R, m.st, m.os, m.tk, fl⟩
theorem Rn.one {T : List Task} {R : List Vl} {m : Mm} {nm : Str} {e : D} {sc : Vl} {k : Nat} {z1 z2 : PS} (hT : T.length + 1 ≤ 1000000) (hR : R.length ≤ 1000000) (t : Turn pd fu nm e sc (stt T R m .non) z1) (r : Rn pd fu z1 z2) : Rn pd fu (stt (T ++ [⟨nm, e, sc, k⟩]) R m .non) z2 := by
  obtain ⟨n, r⟩ := r
  exact ⟨n + 1, .go rfl rfl ⟨by simpa using hT, hR⟩ t r⟩
/-- a value -/
def Bs (pd : D) (fu : Nat) (w : Nat) (e : D) (sc : Vl) (m : Mm) (v : Vl) (m' : Mm) : Prop := ∀ T R k, T.length + w ≤ 1000000 → R.length + w ≤ 1000000 → Rn pd fu (stt (T ++ [⟨"evaluate", e, sc, k⟩]) R m .non) (stt T (R ++ [v]) m' .non)
def NoL (T : List Task) : Prop := ∀ t ∈ T, t.nm ≠ "leave"
/-- a fault that nothing handles -/
def Bf (pd : D) (fu : Nat) (w : Nat) (e : D) (sc : Vl) (m m' : Mm) (fl : Vl) : Prop := ∀ T R k, NoL T → T.length + w ≤ 1000000 → R.length + w ≤ 1000000 → ∃ T' R', Rn pd fu (stt (T ++ [⟨"evaluate", e, sc, k⟩]) R m .non) (stt T' R' m' fl)
def Bl (pd : D) (fu : Nat) (w : Nat) (ks : List D) (sc : Vl) (m : Mm) (vs : List Vl) (m' : Mm) : Prop := ∀ T R k, T.length + w ≤ 1000000 → R.length + w ≤ 1000000 → Rn pd fu (stt (T ++ ks.reverse.map fun e => ⟨"evaluate", e, sc, k⟩) R m .non) (stt T (R ++ vs) m' .non)
variable {w u : Nat} {e a b : D} {sc v v1 v2 : Vl} {m m' m1 m2 : Mm} {fl : Vl} {ks : List D} {vs : List Vl}
theorem Bs.mono (h : Bs pd fu w e sc m v m') (hw : w ≤ u) : Bs pd fu u e sc m v m' := fun T R k h1 h2 => h T R k (by omega) (by omega)
theorem Bf.mono (h : Bf pd fu w e sc m m' fl) (hw : w ≤ u) : Bf pd fu u e sc m m' fl := fun T R k hl h1 h2 => h T R k hl (by omega) (by omega)
theorem Bl.mono (h : Bl pd fu w ks sc m vs m') (hw : w ≤ u) : Bl pd fu u ks sc m vs m' := fun T R k h1 h2 => h T R k (by omega) (by omega)
theorem NoL.add {T : List Task} {t : Task} (h : NoL T) (ht : t.nm ≠ "leave") : NoL (T ++ [t]) := fun x hx => by
  rcases List.mem_append.mp hx with hx | hx
  · exact h x hx
  · rw [List.mem_singleton.mp hx]; exact ht
theorem nl_seq : ("seq" : Str) ≠ "leave" := by decide +kernel
theorem nl_let : ("let" : Str) ≠ "leave" := by decide +kernel
theorem nl_ev : ("evaluate" : Str) ≠ "leave" := by decide +kernel
theorem nl_co : ("compute" : Str) ≠ "leave" := by decide +kernel
theorem Bs.lit {op : Str} {k info : D} {kids arms : List D} (ho : op ∈ litOps) : Bs pd fu 1 (pE op k info kids arms) sc m info.vl m := fun T R k h1 h2 =>
  Rn.one (by omega) (by omega) (.e (.lit ho)) Rn.refl
theorem Bs.name {x : Str} {k : D} {kids arms : List D} (hl : Look sc x v) : Bs pd fu 1 (pE "name" k (.str x) kids arms) sc m v m := fun T R k h1 h2 =>
  Rn.one (by omega) (by omega) (.e (.name hl)) Rn.refl
theorem ctl_seq : ("seq" : Str) ∈ ctlOps := by decide +kernel
theorem ctl_let : ("let" : Str) ∈ ctlOps := by decide +kernel
theorem Bs.seq {k : D} (h1 : Bs pd fu w a sc m v1 m1) (h2 : Bs pd fu w b sc m1 v2 m2) : Bs pd fu (w + 2) (seqE k a b) sc m v2 m2 := fun T R k' hT hR => by
  refine Rn.one (by omega) (by omega) (.e (.ctl (k0 := a) ctl_seq rfl)) ?_
  refine (h1 (T ++ [⟨"seq", seqE k a b, sc, R.length⟩]) R R.length (by simp; omega) (by omega)).trans ?_
  refine Rn.one (by omega) (by simp; omega) (.s (.mk (R := R) rfl)) ?_
  exact h2 T R R.length (by omega) (by omega)
theorem Bf.seq1 {k : D} (h1 : Bf pd fu w a sc m m1 fl) : Bf pd fu (w + 2) (seqE k a b) sc m m1 fl := fun T R k' hl hT hR => by
  obtain ⟨T', R', h⟩ := h1 (T ++ [⟨"seq", seqE k a b, sc, R.length⟩]) R R.length (hl.add nl_seq) (by simp; omega) (by omega)
  exact ⟨T', R', Rn.one (by omega) (by omega) (.e (.ctl (k0 := a) ctl_seq rfl)) h⟩
theorem Bf.seq2 {k : D} (h1 : Bs pd fu w a sc m v1 m1) (h2 : Bf pd fu w b sc m1 m2 fl) : Bf pd fu (w + 2) (seqE k a b) sc m m2 fl := fun T R k' hl hT hR => by
  obtain ⟨T', R', h⟩ := h2 T R R.length hl (by omega) (by omega)
  refine ⟨T', R', Rn.one (by omega) (by omega) (.e (.ctl (k0 := a) ctl_seq rfl)) ?_⟩
  refine (h1 (T ++ [⟨"seq", seqE k a b, sc, R.length⟩]) R R.length (by simp; omega) (by omega)).trans ?_
  exact Rn.one (by omega) (by simp; omega) (.s (.mk (R := R) rfl)) h
theorem Bs.let_ {k : D} {x : Str} (h1 : Bs pd fu w a sc m v1 m1) (h2 : Bs pd fu w b (scC x v1 sc) m1 v2 m2) : Bs pd fu (w + 2) (letE k x a b) sc m v2 m2 := fun T R k' hT hR => by
  refine Rn.one (by omega) (by omega) (.e (.ctl (k0 := a) ctl_let rfl)) ?_
  refine (h1 (T ++ [⟨"let", letE k x a b, sc, R.length⟩]) R R.length (by simp; omega) (by omega)).trans ?_
  refine Rn.one (by omega) (by simp; omega) (.l (.mk (R := R) rfl)) ?_
  exact h2 T R R.length (by omega) (by omega)
theorem Bf.let1 {k : D} {x : Str} (h1 : Bf pd fu w a sc m m1 fl) : Bf pd fu (w + 2) (letE k x a b) sc m m1 fl := fun T R k' hl hT hR => by
  obtain ⟨T', R', h⟩ := h1 (T ++ [⟨"let", letE k x a b, sc, R.length⟩]) R R.length (hl.add nl_let) (by simp; omega) (by omega)
  exact ⟨T', R', Rn.one (by omega) (by omega) (.e (.ctl (k0 := a) ctl_let rfl)) h⟩
theorem Bf.let2 {k : D} {x : Str} (h1 : Bs pd fu w a sc m v1 m1) (h2 : Bf pd fu w b (scC x v1 sc) m1 m2 fl) : Bf pd fu (w + 2) (letE k x a b) sc m m2 fl := fun T R k' hl hT hR => by
  obtain ⟨T', R', h⟩ := h2 T R R.length hl (by omega) (by omega)
  refine ⟨T', R', Rn.one (by omega) (by omega) (.e (.ctl (k0 := a) ctl_let rfl)) ?_⟩
  refine (h1 (T ++ [⟨"let", letE k x a b, sc, R.length⟩]) R R.length (by simp; omega) (by omega)).trans ?_
  exact Rn.one (by omega) (by simp; omega) (.l (.mk (R := R) rfl)) h
theorem Bl.nil : Bl pd fu 0 [] sc m [] m := fun T R k h1 h2 => by
  simp only [List.reverse_nil, List.map_nil, List.append_nil]
  exact Rn.refl
theorem Bl.cons (h1 : Bs pd fu w e sc m v1 m1) (h2 : Bl pd fu w ks sc m1 vs m2) : Bl pd fu (w + ks.length + 1) (e :: ks) sc m (v1 :: vs) m2 := fun T R k hT hR => by
  rw [List.reverse_cons, List.map_append, ← List.append_assoc]
  refine (h1 (T ++ ks.reverse.map fun e => ⟨"evaluate", e, sc, k⟩) R k (by simp; omega) (by omega)).trans ?_
  have := h2 T (R ++ [v1]) k (by omega) (by simp; omega)
  rw [List.append_assoc] at this
  exact this
/-- an operation -/
structure Opr (op : Str) : Prop where
  a : op ∉ litOps
  b : op ∉ ctlOps
  c : op ≠ "name"
  d : op ≠ "fn"
  e : op ≠ "handle"
theorem Bs.comp {op : Str} {k info : D} {arms : List D} (ho : Opr op) (hk : ks.length ≤ 100) (h1 : Bl pd fu w ks sc m vs m1) (hl : vs.length = ks.length)
    (h2 : ∀ T R, T.length + w + 200 ≤ 1000000 → R.length + w + 200 ≤ 1000000 → ∃ z', Cmp pd fu op info vs (stt T R m1 .non) z' ∧ Rn pd fu z' (stt T (R ++ [v]) m2 .non)) : Bs pd fu (w + 200) (pE op k info ks arms) sc m v m2 := fun T R k' hT hR => by
  refine Rn.one (by omega) (by omega) (.e (.comp ho.a ho.b ho.c ho.d ho.e (by omega))) ?_
  rw [pushes]
  refine (h1 (T ++ [⟨"compute", pE op k info ks arms, sc, R.length⟩]) R R.length (by simp; omega) (by omega)).trans ?_
  obtain ⟨z', hc, hr⟩ := h2 T R (by omega) (by omega)
  exact Rn.one (by omega) (by simp; omega) (.c (.mk (R := R) rfl hl hc)) hr
theorem Bf.comp {op : Str} {k info : D} {arms : List D} (ho : Opr op) (hk : ks.length ≤ 100) (h1 : Bl pd fu w ks sc m vs m1) (hl : vs.length = ks.length)
    (h2 : ∀ T R, NoL T → T.length + w + 200 ≤ 1000000 → R.length + w + 200 ≤ 1000000 → ∃ z' T' R', Cmp pd fu op info vs (stt T R m1 .non) z' ∧ Rn pd fu z' (stt T' R' m2 fl)) : Bf pd fu (w + 200) (pE op k info ks arms) sc m m2 fl := fun T R k' hn hT hR => by
  obtain ⟨z', T', R', hc, hr⟩ := h2 T R hn (by omega) (by omega)
  refine ⟨T', R', Rn.one (by omega) (by omega) (.e (.comp ho.a ho.b ho.c ho.d ho.e (by omega))) ?_⟩
  rw [pushes]
  refine (h1 (T ++ [⟨"compute", pE op k info ks arms, sc, R.length⟩]) R R.length (by simp; omega) (by omega)).trans ?_
  exact Rn.one (by omega) (by simp; omega) (.c (.mk (R := R) rfl hl hc)) hr
theorem NoL.evs {T : List Task} {ks : List D} {k : Nat} (h : NoL T) : NoL (T ++ ks.map fun e => ⟨"evaluate", e, sc, k⟩) := fun x hx => by
  rcases List.mem_append.mp hx with hx | hx
  · exact h x hx
  · obtain ⟨e, _, rfl⟩ := List.mem_map.mp hx
    exact nl_ev
/-- a kid's fault -/
theorem Bf.kid {op : Str} {k info : D} {arms ks2 : List D} (ho : Opr op) (hk : (ks ++ e :: ks2).length ≤ 100) (h1 : Bl pd fu w ks sc m vs m1) (hv : vs.length ≤ 100) (h2 : Bf pd fu w e sc m1 m2 fl) : Bf pd fu (w + 200) (pE op k info (ks ++ e :: ks2) arms) sc m m2 fl := fun T R k' hn hT hR => by
  simp only [List.length_append, List.length_cons] at hk
  obtain ⟨T', R', hr⟩ := h2 (T ++ [⟨"compute", pE op k info (ks ++ e :: ks2) arms, sc, R.length⟩] ++ ks2.reverse.map fun e => ⟨"evaluate", e, sc, R.length⟩) (R ++ vs) R.length ((hn.add nl_co).evs) (by simp; omega) (by simp; omega)
  refine ⟨T', R', Rn.one (by omega) (by omega) (.e (.comp ho.a ho.b ho.c ho.d ho.e (by simp; omega))) ?_⟩
  rw [pushes]
  have h3 := h1 (T ++ [⟨"compute", pE op k info (ks ++ e :: ks2) arms, sc, R.length⟩] ++ (ks2.reverse.map fun e => ⟨"evaluate", e, sc, R.length⟩) ++ [⟨"evaluate", e, sc, R.length⟩]) R R.length (by simp; omega) (by omega)
  refine Rn.trans ?_ hr
  rw [List.reverse_append, List.reverse_cons, List.map_append, List.map_append, ← List.append_assoc, ← List.append_assoc]
  exact h3
theorem thr_out {x y : D} {ns : List D} {nm : Str} {i : Nat} {p : Vl} {R : List Vl} {m : Mm} (hp : pd = .tup [x, .tup ns, y]) (hi : ns[i]? = some (.str nm)) : ∀ (k : Nat) (T : List Task), T.length = k → NoL T → Thr pd (i : Nat) p (stt T R m .non) (stt [] R m (.tup [.str "raised", .str nm, p]))
  | 0, T, hT, _ => by
    have : T = [] := List.eq_nil_of_length_eq_zero hT
    subst this
    exact .out rfl rfl hp hi
  | k + 1, T, hT, hn => by
    rcases List.eq_nil_or_concat T with h | ⟨T0, t, h⟩
    · rw [h] at hT; simp at hT
    · have h : T = T0 ++ [t] := by simpa using h
      subst h
      have hT : T0.length = k := by simpa using hT
      exact .skip rfl (hn t (by simp)) (thr_out hp hi k T0 hT fun x hx => hn x (List.mem_append_left _ hx))
end
section
variable {pd : D} {fu : Nat}
def lt (i : Nat) : Vl := .loc i
/-- the scope of the deeds -/
def SC : Vl := scC "w" (.loc 2) (scC "v" (.loc 2) (scC "d" (.loc 1) (scC "c" (.loc 0) (scC "b" (.loc 1) (scC "a" (.loc 0) .non)))))
def mem (m : Me) (tk : Nat) : Mm := ⟨[[.int m.k0], [.int m.k1], m.row.map Vl.int], m.os.map Vl.int, tk⟩
def iN (w : Int) : Nat := if w % 2 = 0 then 0 else 1
theorem w4 {w : Int} (h : 0 ≤ w ∧ w < 4) : w = 0 ∨ w = 1 ∨ w = 2 ∨ w = 3 := by omega
theorem look_kept {w : Int} (h : 0 ≤ w ∧ w < 4) : Look SC (keptN w) (.loc (iN w)) := by
  rcases w4 h with rfl | rfl | rfl | rfl
  · exact .next (by decide +kernel) (.next (by decide +kernel) (.next (by decide +kernel) (.next (by decide +kernel) (.next (by decide +kernel) .here))))
  · exact .next (by decide +kernel) (.next (by decide +kernel) (.next (by decide +kernel) (.next (by decide +kernel) .here)))
  · exact .next (by decide +kernel) (.next (by decide +kernel) (.next (by decide +kernel) .here))
  · exact .next (by decide +kernel) (.next (by decide +kernel) .here)
theorem look_row {w : Int} (h : 0 ≤ w ∧ w < 4) : Look SC (rowN w) (.loc 2) := by
  rcases w4 h with rfl | rfl | rfl | rfl
  · exact .next (by decide +kernel) .here
  · exact .here
  · exact .next (by decide +kernel) .here
  · exact .here
theorem op_set : Opr "set" := by constructor <;> decide +kernel
theorem op_deref : Opr "deref" := by constructor <;> decide +kernel
theorem op_ref : Opr "ref" := by constructor <;> decide +kernel
theorem op_print : Opr "print" := by constructor <;> decide +kernel
theorem op_put : Opr "put" := by constructor <;> decide +kernel
theorem op_at : Opr "at" := by constructor <;> decide +kernel
theorem op_len : Opr "len" := by constructor <;> decide +kernel
theorem op_array : Opr "array" := by constructor <;> decide +kernel
theorem op_call : Opr "call" := by constructor <;> decide +kernel
variable {w u : Nat} {e a b c : D} {sc v v1 v2 v3 : Vl} {m m' m1 m2 m3 : Mm} {fl : Vl} {x : Deed} {q : Me} {tk many : Nat}
theorem Bl.one (h : Bs pd fu w e sc m v m1) : Bl pd fu (w + 1) [e] sc m [v] m1 := (Bl.cons h (Bl.nil.mono (Nat.zero_le _))).mono (by simp)
theorem Bl.two (h1 : Bs pd fu w a sc m v1 m1) (h2 : Bs pd fu w b sc m1 v2 m2) : Bl pd fu (w + 4) [a, b] sc m [v1, v2] m2 := (Bl.cons (h1.mono (by omega : w ≤ w + 1)) (Bl.one h2)).mono (by simp)
theorem Bl.three (h1 : Bs pd fu w a sc m v1 m1) (h2 : Bs pd fu w b sc m1 v2 m2) (h3 : Bs pd fu w c sc m2 v3 m3) : Bl pd fu (w + 8) [a, b, c] sc m [v1, v2, v3] m3 := (Bl.cons (h1.mono (by omega : w ≤ w + 4)) (Bl.two h2 h3)).mono (by simp)
theorem bs_int (n : Int) : Bs pd fu 1 (intE n) sc m (.int n) m := Bs.lit (by decide +kernel)
theorem bs_kept {w : Int} {k : D} (h : 0 ≤ w ∧ w < 4) : Bs pd fu 1 (nmE k (keptN w)) SC m (.loc (iN w)) m := Bs.name (look_kept h)
theorem bs_row {w : Int} {k : D} (h : 0 ≤ w ∧ w < 4) : Bs pd fu 1 (nmE k (rowN w)) SC m (.loc 2) m := Bs.name (look_row h)
theorem st_get {w : Int} : (mem q tk).st[iN w]? = some [.int (q.get w)] := by
  unfold iN Me.get mem
  split <;> rfl
theorem st_set {w : Int} {y : Int} : (mem q tk).st.set (iN w) [.int y] = (mem (q.set w y) tk).st := by
  unfold iN Me.set mem
  split <;> rfl
theorem os_set {w y : Int} : (q.set w y).os = q.os ∧ (q.set w y).row = q.row := by
  unfold Me.set
  split <;> exact ⟨rfl, rfl⟩
/-- a reference is set -/
theorem bs_set {wi : Int} {y : Int} {e : D} (h : 0 ≤ wi ∧ wi < 4) (he : Bs pd fu w e SC (mem q tk) (.int y) (mem q tk)) (hw : 1 ≤ w) : Bs pd fu (w + 204) (pE "set" unitD .non [nmE refD (keptN wi), e] []) SC (mem q tk) .non (mem (q.set wi y) tk) := by
  refine (Bs.comp (w := w + 4) op_set (by simp) (Bl.two ((bs_kept h).mono hw) he) rfl fun T R h1 h2 => ⟨_, .rf (.inr (.inr rfl)) (.set (st_get (w := wi) (tk := tk))), ?_⟩).mono (by omega)
  unfold PS.put PS.res
  simp only [stt]
  rw [st_set]
  have eo : (mem (q.set wi y) tk).os = (mem q tk).os := by
    show (q.set wi y).os.map _ = _
    rw [os_set.1]; rfl
  rw [eo]
  exact Rn.refl
theorem bs_deref {wi : Int} (h : 0 ≤ wi ∧ wi < 4) : Bs pd fu 205 (derE (nmE refD (keptN wi))) SC (mem q tk) (.int (q.get wi)) (mem q tk) := by
  refine (Bs.comp (w := 2) op_deref (by simp) (Bl.one (bs_kept h)) rfl fun T R h1 h2 => ⟨_, .rf (.inr (.inl rfl)) (.deref (st_get (w := wi) (tk := tk))), Rn.refl⟩).mono (by omega)
theorem bs_len {wi : Int} (h : 0 ≤ wi ∧ wi < 4) : Bs pd fu 205 (pE "len" wholeD .non [nmE arrD (rowN wi)] []) SC (mem q tk) (.int (q.row.length : Nat)) (mem q tk) := by
  refine (Bs.comp (w := 2) op_len (by simp) (Bl.one (bs_row h)) rfl fun T R h1 h2 => ⟨_, .ary (.inr (.inr (.inr rfl))) (.len (xs := q.row.map Vl.int) rfl), ?_⟩).mono (by omega)
  rw [List.length_map]
  exact Rn.refl
theorem bs_at {wi : Int} {i : Nat} (h : 0 ≤ wi ∧ wi < 4) (hi : i < q.row.length) : Bs pd fu 210 (atE (nmE arrD (rowN wi)) (intE (i : Nat))) SC (mem q tk) (.int (q.at_ (i : Nat))) (mem q tk) := by
  refine (Bs.comp (w := 5) op_at (by simp) (Bl.two (bs_row h) (bs_int _)) rfl fun T R h1 h2 => ⟨_, .ary (.inr (.inl rfl)) (.at_ (xs := q.row.map Vl.int) (v := .int (q.at_ (i : Nat))) rfl ?_), Rn.refl⟩).mono (by omega)
  unfold Me.at_
  rw [Int.toNat_natCast, List.getElem?_map, List.getElem?_eq_getElem hi]
  rfl
theorem bs_print {y : Int} (h : Bs pd fu w e SC (mem q tk) (.int y) (mem q tk)) (ho : q.os.length ≤ 1000000) : Bs pd fu (w + 204) (prE e) SC (mem q tk) .non (mem { q with os := q.os ++ [y] } tk) := by
  refine (Bs.comp (w := w + 1) op_print (by simp) (Bl.one h) rfl fun T R h1 h2 => ⟨_, .print (by simpa [mem] using ho), ?_⟩).mono (by omega)
  unfold PS.out PS.res
  simp only [stt]
  have eo : (mem { q with os := q.os ++ [y] } tk).os = (mem q tk).os ++ [.int y] := by
    show (q.os ++ [y]).map _ = _
    rw [List.map_append]; rfl
  rw [eo]
  exact Rn.refl
theorem bs_put {wi : Int} {i : Nat} {y : Int} (h : 0 ≤ wi ∧ wi < 4) (hi : i < q.row.length) : Bs pd fu 210 (pE "put" unitD .non [nmE arrD (rowN wi), intE (i : Nat), intE y] []) SC (mem q tk) .non (mem { q with row := q.row.set i y } tk) := by
  refine (Bs.comp (w := 9) op_put (by simp) (Bl.three (bs_row h) (bs_int _) (bs_int _)) rfl fun T R h1 h2 => ⟨_, .ary (.inr (.inr (.inl rfl))) (.put (xs := q.row.map Vl.int) rfl (by simpa using hi)), ?_⟩).mono (by omega)
  unfold PS.put PS.res
  simp only [stt]
  have eo : (mem { q with row := q.row.set i y } tk).st = (mem q tk).st.set 2 ((q.row.map Vl.int).set i (.int y)) := by
    show [[Vl.int q.k0], [Vl.int q.k1], (q.row.set i y).map Vl.int] = _
    rw [List.map_set]; rfl
  rw [eo]
  exact Rn.refl
/-- what the program names its exceptions -/
def Pd (pd : D) : Prop := ∃ x y, pd = .tup [x, .tup [.str "Div", .str "Index", .str "Size"], y]
def rsI (ix : Int) : Vl := .tup [.str "raised", .str "Index", .int ix]
theorem off_thr (hp : Pd pd) {ix : Int} {T : List Task} {R : List Vl} (hn : NoL T) : Thr pd 1 (.int ix) (stt T R m .non) (stt [] R m (rsI ix)) := by
  obtain ⟨x, y, hp⟩ := hp
  exact thr_out (i := 1) hp rfl _ T rfl hn
theorem bf_at (hp : Pd pd) {wi ix : Int} (h : 0 ≤ wi ∧ wi < 4) (hi : ix < 0 ∨ (q.row.length : Nat) ≤ ix) : Bf pd fu 210 (atE (nmE arrD (rowN wi)) (intE ix)) SC (mem q tk) (mem q tk) (rsI ix) := by
  refine (Bf.comp (w := 5) op_at (by simp) (Bl.two (bs_row h) (bs_int _)) rfl fun T R hn h1 h2 => ⟨_, _, _, .ary (.inr (.inl rfl)) (.off (xs := q.row.map Vl.int) (.inl rfl) rfl (by simpa using hi) (off_thr hp hn)), Rn.refl⟩).mono (by omega)
theorem bf_put (hp : Pd pd) {wi ix y : Int} (h : 0 ≤ wi ∧ wi < 4) (hi : ix < 0 ∨ (q.row.length : Nat) ≤ ix) : Bf pd fu 210 (pE "put" unitD .non [nmE arrD (rowN wi), intE ix, intE y] []) SC (mem q tk) (mem q tk) (rsI ix) := by
  refine (Bf.comp (w := 9) op_put (by simp) (Bl.three (bs_row h) (bs_int _) (bs_int _)) rfl fun T R hn h1 h2 => ⟨_, _, _, .ary (.inr (.inr (.inl rfl))) (.off (xs := q.row.map Vl.int) (.inr rfl) rfl (by simpa using hi) (off_thr hp hn)), Rn.refl⟩).mono (by omega)
theorem d6 {x : Deed} (h : x.Ok many) : x.d = 0 ∨ x.d = 1 ∨ x.d = 2 ∨ x.d = 3 ∨ x.d = 4 ∨ x.d = 5 := by
  have := h.d
  omega
/-- a deed -/
theorem bs_deed (hx : x.Ok many) (hr : q.row.length = many) (hb : ¬ badDeed many x) (ho : q.os.length ≤ 1000000) : Bs pd fu 1000 (exprD x) SC (mem q tk) .non (mem (q.step many x) tk) := by
  have hw := hx.w
  obtain ⟨d, w, ix, y⟩ := x
  unfold badDeed at hb
  simp only at hw hb
  have nx : d = 2 ∨ d = 3 ∨ d = 5 → ∃ i : Nat, ix = (i : Nat) ∧ i < q.row.length := fun h => by
    have : ¬ (ix < 0 ∨ (many : Int) ≤ ix) := fun z => hb ⟨h, z⟩
    exact ⟨ix.toNat, by omega, by omega⟩
  rcases d6 hx with h | h | h | h | h | h <;> simp only at h <;> subst h
  · exact (bs_set hw (bs_int y) (Nat.le_refl _)).mono (by decide)
  · exact (bs_print (bs_deref hw) ho).mono (by decide)
  · obtain ⟨i, rfl, hi⟩ := nx (.inl rfl)
    exact (bs_put hw hi).mono (by decide)
  · obtain ⟨i, rfl, hi⟩ := nx (.inr (.inl rfl))
    exact (bs_print (bs_at hw hi) ho).mono (by decide)
  · have := (bs_print (bs_len hw) ho : Bs pd fu _ _ SC (mem q tk) _ _).mono (by decide : 205 + 204 ≤ 1000)
    rw [hr] at this
    exact this
  · obtain ⟨i, rfl, hi⟩ := nx (.inr (.inr rfl))
    exact (bs_set hw (bs_at hw hi) (by decide)).mono (by decide)
theorem bf_deed (hp : Pd pd) (hx : x.Ok many) (hr : q.row.length = many) (hb : badDeed many x) : Bf pd fu 1000 (exprD x) SC (mem q tk) (mem q tk) (rsI x.ix) := by
  have hw := hx.w
  obtain ⟨d, w, ix, y⟩ := x
  unfold badDeed at hb
  simp only at hw hb ⊢
  obtain ⟨hd, hi⟩ := hb
  rw [← hr] at hi
  rcases hd with h | h | h <;> subst h
  · exact (bf_put hp hw hi).mono (by decide)
  · exact (Bf.kid (ks := []) (ks2 := []) op_print (by simp) (Bl.nil.mono (Nat.zero_le 210)) (by simp) (bf_at hp hw hi)).mono (by decide)
  · exact (Bf.kid (ks := [nmE refD (keptN w)]) (ks2 := []) op_set (by simp) ((Bl.one (bs_kept hw)).mono (by decide : 2 ≤ 210)) (by simp) (bf_at hp hw hi)).mono (by decide)
end
section
variable {pd : D} {fu : Nat}
variable {w u : Nat} {e a b c : D} {sc v v1 v2 v3 : Vl} {m m' m0 m1 m2 m3 : Mm} {fl : Vl} {x : Deed} {q q' : Me} {tk many : Nat}
theorem step_row {x : Deed} : (q.step many x).row.length = q.row.length := by
  unfold Me.step
  repeat' split
  all_goals first | rfl | (rw [os_set.2]) | simp
theorem step_os {x : Deed} : (q.step many x).os.length ≤ q.os.length + 1 := by
  unfold Me.step
  repeat' split
  all_goals first | (rw [os_set.1]; omega) | simp
theorem fold_bf : ∀ (r : List Deed) (g : D) (w : Nat), Bf pd fu w g sc m m' fl → Bf pd fu (w + 2 * r.length) (r.foldl (fun g y => seqE unitD g (exprD y)) g) sc m m' fl
  | [], g, w, h => h
  | x :: r, g, w, h => (fold_bf r _ (w + 2) (Bf.seq1 h)).mono (by simp; omega)
theorem fold_run (hp : Pd pd) : ∀ (r : List Deed) (g : D) (w : Nat) (q : Me), Bs pd fu w g SC m0 .non (mem q tk) → 1000 ≤ w → (∀ x ∈ r, x.Ok many) → q.row.length = many → q.os.length + r.length ≤ 1000000 →
    (∀ q', runM many r q = (q', none) → Bs pd fu (w + 2 * r.length) (r.foldl (fun g y => seqE unitD g (exprD y)) g) SC m0 .non (mem q' tk)) ∧
    (∀ q' ix, runM many r q = (q', some ix) → Bf pd fu (w + 2 * r.length) (r.foldl (fun g y => seqE unitD g (exprD y)) g) SC m0 (mem q' tk) (rsI ix))
  | [], g, w, q, h, _, _, _, _ => ⟨fun q' e => by cases e; exact h, fun q' ix e => by cases e⟩
  | x :: r, g, w, q, h, hw, hx, hr, ho => by
    have hx0 := hx x (by simp)
    rw [List.length_cons] at ho
    by_cases hb : badDeed many x
    · have e : runM many (x :: r) q = (q, some x.ix) := by rw [runM, if_pos hb]
      rw [e]
      refine ⟨fun q' z => (by cases z), fun q' ix z => ?_⟩
      cases z
      exact (fold_bf r _ (w + 2) (Bf.seq2 h ((bf_deed hp hx0 hr hb).mono hw))).mono (by simp; omega)
    · have e : runM many (x :: r) q = runM many r (q.step many x) := by rw [runM, if_neg hb]
      rw [e]
      have h2 := fold_run hp r (seqE unitD g (exprD x)) (w + 2) (q.step many x) (Bs.seq h ((bs_deed hx0 hr hb (by omega)).mono hw)) (by omega) (fun y hy => hx y (by simp [hy])) (by rw [step_row]; exact hr) (by have := step_os (q := q) (many := many) (x := x); omega)
      exact ⟨fun q' z => (h2.1 q' z).mono (by simp; omega), fun q' ix z => (h2.2 q' ix z).mono (by simp; omega)⟩
/-- a group of deeds -/
theorem grp_run (hp : Pd pd) {l : List Deed} (hl : l ≠ []) (hl8 : l.length ≤ 8) (hx : ∀ x ∈ l, x.Ok many) (hr : q.row.length = many) (ho : q.os.length + l.length ≤ 1000000) :
    (∀ q', runM many l q = (q', none) → Bs pd fu 1100 (grpD l) SC (mem q tk) .non (mem q' tk)) ∧ (∀ q' ix, runM many l q = (q', some ix) → Bf pd fu 1100 (grpD l) SC (mem q tk) (mem q' tk) (rsI ix)) := by
  cases l with
  | nil => exact absurd rfl hl
  | cons x r =>
    have hx0 := hx x (by simp)
    rw [List.length_cons] at ho hl8
    by_cases hb : badDeed many x
    · have e : runM many (x :: r) q = (q, some x.ix) := by rw [runM, if_pos hb]
      rw [e]
      refine ⟨fun q' z => (by cases z), fun q' ix z => ?_⟩
      cases z
      exact (fold_bf r _ 1000 (bf_deed hp hx0 hr hb)).mono (by omega)
    · have e : runM many (x :: r) q = runM many r (q.step many x) := by rw [runM, if_neg hb]
      rw [e]
      have h2 := fold_run hp r (exprD x) 1000 (q.step many x) (bs_deed (pd := pd) (fu := fu) (tk := tk) hx0 hr hb (by omega)) (Nat.le_refl _) (fun y hy => hx y (by simp [hy])) (by rw [step_row]; exact hr) (by have := step_os (q := q) (many := many) (x := x); omega)
      exact ⟨fun q' z => (h2.1 q' z).mono (by omega), fun q' ix z => (h2.2 q' ix z).mono (by omega)⟩
theorem runM_app : ∀ (l r : List Deed) (q : Me), runM many (l ++ r) q = match runM many l q with
    | (q', none) => runM many r q'
    | (q', some ix) => (q', some ix)
  | [], r, q => rfl
  | x :: l, r, q => by
    rw [List.cons_append, runM, runM]
    split
    · rfl
    · exact runM_app l r _
theorem runM_row : ∀ (l : List Deed) (q : Me), (runM many l q).1.row.length = q.row.length ∧ (runM many l q).1.os.length ≤ q.os.length + l.length
  | [], q => ⟨rfl, Nat.le_refl _⟩
  | x :: l, q => by
    rw [runM]
    split
    · exact ⟨rfl, by simp⟩
    · obtain ⟨h1, h2⟩ := runM_row l (q.step many x)
      have := step_os (q := q) (many := many) (x := x)
      exact ⟨by rw [h1, step_row], by simp; omega⟩
/-! calls -/
def fuelV : Vl := .tup [.str "fuel"]
theorem bl_names : Bl pd fu 100 namesL SC m [.loc 0, .loc 1, .loc 0, .loc 1, .loc 2, .loc 2] m := by
  have k : ∀ {w : Int} {d : D}, 0 ≤ w ∧ w < 4 → Bs pd fu 50 (nmE d (keptN w)) SC m (.loc (iN w)) m := fun h => (bs_kept h).mono (by decide)
  have r : ∀ {w : Int} {d : D}, 0 ≤ w ∧ w < 4 → Bs pd fu 50 (nmE d (rowN w)) SC m (.loc 2) m := fun h => (bs_row h).mono (by decide)
  have h2 : Bl pd fu 54 [nmE arrD "v", nmE arrD "w"] SC m [.loc 2, .loc 2] m := Bl.two (r (w := 0) (by decide)) (r (w := 1) (by decide))
  have h3 : Bl pd fu 60 [nmE refD "d", nmE arrD "v", nmE arrD "w"] SC m [.loc 1, .loc 2, .loc 2] m := (Bl.cons ((k (w := 3) (by decide)).mono (by decide : 50 ≤ 54)) h2).mono (by decide)
  have h4 : Bl pd fu 70 [nmE refD "c", nmE refD "d", nmE arrD "v", nmE arrD "w"] SC m [.loc 0, .loc 1, .loc 2, .loc 2] m := (Bl.cons ((k (w := 2) (by decide)).mono (by decide : 50 ≤ 60)) h3).mono (by decide)
  have h5 : Bl pd fu 80 [nmE refD "b", nmE refD "c", nmE refD "d", nmE arrD "v", nmE arrD "w"] SC m [.loc 1, .loc 0, .loc 1, .loc 2, .loc 2] m := (Bl.cons ((k (w := 1) (by decide)).mono (by decide : 50 ≤ 70)) h4).mono (by decide)
  exact (Bl.cons ((k (w := 0) (by decide)).mono (by decide : 50 ≤ 80)) h5).mono (by decide)
theorem call_no {i : Nat} (h : fu < tk + 1) : Bf pd fu 300 (callE (i : Nat)) SC (mem q tk) (mem q fu) fuelV :=
  Bf.comp (w := 100) op_call (by decide) bl_names rfl fun T R hn h1 h2 => ⟨_, T, R, .enter (.inl rfl) (.no h), Rn.refl⟩
theorem call_bs {i : Nat} {body : D} (h : tk + 1 ≤ fu) (hf : funD pd i kindsL body) (hb : Bs pd fu w body SC (mem q (tk + 1)) v m') : Bs pd fu (w + 300) (callE (i : Nat)) SC (mem q tk) v m' :=
  (Bs.comp (w := w + 100) op_call (by decide) (bl_names.mono (by omega)) rfl fun T R h1 h2 => ⟨_, .enter (.inl rfl) (.call h hf rfl), hb T R R.length (by omega) (by omega)⟩).mono (by omega)
theorem call_bf {i : Nat} {body : D} (h : tk + 1 ≤ fu) (hf : funD pd i kindsL body) (hb : Bf pd fu w body SC (mem q (tk + 1)) m' fl) : Bf pd fu (w + 300) (callE (i : Nat)) SC (mem q tk) m' fl :=
  (Bf.comp (w := w + 100) op_call (by decide) (bl_names.mono (by omega)) rfl fun T R hn h1 h2 => by
    obtain ⟨T', R', hr⟩ := hb T R R.length hn (by omega) (by omega)
    exact ⟨_, T', R', .enter (.inl rfl) (.call h hf rfl), hr⟩).mono (by omega)
def wC (i : Nat) : Nat := 1500 + 400 * i
/-- a call does the groups so far -/
theorem call_run (hp : Pd pd) {ds : List Deed} (hF : ∀ i, i < grpN ds → funD pd i kindsL (fbD ds i)) (hx : ∀ x ∈ ds, x.Ok many) : ∀ (i : Nat) (q : Me) (tk : Nat), i < grpN ds → q.row.length = many → q.os.length + 8 * (i + 1) ≤ 1000000 →
    (fu < tk + i + 1 → Bf pd fu (wC i) (callE (i : Nat)) SC (mem q tk) (mem q fu) fuelV) ∧
    (tk + i + 1 ≤ fu → (∀ q', runM many (ds.take (8 * (i + 1))) q = (q', none) → Bs pd fu (wC i) (callE (i : Nat)) SC (mem q tk) .non (mem q' (tk + i + 1))) ∧
      (∀ q' ix, runM many (ds.take (8 * (i + 1))) q = (q', some ix) → Bf pd fu (wC i) (callE (i : Nat)) SC (mem q tk) (mem q' (tk + i + 1)) (rsI ix)))
  | 0, q, tk, hi, hr, ho => by
    have hf := hF 0 hi
    have hb : fbD ds 0 = grpI ds 0 := rfl
    rw [hb] at hf
    have hn : 0 < ds.length := by unfold grpN at hi; omega
    refine ⟨fun h => (call_no (by omega)).mono (by decide), fun h => ?_⟩
    have hl8 : ((ds.drop (8 * 0)).take 8).length ≤ 8 := by rw [List.length_take]; omega
    have g := grp_run (pd := pd) (fu := fu) (tk := tk + 1) (q := q) hp (l := (ds.drop (8 * 0)).take 8) (by
      intro z
      have := congrArg List.length z
      rw [List.length_take, List.length_drop, List.length_nil] at this
      omega) hl8 (fun x hx' => hx x (List.mem_of_mem_drop (List.mem_of_mem_take hx'))) hr (by omega)
    exact ⟨fun q' e => (call_bs (by omega) hf (g.1 q' e)).mono (by decide), fun q' ix e => (call_bf (by omega) hf (g.2 q' ix e)).mono (by decide)⟩
  | i + 1, q, tk, hi, hr, ho => by
    have hf := hF (i + 1) hi
    have hb : fbD ds (i + 1) = seqE unitD (callE (i : Nat)) (grpI ds (i + 1)) := by
      unfold fbD
      rw [if_neg (by omega)]
      have : (((i + 1 : Nat) : Int) - 1) = ((i : Nat) : Int) := by omega
      rw [this]
    rw [hb] at hf
    have hn : 8 * (i + 1) < ds.length := by unfold grpN at hi; omega
    have hl8 : ((ds.drop (8 * (i + 1))).take 8).length ≤ 8 := by simp; omega
    have e : ds.take (8 * (i + 1 + 1)) = ds.take (8 * (i + 1)) ++ (ds.drop (8 * (i + 1))).take 8 := by
      rw [show 8 * (i + 1 + 1) = 8 * (i + 1) + 8 by omega, List.take_add]
    have ih := call_run hp hF hx i q (tk + 1) (by omega) hr (by omega)
    have hw : wC i + 402 ≤ wC (i + 1) + 2 := by unfold wC; omega
    have hw2 : 1100 ≤ wC i := by unfold wC; omega
    refine ⟨fun h => ?_, fun h => ?_⟩
    · by_cases h1 : fu < tk + 1
      · exact (call_no h1).mono (by unfold wC; omega)
      · exact (call_bf (by omega) hf (Bf.seq1 (ih.1 (by omega)))).mono (by omega)
    · have et : tk + (i + 1) + 1 = tk + 1 + i + 1 := by omega
      rw [et, e, runM_app]
      obtain ⟨ih1, ih2⟩ := ih.2 (by omega)
      have hrow := runM_row (many := many) (ds.take (8 * (i + 1))) q
      cases hm : runM many (ds.take (8 * (i + 1))) q with
      | mk q1 o =>
        rw [hm] at hrow
        simp only at hrow
        have hl1 : (ds.take (8 * (i + 1))).length ≤ 8 * (i + 1) := by simp; omega
        cases o with
        | some ix =>
          refine ⟨fun q' z => (by cases z), fun q' ix' z => ?_⟩
          cases z
          exact (call_bf (by omega) hf (Bf.seq1 (ih2 q1 ix hm))).mono (by omega)
        | none =>
          have g := grp_run (pd := pd) (fu := fu) (tk := tk + 1 + i + 1) (q := q1) hp (l := (ds.drop (8 * (i + 1))).take 8) (by
            intro z
            have := congrArg List.length z
            rw [List.length_take, List.length_drop, List.length_nil] at this
            omega) hl8 (fun x hx' => hx x (List.mem_of_mem_drop (List.mem_of_mem_take hx'))) (by rw [hrow.1, hr]) (by omega)
          exact ⟨fun q' z => (call_bs (by omega) hf (Bs.seq (ih1 q1 hm) ((g.1 q' z).mono hw2))).mono (by omega), fun q' ix z => (call_bf (by omega) hf (Bf.seq2 (ih1 q1 hm) ((g.2 q' ix z).mono hw2))).mono (by omega)⟩
end
section
variable {pd : D} {fu : Nat}
variable {w u : Nat} {e a b c : D} {sc v v1 v2 v3 : Vl} {m m' m0 m1 m2 m3 : Mm} {fl : Vl} {x : Deed} {q q' : Me} {tk many : Nat} {start : Int} {ds : List Deed}
theorem bs_ref {st : List (List Vl)} {os : List Vl} {y : Int} : Bs pd fu 205 (pE "ref" refD .non [intE y] []) sc ⟨st, os, tk⟩ (.loc st.length) ⟨st ++ [[.int y]], os, tk⟩ :=
  (Bs.comp (w := 2) op_ref (by simp) (Bl.one (bs_int _)) rfl fun T R h1 h2 => ⟨_, .rf (.inl rfl) .ref, Rn.refl⟩).mono (by omega)
theorem bs_arr {st : List (List Vl)} {os : List Vl} (hm : many ≤ 12) (h : tk + many ≤ fu) : Bs pd fu 205 (pE "array" arrD .non [intE (many : Nat), intE start] []) sc ⟨st, os, tk⟩ (.loc st.length) ⟨st ++ [List.replicate many (.int start)], os, tk + many⟩ :=
  (Bs.comp (w := 5) op_array (by simp) (Bl.two (bs_int _) (bs_int _)) rfl fun T R h1 h2 => ⟨_, .ary (.inl rfl) (.array hm h), Rn.refl⟩).mono (by omega)
theorem bf_arr {st : List (List Vl)} {os : List Vl} (hm : many ≤ 12) (h : fu < tk + many) : Bf pd fu 205 (pE "array" arrD .non [intE (many : Nat), intE start] []) sc ⟨st, os, tk⟩ ⟨st, os, fu⟩ fuelV :=
  (Bf.comp (w := 5) op_array (by simp) (Bl.two (bs_int _) (bs_int _)) rfl fun T R hn h1 h2 => ⟨_, T, R, .ary (.inl rfl) (.fuel hm h), Rn.refl⟩ : Bf pd fu (5 + 200) _ _ _ _ _).mono (by decide)
def mm0 : Mm := ⟨[], [], 0⟩
def mm2 (start : Int) : Mm := ⟨[[.int start], [.int (start + 1)]], [], 0⟩
theorem me0_mem : (⟨[[.int start], [.int (start + 1)]] ++ [List.replicate many (.int start)], [], 0 + many⟩ : Mm) = mem (me0 many start) many := by
  unfold mem me0
  rw [List.map_replicate, Nat.zero_add]
  rfl
theorem body_bs (hm : many ≤ 12) (h : many ≤ fu) (hw : 300 ≤ w) (hb : Bs pd fu w (restD ds) SC (mem (me0 many start) many) v m') : Bs pd fu (w + 12) (bodyD (many : Nat) start ds) .non mm0 v m' := by
  have ha := bs_arr (pd := pd) (fu := fu) (sc := scC "d" (.loc 1) (scC "c" (.loc 0) (scC "b" (.loc 1) (scC "a" (.loc 0) .non)))) (tk := 0) (st := [[.int start], [.int (start + 1)]]) (os := []) (start := start) hm (by omega)
  rw [me0_mem] at ha
  refine Bs.let_ (w := w + 10) ((bs_ref (y := start) (st := []) (os := []) (tk := 0)).mono (by omega)) ?_
  refine Bs.let_ (w := w + 8) ((bs_ref (y := start + 1) (st := [[.int start]]) (os := []) (tk := 0)).mono (by omega)) ?_
  refine Bs.let_ (w := w + 6) ((Bs.name (v := .loc 0) (.next (by decide +kernel) .here)).mono (by omega)) ?_
  refine Bs.let_ (w := w + 4) ((Bs.name (v := .loc 1) (.next (by decide +kernel) .here)).mono (by omega)) ?_
  refine Bs.let_ (w := w + 2) (ha.mono (by omega)) ?_
  exact Bs.let_ (w := w) ((Bs.name (v := .loc 2) .here).mono (by omega)) hb
theorem body_bf (hm : many ≤ 12) (h : many ≤ fu) (hw : 300 ≤ w) (hb : Bf pd fu w (restD ds) SC (mem (me0 many start) many) m' fl) : Bf pd fu (w + 12) (bodyD (many : Nat) start ds) .non mm0 m' fl := by
  have ha := bs_arr (pd := pd) (fu := fu) (sc := scC "d" (.loc 1) (scC "c" (.loc 0) (scC "b" (.loc 1) (scC "a" (.loc 0) .non)))) (tk := 0) (st := [[.int start], [.int (start + 1)]]) (os := []) (start := start) hm (by omega)
  rw [me0_mem] at ha
  refine Bf.let2 (w := w + 10) ((bs_ref (y := start) (st := []) (os := []) (tk := 0)).mono (by omega)) ?_
  refine Bf.let2 (w := w + 8) ((bs_ref (y := start + 1) (st := [[.int start]]) (os := []) (tk := 0)).mono (by omega)) ?_
  refine Bf.let2 (w := w + 6) ((Bs.name (v := .loc 0) (.next (by decide +kernel) .here)).mono (by omega)) ?_
  refine Bf.let2 (w := w + 4) ((Bs.name (v := .loc 1) (.next (by decide +kernel) .here)).mono (by omega)) ?_
  refine Bf.let2 (w := w + 2) (ha.mono (by omega)) ?_
  exact Bf.let2 (w := w) ((Bs.name (v := .loc 2) .here).mono (by omega)) hb
theorem body_no (hm : many ≤ 12) (h : fu < many) : Bf pd fu 400 (bodyD (many : Nat) start ds) .non mm0 ⟨[[.int start], [.int (start + 1)]], [], fu⟩ fuelV := by
  refine Bf.let2 (w := 398) ((bs_ref (y := start) (st := []) (os := []) (tk := 0)).mono (by omega)) ?_
  refine Bf.let2 (w := 396) ((bs_ref (y := start + 1) (st := [[.int start]]) (os := []) (tk := 0)).mono (by omega)) ?_
  refine Bf.let2 (w := 394) ((Bs.name (v := .loc 0) (.next (by decide +kernel) .here)).mono (by omega)) ?_
  refine Bf.let2 (w := 392) ((Bs.name (v := .loc 1) (.next (by decide +kernel) .here)).mono (by omega)) ?_
  refine Bf.let1 (w := 390) ?_
  exact (bf_arr (tk := 0) hm (by omega)).mono (by omega)
theorem end_bs : Bs pd fu 300 endD SC (mem q tk) (.int q.k0) (mem q tk) := (bs_deref (wi := 2) (by decide)).mono (by decide)
theorem rest_run (hp : Pd pd) (hF : ∀ i, i < grpN ds → funD pd i kindsL (fbD ds i)) (hx : ∀ x ∈ ds, x.Ok many) (hd : ds.length ≤ 40) (hr : q.row.length = many) (ho : q.os.length = 0) :
    (fu < tk + grpN ds → grpN ds ≠ 0 → Bf pd fu 5000 (restD ds) SC (mem q tk) (mem q fu) fuelV) ∧
    (tk + grpN ds ≤ fu → (∀ q', runM many ds q = (q', none) → Bs pd fu 5000 (restD ds) SC (mem q tk) (.int q'.k0) (mem q' (tk + grpN ds))) ∧
      (∀ q' ix, runM many ds q = (q', some ix) → Bf pd fu 5000 (restD ds) SC (mem q tk) (mem q' (tk + grpN ds)) (rsI ix))) := by
  by_cases h0 : grpN ds = 0
  · have hds : ds = [] := by
      unfold grpN at h0
      exact List.eq_nil_of_length_eq_zero (by omega)
    refine ⟨fun _ h => absurd h0 h, fun _ => ?_⟩
    have e : restD ds = endD := if_pos h0
    rw [e, h0]
    subst hds
    refine ⟨fun q' z => ?_, fun q' ix z => ?_⟩
    · cases z
      exact end_bs.mono (by decide)
    · cases z
  · obtain ⟨n, hn⟩ : ∃ n, grpN ds = n + 1 := ⟨grpN ds - 1, by omega⟩
    have e : restD ds = seqE wholeD (callE (n : Nat)) endD := by
      unfold restD
      rw [if_neg h0, hn]
      have : (((n + 1 : Nat) : Int) - 1) = ((n : Nat) : Int) := by omega
      rw [this]
    have hn6 : n ≤ 5 := by unfold grpN at hn; omega
    have hw : wC n ≤ 4000 := by unfold wC; omega
    have ht : ds.take (8 * (n + 1)) = ds := List.take_of_length_le (by unfold grpN at hn; omega)
    have c := call_run (fu := fu) hp hF hx n q tk (by omega) hr (by omega)
    rw [ht] at c
    rw [e, hn]
    refine ⟨fun h _ => (Bf.seq1 (c.1 (by omega))).mono (by omega), fun h => ⟨fun q' z => ?_, fun q' ix z => ?_⟩⟩
    · have z1 := (c.2 (by omega)).1 q' z
      exact (Bs.seq (w := 4000) (z1.mono hw) (end_bs.mono (by decide))).mono (by decide)
    · have z1 := (c.2 (by omega)).2 q' ix z
      exact (Bf.seq1 z1).mono (by omega)
theorem os_vl (os : List Int) : os.map Vl.int = (os.map D.int).map D.vl := by rw [List.map_map]; rfl
/-- what the program's run gives -/
theorem res_due (hm : many ≤ 12) (hx : ∀ x ∈ ds, x.Ok many) (hd : ds.length ≤ 40) : Res (progD (many : Nat) start ds) [] fu (dueD many start ds fu) := by
  have hp : Pd (progD (many : Nat) start ds) := ⟨_, _, rfl⟩
  have hF : ∀ i, i < grpN ds → funD (progD (many : Nat) start ds) i kindsL (fbD ds i) := fun i hi => by
    refine ⟨_, _, _, .str ("part" ++ toString ((i : Nat) : Int)), unitD, rfl, ?_⟩
    have hl : (funsD ds).length = grpN ds := by unfold funsD; simp
    rw [List.getElem?_append_left (by rw [hl]; exact hi)]
    unfold funsD
    rw [List.getElem?_map, List.getElem?_range hi]
    rfl
  have bf : ∀ {mf : Mm} {fl ans : D} {os : List Int} {xs : List D}, Bf (progD (many : Nat) start ds) fu 5012 (bodyD (many : Nat) start ds) .non mm0 mf fl.vl → fl = .tup xs → mf.os = os.map Vl.int → os.length ≤ 1000000 → Res (progD (many : Nat) start ds) [] fu (.tup [fl, .int 0, outD os, .int (mf.tk : Nat)]) := fun {mf fl ans os xs} h hf he hl => by
    obtain ⟨T', R', n, hr⟩ := h [] [] 0 (fun t ht => by simp at ht) (by decide) (by decide)
    exact .mk (ps := []) (fs := funsD ds) rfl rfl hr rfl (by rw [show (stt T' R' mf fl.vl).os = mf.os from rfl, he, os_vl]) (by simpa using hl) (.inr ⟨⟨xs, hf⟩, rfl⟩)
  have rr := rest_run (fu := fu) (tk := many) (q := me0 many start) hp hF hx hd (by simp [me0]) rfl
  have hrow := runM_row (many := many) ds (me0 many start)
  unfold dueD
  by_cases hl : fu < tickN many ds
  · rw [if_pos hl]
    unfold tickN at hl
    by_cases h1 : fu < many
    · exact bf (fl := .tup [.str "fuel"]) (ans := .non) (os := []) ((body_no (start := start) hm h1).mono (by decide)) rfl rfl (by simp)
    · exact bf (fl := .tup [.str "fuel"]) (ans := .non) (os := []) (body_bf hm (by omega) (by decide) (rr.1 (by omega) (by omega))) rfl rfl (by simp)
  · rw [if_neg hl]
    unfold tickN at hl ⊢
    cases hq : runM many ds (me0 many start) with
    | mk q' o =>
      rw [hq] at hrow
      have hos : q'.os.length ≤ 1000000 := by
        have := hrow.2
        simp [me0] at this
        omega
      cases o with
      | some ix =>
        exact bf (fl := .tup [.str "raised", .str "Index", .int ix]) (ans := .non) (os := q'.os) (body_bf hm (by omega) (by decide) ((rr.2 (by omega)).2 q' ix hq)) rfl rfl hos
      | none =>
        obtain ⟨n, hr⟩ := body_bs hm (by omega) (by decide) ((rr.2 (by omega)).1 q' hq) [] [] 0 (by decide) (by decide)
        exact .mk (ps := []) (fs := funsD ds) (fl := .non) (ans := .int q'.k0) (os := q'.os.map D.int) rfl rfl hr rfl (os_vl _) (by simpa using hos) (.inl ⟨rfl, rfl, [], rfl⟩)
end
section
variable {K : PySem.W.Frag} {vs : List V} {H : Hp} {Q : VK} {E : XK} {n : Nat}
theorem rd_l_cell (h : sp_l_cell K vs H Q E) : t_l_cell K { nx := fun _ H' => Q .non H', rt := Q } (start n_l_cell vs) H := by
  obtain ⟨A, ns, k, rfl, hA, hn, q⟩ := h
  unfold t_l_cell
  walk_at "ui"
  rw [List.length_map]
  refine br_d (fun c => ?_) (fun c => ?_)
  · have hk : k < ns.length := by omega
    walk_at "u"
    refine r_ixL hA (v := .int ns[k]) (atI_nat (by rw [List.getElem?_map, List.getElem?_eq_getElem hk]; rfl)) ?_
    exact q _
  · walk_at "u"
    exact q _
theorem rd_l_whole (h : sp_l_whole K vs H Q E) : t_l_whole K { nx := fun _ H' => Q .non H', rt := Q } (start n_l_whole vs) H := by
  obtain ⟨rfl, q⟩ := h
  unfold t_l_whole
  have S : Same H H := Same.refl _
  walk_at "u"
  refine ⟨szl (by simp), fun p1 hp1 => ?_⟩
  obtain ⟨G1, g1, s1, e1⟩ := Td.lay (K := K) (ds := []) hp1 (.nil)
  rw [g1]
  clear g1 hp1
  replace S := S.trans s1
  clear s1
  walk_at "u"
  refine ⟨szl (by simp), fun p2 hp2 => ?_⟩
  obtain ⟨G2, g2, s2, hw⟩ := Td.lay (K := K) (ds := [.str "int", .tup [], .int 0]) hp2 (.cons (.str _) (.cons (e1) (.cons (.int _) .nil)))
  rw [g2]
  clear g2 hp2
  replace e1 := e1.k (Same.tk s2)
  replace S := S.trans s2
  clear s2
  walk_at "u"
  exact q _ _ S hw
theorem rd_l_int (h : sp_l_int K vs H Q E) : t_l_int K { nx := fun _ H' => Q .non H', rt := Q } (start n_l_int vs) H := by
  obtain ⟨n, rfl, q⟩ := h
  unfold t_l_int
  have S : Same H H := Same.refl _
  walk_at "u"
  refine ⟨rfl, fun v1 G1 s1 hw => ?_⟩
  replace S := S.trans s1
  clear s1
  walk_at "u"
  refine ⟨szl (by simp), fun p2 hp2 => ?_⟩
  obtain ⟨G2, g2, s2, a⟩ := Td.lay (K := K) (ds := []) hp2 (.nil)
  rw [g2]
  clear g2 hp2
  replace hw := hw.k (Same.tk s2)
  replace S := S.trans s2
  clear s2
  walk_at "u"
  refine ⟨szl (by simp), fun p3 hp3 => ?_⟩
  obtain ⟨G3, g3, s3, b⟩ := Td.lay (K := K) (ds := []) hp3 (.nil)
  rw [g3]
  clear g3 hp3
  replace hw := hw.k (Same.tk s3)
  replace a := a.k (Same.tk s3)
  replace S := S.trans s3
  clear s3
  walk_at "u"
  refine ⟨szl (by simp), fun p4 hp4 => ?_⟩
  obtain ⟨G4, g4, s4, r⟩ := Td.lay (K := K) (ds := [.str "int", wholeD, .int n, .tup [], .tup []]) hp4 (.cons (.str _) (.cons (hw) (.cons (.int _) (.cons (a) (.cons (b) .nil)))))
  rw [g4]
  clear g4 hp4
  replace hw := hw.k (Same.tk s4)
  replace a := a.k (Same.tk s4)
  replace b := b.k (Same.tk s4)
  replace S := S.trans s4
  clear s4
  walk_at "u"
  exact q _ _ S r
theorem rd_l_name (h : sp_l_name K vs H Q E) : t_l_name K { nx := fun _ H' => Q .non H', rt := Q } (start n_l_name vs) H := by
  obtain ⟨k, dk, x, rfl, hk, q⟩ := h
  unfold t_l_name
  have S : Same H H := Same.refl _
  walk_at "u"
  refine ⟨szl (by simp), fun p1 hp1 => ?_⟩
  obtain ⟨G1, g1, s1, a⟩ := Td.lay (K := K) (ds := []) hp1 (.nil)
  rw [g1]
  clear g1 hp1
  replace hk := hk.k (Same.tk s1)
  replace S := S.trans s1
  clear s1
  walk_at "u"
  refine ⟨szl (by simp), fun p2 hp2 => ?_⟩
  obtain ⟨G2, g2, s2, b⟩ := Td.lay (K := K) (ds := []) hp2 (.nil)
  rw [g2]
  clear g2 hp2
  replace hk := hk.k (Same.tk s2)
  replace a := a.k (Same.tk s2)
  replace S := S.trans s2
  clear s2
  walk_at "u"
  refine ⟨szl (by simp), fun p3 hp3 => ?_⟩
  obtain ⟨G3, g3, s3, r⟩ := Td.lay (K := K) (ds := [.str "name", dk, .str x, .tup [], .tup []]) hp3 (.cons (.str _) (.cons (hk) (.cons (.str _) (.cons (a) (.cons (b) .nil)))))
  rw [g3]
  clear g3 hp3
  replace hk := hk.k (Same.tk s3)
  replace a := a.k (Same.tk s3)
  replace b := b.k (Same.tk s3)
  replace S := S.trans s3
  clear s3
  walk_at "u"
  exact q _ _ S r
theorem rd_l_seq (h : sp_l_seq K vs H Q E) : t_l_seq K { nx := fun _ H' => Q .non H', rt := Q } (start n_l_seq vs) H := by
  obtain ⟨a, b, da, k, o, r, rfl, ha, hb, q⟩ := h
  unfold t_l_seq
  have S : Same H H := Same.refl _
  walk_at "u"
  refine r_ixD (k := 1) hb rfl fun u1 hk => ?_
  walk_at "u"
  refine ⟨szl (by simp), fun p2 hp2 => ?_⟩
  obtain ⟨G2, g2, s2, kk⟩ := Td.lay (K := K) (ds := [da, .tup (o :: k :: r)]) hp2 (.cons (ha) (.cons (hb) .nil))
  rw [g2]
  clear g2 hp2
  replace ha := ha.k (Same.tk s2)
  replace hb := hb.k (Same.tk s2)
  replace hk := hk.k (Same.tk s2)
  replace S := S.trans s2
  clear s2
  walk_at "u"
  refine ⟨szl (by simp), fun p3 hp3 => ?_⟩
  obtain ⟨G3, g3, s3, b0⟩ := Td.lay (K := K) (ds := []) hp3 (.nil)
  rw [g3]
  clear g3 hp3
  replace ha := ha.k (Same.tk s3)
  replace hb := hb.k (Same.tk s3)
  replace hk := hk.k (Same.tk s3)
  replace kk := kk.k (Same.tk s3)
  replace S := S.trans s3
  clear s3
  walk_at "u"
  refine ⟨szl (by simp), fun p4 hp4 => ?_⟩
  obtain ⟨G4, g4, s4, z⟩ := Td.lay (K := K) (ds := [.str "seq", k, .non, .tup [da, .tup (o :: k :: r)], .tup []]) hp4 (.cons (.str _) (.cons (hk) (.cons (.non) (.cons (kk) (.cons (b0) .nil)))))
  rw [g4]
  clear g4 hp4
  replace ha := ha.k (Same.tk s4)
  replace hb := hb.k (Same.tk s4)
  replace hk := hk.k (Same.tk s4)
  replace kk := kk.k (Same.tk s4)
  replace b0 := b0.k (Same.tk s4)
  replace S := S.trans s4
  clear s4
  walk_at "u"
  exact q _ _ S z
theorem rd_l_let (h : sp_l_let K vs H Q E) : t_l_let K { nx := fun _ H' => Q .non H', rt := Q } (start n_l_let vs) H := by
  obtain ⟨x, a, b, da, k, o, r, rfl, ha, hb, q⟩ := h
  unfold t_l_let
  have S : Same H H := Same.refl _
  walk_at "u"
  refine r_ixD (k := 1) hb rfl fun u1 hk => ?_
  walk_at "u"
  refine ⟨szl (by simp), fun p2 hp2 => ?_⟩
  obtain ⟨G2, g2, s2, kk⟩ := Td.lay (K := K) (ds := [da, .tup (o :: k :: r)]) hp2 (.cons (ha) (.cons (hb) .nil))
  rw [g2]
  clear g2 hp2
  replace ha := ha.k (Same.tk s2)
  replace hb := hb.k (Same.tk s2)
  replace hk := hk.k (Same.tk s2)
  replace S := S.trans s2
  clear s2
  walk_at "u"
  refine ⟨szl (by simp), fun p3 hp3 => ?_⟩
  obtain ⟨G3, g3, s3, b0⟩ := Td.lay (K := K) (ds := []) hp3 (.nil)
  rw [g3]
  clear g3 hp3
  replace ha := ha.k (Same.tk s3)
  replace hb := hb.k (Same.tk s3)
  replace hk := hk.k (Same.tk s3)
  replace kk := kk.k (Same.tk s3)
  replace S := S.trans s3
  clear s3
  walk_at "u"
  refine ⟨szl (by simp), fun p4 hp4 => ?_⟩
  obtain ⟨G4, g4, s4, z⟩ := Td.lay (K := K) (ds := [.str "let", k, .str x, .tup [da, .tup (o :: k :: r)], .tup []]) hp4 (.cons (.str _) (.cons (hk) (.cons (.str _) (.cons (kk) (.cons (b0) .nil)))))
  rw [g4]
  clear g4 hp4
  replace ha := ha.k (Same.tk s4)
  replace hb := hb.k (Same.tk s4)
  replace hk := hk.k (Same.tk s4)
  replace kk := kk.k (Same.tk s4)
  replace b0 := b0.k (Same.tk s4)
  replace S := S.trans s4
  clear s4
  walk_at "u"
  exact q _ _ S z
theorem rd_l_print (h : sp_l_print K vs H Q E) : t_l_print K { nx := fun _ H' => Q .non H', rt := Q } (start n_l_print vs) H := by
  obtain ⟨a, da, rfl, ha, q⟩ := h
  unfold t_l_print
  have S : Same H H := Same.refl _
  walk_at "u"
  refine ⟨szl (by simp), fun p1 hp1 => ?_⟩
  obtain ⟨G1, g1, s1, a0⟩ := Td.lay (K := K) (ds := []) hp1 (.nil)
  rw [g1]
  clear g1 hp1
  replace ha := ha.k (Same.tk s1)
  replace S := S.trans s1
  clear s1
  walk_at "u"
  refine ⟨szl (by simp), fun p2 hp2 => ?_⟩
  obtain ⟨G2, g2, s2, hu⟩ := Td.lay (K := K) (ds := [.str "unit", .tup [], .int 0]) hp2 (.cons (.str _) (.cons (a0) (.cons (.int _) .nil)))
  rw [g2]
  clear g2 hp2
  replace ha := ha.k (Same.tk s2)
  replace a0 := a0.k (Same.tk s2)
  replace S := S.trans s2
  clear s2
  walk_at "u"
  refine ⟨szl (by simp), fun p3 hp3 => ?_⟩
  obtain ⟨G3, g3, s3, kk⟩ := Td.lay (K := K) (ds := [da]) hp3 (.cons (ha) .nil)
  rw [g3]
  clear g3 hp3
  replace ha := ha.k (Same.tk s3)
  replace a0 := a0.k (Same.tk s3)
  replace hu := hu.k (Same.tk s3)
  replace S := S.trans s3
  clear s3
  walk_at "u"
  refine ⟨szl (by simp), fun p4 hp4 => ?_⟩
  obtain ⟨G4, g4, s4, b0⟩ := Td.lay (K := K) (ds := []) hp4 (.nil)
  rw [g4]
  clear g4 hp4
  replace ha := ha.k (Same.tk s4)
  replace a0 := a0.k (Same.tk s4)
  replace hu := hu.k (Same.tk s4)
  replace kk := kk.k (Same.tk s4)
  replace S := S.trans s4
  clear s4
  walk_at "u"
  refine ⟨szl (by simp), fun p5 hp5 => ?_⟩
  obtain ⟨G5, g5, s5, z⟩ := Td.lay (K := K) (ds := [.str "print", unitD, .non, .tup [da], .tup []]) hp5 (.cons (.str _) (.cons (hu) (.cons (.non) (.cons (kk) (.cons (b0) .nil)))))
  rw [g5]
  clear g5 hp5
  replace ha := ha.k (Same.tk s5)
  replace a0 := a0.k (Same.tk s5)
  replace hu := hu.k (Same.tk s5)
  replace kk := kk.k (Same.tk s5)
  replace b0 := b0.k (Same.tk s5)
  replace S := S.trans s5
  clear s5
  walk_at "u"
  exact q _ _ S z
theorem rd_l_expression (h : sp_l_expression K vs H Q E) : t_l_expression K { nx := fun _ H' => Q .non H', rt := Q } (start n_l_expression vs) H := by
  obtain ⟨a, x, many, rfl, hx, ok, q⟩ := h
  unfold t_l_expression
  have S : Same H H := Same.refl _
  walk_at "u"
  refine ⟨szl (by simp), fun p1 hp1 => ?_⟩
  obtain ⟨G1, g1, s1, a0⟩ := Td.lay (K := K) (ds := []) hp1 (.nil)
  rw [g1]
  clear g1 hp1
  replace hx := hx.k (Same.tk s1)
  replace S := S.trans s1
  clear s1
  walk_at "u"
  refine ⟨szl (by simp), fun p2 hp2 => ?_⟩
  obtain ⟨G2, g2, s2, hu⟩ := Td.lay (K := K) (ds := [.str "unit", .tup [], .int 0]) hp2 (.cons (.str _) (.cons (a0) (.cons (.int _) .nil)))
  rw [g2]
  clear g2 hp2
  replace hx := hx.k (Same.tk s2)
  replace a0 := a0.k (Same.tk s2)
  replace S := S.trans s2
  clear s2
  walk_at "u"
  clear a0
  refine ⟨rfl, fun v3 G3 s3 hw => ?_⟩
  replace hx := hx.k (Same.tk s3)
  replace hu := hu.k (Same.tk s3)
  replace S := S.trans s3
  clear s3
  walk_at "u"
  refine ⟨szl (by simp), fun p4 hp4 => ?_⟩
  obtain ⟨G4, g4, s4, a0⟩ := Td.lay (K := K) (ds := [wholeD]) hp4 (.cons (hw) .nil)
  rw [g4]
  clear g4 hp4
  replace hx := hx.k (Same.tk s4)
  replace hu := hu.k (Same.tk s4)
  replace hw := hw.k (Same.tk s4)
  replace S := S.trans s4
  clear s4
  walk_at "u"
  refine ⟨szl (by simp), fun p5 hp5 => ?_⟩
  obtain ⟨G5, g5, s5, hrf⟩ := Td.lay (K := K) (ds := [.str "ref", .tup [wholeD], .int 0]) hp5 (.cons (.str _) (.cons (a0) (.cons (.int _) .nil)))
  rw [g5]
  clear g5 hp5
  replace hx := hx.k (Same.tk s5)
  replace hu := hu.k (Same.tk s5)
  replace hw := hw.k (Same.tk s5)
  replace a0 := a0.k (Same.tk s5)
  replace S := S.trans s5
  clear s5
  walk_at "u"
  clear a0
  refine ⟨szl (by simp), fun p6 hp6 => ?_⟩
  obtain ⟨G6, g6, s6, a0⟩ := Td.lay (K := K) (ds := [wholeD]) hp6 (.cons (hw) .nil)
  rw [g6]
  clear g6 hp6
  replace hx := hx.k (Same.tk s6)
  replace hu := hu.k (Same.tk s6)
  replace hw := hw.k (Same.tk s6)
  replace hrf := hrf.k (Same.tk s6)
  replace S := S.trans s6
  clear s6
  walk_at "u"
  refine ⟨szl (by simp), fun p7 hp7 => ?_⟩
  obtain ⟨G7, g7, s7, har⟩ := Td.lay (K := K) (ds := [.str "array", .tup [wholeD], .int 0]) hp7 (.cons (.str _) (.cons (a0) (.cons (.int _) .nil)))
  rw [g7]
  clear g7 hp7
  replace hx := hx.k (Same.tk s7)
  replace hu := hu.k (Same.tk s7)
  replace hw := hw.k (Same.tk s7)
  replace hrf := hrf.k (Same.tk s7)
  replace a0 := a0.k (Same.tk s7)
  replace S := S.trans s7
  clear s7
  walk_at "u"
  clear a0
  refine ⟨szl (by simp), fun p8 hp8 => ?_⟩
  obtain ⟨G8, g8, s8, e8⟩ := lay_new (o := .lst [.str "a", .str "b", .str "c", .str "d"]) hp8
  rw [g8]
  clear g8 hp8
  replace hx := hx.k (Same.tk s8)
  replace hu := hu.k (Same.tk s8)
  replace hw := hw.k (Same.tk s8)
  replace hrf := hrf.k (Same.tk s8)
  replace har := har.k (Same.tk s8)
  replace S := S.trans s8
  clear s8
  walk_at "u"
  refine r_ixD (k := 1) hx rfl fun u9 hi => ?_
  have hi := hi.invI
  subst hi
  walk_at "u"
  refine r_ixL (SqL.of e8) (v := .str (keptN x.w)) (by rcases w4 ok.w with h | h | h | h <;> rw [h] <;> rfl) ?_
  clear e8
  walk_at "u"
  refine ⟨_, _, _, rfl, hrf, fun v10 G10 s10 hk => ?_⟩
  replace hx := hx.k (Same.tk s10)
  replace hu := hu.k (Same.tk s10)
  replace hw := hw.k (Same.tk s10)
  replace hrf := hrf.k (Same.tk s10)
  replace har := har.k (Same.tk s10)
  replace S := S.trans s10
  clear s10
  walk_at "u"
  refine ⟨szl (by simp), fun p11 hp11 => ?_⟩
  obtain ⟨G11, g11, s11, e11⟩ := lay_new (o := .lst [.str "v", .str "w", .str "v", .str "w"]) hp11
  rw [g11]
  clear g11 hp11
  replace hx := hx.k (Same.tk s11)
  replace hu := hu.k (Same.tk s11)
  replace hw := hw.k (Same.tk s11)
  replace hrf := hrf.k (Same.tk s11)
  replace har := har.k (Same.tk s11)
  replace hk := hk.k (Same.tk s11)
  replace S := S.trans s11
  clear s11
  walk_at "u"
  refine r_ixD (k := 1) hx rfl fun u12 hi => ?_
  have hi := hi.invI
  subst hi
  walk_at "u"
  refine r_ixL (SqL.of e11) (v := .str (rowN x.w)) (by rcases w4 ok.w with h | h | h | h <;> rw [h] <;> rfl) ?_
  clear e11
  walk_at "u"
  refine ⟨_, _, _, rfl, har, fun v13 G13 s13 hr => ?_⟩
  replace hx := hx.k (Same.tk s13)
  replace hu := hu.k (Same.tk s13)
  replace hw := hw.k (Same.tk s13)
  replace hrf := hrf.k (Same.tk s13)
  replace har := har.k (Same.tk s13)
  replace hk := hk.k (Same.tk s13)
  replace S := S.trans s13
  clear s13
  walk_at "u"
  have hd := d6 ok
  unfold exprD at q
  rcases hd with hd | hd | hd | hd | hd | hd
  · rw [hd] at q
    walk_at "ui"
    refine r_ixD (k := 0) hx rfl fun u14 hi => ?_
    have hi := hi.invI
    subst hi
    walk_at "u"
    refine r_ixD (k := 3) hx rfl fun u15 hi => ?_
    have hi := hi.invI
    subst hi
    walk_at "u"
    refine ⟨_, rfl, fun v16 G16 s16 h1 => ?_⟩
    replace hx := hx.k (Same.tk s16)
    replace hu := hu.k (Same.tk s16)
    replace hw := hw.k (Same.tk s16)
    replace hrf := hrf.k (Same.tk s16)
    replace har := har.k (Same.tk s16)
    replace hk := hk.k (Same.tk s16)
    replace hr := hr.k (Same.tk s16)
    replace S := S.trans s16
    clear s16
    walk_at "u"
    refine ⟨szl (by simp), fun p17 hp17 => ?_⟩
    obtain ⟨G17, g17, s17, kk⟩ := Td.lay (K := K) (ds := [nmE refD (keptN x.w), intE x.v]) hp17 (.cons (hk) (.cons (h1) .nil))
    rw [g17]
    clear g17 hp17
    replace hx := hx.k (Same.tk s17)
    replace hu := hu.k (Same.tk s17)
    replace hw := hw.k (Same.tk s17)
    replace hrf := hrf.k (Same.tk s17)
    replace har := har.k (Same.tk s17)
    replace hk := hk.k (Same.tk s17)
    replace hr := hr.k (Same.tk s17)
    replace h1 := h1.k (Same.tk s17)
    replace S := S.trans s17
    clear s17
    walk_at "u"
    refine ⟨szl (by simp), fun p18 hp18 => ?_⟩
    obtain ⟨G18, g18, s18, b0⟩ := Td.lay (K := K) (ds := []) hp18 (.nil)
    rw [g18]
    clear g18 hp18
    replace hx := hx.k (Same.tk s18)
    replace hu := hu.k (Same.tk s18)
    replace hw := hw.k (Same.tk s18)
    replace hrf := hrf.k (Same.tk s18)
    replace har := har.k (Same.tk s18)
    replace hk := hk.k (Same.tk s18)
    replace hr := hr.k (Same.tk s18)
    replace h1 := h1.k (Same.tk s18)
    replace kk := kk.k (Same.tk s18)
    replace S := S.trans s18
    clear s18
    walk_at "u"
    refine ⟨szl (by simp), fun p19 hp19 => ?_⟩
    obtain ⟨G19, g19, s19, z⟩ := Td.lay (K := K) (ds := [.str "set", unitD, .non, .tup [nmE refD (keptN x.w), intE x.v], .tup []]) hp19 (.cons (.str _) (.cons (hu) (.cons (.non) (.cons (kk) (.cons (b0) .nil)))))
    rw [g19]
    clear g19 hp19
    replace hx := hx.k (Same.tk s19)
    replace hu := hu.k (Same.tk s19)
    replace hw := hw.k (Same.tk s19)
    replace hrf := hrf.k (Same.tk s19)
    replace har := har.k (Same.tk s19)
    replace hk := hk.k (Same.tk s19)
    replace hr := hr.k (Same.tk s19)
    replace h1 := h1.k (Same.tk s19)
    replace kk := kk.k (Same.tk s19)
    replace b0 := b0.k (Same.tk s19)
    replace S := S.trans s19
    clear s19
    walk_at "u"
    exact q _ _ S z
  · rw [hd] at q
    walk_at "ui"
    refine r_ixD (k := 0) hx rfl fun u20 hi => ?_
    have hi := hi.invI
    subst hi
    walk_at "u"
    walk_at "ui"
    refine r_ixD (k := 0) hx rfl fun u21 hi => ?_
    have hi := hi.invI
    subst hi
    walk_at "u"
    refine ⟨szl (by simp), fun p22 hp22 => ?_⟩
    obtain ⟨G22, g22, s22, kk⟩ := Td.lay (K := K) (ds := [nmE refD (keptN x.w)]) hp22 (.cons (hk) .nil)
    rw [g22]
    clear g22 hp22
    replace hx := hx.k (Same.tk s22)
    replace hu := hu.k (Same.tk s22)
    replace hw := hw.k (Same.tk s22)
    replace hrf := hrf.k (Same.tk s22)
    replace har := har.k (Same.tk s22)
    replace hk := hk.k (Same.tk s22)
    replace hr := hr.k (Same.tk s22)
    replace S := S.trans s22
    clear s22
    walk_at "u"
    refine ⟨szl (by simp), fun p23 hp23 => ?_⟩
    obtain ⟨G23, g23, s23, b0⟩ := Td.lay (K := K) (ds := []) hp23 (.nil)
    rw [g23]
    clear g23 hp23
    replace hx := hx.k (Same.tk s23)
    replace hu := hu.k (Same.tk s23)
    replace hw := hw.k (Same.tk s23)
    replace hrf := hrf.k (Same.tk s23)
    replace har := har.k (Same.tk s23)
    replace hk := hk.k (Same.tk s23)
    replace hr := hr.k (Same.tk s23)
    replace kk := kk.k (Same.tk s23)
    replace S := S.trans s23
    clear s23
    walk_at "u"
    refine ⟨szl (by simp), fun p24 hp24 => ?_⟩
    obtain ⟨G24, g24, s24, z⟩ := Td.lay (K := K) (ds := [.str "deref", wholeD, .non, .tup [nmE refD (keptN x.w)], .tup []]) hp24 (.cons (.str _) (.cons (hw) (.cons (.non) (.cons (kk) (.cons (b0) .nil)))))
    rw [g24]
    clear g24 hp24
    replace hx := hx.k (Same.tk s24)
    replace hu := hu.k (Same.tk s24)
    replace hw := hw.k (Same.tk s24)
    replace hrf := hrf.k (Same.tk s24)
    replace har := har.k (Same.tk s24)
    replace hk := hk.k (Same.tk s24)
    replace hr := hr.k (Same.tk s24)
    replace kk := kk.k (Same.tk s24)
    replace b0 := b0.k (Same.tk s24)
    replace S := S.trans s24
    clear s24
    walk_at "u"
    refine ⟨_, _, rfl, z, fun v25 G25 s25 z2 => ?_⟩
    replace hx := hx.k (Same.tk s25)
    replace hu := hu.k (Same.tk s25)
    replace hw := hw.k (Same.tk s25)
    replace hrf := hrf.k (Same.tk s25)
    replace har := har.k (Same.tk s25)
    replace hk := hk.k (Same.tk s25)
    replace hr := hr.k (Same.tk s25)
    replace kk := kk.k (Same.tk s25)
    replace b0 := b0.k (Same.tk s25)
    replace z := z.k (Same.tk s25)
    replace S := S.trans s25
    clear s25
    walk_at "u"
    exact q _ _ S z2
  · rw [hd] at q
    walk_at "ui"
    refine r_ixD (k := 0) hx rfl fun u26 hi => ?_
    have hi := hi.invI
    subst hi
    walk_at "u"
    walk_at "ui"
    refine r_ixD (k := 0) hx rfl fun u27 hi => ?_
    have hi := hi.invI
    subst hi
    walk_at "u"
    walk_at "ui"
    refine r_ixD (k := 0) hx rfl fun u28 hi => ?_
    have hi := hi.invI
    subst hi
    walk_at "u"
    refine r_ixD (k := 2) hx rfl fun u29 hi => ?_
    have hi := hi.invI
    subst hi
    walk_at "u"
    refine ⟨_, rfl, fun v30 G30 s30 h1 => ?_⟩
    replace hx := hx.k (Same.tk s30)
    replace hu := hu.k (Same.tk s30)
    replace hw := hw.k (Same.tk s30)
    replace hrf := hrf.k (Same.tk s30)
    replace har := har.k (Same.tk s30)
    replace hk := hk.k (Same.tk s30)
    replace hr := hr.k (Same.tk s30)
    replace S := S.trans s30
    clear s30
    walk_at "u"
    refine r_ixD (k := 3) hx rfl fun u31 hi => ?_
    have hi := hi.invI
    subst hi
    walk_at "u"
    refine ⟨_, rfl, fun v32 G32 s32 h2 => ?_⟩
    replace hx := hx.k (Same.tk s32)
    replace hu := hu.k (Same.tk s32)
    replace hw := hw.k (Same.tk s32)
    replace hrf := hrf.k (Same.tk s32)
    replace har := har.k (Same.tk s32)
    replace hk := hk.k (Same.tk s32)
    replace hr := hr.k (Same.tk s32)
    replace h1 := h1.k (Same.tk s32)
    replace S := S.trans s32
    clear s32
    walk_at "u"
    refine ⟨szl (by simp), fun p33 hp33 => ?_⟩
    obtain ⟨G33, g33, s33, kk⟩ := Td.lay (K := K) (ds := [nmE arrD (rowN x.w), intE x.ix, intE x.v]) hp33 (.cons (hr) (.cons (h1) (.cons (h2) .nil)))
    rw [g33]
    clear g33 hp33
    replace hx := hx.k (Same.tk s33)
    replace hu := hu.k (Same.tk s33)
    replace hw := hw.k (Same.tk s33)
    replace hrf := hrf.k (Same.tk s33)
    replace har := har.k (Same.tk s33)
    replace hk := hk.k (Same.tk s33)
    replace hr := hr.k (Same.tk s33)
    replace h1 := h1.k (Same.tk s33)
    replace h2 := h2.k (Same.tk s33)
    replace S := S.trans s33
    clear s33
    walk_at "u"
    refine ⟨szl (by simp), fun p34 hp34 => ?_⟩
    obtain ⟨G34, g34, s34, b0⟩ := Td.lay (K := K) (ds := []) hp34 (.nil)
    rw [g34]
    clear g34 hp34
    replace hx := hx.k (Same.tk s34)
    replace hu := hu.k (Same.tk s34)
    replace hw := hw.k (Same.tk s34)
    replace hrf := hrf.k (Same.tk s34)
    replace har := har.k (Same.tk s34)
    replace hk := hk.k (Same.tk s34)
    replace hr := hr.k (Same.tk s34)
    replace h1 := h1.k (Same.tk s34)
    replace h2 := h2.k (Same.tk s34)
    replace kk := kk.k (Same.tk s34)
    replace S := S.trans s34
    clear s34
    walk_at "u"
    refine ⟨szl (by simp), fun p35 hp35 => ?_⟩
    obtain ⟨G35, g35, s35, z⟩ := Td.lay (K := K) (ds := [.str "put", unitD, .non, .tup [nmE arrD (rowN x.w), intE x.ix, intE x.v], .tup []]) hp35 (.cons (.str _) (.cons (hu) (.cons (.non) (.cons (kk) (.cons (b0) .nil)))))
    rw [g35]
    clear g35 hp35
    replace hx := hx.k (Same.tk s35)
    replace hu := hu.k (Same.tk s35)
    replace hw := hw.k (Same.tk s35)
    replace hrf := hrf.k (Same.tk s35)
    replace har := har.k (Same.tk s35)
    replace hk := hk.k (Same.tk s35)
    replace hr := hr.k (Same.tk s35)
    replace h1 := h1.k (Same.tk s35)
    replace h2 := h2.k (Same.tk s35)
    replace kk := kk.k (Same.tk s35)
    replace b0 := b0.k (Same.tk s35)
    replace S := S.trans s35
    clear s35
    walk_at "u"
    exact q _ _ S z
  · rw [hd] at q
    walk_at "ui"
    refine r_ixD (k := 0) hx rfl fun u36 hi => ?_
    have hi := hi.invI
    subst hi
    walk_at "u"
    walk_at "ui"
    refine r_ixD (k := 0) hx rfl fun u37 hi => ?_
    have hi := hi.invI
    subst hi
    walk_at "u"
    walk_at "ui"
    refine r_ixD (k := 0) hx rfl fun u38 hi => ?_
    have hi := hi.invI
    subst hi
    walk_at "u"
    walk_at "ui"
    refine r_ixD (k := 0) hx rfl fun u39 hi => ?_
    have hi := hi.invI
    subst hi
    walk_at "u"
    refine r_ixD (k := 2) hx rfl fun u40 hi => ?_
    have hi := hi.invI
    subst hi
    walk_at "u"
    refine ⟨_, rfl, fun v41 G41 s41 h1 => ?_⟩
    replace hx := hx.k (Same.tk s41)
    replace hu := hu.k (Same.tk s41)
    replace hw := hw.k (Same.tk s41)
    replace hrf := hrf.k (Same.tk s41)
    replace har := har.k (Same.tk s41)
    replace hk := hk.k (Same.tk s41)
    replace hr := hr.k (Same.tk s41)
    replace S := S.trans s41
    clear s41
    walk_at "u"
    refine ⟨szl (by simp), fun p42 hp42 => ?_⟩
    obtain ⟨G42, g42, s42, kk⟩ := Td.lay (K := K) (ds := [nmE arrD (rowN x.w), intE x.ix]) hp42 (.cons (hr) (.cons (h1) .nil))
    rw [g42]
    clear g42 hp42
    replace hx := hx.k (Same.tk s42)
    replace hu := hu.k (Same.tk s42)
    replace hw := hw.k (Same.tk s42)
    replace hrf := hrf.k (Same.tk s42)
    replace har := har.k (Same.tk s42)
    replace hk := hk.k (Same.tk s42)
    replace hr := hr.k (Same.tk s42)
    replace h1 := h1.k (Same.tk s42)
    replace S := S.trans s42
    clear s42
    walk_at "u"
    refine ⟨szl (by simp), fun p43 hp43 => ?_⟩
    obtain ⟨G43, g43, s43, b0⟩ := Td.lay (K := K) (ds := []) hp43 (.nil)
    rw [g43]
    clear g43 hp43
    replace hx := hx.k (Same.tk s43)
    replace hu := hu.k (Same.tk s43)
    replace hw := hw.k (Same.tk s43)
    replace hrf := hrf.k (Same.tk s43)
    replace har := har.k (Same.tk s43)
    replace hk := hk.k (Same.tk s43)
    replace hr := hr.k (Same.tk s43)
    replace h1 := h1.k (Same.tk s43)
    replace kk := kk.k (Same.tk s43)
    replace S := S.trans s43
    clear s43
    walk_at "u"
    refine ⟨szl (by simp), fun p44 hp44 => ?_⟩
    obtain ⟨G44, g44, s44, z⟩ := Td.lay (K := K) (ds := [.str "at", wholeD, .non, .tup [nmE arrD (rowN x.w), intE x.ix], .tup []]) hp44 (.cons (.str _) (.cons (hw) (.cons (.non) (.cons (kk) (.cons (b0) .nil)))))
    rw [g44]
    clear g44 hp44
    replace hx := hx.k (Same.tk s44)
    replace hu := hu.k (Same.tk s44)
    replace hw := hw.k (Same.tk s44)
    replace hrf := hrf.k (Same.tk s44)
    replace har := har.k (Same.tk s44)
    replace hk := hk.k (Same.tk s44)
    replace hr := hr.k (Same.tk s44)
    replace h1 := h1.k (Same.tk s44)
    replace kk := kk.k (Same.tk s44)
    replace b0 := b0.k (Same.tk s44)
    replace S := S.trans s44
    clear s44
    walk_at "u"
    refine ⟨_, _, rfl, z, fun v45 G45 s45 z2 => ?_⟩
    replace hx := hx.k (Same.tk s45)
    replace hu := hu.k (Same.tk s45)
    replace hw := hw.k (Same.tk s45)
    replace hrf := hrf.k (Same.tk s45)
    replace har := har.k (Same.tk s45)
    replace hk := hk.k (Same.tk s45)
    replace hr := hr.k (Same.tk s45)
    replace h1 := h1.k (Same.tk s45)
    replace kk := kk.k (Same.tk s45)
    replace b0 := b0.k (Same.tk s45)
    replace z := z.k (Same.tk s45)
    replace S := S.trans s45
    clear s45
    walk_at "u"
    exact q _ _ S z2
  · rw [hd] at q
    walk_at "ui"
    refine r_ixD (k := 0) hx rfl fun u46 hi => ?_
    have hi := hi.invI
    subst hi
    walk_at "u"
    walk_at "ui"
    refine r_ixD (k := 0) hx rfl fun u47 hi => ?_
    have hi := hi.invI
    subst hi
    walk_at "u"
    walk_at "ui"
    refine r_ixD (k := 0) hx rfl fun u48 hi => ?_
    have hi := hi.invI
    subst hi
    walk_at "u"
    walk_at "ui"
    refine r_ixD (k := 0) hx rfl fun u49 hi => ?_
    have hi := hi.invI
    subst hi
    walk_at "u"
    walk_at "ui"
    refine r_ixD (k := 0) hx rfl fun u50 hi => ?_
    have hi := hi.invI
    subst hi
    walk_at "u"
    refine ⟨szl (by simp), fun p51 hp51 => ?_⟩
    obtain ⟨G51, g51, s51, kk⟩ := Td.lay (K := K) (ds := [nmE arrD (rowN x.w)]) hp51 (.cons (hr) .nil)
    rw [g51]
    clear g51 hp51
    replace hx := hx.k (Same.tk s51)
    replace hu := hu.k (Same.tk s51)
    replace hw := hw.k (Same.tk s51)
    replace hrf := hrf.k (Same.tk s51)
    replace har := har.k (Same.tk s51)
    replace hk := hk.k (Same.tk s51)
    replace hr := hr.k (Same.tk s51)
    replace S := S.trans s51
    clear s51
    walk_at "u"
    refine ⟨szl (by simp), fun p52 hp52 => ?_⟩
    obtain ⟨G52, g52, s52, b0⟩ := Td.lay (K := K) (ds := []) hp52 (.nil)
    rw [g52]
    clear g52 hp52
    replace hx := hx.k (Same.tk s52)
    replace hu := hu.k (Same.tk s52)
    replace hw := hw.k (Same.tk s52)
    replace hrf := hrf.k (Same.tk s52)
    replace har := har.k (Same.tk s52)
    replace hk := hk.k (Same.tk s52)
    replace hr := hr.k (Same.tk s52)
    replace kk := kk.k (Same.tk s52)
    replace S := S.trans s52
    clear s52
    walk_at "u"
    refine ⟨szl (by simp), fun p53 hp53 => ?_⟩
    obtain ⟨G53, g53, s53, z⟩ := Td.lay (K := K) (ds := [.str "len", wholeD, .non, .tup [nmE arrD (rowN x.w)], .tup []]) hp53 (.cons (.str _) (.cons (hw) (.cons (.non) (.cons (kk) (.cons (b0) .nil)))))
    rw [g53]
    clear g53 hp53
    replace hx := hx.k (Same.tk s53)
    replace hu := hu.k (Same.tk s53)
    replace hw := hw.k (Same.tk s53)
    replace hrf := hrf.k (Same.tk s53)
    replace har := har.k (Same.tk s53)
    replace hk := hk.k (Same.tk s53)
    replace hr := hr.k (Same.tk s53)
    replace kk := kk.k (Same.tk s53)
    replace b0 := b0.k (Same.tk s53)
    replace S := S.trans s53
    clear s53
    walk_at "u"
    refine ⟨_, _, rfl, z, fun v54 G54 s54 z2 => ?_⟩
    replace hx := hx.k (Same.tk s54)
    replace hu := hu.k (Same.tk s54)
    replace hw := hw.k (Same.tk s54)
    replace hrf := hrf.k (Same.tk s54)
    replace har := har.k (Same.tk s54)
    replace hk := hk.k (Same.tk s54)
    replace hr := hr.k (Same.tk s54)
    replace kk := kk.k (Same.tk s54)
    replace b0 := b0.k (Same.tk s54)
    replace z := z.k (Same.tk s54)
    replace S := S.trans s54
    clear s54
    walk_at "u"
    exact q _ _ S z2
  · rw [hd] at q
    walk_at "ui"
    refine r_ixD (k := 0) hx rfl fun u55 hi => ?_
    have hi := hi.invI
    subst hi
    walk_at "u"
    walk_at "ui"
    refine r_ixD (k := 0) hx rfl fun u56 hi => ?_
    have hi := hi.invI
    subst hi
    walk_at "u"
    walk_at "ui"
    refine r_ixD (k := 0) hx rfl fun u57 hi => ?_
    have hi := hi.invI
    subst hi
    walk_at "u"
    walk_at "ui"
    refine r_ixD (k := 0) hx rfl fun u58 hi => ?_
    have hi := hi.invI
    subst hi
    walk_at "u"
    walk_at "ui"
    refine r_ixD (k := 0) hx rfl fun u59 hi => ?_
    have hi := hi.invI
    subst hi
    walk_at "u"
    refine r_ixD (k := 2) hx rfl fun u60 hi => ?_
    have hi := hi.invI
    subst hi
    walk_at "u"
    refine ⟨_, rfl, fun v61 G61 s61 h1 => ?_⟩
    replace hx := hx.k (Same.tk s61)
    replace hu := hu.k (Same.tk s61)
    replace hw := hw.k (Same.tk s61)
    replace hrf := hrf.k (Same.tk s61)
    replace har := har.k (Same.tk s61)
    replace hk := hk.k (Same.tk s61)
    replace hr := hr.k (Same.tk s61)
    replace S := S.trans s61
    clear s61
    walk_at "u"
    refine ⟨szl (by simp), fun p62 hp62 => ?_⟩
    obtain ⟨G62, g62, s62, kk⟩ := Td.lay (K := K) (ds := [nmE arrD (rowN x.w), intE x.ix]) hp62 (.cons (hr) (.cons (h1) .nil))
    rw [g62]
    clear g62 hp62
    replace hx := hx.k (Same.tk s62)
    replace hu := hu.k (Same.tk s62)
    replace hw := hw.k (Same.tk s62)
    replace hrf := hrf.k (Same.tk s62)
    replace har := har.k (Same.tk s62)
    replace hk := hk.k (Same.tk s62)
    replace hr := hr.k (Same.tk s62)
    replace h1 := h1.k (Same.tk s62)
    replace S := S.trans s62
    clear s62
    walk_at "u"
    refine ⟨szl (by simp), fun p63 hp63 => ?_⟩
    obtain ⟨G63, g63, s63, b0⟩ := Td.lay (K := K) (ds := []) hp63 (.nil)
    rw [g63]
    clear g63 hp63
    replace hx := hx.k (Same.tk s63)
    replace hu := hu.k (Same.tk s63)
    replace hw := hw.k (Same.tk s63)
    replace hrf := hrf.k (Same.tk s63)
    replace har := har.k (Same.tk s63)
    replace hk := hk.k (Same.tk s63)
    replace hr := hr.k (Same.tk s63)
    replace h1 := h1.k (Same.tk s63)
    replace kk := kk.k (Same.tk s63)
    replace S := S.trans s63
    clear s63
    walk_at "u"
    refine ⟨szl (by simp), fun p64 hp64 => ?_⟩
    obtain ⟨G64, g64, s64, z⟩ := Td.lay (K := K) (ds := [.str "at", wholeD, .non, .tup [nmE arrD (rowN x.w), intE x.ix], .tup []]) hp64 (.cons (.str _) (.cons (hw) (.cons (.non) (.cons (kk) (.cons (b0) .nil)))))
    rw [g64]
    clear g64 hp64
    replace hx := hx.k (Same.tk s64)
    replace hu := hu.k (Same.tk s64)
    replace hw := hw.k (Same.tk s64)
    replace hrf := hrf.k (Same.tk s64)
    replace har := har.k (Same.tk s64)
    replace hk := hk.k (Same.tk s64)
    replace hr := hr.k (Same.tk s64)
    replace h1 := h1.k (Same.tk s64)
    replace kk := kk.k (Same.tk s64)
    replace b0 := b0.k (Same.tk s64)
    replace S := S.trans s64
    clear s64
    walk_at "u"
    refine ⟨szl (by simp), fun p65 hp65 => ?_⟩
    obtain ⟨G65, g65, s65, k2⟩ := Td.lay (K := K) (ds := [nmE refD (keptN x.w), atE (nmE arrD (rowN x.w)) (intE x.ix)]) hp65 (.cons (hk) (.cons (z) .nil))
    rw [g65]
    clear g65 hp65
    replace hx := hx.k (Same.tk s65)
    replace hu := hu.k (Same.tk s65)
    replace hw := hw.k (Same.tk s65)
    replace hrf := hrf.k (Same.tk s65)
    replace har := har.k (Same.tk s65)
    replace hk := hk.k (Same.tk s65)
    replace hr := hr.k (Same.tk s65)
    replace h1 := h1.k (Same.tk s65)
    replace kk := kk.k (Same.tk s65)
    replace b0 := b0.k (Same.tk s65)
    replace z := z.k (Same.tk s65)
    replace S := S.trans s65
    clear s65
    walk_at "u"
    refine ⟨szl (by simp), fun p66 hp66 => ?_⟩
    obtain ⟨G66, g66, s66, b1⟩ := Td.lay (K := K) (ds := []) hp66 (.nil)
    rw [g66]
    clear g66 hp66
    replace hx := hx.k (Same.tk s66)
    replace hu := hu.k (Same.tk s66)
    replace hw := hw.k (Same.tk s66)
    replace hrf := hrf.k (Same.tk s66)
    replace har := har.k (Same.tk s66)
    replace hk := hk.k (Same.tk s66)
    replace hr := hr.k (Same.tk s66)
    replace h1 := h1.k (Same.tk s66)
    replace kk := kk.k (Same.tk s66)
    replace b0 := b0.k (Same.tk s66)
    replace z := z.k (Same.tk s66)
    replace k2 := k2.k (Same.tk s66)
    replace S := S.trans s66
    clear s66
    walk_at "u"
    refine ⟨szl (by simp), fun p67 hp67 => ?_⟩
    obtain ⟨G67, g67, s67, z2⟩ := Td.lay (K := K) (ds := [.str "set", unitD, .non, .tup [nmE refD (keptN x.w), atE (nmE arrD (rowN x.w)) (intE x.ix)], .tup []]) hp67 (.cons (.str _) (.cons (hu) (.cons (.non) (.cons (k2) (.cons (b1) .nil)))))
    rw [g67]
    clear g67 hp67
    replace hx := hx.k (Same.tk s67)
    replace hu := hu.k (Same.tk s67)
    replace hw := hw.k (Same.tk s67)
    replace hrf := hrf.k (Same.tk s67)
    replace har := har.k (Same.tk s67)
    replace hk := hk.k (Same.tk s67)
    replace hr := hr.k (Same.tk s67)
    replace h1 := h1.k (Same.tk s67)
    replace kk := kk.k (Same.tk s67)
    replace b0 := b0.k (Same.tk s67)
    replace z := z.k (Same.tk s67)
    replace k2 := k2.k (Same.tk s67)
    replace b1 := b1.k (Same.tk s67)
    replace S := S.trans s67
    clear s67
    walk_at "u"
    exact q _ _ S z2
end
section
variable {K : PySem.W.Frag} {vs : List V} {H H' H1 H2 : Hp} {Q : VK} {E : XK} {n : Nat} {p : Addr} {ds : List D}
/-- a list of data built up at p -/
def LB (K : PySem.W.Frag) (H1 : Hp) (p : Addr) (ds : List D) (H' : Hp) : Prop := Fr p H1 H' ∧ ∃ us, H' p = some (.lst us) ∧ TdL K H' us ds
theorem LB.start (h : H1 p = some (.lst [])) : LB K H1 p [] H1 := ⟨Fr.refl, [], h, .nil⟩
theorem LB.same (l : LB K H1 p ds H') (s : Same H' H2) : LB K H1 p ds H2 := by
  obtain ⟨f, us, h, t⟩ := l
  exact ⟨f.trans (Fr.same s), us, s _ _ h, t.k (Same.tk s)⟩
theorem LB.ty {B : Prop} (l : LB K H1 p ds H') (b : B) : tyV K "list" (.ref p) H' ∧ B := by
  obtain ⟨_, us, h, _⟩ := l
  exact ⟨.inl ⟨rfl, _, SqL.of h⟩, b⟩
theorem LB.app {y : V} {d : D} (l : LB K H1 p ds H') (t : Td K H' y d) (hl : ds.length ≤ 1000) (q : ∀ H2, LB K H1 p (ds ++ [d]) H2 → Tk K H' H2 → Q .non H2) : uAppend (.ref p) [y] H' Q := by
  obtain ⟨f, us, h, tu⟩ := l
  have k : Tk K H' (upd H' p (.lst (us ++ [y]))) := Tk.lst h
  exact ⟨us, h, szt (by rw [tu.len]; omega), q _ ⟨f.self, _, upd_same, (tu.k k).append (.one (t.k k))⟩ k⟩
theorem LB.out {Hs : Hp} (l : LB K H1 p ds H') (s : Same Hs H1) (hp : Hs p = none) : Same Hs H' := fun c o h => l.1 c o (fun e => by rw [e, hp] at h; cases h) (s c o h)
theorem cutV_nat {xs : List V} {a b : Nat} : cutV xs (some (a : Int)) (some (b : Int)) = (xs.drop a).take (b - a) := by
  unfold cutV
  rw [HT.sIx_nat, HT.sIx_nat]
  by_cases ha : a ≤ xs.length
  · rw [Nat.min_eq_left ha]
    by_cases hb : b ≤ xs.length
    · rw [Nat.min_eq_left hb]
    · rw [Nat.min_eq_right (by omega : xs.length ≤ b), List.take_of_length_le (by simp), List.take_of_length_le (by simp; omega)]
  · rw [Nat.min_eq_right (by omega : xs.length ≤ a), List.drop_length, List.drop_eq_nil_of_le (by omega)]
    simp
theorem rg8 {n : Nat} (h : n ≤ 40) : RgC 0 (n : Nat) 8 ((n + 7) / 8) := by
  have : ∀ n : Fin 41, RgC 0 ((n.val : Nat) : Int) 8 ((n.val + 7) / 8) := by
    unfold RgC
    decide +kernel
  exact this ⟨n, by omega⟩
theorem rd_l_deeds (h : sp_l_deeds K vs H Q E) : t_l_deeds K { nx := fun _ H' => Q .non H', rt := Q } (start n_l_deeds vs) H := by
  obtain ⟨A, ns, many, rfl, hA, hn, q⟩ := h
  unfold t_l_deeds
  walk_at "u"
  refine ⟨szl (by simp), fun p hp => ?_⟩
  obtain ⟨H1, e1, s1, ep⟩ := lay_new (o := .lst []) hp
  rw [e1]
  walk_at "u"
  refine r_cut (fun σ' H' => LB K H1 p ((ns.map (deedOf many)).map Deed.dd) H' ∧ ∃ y3 y4 y5 y6 y7, σ' = [some (.ref A), some (.int (many : Nat)), some (.ref p), y3, y4, y5, y6, y7]) ?_ ?_
  · walk_at "u"
    refine it_list ?_
    walk_at "u"
    have hA1 := SqL.k hA s1
    refine ⟨A, rfl, ⟨_, hA1⟩, f_list (xs := ns.map V.int) (fun i σ' H' => LB K H1 p (((ns.take i).map (deedOf many)).map Deed.dd) H' ∧ ∃ y3 y4 y5 y6 y7, σ' = [some (.ref A), some (.int (many : Nat)), some (.ref p), y3, y4, y5, y6, y7]) ⟨LB.start ep, none, none, none, none, none, rfl⟩ (fun i σ' H' z => SqL.k hA (z.1.out s1 hp)) ?_ ?_⟩
    · rintro i x σ' H2 hx ⟨lb, y3, y4, y5, y6, y7, rfl⟩
      rw [List.getElem?_map] at hx
      obtain ⟨c, hc, rfl⟩ := Option.map_eq_some_iff.mp hx
      have hi := (List.getElem?_eq_some_iff.mp hc).1
      walk_at "u"
      refine r_pw (k := 31) (by decide) (z := 2147483648) (by decide) ?_
      walk_at "u"
      refine r_pw (k := 30) (by decide) (z := 1073741824) (by decide) ?_
      walk_at "u"
      refine lb.ty ?_
      walk_at "u"
      refine ⟨szl (by simp), fun P hP => ?_⟩
      obtain ⟨H3, e3, s3, t3⟩ := Td.lay (K := K) (ds := [.int (c % 6), .int (c / 6 % 4), .int (c / 24 % (many + 2) - 1), .int (c / 24 % 2147483648 - 1073741824)]) hP (.cons (.int _) (.cons (.int _) (.cons (.int _) (.cons (.int _) .nil))))
      rw [e3]
      walk_at "u"
      refine (lb.same s3).app t3 (by simp; omega) fun H4 l4 _ => ?_
      walk_at "u"
      refine ⟨?_, _, _, _, _, _, rfl⟩
      rw [List.take_add_one, hc]
      simpa [deedOf, Deed.dd] using l4
    · rintro σ' H2 ⟨lb, y3, y4, y5, y6, y7, rfl⟩
      rw [List.length_map, List.take_length] at lb
      exact ⟨lb, _, _, _, _, _, rfl⟩
  rintro σ' H2 ⟨lb, y3, y4, y5, y6, y7, rfl⟩
  obtain ⟨us, hus, tus⟩ := lb.2
  walk_at "u"
  exact q p us H2 (lb.out s1 hp) hp hus tus
end
section
variable {K : PySem.W.Frag} {vs : List V} {H H' H1 H2 : Hp} {Q : VK} {E : XK} {n : Nat} {p : Addr}
theorem expr_form (x : Deed) : ∃ o r, exprD x = .tup (o :: unitD :: r) := by
  unfold exprD
  repeat' split
  all_goals exact ⟨_, _, rfl⟩
theorem fold_form : ∀ (l : List Deed) (g : D), (∃ o r, g = .tup (o :: unitD :: r)) → ∃ o r, l.foldl (fun g y => seqE unitD g (exprD y)) g = .tup (o :: unitD :: r)
  | [], g, h => h
  | x :: l, g, h => fold_form l _ ⟨_, _, rfl⟩
theorem grp_form {ds : List Deed} {i : Nat} (hi : i < grpN ds) : ∃ o r, grpI ds i = .tup (o :: unitD :: r) := by
  unfold grpI
  have hn : 8 * i < ds.length := by unfold grpN at hi; omega
  cases e : (ds.drop (8 * i)).take 8 with
  | nil =>
    have := congrArg List.length e
    rw [List.length_take, List.length_drop, List.length_nil] at this
    omega
  | cons x l => exact fold_form l _ (expr_form x)
theorem rest_form (ds : List Deed) : ∃ o r, restD ds = .tup (o :: wholeD :: r) := by
  unfold restD
  split <;> exact ⟨_, _, rfl⟩
theorem grp_cons {ds : List Deed} {i : Nat} {x : Deed} (hx : ds[8 * i]? = some x) : grpI ds i = ((ds.drop (8 * i + 1)).take 7).foldl (fun g y => seqE unitD g (exprD y)) (exprD x) := by
  unfold grpI
  have hl := (List.getElem?_eq_some_iff.mp hx).1
  have hd : ds.drop (8 * i) = x :: ds.drop (8 * i + 1) := by
    rw [List.drop_eq_getElem_cons hl]
    rw [List.getElem?_eq_getElem hl] at hx
    rw [Option.some.inj hx]
  rw [hd, List.take_succ_cons]
  rfl
theorem rd_l_program (h : sp_l_program K vs H Q E) : t_l_program K { nx := fun _ H' => Q .non H', rt := Q } (start n_l_program vs) H := by
  obtain ⟨many, start, p, us, ds, rfl, hpu, tus, hd, hx, q⟩ := h
  have lus : us.length = ds.length := by rw [tus.len, List.length_map]
  unfold t_l_program
  have S : Same H H := Same.refl _
  walk_at "u"
  refine ⟨rfl, fun v1 G1 s1 hw => ?_⟩
  replace tus := tus.k (Same.tk s1)
  replace hpu := s1 _ _ hpu
  replace S := S.trans s1
  clear s1
  walk_at "u"
  refine ⟨szl (by simp), fun p2 hp2 => ?_⟩
  obtain ⟨G2, g2, s2, a0⟩ := Td.lay (K := K) (ds := [wholeD]) hp2 (.cons (hw) .nil)
  rw [g2]
  clear g2 hp2
  replace tus := tus.k (Same.tk s2)
  replace hw := hw.k (Same.tk s2)
  replace hpu := s2 _ _ hpu
  replace S := S.trans s2
  clear s2
  walk_at "u"
  refine ⟨szl (by simp), fun p3 hp3 => ?_⟩
  obtain ⟨G3, g3, s3, hrf⟩ := Td.lay (K := K) (ds := [.str "ref", .tup [wholeD], .int 0]) hp3 (.cons (.str _) (.cons (a0) (.cons (.int _) .nil)))
  rw [g3]
  clear g3 hp3
  replace tus := tus.k (Same.tk s3)
  replace hw := hw.k (Same.tk s3)
  replace a0 := a0.k (Same.tk s3)
  replace hpu := s3 _ _ hpu
  replace S := S.trans s3
  clear s3
  walk_at "u"
  clear a0
  refine ⟨szl (by simp), fun p4 hp4 => ?_⟩
  obtain ⟨G4, g4, s4, a0⟩ := Td.lay (K := K) (ds := [wholeD]) hp4 (.cons (hw) .nil)
  rw [g4]
  clear g4 hp4
  replace tus := tus.k (Same.tk s4)
  replace hw := hw.k (Same.tk s4)
  replace hrf := hrf.k (Same.tk s4)
  replace hpu := s4 _ _ hpu
  replace S := S.trans s4
  clear s4
  walk_at "u"
  refine ⟨szl (by simp), fun p5 hp5 => ?_⟩
  obtain ⟨G5, g5, s5, har⟩ := Td.lay (K := K) (ds := [.str "array", .tup [wholeD], .int 0]) hp5 (.cons (.str _) (.cons (a0) (.cons (.int _) .nil)))
  rw [g5]
  clear g5 hp5
  replace tus := tus.k (Same.tk s5)
  replace hw := hw.k (Same.tk s5)
  replace hrf := hrf.k (Same.tk s5)
  replace a0 := a0.k (Same.tk s5)
  replace hpu := s5 _ _ hpu
  replace S := S.trans s5
  clear s5
  walk_at "u"
  clear a0
  refine ⟨szl (by simp), fun pG hpG => ?_⟩
  have SpG := S
  have NpG := hpG
  obtain ⟨G6, g6, s6, ebG⟩ := lay_new (o := .lst []) hpG
  have nppG : p ≠ pG := ne_of_none hpu hpG
  rw [g6]
  clear g6 hpG
  replace tus := tus.k (Same.tk s6)
  replace hw := hw.k (Same.tk s6)
  replace hrf := hrf.k (Same.tk s6)
  replace har := har.k (Same.tk s6)
  replace hpu := s6 _ _ hpu
  replace S := S.trans s6
  clear s6
  walk_at "u"
  refine r_cut (fun σ' H' => LB K G6 pG ((List.range (grpN ds)).map (grpI ds)) H' ∧ ∃ y7 y8 y9, σ' = [some (.int (many : Nat)), some (.int start), some (.ref p), some v1, some (.ref p3), some (.ref p5), some (.ref pG), y7, y8, y9, none, none, none, none, none, none]) ?_ ?_
  · walk_at "u"
    try refine r_rng3 ?_
    walk_at "u"
    try refine r_lenL (SqL.of hpu) ?_
    walk_at "u"
    rw [lus]
    refine ⟨grpN ds, rg8 hd, ?_⟩
    refine l_for (n := grpN ds) (fun i σ' H' => LB K G6 pG ((List.range i).map (grpI ds)) H' ∧ ∃ y7 y8 y9, σ' = [some (.int (many : Nat)), some (.int start), some (.ref p), some v1, some (.ref p3), some (.ref p5), some (.ref pG), y7, y8, y9, none, none, none, none, none, none]) ⟨LB.start ebG, none, none, none, rfl⟩ (fun i σ H h _ => h) (fun σ H _ => Nat.le_refl _) ?_ ?_
    · rintro i σ' H2 hi ⟨lb, y7, y8, y9, rfl⟩ x H3 ⟨rfl, rfl⟩
      have k2 := lb.1.tk ebG (K := K)
      have hpu2 := lb.1 _ _ nppG hpu
      have tus2 := tus.k k2
      have hi8 : 8 * i < ds.length := by unfold grpN at hi; omega
      have e8 : (0 : Int) + ((i : Nat) : Int) * 8 = ((8 * i : Nat) : Int) := by omega
      rw [e8]
      walk_at "u"
      obtain ⟨xd, hxd⟩ : ∃ xd, ds[8 * i]? = some xd := ⟨_, List.getElem?_eq_getElem hi8⟩
      obtain ⟨ux, hux, tux⟩ := tus2.get (i := 8 * i) (d := xd.dd) (by rw [List.getElem?_map, hxd]; rfl)
      refine r_ixL (SqL.of hpu2) (atI_nat hux) ?_
      walk_at "u"
      refine ⟨_, xd, many, rfl, tux, hx _ (List.mem_of_getElem? hxd), fun vx1 H4 s4 t4 => ?_⟩
      walk_at "u"
      refine r_cut (fun σ' H' => Same H3 H' ∧ ∃ v8 y9, Td K H' v8 (grpI ds i) ∧ σ' = [some (.int (many : Nat)), some (.int start), some (.ref p), some v1, some (.ref p3), some (.ref p5), some (.ref pG), some (.int ((8 * i : Nat) : Int)), some v8, y9, none, none, none, none, none, none]) ?_ ?_
      · walk_at "u"
        refine it_list ?_
        walk_at "u"
        have hpu4 := s4 _ _ hpu2
        refine r_slL (SqL.of hpu4) fun l hl => ?_
        have ec : cutV us (some (((8 * i : Nat) : Int) + 1)) (some (((8 * i : Nat) : Int) + 8)) = (us.drop (8 * i + 1)).take 7 := by
          have := cutV_nat (xs := us) (a := 8 * i + 1) (b := 8 * i + 8)
          rw [show 8 * i + 8 - (8 * i + 1) = 7 by omega] at this
          exact this
        rw [ec]
        obtain ⟨H5, e5, s5, el⟩ := lay_new (o := .lst ((us.drop (8 * i + 1)).take 7)) hl
        rw [e5]
        clear e5 ec
        have tl : TdL K H5 ((us.drop (8 * i + 1)).take 7) (((ds.drop (8 * i + 1)).take 7).map Deed.dd) := by
          rw [List.map_take, List.map_drop]
          exact (((tus2.k (Same.tk s4)).k (Same.tk s5)).drop _).take _
        refine ⟨l, rfl, ⟨_, SqL.of el⟩, f_list (xs := (us.drop (8 * i + 1)).take 7) (fun j σ' H' => Same H3 H' ∧ Same H5 H' ∧ ∃ v8 y9, Td K H' v8 ((((ds.drop (8 * i + 1)).take 7).take j).foldl (fun g y => seqE unitD g (exprD y)) (exprD xd)) ∧ σ' = [some (.int (many : Nat)), some (.int start), some (.ref p), some v1, some (.ref p3), some (.ref p5), some (.ref pG), some (.int ((8 * i : Nat) : Int)), some v8, y9, none, none, none, none, none, none]) ⟨s4.trans s5, Same.refl _, vx1, y9, t4.k (Same.tk s5), rfl⟩ (fun j σ' H' z => SqL.of (z.2.1 _ _ el)) ?_ ?_⟩
        · rintro j xv σ' H6 hxv ⟨s6, s56, v8, y9, t8, rfl⟩
          obtain ⟨dd, hdd, tdd⟩ := tl.getV hxv
          rw [List.getElem?_map] at hdd
          obtain ⟨y, hy, rfl⟩ := Option.map_eq_some_iff.mp hdd
          walk_at "u"
          refine ⟨_, y, many, rfl, tdd.k (Same.tk s56), hx _ (List.mem_of_mem_drop (List.mem_of_mem_take (List.mem_of_getElem? hy))), fun v2 H7 s7 t7 => ?_⟩
          walk_at "u"
          obtain ⟨o, r, ef⟩ := expr_form y
          rw [ef] at t7
          refine ⟨_, _, _, unitD, o, r, rfl, t8.k (Same.tk s7), t7, fun v3 H8 s8 t8' => ?_⟩
          walk_at "u"
          rw [← ef] at t8'
          refine ⟨s6.trans (s7.trans s8), s56.trans (s7.trans s8), _, _, ?_, rfl⟩
          rw [List.take_add_one, hy, List.foldl_append]
          exact t8'
        · rintro σ' H6 ⟨s6, s56, v8, y9, t8, rfl⟩
          rw [tl.len, List.length_map, List.take_length, ← grp_cons hxd] at t8
          exact ⟨s6, _, _, t8, rfl⟩
      rintro σ' H6 ⟨s6, v8, y9, t8, rfl⟩
      have lb6 := lb.same s6
      walk_at "u"
      refine lb6.ty ?_
      walk_at "u"
      refine lb6.app t8 (by simp; unfold grpN at hi; omega) fun H7 lb7 _ => ?_
      walk_at "u"
      refine ⟨?_, _, _, _, rfl⟩
      rw [List.range_succ, List.map_append]
      exact lb7
    · rintro σ' H2 ⟨lb, y7, y8, y9, rfl⟩
      exact ⟨lb, _, _, _, rfl⟩
  rintro σ' Gg ⟨lb, y7, y8, y9, rfl⟩
  obtain ⟨gs, hgs, tgs⟩ := lb.2
  have lgs : gs.length = grpN ds := by rw [tgs.len]; simp
  have kG : Tk K G6 Gg := lb.1.tk ebG
  have SG : Same H Gg := fun c o h => lb.1 c o (ne_of_none (SpG c o h) NpG) (S c o h)
  replace tus := tus.k kG
  replace hw := hw.k kG
  replace hrf := hrf.k kG
  replace har := har.k kG
  replace hpu := lb.1 _ _ nppG hpu
  clear lb kG tus hpu ebG nppG lus S
  have S : Same H Gg := SG
  walk_at "u"
  refine ⟨_, _, _, rfl, hrf, fun v7 G7 s7 hc => ?_⟩
  replace hw := hw.k (Same.tk s7)
  replace hrf := hrf.k (Same.tk s7)
  replace har := har.k (Same.tk s7)
  replace tgs := tgs.k (Same.tk s7)
  replace hgs := s7 _ _ hgs
  replace S := S.trans s7
  clear s7
  walk_at "u"
  refine ⟨szl (by simp), fun p8 hp8 => ?_⟩
  obtain ⟨G8, g8, s8, a0⟩ := Td.lay (K := K) (ds := [nmE refD "c"]) hp8 (.cons (hc) .nil)
  rw [g8]
  clear g8 hp8
  replace hw := hw.k (Same.tk s8)
  replace hrf := hrf.k (Same.tk s8)
  replace har := har.k (Same.tk s8)
  replace tgs := tgs.k (Same.tk s8)
  replace hc := hc.k (Same.tk s8)
  replace hgs := s8 _ _ hgs
  replace S := S.trans s8
  clear s8
  walk_at "u"
  refine ⟨szl (by simp), fun p9 hp9 => ?_⟩
  obtain ⟨G9, g9, s9, b0⟩ := Td.lay (K := K) (ds := []) hp9 (.nil)
  rw [g9]
  clear g9 hp9
  replace hw := hw.k (Same.tk s9)
  replace hrf := hrf.k (Same.tk s9)
  replace har := har.k (Same.tk s9)
  replace tgs := tgs.k (Same.tk s9)
  replace hc := hc.k (Same.tk s9)
  replace a0 := a0.k (Same.tk s9)
  replace hgs := s9 _ _ hgs
  replace S := S.trans s9
  clear s9
  walk_at "u"
  refine ⟨szl (by simp), fun p10 hp10 => ?_⟩
  obtain ⟨G10, g10, s10, hend⟩ := Td.lay (K := K) (ds := [.str "deref", wholeD, .non, .tup [nmE refD "c"], .tup []]) hp10 (.cons (.str _) (.cons (hw) (.cons (.non) (.cons (a0) (.cons (b0) .nil)))))
  rw [g10]
  clear g10 hp10
  replace hw := hw.k (Same.tk s10)
  replace hrf := hrf.k (Same.tk s10)
  replace har := har.k (Same.tk s10)
  replace tgs := tgs.k (Same.tk s10)
  replace hc := hc.k (Same.tk s10)
  replace a0 := a0.k (Same.tk s10)
  replace b0 := b0.k (Same.tk s10)
  replace hgs := s10 _ _ hgs
  replace S := S.trans s10
  clear s10
  walk_at "u"
  clear a0 b0 hc
  refine ⟨szl (by simp), fun pF hpF => ?_⟩
  have SF := S
  have NF := hpF
  have nF : pG ≠ pF := ne_of_none hgs hpF
  obtain ⟨G11, g11, s11, ebF⟩ := lay_new (o := .lst []) hpF
  rw [g11]
  clear g11 hpF
  replace hw := hw.k (Same.tk s11)
  replace hrf := hrf.k (Same.tk s11)
  replace har := har.k (Same.tk s11)
  replace tgs := tgs.k (Same.tk s11)
  replace hend := hend.k (Same.tk s11)
  replace hgs := s11 _ _ hgs
  replace S := S.trans s11
  clear s11
  walk_at "u"
  refine ⟨szl (by simp), fun p12 hp12 => ?_⟩
  obtain ⟨G12, g12, s12, ra⟩ := Td.lay (K := K) (ds := [.str "a", refD]) hp12 (.cons (.str _) (.cons (hrf) .nil))
  rw [g12]
  clear g12 hp12
  replace hw := hw.k (Same.tk s12)
  replace hrf := hrf.k (Same.tk s12)
  replace har := har.k (Same.tk s12)
  replace tgs := tgs.k (Same.tk s12)
  replace hend := hend.k (Same.tk s12)
  replace hgs := s12 _ _ hgs
  replace ebF := s12 _ _ ebF
  replace S := S.trans s12
  clear s12
  walk_at "u"
  refine ⟨szl (by simp), fun p13 hp13 => ?_⟩
  obtain ⟨G13, g13, s13, rb⟩ := Td.lay (K := K) (ds := [.str "b", refD]) hp13 (.cons (.str _) (.cons (hrf) .nil))
  rw [g13]
  clear g13 hp13
  replace hw := hw.k (Same.tk s13)
  replace hrf := hrf.k (Same.tk s13)
  replace har := har.k (Same.tk s13)
  replace tgs := tgs.k (Same.tk s13)
  replace hend := hend.k (Same.tk s13)
  replace ra := ra.k (Same.tk s13)
  replace hgs := s13 _ _ hgs
  replace ebF := s13 _ _ ebF
  replace S := S.trans s13
  clear s13
  walk_at "u"
  refine ⟨szl (by simp), fun p14 hp14 => ?_⟩
  obtain ⟨G14, g14, s14, rc⟩ := Td.lay (K := K) (ds := [.str "c", refD]) hp14 (.cons (.str _) (.cons (hrf) .nil))
  rw [g14]
  clear g14 hp14
  replace hw := hw.k (Same.tk s14)
  replace hrf := hrf.k (Same.tk s14)
  replace har := har.k (Same.tk s14)
  replace tgs := tgs.k (Same.tk s14)
  replace hend := hend.k (Same.tk s14)
  replace ra := ra.k (Same.tk s14)
  replace rb := rb.k (Same.tk s14)
  replace hgs := s14 _ _ hgs
  replace ebF := s14 _ _ ebF
  replace S := S.trans s14
  clear s14
  walk_at "u"
  refine ⟨szl (by simp), fun p15 hp15 => ?_⟩
  obtain ⟨G15, g15, s15, rd⟩ := Td.lay (K := K) (ds := [.str "d", refD]) hp15 (.cons (.str _) (.cons (hrf) .nil))
  rw [g15]
  clear g15 hp15
  replace hw := hw.k (Same.tk s15)
  replace hrf := hrf.k (Same.tk s15)
  replace har := har.k (Same.tk s15)
  replace tgs := tgs.k (Same.tk s15)
  replace hend := hend.k (Same.tk s15)
  replace ra := ra.k (Same.tk s15)
  replace rb := rb.k (Same.tk s15)
  replace rc := rc.k (Same.tk s15)
  replace hgs := s15 _ _ hgs
  replace ebF := s15 _ _ ebF
  replace S := S.trans s15
  clear s15
  walk_at "u"
  refine ⟨szl (by simp), fun p16 hp16 => ?_⟩
  obtain ⟨G16, g16, s16, rv⟩ := Td.lay (K := K) (ds := [.str "v", arrD]) hp16 (.cons (.str _) (.cons (har) .nil))
  rw [g16]
  clear g16 hp16
  replace hw := hw.k (Same.tk s16)
  replace hrf := hrf.k (Same.tk s16)
  replace har := har.k (Same.tk s16)
  replace tgs := tgs.k (Same.tk s16)
  replace hend := hend.k (Same.tk s16)
  replace ra := ra.k (Same.tk s16)
  replace rb := rb.k (Same.tk s16)
  replace rc := rc.k (Same.tk s16)
  replace rd := rd.k (Same.tk s16)
  replace hgs := s16 _ _ hgs
  replace ebF := s16 _ _ ebF
  replace S := S.trans s16
  clear s16
  walk_at "u"
  refine ⟨szl (by simp), fun p17 hp17 => ?_⟩
  obtain ⟨G17, g17, s17, rw⟩ := Td.lay (K := K) (ds := [.str "w", arrD]) hp17 (.cons (.str _) (.cons (har) .nil))
  rw [g17]
  clear g17 hp17
  replace hw := hw.k (Same.tk s17)
  replace hrf := hrf.k (Same.tk s17)
  replace har := har.k (Same.tk s17)
  replace tgs := tgs.k (Same.tk s17)
  replace hend := hend.k (Same.tk s17)
  replace ra := ra.k (Same.tk s17)
  replace rb := rb.k (Same.tk s17)
  replace rc := rc.k (Same.tk s17)
  replace rd := rd.k (Same.tk s17)
  replace rv := rv.k (Same.tk s17)
  replace hgs := s17 _ _ hgs
  replace ebF := s17 _ _ ebF
  replace S := S.trans s17
  clear s17
  walk_at "u"
  refine ⟨szl (by simp), fun p18 hp18 => ?_⟩
  obtain ⟨G18, g18, s18, hkn⟩ := Td.lay (K := K) (ds := [.tup [.str "a", refD], .tup [.str "b", refD], .tup [.str "c", refD], .tup [.str "d", refD], .tup [.str "v", arrD], .tup [.str "w", arrD]]) hp18 (.cons (ra) (.cons (rb) (.cons (rc) (.cons (rd) (.cons (rv) (.cons (rw) .nil))))))
  rw [g18]
  clear g18 hp18
  replace hw := hw.k (Same.tk s18)
  replace hrf := hrf.k (Same.tk s18)
  replace har := har.k (Same.tk s18)
  replace tgs := tgs.k (Same.tk s18)
  replace hend := hend.k (Same.tk s18)
  replace ra := ra.k (Same.tk s18)
  replace rb := rb.k (Same.tk s18)
  replace rc := rc.k (Same.tk s18)
  replace rd := rd.k (Same.tk s18)
  replace rv := rv.k (Same.tk s18)
  replace rw := rw.k (Same.tk s18)
  replace hgs := s18 _ _ hgs
  replace ebF := s18 _ _ ebF
  replace S := S.trans s18
  clear s18
  walk_at "u"
  clear ra rb rc rd rv rw
  refine it_tup ?_
  walk_at "u"
  have hkn2 : Td K _ (.ref p18) kindsD := hkn
  obtain ⟨ka, rs, eka, sr, tr⟩ := hkn2.inv
  cases eka
  have lrs : rs.length = 6 := tr.len
  refine ⟨_, rfl, ⟨_, sr⟩, fun D hD => c_tups (xs := rs) (fun i H' => LB K _ D (namesL.take i) H') (LB.start upd_same) (fun i H' z => z.1.tk upd_same _ _ (Same.tk (same_new hD) _ _ sr)) ?_ ?_⟩
  · intro i x H2 hx2 lb
    have kD := (lb.out (same_new hD) hD)
    obtain ⟨d, hdd, td⟩ := (tr.k (Same.tk kD)).getV hx2
    rw [List.getElem?_map] at hdd
    obtain ⟨pr, hpr, rfl⟩ := Option.map_eq_some_iff.mp hdd
    refine r_gname ⟨rfl, ?_⟩
    walk_at "u"
    refine r_ixD (k := 1) td rfl fun ua hua => ?_
    walk_at "u"
    refine r_ixD (k := 0) td rfl fun ub hub => ?_
    have hub := hub.invS
    subst hub
    walk_at "u"
    refine ⟨_, _, _, rfl, hua, fun va H3 s3 t3 => ?_⟩
    have hi := (List.getElem?_eq_some_iff.mp hpr).1
    refine (lb.same s3).app (Q := fun _ H => LB K _ D (namesL.take (i + 1)) H) t3 (by rw [List.length_take]; exact Nat.le_trans (Nat.min_le_right _ _) (by decide)) fun H4 l4 _ => ?_
    have en : namesL[i]? = some (nmE pr.2 pr.1) := by
      have : namesL = kindsL.map fun p => nmE p.2 p.1 := rfl
      rw [this, List.getElem?_map, hpr]; rfl
    rw [List.take_add_one, en]
    exact l4
  intro H2 lb
  rw [lrs] at lb
  have s19 := lb.out (same_new hD) hD
  obtain ⟨_, nus, hnus, tnus⟩ := lb
  clear hkn2 sr tr lrs
  replace hw := hw.k (Same.tk s19)
  replace hrf := hrf.k (Same.tk s19)
  replace har := har.k (Same.tk s19)
  replace tgs := tgs.k (Same.tk s19)
  replace hend := hend.k (Same.tk s19)
  replace hkn := hkn.k (Same.tk s19)
  replace hgs := s19 _ _ hgs
  replace ebF := s19 _ _ ebF
  replace S := S.trans s19
  clear s19
  walk_at "u"
  refine r_tupleD (ds := namesL) (SqL.of hnus) tnus fun vnm G20 s20 hnm => ?_
  clear hnus tnus
  replace hw := hw.k (Same.tk s20)
  replace hrf := hrf.k (Same.tk s20)
  replace har := har.k (Same.tk s20)
  replace tgs := tgs.k (Same.tk s20)
  replace hend := hend.k (Same.tk s20)
  replace hkn := hkn.k (Same.tk s20)
  replace hgs := s20 _ _ hgs
  replace ebF := s20 _ _ ebF
  replace S := S.trans s20
  clear s20
  walk_at "u"
  refine r_cut (fun σ' H' => LB K G20 pF (funsD ds) H' ∧ ∃ v8 y14, σ' = [some (.int (many : Nat)), some (.int start), some (.ref p), some v1, some (.ref p3), some (.ref p5), some (.ref pG), y7, v8, y9, some (.ref p10), some (.ref pF), some (.ref p18), some vnm, y14, none]) ?_ ?_
  · walk_at "u"
    refine it_list ?_
    walk_at "u"
    refine ⟨pG, rfl, ⟨_, SqL.of hgs⟩, f_list (xs := gs) (fun i σ' H' => LB K G20 pF ((List.range i).map (fnD ds)) H' ∧ ∃ v8 y14, σ' = [some (.int (many : Nat)), some (.int start), some (.ref p), some v1, some (.ref p3), some (.ref p5), some (.ref pG), y7, v8, y9, some (.ref p10), some (.ref pF), some (.ref p18), some vnm, y14, none]) ⟨LB.start ebF, _, _, rfl⟩ (fun i σ' H' z => SqL.of (z.1.1 _ _ nF hgs)) ?_ ?_⟩
    · rintro i x σ' H2 hx2 ⟨lb, v8, y14, rfl⟩
      have hi := (List.getElem?_eq_some_iff.mp hx2).1
      rw [lgs] at hi
      have k2 := lb.1.tk ebF (K := K)
      obtain ⟨dg, hdg, tdg⟩ := (tgs.k k2).getV hx2
      rw [List.getElem?_map, List.getElem?_range hi] at hdg
      cases hdg
      obtain ⟨fs, hfs, tfs⟩ := id lb.2
      have lfs : fs.length = i := by rw [tfs.len]; simp
      have hnm2 := hnm.k k2
      have hkn2 := hkn.k k2
      walk_at "u"
      refine r_cut (fun σ' H' => Same H2 H' ∧ ∃ v8 y14, Td K H' v8 (fbD ds i) ∧ σ' = [some (.int (many : Nat)), some (.int start), some (.ref p), some v1, some (.ref p3), some (.ref p5), some (.ref pG), y7, some v8, y9, some (.ref p10), some (.ref pF), some (.ref p18), some vnm, y14, none]) ?_ ?_
      · walk_at "u"
        refine r_truL (SqL.of hfs) ?_
        cases i with
        | zero =>
          have ef : fs = [] := List.eq_nil_of_length_eq_zero lfs
          subst ef
          walk_at "u"
          exact ⟨Same.refl _, _, _, tdg, rfl⟩
        | succ j =>
          have ef : fs.isEmpty = false := by cases fs with | nil => simp at lfs | cons _ _ => rfl
          rw [ef]
          walk_at "u"
          have S2 : Same H2 H2 := Same.refl _
          refine ⟨szl (by simp), fun p21 hp21 => ?_⟩
          obtain ⟨G21, g21, s21, a0⟩ := Td.lay (K := K) (ds := []) hp21 (.nil)
          rw [g21]
          clear g21 hp21
          replace hnm2 := hnm2.k (Same.tk s21)
          replace tdg := tdg.k (Same.tk s21)
          replace hfs := s21 _ _ hfs
          replace S2 := S2.trans s21
          clear s21
          walk_at "u"
          refine ⟨szl (by simp), fun p22 hp22 => ?_⟩
          obtain ⟨G22, g22, s22, hu⟩ := Td.lay (K := K) (ds := [.str "unit", .tup [], .int 0]) hp22 (.cons (.str _) (.cons (a0) (.cons (.int _) .nil)))
          rw [g22]
          clear g22 hp22
          replace hnm2 := hnm2.k (Same.tk s22)
          replace tdg := tdg.k (Same.tk s22)
          replace a0 := a0.k (Same.tk s22)
          replace hfs := s22 _ _ hfs
          replace S2 := S2.trans s22
          clear s22
          walk_at "u"
          try refine r_lenL (SqL.of hfs) ?_
          rw [lfs]
          walk_at "u"
          refine ⟨szl (by simp), fun p23 hp23 => ?_⟩
          obtain ⟨G23, g23, s23, b0⟩ := Td.lay (K := K) (ds := []) hp23 (.nil)
          rw [g23]
          clear g23 hp23
          replace hnm2 := hnm2.k (Same.tk s23)
          replace tdg := tdg.k (Same.tk s23)
          replace a0 := a0.k (Same.tk s23)
          replace hu := hu.k (Same.tk s23)
          replace hfs := s23 _ _ hfs
          replace S2 := S2.trans s23
          clear s23
          walk_at "u"
          refine ⟨szl (by simp), fun p24 hp24 => ?_⟩
          obtain ⟨G24, g24, s24, hcall⟩ := Td.lay (K := K) (ds := [.str "call", unitD, .int (((j + 1 : Nat) : Int) - 1), .tup namesL, .tup []]) hp24 (.cons (.str _) (.cons (hu) (.cons (.int _) (.cons (hnm2) (.cons (b0) .nil)))))
          rw [g24]
          clear g24 hp24
          replace hnm2 := hnm2.k (Same.tk s24)
          replace tdg := tdg.k (Same.tk s24)
          replace a0 := a0.k (Same.tk s24)
          replace hu := hu.k (Same.tk s24)
          replace b0 := b0.k (Same.tk s24)
          replace hfs := s24 _ _ hfs
          replace S2 := S2.trans s24
          clear s24
          walk_at "u"
          obtain ⟨o, r, eg⟩ := grp_form hi
          rw [eg] at tdg
          refine ⟨_, _, _, unitD, o, r, rfl, hcall, tdg, fun v25 G25 s25 hsq => ?_⟩
          replace hnm2 := hnm2.k (Same.tk s25)
          replace tdg := tdg.k (Same.tk s25)
          replace a0 := a0.k (Same.tk s25)
          replace hu := hu.k (Same.tk s25)
          replace b0 := b0.k (Same.tk s25)
          replace hcall := hcall.k (Same.tk s25)
          replace hfs := s25 _ _ hfs
          replace S2 := S2.trans s25
          clear s25
          walk_at "u"
          rw [← eg] at hsq
          refine ⟨S2, _, _, ?_, rfl⟩
          unfold fbD
          rw [if_neg (by omega)]
          exact hsq
      rintro σ' H3 ⟨s3, v8, y14, t8, rfl⟩
      have lb3 := lb.same s3
      have hfs3 := s3 _ _ hfs
      have hkn3 := hkn2.k (Same.tk s3)
      clear hfs hkn2 hnm2 tdg
      walk_at "u"
      rw [lfs]
      have hi5 : i < 6 := by unfold grpN at hi; omega
      refine r_strI (by rcases (show i = 0 ∨ i = 1 ∨ i = 2 ∨ i = 3 ∨ i = 4 ∨ i = 5 by omega) with h | h | h | h | h | h <;> subst h <;> decide +kernel) ?_
      refine r_addS (szl (by rcases (show i = 0 ∨ i = 1 ∨ i = 2 ∨ i = 3 ∨ i = 4 ∨ i = 5 by omega) with h | h | h | h | h | h <;> subst h <;> decide +kernel)) ?_
      walk_at "u"
      clear hfs3
      refine ⟨szl (by simp), fun p26 hp26 => ?_⟩
      obtain ⟨G26, g26, s26, a0⟩ := Td.lay (K := K) (ds := []) hp26 (.nil)
      rw [g26]
      clear g26 hp26
      replace hkn3 := hkn3.k (Same.tk s26)
      replace t8 := t8.k (Same.tk s26)
      replace lb3 := lb3.same s26
      clear s26
      walk_at "u"
      refine ⟨szl (by simp), fun p27 hp27 => ?_⟩
      obtain ⟨G27, g27, s27, hu⟩ := Td.lay (K := K) (ds := [.str "unit", .tup [], .int 0]) hp27 (.cons (.str _) (.cons (a0) (.cons (.int _) .nil)))
      rw [g27]
      clear g27 hp27
      replace hkn3 := hkn3.k (Same.tk s27)
      replace t8 := t8.k (Same.tk s27)
      replace a0 := a0.k (Same.tk s27)
      replace lb3 := lb3.same s27
      clear s27
      walk_at "u"
      refine ⟨szl (by simp), fun p28 hp28 => ?_⟩
      obtain ⟨G28, g28, s28, hfn⟩ := Td.lay (K := K) (ds := [.str ("part" ++ toString ((i : Nat) : Int)), kindsD, unitD, fbD ds i]) hp28 (.cons (.str _) (.cons (hkn3) (.cons (hu) (.cons (t8) .nil))))
      rw [g28]
      clear g28 hp28
      replace hkn3 := hkn3.k (Same.tk s28)
      replace t8 := t8.k (Same.tk s28)
      replace a0 := a0.k (Same.tk s28)
      replace hu := hu.k (Same.tk s28)
      replace lb3 := lb3.same s28
      clear s28
      walk_at "u"
      refine lb3.app hfn (by simp; omega) fun H4 lb4 _ => ?_
      walk_at "u"
      refine ⟨?_, _, _, rfl⟩
      rw [List.range_succ, List.map_append]
      exact lb4
    · rintro σ' H2 ⟨lb, v8, y14, rfl⟩
      rw [lgs] at lb
      exact ⟨lb, _, _, rfl⟩
  rintro σ' Gf ⟨lb, v8, y14, rfl⟩
  obtain ⟨fs, hfs, tfs⟩ := lb.2
  have lfs : fs.length = grpN ds := by rw [tfs.len]; unfold funsD; simp
  have kF := lb.1.tk ebF (K := K)
  have SG2 : Same H Gf := fun c o h => lb.1 c o (ne_of_none (SF c o h) NF) (S c o h)
  clear lb S tgs hkn hgs ebF SG
  replace hw := hw.k kF
  replace hrf := hrf.k kF
  replace har := har.k kF
  replace hnm := hnm.k kF
  replace hend := hend.k kF
  refine r_cut (fun σ' H' => Same Gf H' ∧ ∃ v10, Td K H' v10 (restD ds) ∧ σ' = [some (.int (many : Nat)), some (.int start), some (.ref p), some v1, some (.ref p3), some (.ref p5), some (.ref pG), y7, v8, y9, some v10, some (.ref pF), some (.ref p18), some vnm, y14, none]) ?_ ?_
  · walk_at "u"
    refine r_truL (SqL.of hfs) ?_
    by_cases h0 : grpN ds = 0
    · have ef : fs = [] := List.eq_nil_of_length_eq_zero (by rw [lfs, h0])
      subst ef
      walk_at "u"
      refine ⟨Same.refl _, _, ?_, rfl⟩
      unfold restD
      rw [if_pos h0]
      exact hend
    · have ef : fs.isEmpty = false := by
        cases fs with
        | nil => exact absurd lfs.symm (by simpa using h0)
        | cons _ _ => rfl
      rw [ef]
      walk_at "u"
      have S2 : Same Gf Gf := Same.refl _
      refine ⟨szl (by simp), fun p29 hp29 => ?_⟩
      obtain ⟨G29, g29, s29, a0⟩ := Td.lay (K := K) (ds := []) hp29 (.nil)
      rw [g29]
      clear g29 hp29
      replace hnm := hnm.k (Same.tk s29)
      replace hend := hend.k (Same.tk s29)
      replace hfs := s29 _ _ hfs
      replace S2 := S2.trans s29
      clear s29
      walk_at "u"
      refine ⟨szl (by simp), fun p30 hp30 => ?_⟩
      obtain ⟨G30, g30, s30, hu⟩ := Td.lay (K := K) (ds := [.str "unit", .tup [], .int 0]) hp30 (.cons (.str _) (.cons (a0) (.cons (.int _) .nil)))
      rw [g30]
      clear g30 hp30
      replace hnm := hnm.k (Same.tk s30)
      replace hend := hend.k (Same.tk s30)
      replace a0 := a0.k (Same.tk s30)
      replace hfs := s30 _ _ hfs
      replace S2 := S2.trans s30
      clear s30
      walk_at "u"
      try refine r_lenL (SqL.of hfs) ?_
      rw [lfs]
      walk_at "u"
      refine ⟨szl (by simp), fun p31 hp31 => ?_⟩
      obtain ⟨G31, g31, s31, b0⟩ := Td.lay (K := K) (ds := []) hp31 (.nil)
      rw [g31]
      clear g31 hp31
      replace hnm := hnm.k (Same.tk s31)
      replace hend := hend.k (Same.tk s31)
      replace a0 := a0.k (Same.tk s31)
      replace hu := hu.k (Same.tk s31)
      replace hfs := s31 _ _ hfs
      replace S2 := S2.trans s31
      clear s31
      walk_at "u"
      refine ⟨szl (by simp), fun p32 hp32 => ?_⟩
      obtain ⟨G32, g32, s32, hcall⟩ := Td.lay (K := K) (ds := [.str "call", unitD, .int (((grpN ds : Nat) : Int) - 1), .tup namesL, .tup []]) hp32 (.cons (.str _) (.cons (hu) (.cons (.int _) (.cons (hnm) (.cons (b0) .nil)))))
      rw [g32]
      clear g32 hp32
      replace hnm := hnm.k (Same.tk s32)
      replace hend := hend.k (Same.tk s32)
      replace a0 := a0.k (Same.tk s32)
      replace hu := hu.k (Same.tk s32)
      replace b0 := b0.k (Same.tk s32)
      replace hfs := s32 _ _ hfs
      replace S2 := S2.trans s32
      clear s32
      walk_at "u"
      refine ⟨_, _, _, wholeD, _, _, rfl, hcall, hend, fun v33 G33 s33 hsq => ?_⟩
      replace hnm := hnm.k (Same.tk s33)
      replace hend := hend.k (Same.tk s33)
      replace a0 := a0.k (Same.tk s33)
      replace hu := hu.k (Same.tk s33)
      replace b0 := b0.k (Same.tk s33)
      replace hcall := hcall.k (Same.tk s33)
      replace hfs := s33 _ _ hfs
      replace S2 := S2.trans s33
      clear s33
      walk_at "u"
      refine ⟨S2, _, ?_, rfl⟩
      unfold restD
      rw [if_neg h0]
      exact hsq
  rintro σ' Gh ⟨sh, v10, hb, rfl⟩
  replace hw := hw.k (Same.tk sh)
  replace hrf := hrf.k (Same.tk sh)
  replace har := har.k (Same.tk sh)
  replace tfs := tfs.k (Same.tk sh)
  replace hfs := sh _ _ hfs
  have S := SG2.trans sh
  clear SG2 sh hnm hend
  obtain ⟨o0, r0, er⟩ := rest_form ds
  rw [er] at hb
  walk_at "u"
  refine ⟨_, _, _, rfl, har, fun v34 G34 s34 h1 => ?_⟩
  replace hw := hw.k (Same.tk s34)
  replace hrf := hrf.k (Same.tk s34)
  replace har := har.k (Same.tk s34)
  replace tfs := tfs.k (Same.tk s34)
  replace hb := hb.k (Same.tk s34)
  replace hfs := s34 _ _ hfs
  replace S := S.trans s34
  clear s34
  walk_at "u"
  refine ⟨_, _, _, _, wholeD, _, _, rfl, h1, hb, fun v35 G35 s35 hb1 => ?_⟩
  replace hw := hw.k (Same.tk s35)
  replace hrf := hrf.k (Same.tk s35)
  replace har := har.k (Same.tk s35)
  replace tfs := tfs.k (Same.tk s35)
  replace hb := hb.k (Same.tk s35)
  replace h1 := h1.k (Same.tk s35)
  replace hfs := s35 _ _ hfs
  replace S := S.trans s35
  clear s35
  walk_at "u"
  clear hb h1
  refine ⟨(many : Nat), rfl, fun v36 G36 s36 hm1 => ?_⟩
  replace hw := hw.k (Same.tk s36)
  replace hrf := hrf.k (Same.tk s36)
  replace har := har.k (Same.tk s36)
  replace tfs := tfs.k (Same.tk s36)
  replace hb1 := hb1.k (Same.tk s36)
  replace hfs := s36 _ _ hfs
  replace S := S.trans s36
  clear s36
  walk_at "u"
  refine ⟨start, rfl, fun v37 G37 s37 hm2 => ?_⟩
  replace hw := hw.k (Same.tk s37)
  replace hrf := hrf.k (Same.tk s37)
  replace har := har.k (Same.tk s37)
  replace tfs := tfs.k (Same.tk s37)
  replace hb1 := hb1.k (Same.tk s37)
  replace hm1 := hm1.k (Same.tk s37)
  replace hfs := s37 _ _ hfs
  replace S := S.trans s37
  clear s37
  walk_at "u"
  refine ⟨szl (by simp), fun p38 hp38 => ?_⟩
  obtain ⟨G38, g38, s38, kk⟩ := Td.lay (K := K) (ds := [intE (many : Nat), intE start]) hp38 (.cons (hm1) (.cons (hm2) .nil))
  rw [g38]
  clear g38 hp38
  replace hw := hw.k (Same.tk s38)
  replace hrf := hrf.k (Same.tk s38)
  replace har := har.k (Same.tk s38)
  replace tfs := tfs.k (Same.tk s38)
  replace hb1 := hb1.k (Same.tk s38)
  replace hm1 := hm1.k (Same.tk s38)
  replace hm2 := hm2.k (Same.tk s38)
  replace hfs := s38 _ _ hfs
  replace S := S.trans s38
  clear s38
  walk_at "u"
  refine ⟨szl (by simp), fun p39 hp39 => ?_⟩
  obtain ⟨G39, g39, s39, b0⟩ := Td.lay (K := K) (ds := []) hp39 (.nil)
  rw [g39]
  clear g39 hp39
  replace hw := hw.k (Same.tk s39)
  replace hrf := hrf.k (Same.tk s39)
  replace har := har.k (Same.tk s39)
  replace tfs := tfs.k (Same.tk s39)
  replace hb1 := hb1.k (Same.tk s39)
  replace hm1 := hm1.k (Same.tk s39)
  replace hm2 := hm2.k (Same.tk s39)
  replace kk := kk.k (Same.tk s39)
  replace hfs := s39 _ _ hfs
  replace S := S.trans s39
  clear s39
  walk_at "u"
  refine ⟨szl (by simp), fun p40 hp40 => ?_⟩
  obtain ⟨G40, g40, s40, harr⟩ := Td.lay (K := K) (ds := [.str "array", arrD, .non, .tup [intE (many : Nat), intE start], .tup []]) hp40 (.cons (.str _) (.cons (har) (.cons (.non) (.cons (kk) (.cons (b0) .nil)))))
  rw [g40]
  clear g40 hp40
  replace hw := hw.k (Same.tk s40)
  replace hrf := hrf.k (Same.tk s40)
  replace har := har.k (Same.tk s40)
  replace tfs := tfs.k (Same.tk s40)
  replace hb1 := hb1.k (Same.tk s40)
  replace hm1 := hm1.k (Same.tk s40)
  replace hm2 := hm2.k (Same.tk s40)
  replace kk := kk.k (Same.tk s40)
  replace b0 := b0.k (Same.tk s40)
  replace hfs := s40 _ _ hfs
  replace S := S.trans s40
  clear s40
  walk_at "u"
  refine ⟨_, _, _, _, wholeD, _, _, rfl, harr, hb1, fun v41 G41 s41 hb2 => ?_⟩
  replace hw := hw.k (Same.tk s41)
  replace hrf := hrf.k (Same.tk s41)
  replace har := har.k (Same.tk s41)
  replace tfs := tfs.k (Same.tk s41)
  replace hb1 := hb1.k (Same.tk s41)
  replace hm1 := hm1.k (Same.tk s41)
  replace hm2 := hm2.k (Same.tk s41)
  replace kk := kk.k (Same.tk s41)
  replace b0 := b0.k (Same.tk s41)
  replace harr := harr.k (Same.tk s41)
  replace hfs := s41 _ _ hfs
  replace S := S.trans s41
  clear s41
  walk_at "u"
  clear hb1 harr kk b0 hm1 hm2
  refine ⟨_, _, _, rfl, hrf, fun v42 G42 s42 h1 => ?_⟩
  replace hw := hw.k (Same.tk s42)
  replace hrf := hrf.k (Same.tk s42)
  replace har := har.k (Same.tk s42)
  replace tfs := tfs.k (Same.tk s42)
  replace hb2 := hb2.k (Same.tk s42)
  replace hfs := s42 _ _ hfs
  replace S := S.trans s42
  clear s42
  walk_at "u"
  refine ⟨_, _, _, _, wholeD, _, _, rfl, h1, hb2, fun v43 G43 s43 hb3 => ?_⟩
  replace hw := hw.k (Same.tk s43)
  replace hrf := hrf.k (Same.tk s43)
  replace har := har.k (Same.tk s43)
  replace tfs := tfs.k (Same.tk s43)
  replace hb2 := hb2.k (Same.tk s43)
  replace h1 := h1.k (Same.tk s43)
  replace hfs := s43 _ _ hfs
  replace S := S.trans s43
  clear s43
  walk_at "u"
  clear hb2 h1
  refine ⟨_, _, _, rfl, hrf, fun v44 G44 s44 h1 => ?_⟩
  replace hw := hw.k (Same.tk s44)
  replace hrf := hrf.k (Same.tk s44)
  replace har := har.k (Same.tk s44)
  replace tfs := tfs.k (Same.tk s44)
  replace hb3 := hb3.k (Same.tk s44)
  replace hfs := s44 _ _ hfs
  replace S := S.trans s44
  clear s44
  walk_at "u"
  refine ⟨_, _, _, _, wholeD, _, _, rfl, h1, hb3, fun v45 G45 s45 hb4 => ?_⟩
  replace hw := hw.k (Same.tk s45)
  replace hrf := hrf.k (Same.tk s45)
  replace har := har.k (Same.tk s45)
  replace tfs := tfs.k (Same.tk s45)
  replace hb3 := hb3.k (Same.tk s45)
  replace h1 := h1.k (Same.tk s45)
  replace hfs := s45 _ _ hfs
  replace S := S.trans s45
  clear s45
  walk_at "u"
  clear hb3 h1
  refine ⟨start + 1, rfl, fun v46 G46 s46 hm1 => ?_⟩
  replace hw := hw.k (Same.tk s46)
  replace hrf := hrf.k (Same.tk s46)
  replace har := har.k (Same.tk s46)
  replace tfs := tfs.k (Same.tk s46)
  replace hb4 := hb4.k (Same.tk s46)
  replace hfs := s46 _ _ hfs
  replace S := S.trans s46
  clear s46
  walk_at "u"
  refine ⟨szl (by simp), fun p47 hp47 => ?_⟩
  obtain ⟨G47, g47, s47, kk⟩ := Td.lay (K := K) (ds := [intE (start + 1)]) hp47 (.cons (hm1) .nil)
  rw [g47]
  clear g47 hp47
  replace hw := hw.k (Same.tk s47)
  replace hrf := hrf.k (Same.tk s47)
  replace har := har.k (Same.tk s47)
  replace tfs := tfs.k (Same.tk s47)
  replace hb4 := hb4.k (Same.tk s47)
  replace hm1 := hm1.k (Same.tk s47)
  replace hfs := s47 _ _ hfs
  replace S := S.trans s47
  clear s47
  walk_at "u"
  refine ⟨szl (by simp), fun p48 hp48 => ?_⟩
  obtain ⟨G48, g48, s48, b0⟩ := Td.lay (K := K) (ds := []) hp48 (.nil)
  rw [g48]
  clear g48 hp48
  replace hw := hw.k (Same.tk s48)
  replace hrf := hrf.k (Same.tk s48)
  replace har := har.k (Same.tk s48)
  replace tfs := tfs.k (Same.tk s48)
  replace hb4 := hb4.k (Same.tk s48)
  replace hm1 := hm1.k (Same.tk s48)
  replace kk := kk.k (Same.tk s48)
  replace hfs := s48 _ _ hfs
  replace S := S.trans s48
  clear s48
  walk_at "u"
  refine ⟨szl (by simp), fun p49 hp49 => ?_⟩
  obtain ⟨G49, g49, s49, harr⟩ := Td.lay (K := K) (ds := [.str "ref", refD, .non, .tup [intE (start + 1)], .tup []]) hp49 (.cons (.str _) (.cons (hrf) (.cons (.non) (.cons (kk) (.cons (b0) .nil)))))
  rw [g49]
  clear g49 hp49
  replace hw := hw.k (Same.tk s49)
  replace hrf := hrf.k (Same.tk s49)
  replace har := har.k (Same.tk s49)
  replace tfs := tfs.k (Same.tk s49)
  replace hb4 := hb4.k (Same.tk s49)
  replace hm1 := hm1.k (Same.tk s49)
  replace kk := kk.k (Same.tk s49)
  replace b0 := b0.k (Same.tk s49)
  replace hfs := s49 _ _ hfs
  replace S := S.trans s49
  clear s49
  walk_at "u"
  refine ⟨_, _, _, _, wholeD, _, _, rfl, harr, hb4, fun v50 G50 s50 hb5 => ?_⟩
  replace hw := hw.k (Same.tk s50)
  replace hrf := hrf.k (Same.tk s50)
  replace har := har.k (Same.tk s50)
  replace tfs := tfs.k (Same.tk s50)
  replace hb4 := hb4.k (Same.tk s50)
  replace hm1 := hm1.k (Same.tk s50)
  replace kk := kk.k (Same.tk s50)
  replace b0 := b0.k (Same.tk s50)
  replace harr := harr.k (Same.tk s50)
  replace hfs := s50 _ _ hfs
  replace S := S.trans s50
  clear s50
  walk_at "u"
  clear hb4 harr kk b0 hm1
  refine ⟨start, rfl, fun v51 G51 s51 hm1 => ?_⟩
  replace hw := hw.k (Same.tk s51)
  replace hrf := hrf.k (Same.tk s51)
  replace har := har.k (Same.tk s51)
  replace tfs := tfs.k (Same.tk s51)
  replace hb5 := hb5.k (Same.tk s51)
  replace hfs := s51 _ _ hfs
  replace S := S.trans s51
  clear s51
  walk_at "u"
  refine ⟨szl (by simp), fun p52 hp52 => ?_⟩
  obtain ⟨G52, g52, s52, kk⟩ := Td.lay (K := K) (ds := [intE start]) hp52 (.cons (hm1) .nil)
  rw [g52]
  clear g52 hp52
  replace hw := hw.k (Same.tk s52)
  replace hrf := hrf.k (Same.tk s52)
  replace har := har.k (Same.tk s52)
  replace tfs := tfs.k (Same.tk s52)
  replace hb5 := hb5.k (Same.tk s52)
  replace hm1 := hm1.k (Same.tk s52)
  replace hfs := s52 _ _ hfs
  replace S := S.trans s52
  clear s52
  walk_at "u"
  refine ⟨szl (by simp), fun p53 hp53 => ?_⟩
  obtain ⟨G53, g53, s53, b0⟩ := Td.lay (K := K) (ds := []) hp53 (.nil)
  rw [g53]
  clear g53 hp53
  replace hw := hw.k (Same.tk s53)
  replace hrf := hrf.k (Same.tk s53)
  replace har := har.k (Same.tk s53)
  replace tfs := tfs.k (Same.tk s53)
  replace hb5 := hb5.k (Same.tk s53)
  replace hm1 := hm1.k (Same.tk s53)
  replace kk := kk.k (Same.tk s53)
  replace hfs := s53 _ _ hfs
  replace S := S.trans s53
  clear s53
  walk_at "u"
  refine ⟨szl (by simp), fun p54 hp54 => ?_⟩
  obtain ⟨G54, g54, s54, harr⟩ := Td.lay (K := K) (ds := [.str "ref", refD, .non, .tup [intE start], .tup []]) hp54 (.cons (.str _) (.cons (hrf) (.cons (.non) (.cons (kk) (.cons (b0) .nil)))))
  rw [g54]
  clear g54 hp54
  replace hw := hw.k (Same.tk s54)
  replace hrf := hrf.k (Same.tk s54)
  replace har := har.k (Same.tk s54)
  replace tfs := tfs.k (Same.tk s54)
  replace hb5 := hb5.k (Same.tk s54)
  replace hm1 := hm1.k (Same.tk s54)
  replace kk := kk.k (Same.tk s54)
  replace b0 := b0.k (Same.tk s54)
  replace hfs := s54 _ _ hfs
  replace S := S.trans s54
  clear s54
  walk_at "u"
  refine ⟨_, _, _, _, wholeD, _, _, rfl, harr, hb5, fun v55 G55 s55 hb6 => ?_⟩
  replace hw := hw.k (Same.tk s55)
  replace hrf := hrf.k (Same.tk s55)
  replace har := har.k (Same.tk s55)
  replace tfs := tfs.k (Same.tk s55)
  replace hb5 := hb5.k (Same.tk s55)
  replace hm1 := hm1.k (Same.tk s55)
  replace kk := kk.k (Same.tk s55)
  replace b0 := b0.k (Same.tk s55)
  replace harr := harr.k (Same.tk s55)
  replace hfs := s55 _ _ hfs
  replace S := S.trans s55
  clear s55
  walk_at "u"
  clear hb5 harr kk b0 hm1
  refine ⟨szl (by simp), fun p56 hp56 => ?_⟩
  obtain ⟨G56, g56, s56, z0⟩ := Td.lay (K := K) (ds := []) hp56 (.nil)
  rw [g56]
  clear g56 hp56
  replace hw := hw.k (Same.tk s56)
  replace hrf := hrf.k (Same.tk s56)
  replace har := har.k (Same.tk s56)
  replace tfs := tfs.k (Same.tk s56)
  replace hb6 := hb6.k (Same.tk s56)
  replace hfs := s56 _ _ hfs
  replace S := S.trans s56
  clear s56
  walk_at "u"
  refine ⟨szl (by simp), fun p57 hp57 => ?_⟩
  obtain ⟨G57, g57, s57, z1⟩ := Td.lay (K := K) (ds := [.str "Div", .str "Index", .str "Size"]) hp57 (.cons (.str _) (.cons (.str _) (.cons (.str _) .nil)))
  rw [g57]
  clear g57 hp57
  replace hw := hw.k (Same.tk s57)
  replace hrf := hrf.k (Same.tk s57)
  replace har := har.k (Same.tk s57)
  replace tfs := tfs.k (Same.tk s57)
  replace hb6 := hb6.k (Same.tk s57)
  replace z0 := z0.k (Same.tk s57)
  replace hfs := s57 _ _ hfs
  replace S := S.trans s57
  clear s57
  walk_at "u"
  refine ⟨szl (by simp), fun p58 hp58 => ?_⟩
  obtain ⟨G58, g58, s58, z2⟩ := Td.lay (K := K) (ds := []) hp58 (.nil)
  rw [g58]
  clear g58 hp58
  replace hw := hw.k (Same.tk s58)
  replace hrf := hrf.k (Same.tk s58)
  replace har := har.k (Same.tk s58)
  replace tfs := tfs.k (Same.tk s58)
  replace hb6 := hb6.k (Same.tk s58)
  replace z0 := z0.k (Same.tk s58)
  replace z1 := z1.k (Same.tk s58)
  replace hfs := s58 _ _ hfs
  replace S := S.trans s58
  clear s58
  walk_at "u"
  have hbody : Td K G58 v55 (bodyD (many : Nat) start ds) := by unfold bodyD; rw [er]; exact hb6
  refine ⟨szl (by simp), fun p59 hp59 => ?_⟩
  obtain ⟨G59, g59, s59, hmain⟩ := Td.lay (K := K) (ds := [.str "main", .tup [], wholeD, bodyD (many : Nat) start ds]) hp59 (.cons (.str _) (.cons (z2) (.cons (hw) (.cons (hbody) .nil))))
  rw [g59]
  clear g59 hp59
  replace hw := hw.k (Same.tk s59)
  replace hrf := hrf.k (Same.tk s59)
  replace har := har.k (Same.tk s59)
  replace tfs := tfs.k (Same.tk s59)
  replace hb6 := hb6.k (Same.tk s59)
  replace z0 := z0.k (Same.tk s59)
  replace z1 := z1.k (Same.tk s59)
  replace z2 := z2.k (Same.tk s59)
  replace hfs := s59 _ _ hfs
  replace S := S.trans s59
  clear s59
  walk_at "u"
  refine ⟨szl (by simp), fun pL hpL => ?_⟩
  obtain ⟨G60, g60, s60, eL⟩ := lay_new (o := .lst [(.ref p59)]) hpL
  rw [g60]
  clear g60 hpL
  replace hw := hw.k (Same.tk s60)
  replace hrf := hrf.k (Same.tk s60)
  replace har := har.k (Same.tk s60)
  replace tfs := tfs.k (Same.tk s60)
  replace hb6 := hb6.k (Same.tk s60)
  replace z0 := z0.k (Same.tk s60)
  replace z1 := z1.k (Same.tk s60)
  replace z2 := z2.k (Same.tk s60)
  replace hmain := hmain.k (Same.tk s60)
  replace hfs := s60 _ _ hfs
  replace S := S.trans s60
  clear s60
  walk_at "u"
  refine .inl ⟨fs, _, hfs, eL, szl (by rw [lfs]; unfold grpN; simp; omega), fun pS hpS => ?_⟩
  obtain ⟨G61, g61, s61, eS⟩ := lay_new (o := .lst (fs ++ [(.ref p59)])) hpS
  rw [g61]
  clear g61 hpS
  replace hw := hw.k (Same.tk s61)
  replace hrf := hrf.k (Same.tk s61)
  replace har := har.k (Same.tk s61)
  replace tfs := tfs.k (Same.tk s61)
  replace hb6 := hb6.k (Same.tk s61)
  replace z0 := z0.k (Same.tk s61)
  replace z1 := z1.k (Same.tk s61)
  replace z2 := z2.k (Same.tk s61)
  replace hmain := hmain.k (Same.tk s61)
  replace hfs := s61 _ _ hfs
  replace S := S.trans s61
  clear s61
  walk_at "u"
  refine r_tupleD (ds := funsD ds ++ [mainD (many : Nat) start ds]) (SqL.of eS) (tfs.append (.one hmain)) fun vt G62 s62 ht => ?_
  replace hw := hw.k (Same.tk s62)
  replace hrf := hrf.k (Same.tk s62)
  replace har := har.k (Same.tk s62)
  replace tfs := tfs.k (Same.tk s62)
  replace hb6 := hb6.k (Same.tk s62)
  replace z0 := z0.k (Same.tk s62)
  replace z1 := z1.k (Same.tk s62)
  replace z2 := z2.k (Same.tk s62)
  replace hmain := hmain.k (Same.tk s62)
  replace hfs := s62 _ _ hfs
  replace S := S.trans s62
  clear s62
  walk_at "u"
  refine ⟨szl (by simp), fun p63 hp63 => ?_⟩
  obtain ⟨G63, g63, s63, hpr⟩ := Td.lay (K := K) (ds := [.tup [], .tup [.str "Div", .str "Index", .str "Size"], .tup (funsD ds ++ [mainD (many : Nat) start ds])]) hp63 (.cons (z0) (.cons (z1) (.cons (ht) .nil)))
  rw [g63]
  clear g63 hp63
  replace hw := hw.k (Same.tk s63)
  replace hrf := hrf.k (Same.tk s63)
  replace har := har.k (Same.tk s63)
  replace tfs := tfs.k (Same.tk s63)
  replace hb6 := hb6.k (Same.tk s63)
  replace z0 := z0.k (Same.tk s63)
  replace z1 := z1.k (Same.tk s63)
  replace z2 := z2.k (Same.tk s63)
  replace hmain := hmain.k (Same.tk s63)
  replace ht := ht.k (Same.tk s63)
  replace hfs := s63 _ _ hfs
  replace S := S.trans s63
  clear s63
  walk_at "u"
  exact q _ _ S hpr
end
section
variable {K : PySem.W.Frag} {vs : List V} {H H' H0 H1 H2 : Hp} {Q : VK} {E : XK} {n : Nat} {p pK pR pO : Addr} {q : Me} {R : Hp → Prop}
theorem r_inIT {p : Addr} {z : Int} {ss : List Int} (hp : SqT K H p (ss.map V.int)) (q : Q (.bl (decide (z ∈ ss))) H) : uIn K id (.int z) (.ref p) H Q := ⟨_, .inr hp, rfl, flat_ints, by rw [inV_int]; exact q⟩
/-- the law's own model, on the heap -/
structure J (H0 : Hp) (pK pR pO : Addr) (q : Me) (H : Hp) : Prop where
  f : FrN [pK, pR, pO] H0 H
  k : H pK = some (.lst [.int q.k0, .int q.k1])
  r : H pR = some (.lst (q.row.map V.int))
  o : H pO = some (.lst (q.os.map V.int))
  ne : pK ≠ pR ∧ pK ≠ pO ∧ pR ≠ pO
theorem J.same (j : J H0 pK pR pO q H) (s : Same H H') : J H0 pK pR pO q H' := ⟨j.f.trans (FrN.same s), s _ _ j.k, s _ _ j.r, s _ _ j.o, j.ne⟩
theorem J.nt (j : J H0 pK pR pO q H) : ∀ a ∈ [pK, pR, pO], Nt H a := fun a ha => by
  simp only [List.mem_cons, List.not_mem_nil, or_false] at ha
  rcases ha with rfl | rfl | rfl
  · exact Nt.lst j.k
  · exact Nt.lst j.r
  · exact Nt.lst j.o
theorem J.ixK {w : Int} (j : J H0 pK pR pO q H) (hw : 0 ≤ w ∧ w < 4) (h : Q (.int (q.get w)) H) : uIx K (.ref pK) (.int (w % 2)) H Q := by
  refine r_ixL (SqL.of j.k) (v := .int (q.get w)) ?_ h
  unfold Me.get
  rcases w4 hw with rfl | rfl | rfl | rfl <;> rfl
theorem J.setK {w y : Int} (j : J H0 pK pR pO q H) (hw : 0 ≤ w ∧ w < 4) (h : ∀ H2, J H0 pK pR pO (q.set w y) H2 → R H2) : uSetL (.ref pK) (.int (w % 2)) (.int y) H R := by
  have key : ∀ i : Nat, ixN 2 (w % 2) = some i → [V.int q.k0, .int q.k1].set i (.int y) = [.int (q.set w y).k0, .int (q.set w y).k1] → uSetL (.ref pK) (.int (w % 2)) (.int y) H R := fun i h1 h2 => by
    refine r_setL j.k h1 (h _ ⟨j.f.self (by simp), ?_, ?_, ?_, j.ne⟩)
    · rw [upd_same, h2]
    · rw [upd_ne j.ne.1.symm, os_set.2]; exact j.r
    · rw [upd_ne j.ne.2.1.symm, os_set.1]; exact j.o
  rcases w4 hw with rfl | rfl | rfl | rfl
  · exact key 0 rfl rfl
  · exact key 1 rfl rfl
  · exact key 0 rfl rfl
  · exact key 1 rfl rfl
theorem J.ixR {i : Nat} (j : J H0 pK pR pO q H) (hi : i < q.row.length) (h : Q (.int (q.at_ (i : Nat))) H) : uIx K (.ref pR) (.int (i : Nat)) H Q := by
  refine r_ixL (SqL.of j.r) (v := .int (q.at_ (i : Nat))) (atI_nat ?_) h
  unfold Me.at_
  rw [Int.toNat_natCast, List.getElem?_map, List.getElem?_eq_getElem hi]
  rfl
theorem J.setR {i : Nat} {y : Int} (j : J H0 pK pR pO q H) (hi : i < q.row.length) (h : ∀ H2, J H0 pK pR pO { q with row := q.row.set i y } H2 → R H2) : uSetL (.ref pR) (.int (i : Nat)) (.int y) H R := by
  refine r_setL j.r (ixN_nat (r := i) (by simpa using hi)) (h _ ⟨j.f.self (by simp), ?_, ?_, ?_, j.ne⟩)
  · rw [upd_ne j.ne.1]; exact j.k
  · rw [upd_same, List.map_set]
  · rw [upd_ne j.ne.2.2.symm]; exact j.o
theorem J.tyO {B : Prop} (j : J H0 pK pR pO q H) (b : B) : tyV K "list" (.ref pO) H ∧ B := ⟨.inl ⟨rfl, _, SqL.of j.o⟩, b⟩
theorem J.appO {y : Int} (j : J H0 pK pR pO q H) (hl : q.os.length ≤ 1000) (h : ∀ H2, J H0 pK pR pO { q with os := q.os ++ [y] } H2 → Q .non H2) : uAppend (.ref pO) [.int y] H Q := by
  refine ⟨_, j.o, szt (by simp; omega), h _ ⟨j.f.self (by simp), ?_, ?_, ?_, j.ne⟩⟩
  · rw [upd_ne j.ne.2.1]; exact j.k
  · rw [upd_ne j.ne.2.2]; exact j.r
  · rw [upd_same, List.map_append]; rfl
theorem tdl_ints : ∀ os : List Int, TdL K H (os.map V.int) (os.map D.int)
  | [] => .nil
  | x :: os => .cons (.int x) (tdl_ints os)
theorem step_bad {many : Nat} {x : Deed} {r : List Deed} (h : badDeed many x) : runM many (x :: r) q = (q, some x.ix) := by rw [runM, if_pos h]
theorem step_ok {many : Nat} {x : Deed} {r : List Deed} (h : ¬ badDeed many x) : runM many (x :: r) q = runM many r (q.step many x) := by rw [runM, if_neg h]
theorem r_gT4 {K : PySem.W.Frag} {H : Hp} {σ : L2.St} {v : V} {a b c d : D} {i j k m : Nat} {R : L2.St → Hp → Prop} (h : Td K H v (.tup [a, b, c, d])) (q : ∀ x y z u, Td K H x a → Td K H y b → Td K H z c → Td K H u d → R ((((σ.set i (some x)).set j (some y)).set k (some z)).set m (some u)) H) :
    gTup K 4 (gCons (gName i) (gCons (gName j) (gCons (gName k) (gCons (gName m) gNil)))) v σ H R := by
  obtain ⟨p, vs, rfl, s, t⟩ := h.inv
  cases t with
  | cons h1 t => cases t with
    | cons h2 t => cases t with
      | cons h3 t => cases t with
        | cons h4 t =>
          cases t
          exact ⟨p, _, rfl, s, rfl, _, _, rfl, _, _, rfl, _, _, rfl, _, _, rfl, rfl, q _ _ _ _ h1 h2 h3 h4⟩
theorem rd_l_due (h : sp_l_due K vs H Q E) : t_l_due K { nx := fun _ H' => Q .non H', rt := Q } (start n_l_due vs) H := by
  obtain ⟨many, start, p, us, ds, limit, rfl, hpu, tus, hd, hx, hm, q⟩ := h
  have lus : us.length = ds.length := by rw [tus.len, List.length_map]
  unfold t_l_due
  unfold dueD at q
  walk_at "u"
  rw [lus]
  have et : ((many : Nat) : Int) + (((ds.length : Nat) : Int) + 7) / 8 = ((tickN many ds : Nat) : Int) := by unfold tickN grpN; omega
  walk_at "u"
  rw [et]
  walk_at "ui"
  refine br_d (fun hl => ?_) (fun hl => ?_)
  · rw [if_pos (by omega)] at q
    walk_at "u"
    refine ⟨szl (by simp), fun p1 hp1 => ?_⟩
    obtain ⟨G1, g1, s1, t1⟩ := Td.lay (K := K) (ds := [.str "fuel"]) hp1 (.cons (.str _) .nil)
    rw [g1]
    walk_at "u"
    refine ⟨szl (by simp), fun p2 hp2 => ?_⟩
    obtain ⟨G2, g2, s2, t2⟩ := Td.lay (K := K) (ds := []) hp2 .nil
    rw [g2]
    walk_at "u"
    refine ⟨szl (by simp), fun p3 hp3 => ?_⟩
    obtain ⟨G3, g3, s3, t3⟩ := Td.lay (K := K) (ds := [.tup [.str "fuel"], .int 0, .tup [], .int (limit : Nat)]) hp3 (.cons (t1.k (Same.tk s2)) (.cons (.int _) (.cons t2 (.cons (.int _) .nil))))
    rw [g3]
    walk_at "u"
    exact q _ _ (s1.trans (s2.trans s3)) t3
  · rw [if_neg (by omega)] at q
    walk_at "u"
    refine ⟨szl (by simp), fun pK hpK => ?_⟩
    obtain ⟨G1, g1, s1, eK⟩ := lay_new (o := .lst [.int start, .int (start + 1)]) hpK
    rw [g1]
    walk_at "u"
    refine ⟨by omega, by omega, fun pR hpR => c_range (n := many) (fun i H' => H' = upd G1 pR (.lst (List.replicate i (.int start)))) rfl ?_ ?_⟩
    · rintro i H2 hi rfl
      refine r_gname ⟨rfl, ?_⟩
      walk_at "u"
      refine ⟨_, upd_same, szt (by simp; omega), ?_⟩
      rw [List.replicate_succ', upd_upd]
    rintro H2 rfl
    obtain ⟨G2, g2, s2, eR⟩ := lay_new (o := .lst (List.replicate many (V.int start))) hpR
    rw [g2]
    have eK2 := s2 _ _ eK
    have nKR : pK ≠ pR := ne_of_none eK hpR
    clear g1 g2
    walk_at "u"
    refine ⟨szl (by simp), fun pO hpO => ?_⟩
    obtain ⟨G3, g3, s3, eO⟩ := lay_new (o := .lst []) hpO
    rw [g3]
    have nKO : pK ≠ pO := ne_of_none eK2 hpO
    have nRO : pR ≠ pO := ne_of_none eR hpO
    have j0 : J G3 pK pR pO (me0 many start) G3 := ⟨FrN.refl, s3 _ _ eK2, by rw [s3 _ _ eR]; simp [me0], eO, nKR, nKO, nRO⟩
    have S3 : Same H G3 := s1.trans (s2.trans s3)
    have old : ∀ {c : Addr} {o : HO}, H c = some o → c ∉ [pK, pR, pO] := fun {c o} h => by
      simp only [List.mem_cons, List.not_mem_nil, or_false, not_or]
      exact ⟨ne_of_none h hpK, ne_of_none (s1 _ _ h) hpR, ne_of_none (s2 _ _ (s1 _ _ h)) hpO⟩
    have hpu3 := S3 _ _ hpu
    have hpo := old hpu
    have tus3 := tus.k (Same.tk S3)
    have SJ : ∀ {q' : Me} {G : Hp}, J G3 pK pR pO q' G → Same H G := fun j c o h => j.f c o (old h) (S3 c o h)
    clear eK eK2 eR eO hpK hpR hpO g3 s1 s2 s3
    walk_at "u"
    generalize htk : tickN many ds = tk at *
    refine r_cut (fun σ' H' => ∃ q' y8 y9 y10 y11, J G3 pK pR pO q' H' ∧ runM many ds (me0 many start) = (q', none) ∧ q'.os.length ≤ 40 ∧ σ' = [some (.int (many : Nat)), some (.int start), some (.ref p), some (.int (limit : Nat)), some (.int (tk : Nat)), some (.ref pK), some (.ref pR), some (.ref pO), y8, y9, y10, y11, none]) ?_ ?_
    · walk_at "u"
      refine it_list ?_
      walk_at "u"
      refine ⟨p, rfl, ⟨_, SqL.of hpu3⟩, f_list (xs := us) (fun i σ' H' => ∃ q' y8 y9 y10 y11, J G3 pK pR pO q' H' ∧ runM many ds (me0 many start) = runM many (ds.drop i) q' ∧ q'.os.length ≤ i ∧ q'.row.length = many ∧ σ' = [some (.int (many : Nat)), some (.int start), some (.ref p), some (.int (limit : Nat)), some (.int (tk : Nat)), some (.ref pK), some (.ref pR), some (.ref pO), y8, y9, y10, y11, none]) ⟨_, none, none, none, none, j0, rfl, Nat.le_refl _, by simp [me0], rfl⟩ (fun i σ' H' z => by
        obtain ⟨q', _, _, _, _, j, _⟩ := z
        exact SqL.of (j.f _ _ hpo hpu3)) ?_ ?_⟩
      · rintro i x σ' H2 hx2 ⟨q', y8, y9, y10, y11, j, hrun, hos, hrow, rfl⟩
        obtain ⟨dd, hdd, tdd⟩ := (tus3.k (j.f.tk j0.nt)).getV hx2
        rw [List.getElem?_map] at hdd
        obtain ⟨xd, hxd, rfl⟩ := Option.map_eq_some_iff.mp hdd
        have hi := (List.getElem?_eq_some_iff.mp hxd).1
        have ok := hx _ (List.mem_of_getElem? hxd)
        have edrop : ds.drop i = xd :: ds.drop (i + 1) := by
          rw [List.drop_eq_getElem_cons hi]
          rw [List.getElem?_eq_getElem hi] at hxd
          rw [Option.some.inj hxd]
        rw [edrop] at hrun
        obtain ⟨d, w, ix, y⟩ := xd
        refine r_gT4 (a := .int d) (b := .int w) (c := .int ix) (d := .int y) tdd fun x1 x2 x3 x4 t1 t2 t3 t4 => ?_
        have t1 := t1.invI
        have t2 := t2.invI
        have t3 := t3.invI
        have t4 := t4.invI
        subst t1 t2 t3 t4
        have hw := ok.w
        have hd6 := d6 ok
        simp only at hw hd6
        walk_at "ui"
        refine ⟨szl (by simp), fun pT hpT => ?_⟩
        obtain ⟨H3, e3, s3, eT⟩ := lay_new (o := .tup [.int 2, .int 3, .int 5]) hpT
        rw [e3]
        refine r_inIT (ss := [2, 3, 5]) (SqT.of eT) ?_
        replace j := j.same s3
        clear e3 hpT eT s3
        walk_at "u"
        by_cases hb : badDeed many ⟨d, w, ix, y⟩
        · rw [step_bad hb] at hrun
          rw [hrun] at q
          obtain ⟨hd3, hix⟩ := hb
          have hix : ix < 0 ∨ ((many : Nat) : Int) ≤ ix := hix
          have hd3 : d = 2 ∨ d = 3 ∨ d = 5 := hd3
          refine br_y (by simpa using hd3) ?_
          walk_at "u"
          refine br_d (fun h1 => ?_) (fun h1 => ?_)
          · walk_at "u"
            refine ⟨szl (by simp), fun p4 hp4 => ?_⟩
            obtain ⟨G4, g4, s4, t4⟩ := Td.lay (K := K) (ds := [.str "raised", .str "Index", .int ix]) hp4 (.cons (.str _) (.cons (.str _) (.cons (.int _) .nil)))
            rw [g4]
            walk_at "u"
            refine r_tupleD (ds := q'.os.map D.int) (SqL.of (s4 _ _ j.o)) (tdl_ints _) fun ut G5 s5 t5 => ?_
            walk_at "u"
            refine ⟨szl (by simp), fun p6 hp6 => ?_⟩
            obtain ⟨G6, g6, s6, t6⟩ := Td.lay (K := K) (ds := [.tup [.str "raised", .str "Index", .int ix], .int 0, outD q'.os, .int (tk : Nat)]) hp6 (.cons (t4.k (Same.tk s5)) (.cons (.int _) (.cons t5 (.cons (.int _) .nil))))
            rw [g6]
            walk_at "u"
            exact q _ _ ((SJ j).trans (s4.trans (s5.trans s6))) t6
          · walk_at "u"
            try refine br_y (by omega) ?_
            walk_at "u"
            refine ⟨szl (by simp), fun p4 hp4 => ?_⟩
            obtain ⟨G4, g4, s4, t4⟩ := Td.lay (K := K) (ds := [.str "raised", .str "Index", .int ix]) hp4 (.cons (.str _) (.cons (.str _) (.cons (.int _) .nil)))
            rw [g4]
            walk_at "u"
            refine r_tupleD (ds := q'.os.map D.int) (SqL.of (s4 _ _ j.o)) (tdl_ints _) fun ut G5 s5 t5 => ?_
            walk_at "u"
            refine ⟨szl (by simp), fun p6 hp6 => ?_⟩
            obtain ⟨G6, g6, s6, t6⟩ := Td.lay (K := K) (ds := [.tup [.str "raised", .str "Index", .int ix], .int 0, outD q'.os, .int (tk : Nat)]) hp6 (.cons (t4.k (Same.tk s5)) (.cons (.int _) (.cons t5 (.cons (.int _) .nil))))
            rw [g6]
            walk_at "u"
            exact q _ _ ((SJ j).trans (s4.trans (s5.trans s6))) t6
        · rw [step_ok hb] at hrun
          have nx : d = 2 ∨ d = 3 ∨ d = 5 → ∃ i : Nat, ix = (i : Nat) ∧ i < q'.row.length := fun h => by
            have : ¬ (ix < 0 ∨ (many : Int) ≤ ix) := fun z => hb ⟨h, z⟩
            exact ⟨ix.toNat, by omega, by omega⟩
          clear hb
          have ho40 : q'.os.length ≤ 1000 := by omega
          rcases hd6 with h | h | h | h | h | h <;> subst h
          · refine br_n (by decide) ?_
            walk_at "u"
            refine j.setK hw fun H4 j2 => ?_
            walk_at "u"
            refine ⟨_, _, _, _, _, j2, hrun, ?_, ?_, rfl⟩
            · exact Nat.le_trans (step_os (q := q') (many := many) (x := ⟨0, w, ix, y⟩)) (by omega)
            · exact (step_row (q := q') (many := many) (x := ⟨0, w, ix, y⟩)).trans hrow
          · refine br_n (by decide) ?_
            walk_at "u"
            refine j.tyO ?_
            walk_at "u"
            refine j.ixK hw ?_
            walk_at "u"
            refine j.appO ho40 fun H4 j2 => ?_
            walk_at "u"
            refine ⟨_, _, _, _, _, j2, hrun, ?_, ?_, rfl⟩
            · exact Nat.le_trans (step_os (q := q') (many := many) (x := ⟨1, w, ix, y⟩)) (by omega)
            · exact (step_row (q := q') (many := many) (x := ⟨1, w, ix, y⟩)).trans hrow
          · obtain ⟨k, rfl, hk⟩ := nx (.inl rfl)
            refine br_y (by decide) ?_
            walk_at "u"
            try refine br_n (by omega) ?_
            walk_at "u"
            try refine br_n (by omega) ?_
            walk_at "u"
            refine j.setR hk fun H4 j2 => ?_
            walk_at "u"
            refine ⟨_, _, _, _, _, j2, hrun, ?_, ?_, rfl⟩
            · exact Nat.le_trans (step_os (q := q') (many := many) (x := ⟨2, w, (k : Nat), y⟩)) (by omega)
            · exact (step_row (q := q') (many := many) (x := ⟨2, w, (k : Nat), y⟩)).trans hrow
          · obtain ⟨k, rfl, hk⟩ := nx (.inr (.inl rfl))
            refine br_y (by decide) ?_
            walk_at "u"
            try refine br_n (by omega) ?_
            walk_at "u"
            try refine br_n (by omega) ?_
            walk_at "u"
            refine j.tyO ?_
            walk_at "u"
            refine j.ixR hk ?_
            walk_at "u"
            refine j.appO ho40 fun H4 j2 => ?_
            walk_at "u"
            refine ⟨_, _, _, _, _, j2, hrun, ?_, ?_, rfl⟩
            · exact Nat.le_trans (step_os (q := q') (many := many) (x := ⟨3, w, (k : Nat), y⟩)) (by omega)
            · exact (step_row (q := q') (many := many) (x := ⟨3, w, (k : Nat), y⟩)).trans hrow
          · refine br_n (by decide) ?_
            walk_at "u"
            refine j.tyO ?_
            walk_at "u"
            refine j.appO ho40 fun H4 j2 => ?_
            walk_at "u"
            refine ⟨_, _, _, _, _, j2, hrun, ?_, ?_, rfl⟩
            · exact Nat.le_trans (step_os (q := q') (many := many) (x := ⟨4, w, ix, y⟩)) (by omega)
            · exact (step_row (q := q') (many := many) (x := ⟨4, w, ix, y⟩)).trans hrow
          · obtain ⟨k, rfl, hk⟩ := nx (.inr (.inr rfl))
            refine br_y (by decide) ?_
            walk_at "u"
            try refine br_n (by omega) ?_
            walk_at "u"
            try refine br_n (by omega) ?_
            walk_at "u"
            refine j.ixR hk ?_
            walk_at "u"
            refine j.setK hw fun H4 j2 => ?_
            walk_at "u"
            refine ⟨_, _, _, _, _, j2, hrun, ?_, ?_, rfl⟩
            · exact Nat.le_trans (step_os (q := q') (many := many) (x := ⟨5, w, (k : Nat), y⟩)) (by omega)
            · exact (step_row (q := q') (many := many) (x := ⟨5, w, (k : Nat), y⟩)).trans hrow
      · rintro σ' H2 ⟨q', y8, y9, y10, y11, j, hrun, hos, hrow, rfl⟩
        rw [lus, List.drop_length] at hrun
        exact ⟨q', _, _, _, _, j, hrun, by omega, rfl⟩
    rintro σ' H2 ⟨q', y8, y9, y10, y11, j, hrun, hos, rfl⟩
    rw [hrun] at q
    walk_at "u"
    have hk := j.k
    refine r_ixL (SqL.of hk) (v := .int q'.k0) rfl ?_
    walk_at "u"
    refine r_tupleD (ds := q'.os.map D.int) (SqL.of j.o) (tdl_ints _) fun ut G5 s5 t5 => ?_
    walk_at "u"
    refine ⟨szl (by simp), fun p6 hp6 => ?_⟩
    obtain ⟨G6, g6, s6, t6⟩ := Td.lay (K := K) (ds := [.non, .int q'.k0, outD q'.os, .int (tk : Nat)]) hp6 (.cons .non (.cons (.int _) (.cons t5 (.cons (.int _) .nil))))
    rw [g6]
    walk_at "u"
    exact q _ _ ((SJ j).trans (s5.trans s6)) t6
end
section
variable {K : PySem.W.Frag} {vs : List V} {H : Hp} {Q : VK} {E : XK} {n : Nat}
theorem fit_outs {os : List Int} (h : os.length ≤ 60000) : D.fit 2 (outD os) = true := D.fit_tup.mpr ⟨by simpa using h, fun e he => by
  obtain ⟨i, _, rfl⟩ := List.mem_map.mp he
  exact D.fit_int⟩
theorem fit_res {fl : D} {k t : Int} {os : List Int} (h : D.fit 2 fl = true) (ho : os.length ≤ 60000) : D.fit 3 (.tup [fl, .int k, outD os, .int t]) = true :=
  D.fit_tup.mpr ⟨by simp, fun e he => by
    simp only [List.mem_cons, List.not_mem_nil, or_false] at he
    rcases he with rfl | rfl | rfl | rfl
    · exact h
    · exact D.fit_int
    · exact fit_outs ho
    · exact D.fit_int⟩
theorem due_shape {many : Nat} {start : Int} {ds : List Deed} {limit : Nat} (hd : ds.length ≤ 40) : ∃ fl k t os, dueD many start ds limit = .tup [fl, .int k, outD os, .int t] ∧ D.fit 3 (dueD many start ds limit) = true := by
  have hr := runM_row (many := many) ds (me0 many start)
  unfold dueD endM
  split
  · exact ⟨_, _, _, [], rfl, fit_res (os := []) (by decide +kernel) (by decide)⟩
  · cases hq : runM many ds (me0 many start) with
    | mk q o =>
      rw [hq] at hr
      have hos : q.os.length ≤ 60000 := by
        have := hr.2
        simp [me0] at this
        omega
      cases o with
      | none => exact ⟨_, _, _, _, rfl, fit_res (fl := .non) (by decide +kernel) hos⟩
      | some ix => exact ⟨_, _, _, _, rfl, fit_res (D.fit_tup.mpr ⟨by simp, fun e he => by
          simp only [List.mem_cons, List.not_mem_nil, or_false] at he
          rcases he with rfl | rfl | rfl
          · decide +kernel
          · decide +kernel
          · exact D.fit_int⟩) hos⟩
theorem deed_ok {many : Nat} {c : Int} : (deedOf many c).Ok many := by
  unfold deedOf
  refine ⟨?_, ?_, ?_⟩ <;> simp only
  · omega
  · omega
  · have h1 : 0 ≤ c / 24 % ((many : Nat) + 2 : Int) := Int.emod_nonneg _ (by omega)
    have h2 : c / 24 % ((many : Nat) + 2 : Int) < (many : Nat) + 2 := Int.emod_lt_of_pos _ (by omega)
    omega
theorem rd_law (h : sp_law K vs H Q E) : t_law K { nx := fun _ H' => Q .non H', rt := Q } (start n_law vs) H := by
  obtain ⟨A, ns, rfl, hA, hn, q⟩ := h
  unfold t_law
  walk_at "u"
  refine ⟨A, ns, 0, rfl, hA, hn, fun c => ?_⟩
  walk_at "u"
  refine r_pw (k := 30) (by decide) (z := 1073741824) (by decide) ?_
  walk_at "u"
  obtain ⟨many, hm⟩ : ∃ many : Nat, c % 13 = (many : Nat) := ⟨(c % 13).toNat, by omega⟩
  have hm12 : many ≤ 12 := by omega
  rw [hm]
  generalize c / 13 % 1073741824 = st
  refine r_slL hA fun B hB => ?_
  have ec : cutV (ns.map V.int) (some 1) (some 41) = ((ns.drop 1).take 40).map V.int := by
    have := cutV_nat (xs := ns.map V.int) (a := 1) (b := 41)
    rw [← List.map_drop, ← List.map_take] at this
    exact this
  rw [ec]
  obtain ⟨H1, e1, s1, eB⟩ := lay_new (o := .lst (((ns.drop 1).take 40).map V.int)) hB
  rw [e1]
  clear e1 ec hB
  walk_at "u"
  have hd40 : ((ns.drop 1).take 40).length ≤ 40 := by rw [List.length_take]; omega
  refine ⟨B, (ns.drop 1).take 40, many, rfl, SqL.of eB, hd40, fun p us H2 s2 hp2 hpu tus => ?_⟩
  generalize hds : ((ns.drop 1).take 40).map (deedOf many) = ds at tus
  have hd : ds.length ≤ 40 := by rw [← hds, List.length_map]; exact hd40
  have hx : ∀ x ∈ ds, x.Ok many := fun x hx => by
    rw [← hds] at hx
    obtain ⟨c, _, rfl⟩ := List.mem_map.mp hx
    exact deed_ok
  have lus : us.length = ds.length := by rw [tus.len, List.length_map]
  walk_at "u"
  rw [lus]
  walk_at "u"
  refine r_cut (fun σ' H' => H' = H2 ∧ ∃ lim : Nat, lim ≤ 200 ∧ σ' = [some (.ref A), some (.int c), some (.int (many : Nat)), some (.int st), some (.ref p), some (.int (lim : Nat)), none, none, none]) ?_ ?_
  · walk_at "u"
    refine r_pw (k := 30) (by decide) (z := 1073741824) (by decide) ?_
    walk_at "u"
    refine br_d (fun h1 => ?_) (fun h1 => ?_)
    · walk_at "u"
      refine r_pw (k := 32) (by decide) (z := 4294967296) (by decide) ?_
      walk_at "u"
      have h1 := Int.emod_nonneg (c / 13 / 4294967296) (b := (many : Nat) + (((ds.length : Nat) : Int) + 7) / 8 + 1) (by omega)
      have h2 := Int.emod_lt_of_pos (c / 13 / 4294967296) (b := (many : Nat) + (((ds.length : Nat) : Int) + 7) / 8 + 1) (by omega)
      generalize c / 13 / 4294967296 % ((many : Nat) + (((ds.length : Nat) : Int) + 7) / 8 + 1) = l at h1 h2
      refine ⟨rfl, l.toNat, by omega, ?_⟩
      rw [Int.toNat_of_nonneg h1]
      rfl
    · walk_at "u"
      refine ⟨rfl, many + (ds.length + 7) / 8, by omega, ?_⟩
      have : (((many + (ds.length + 7) / 8 : Nat)) : Int) = ((many : Nat) : Int) + (((ds.length : Nat) : Int) + 7) / 8 := by omega
      rw [this]
      rfl
  rintro σ' H3 ⟨rfl, lim, hlim, rfl⟩
  obtain ⟨fl, k, t, os, esh, hfit⟩ := due_shape (many := many) (start := st) (limit := lim) hd
  have hres : Res (progD (many : Nat) st ds) [] lim (dueD many st ds lim) := res_due hm12 hx hd
  walk_at "u"
  refine ⟨many, st, p, us, ds, rfl, hpu, tus, hd, hx, fun pv H4 s4 hpv => ?_⟩
  walk_at "u"
  refine r_callN ?_
  walk_at "u"
  refine ⟨szl (by simp), fun C hC => ?_⟩
  obtain ⟨H5, e5, s5, eC⟩ := lay_new (o := .lst []) hC
  rw [e5]
  walk_at "u"
  refine ⟨rfl, rfl, pv, C, _, _, [], lim, rfl, hpv.k (Same.tk s5), hlim, .inl (SqL.of eC), hres, fun v7 H7 s7 hv7 => ?_⟩
  have s37 := s4.trans (s5.trans s7)
  have hv7s := hv7
  rw [esh] at hv7s
  walk_at "u"
  walk_at "ui"
  refine r_isD_tuple true hv7s rfl ?_
  walk_at "u"
  refine r_lenD hv7s ?_
  walk_at "u"
  try refine br_ny (by simp) ?_
  walk_at "u"
  refine r_ixD (k := 1) hv7s rfl fun u hu => ?_
  have hu := hu.invI
  subst hu
  walk_at "u"
  refine ⟨many, st, p, us, ds, lim, rfl, s37 _ _ hpu, tus.k (Same.tk s37), hd, hx, hm12, fun v8 H8 s8 hv8 => ?_⟩
  walk_at "u"
  refine r_eqD (hv7.k (Same.tk s8)) hv8 hfit hfit (by decide) ?_
  rw [D.eqb_refl]
  walk_at "u"
  refine r_callN ?_
  walk_at "u"
  refine ⟨szl (by simp), fun C2 hC2 => ?_⟩
  obtain ⟨H9, e9, s9, eC2⟩ := lay_new (o := .tup []) hC2
  rw [e9]
  walk_at "u"
  refine ⟨rfl, rfl, pv, C2, _, _, [], lim, rfl, (hpv.k (Same.tk (s5.trans (s7.trans (s8.trans s9))))), hlim, .inr (SqT.of eC2), hres, fun v10 H10 s10 hv10 => ?_⟩
  walk_at "u"
  refine r_eqD hv10 (hv8.k (Same.tk (s9.trans s10))) hfit hfit (by decide) ?_
  rw [D.eqb_refl]
  exact q H10
end
section
variable {K : PySem.W.Frag} {vs : List V} {H : Hp} {Q : VK} {E : XK} {n : Nat}
theorem len_wrap (h : sp_wrap K vs H Q E) : vs.length = (["number"] : List Str).length := by
  first | (exact False.elim h) | (obtain ⟨rfl, _⟩ := h; rfl) | (obtain ⟨_, rfl, _⟩ := h; rfl) | (obtain ⟨_, _, rfl, _⟩ := h; rfl) | (obtain ⟨_, _, _, rfl, _⟩ := h; rfl) | (obtain ⟨_, _, _, _, rfl, _⟩ := h; rfl) | (obtain ⟨_, _, _, _, _, rfl, _⟩ := h; rfl) | (obtain ⟨_, _, _, _, _, _, rfl, _⟩ := h; rfl) | (obtain ⟨_, _, _, _, _, _, _, rfl, _⟩ := h; rfl) | (obtain ⟨_, _, _, _, _, _, _, _, rfl, _⟩ := h; rfl) | (obtain ⟨_, _, _, _, _, _, _, _, _, rfl, _⟩ := h; rfl) | (obtain ⟨_, _, _, _, _, _, _, _, _, _, rfl, _⟩ := h; rfl) | (obtain ⟨_, _, _, _, _, _, _, _, _, _, _, rfl, _⟩ := h; rfl) | (obtain ⟨_, _, _, _, _, _, _, _, _, _, _, _, rfl, _⟩ := h; rfl) | (obtain ⟨_, _, _, _, _, _, _, _, _, _, _, _, _, rfl, _⟩ := h; rfl) | (obtain ⟨_, _, _, _, _, _, _, _, _, _, _, _, _, _, rfl, _⟩ := h; rfl) | (obtain ⟨_, _, _, _, _, _, _, _, _, _, _, _, _, _, _, rfl, _⟩ := h; rfl) | (obtain ⟨_, _, _, _, _, _, _, _, _, _, _, _, _, _, _, _, rfl, _⟩ := h; rfl) | (obtain ⟨_, _, _, _, _, _, _, _, _, _, _, _, _, _, _, _, _, rfl, _⟩ := h; rfl)
theorem len_divide (h : sp_divide K vs H Q E) : vs.length = (["first", "second"] : List Str).length := by
  first | (exact False.elim h) | (obtain ⟨rfl, _⟩ := h; rfl) | (obtain ⟨_, rfl, _⟩ := h; rfl) | (obtain ⟨_, _, rfl, _⟩ := h; rfl) | (obtain ⟨_, _, _, rfl, _⟩ := h; rfl) | (obtain ⟨_, _, _, _, rfl, _⟩ := h; rfl) | (obtain ⟨_, _, _, _, _, rfl, _⟩ := h; rfl) | (obtain ⟨_, _, _, _, _, _, rfl, _⟩ := h; rfl) | (obtain ⟨_, _, _, _, _, _, _, rfl, _⟩ := h; rfl) | (obtain ⟨_, _, _, _, _, _, _, _, rfl, _⟩ := h; rfl) | (obtain ⟨_, _, _, _, _, _, _, _, _, rfl, _⟩ := h; rfl) | (obtain ⟨_, _, _, _, _, _, _, _, _, _, rfl, _⟩ := h; rfl) | (obtain ⟨_, _, _, _, _, _, _, _, _, _, _, rfl, _⟩ := h; rfl) | (obtain ⟨_, _, _, _, _, _, _, _, _, _, _, _, rfl, _⟩ := h; rfl) | (obtain ⟨_, _, _, _, _, _, _, _, _, _, _, _, _, rfl, _⟩ := h; rfl) | (obtain ⟨_, _, _, _, _, _, _, _, _, _, _, _, _, _, rfl, _⟩ := h; rfl) | (obtain ⟨_, _, _, _, _, _, _, _, _, _, _, _, _, _, _, rfl, _⟩ := h; rfl) | (obtain ⟨_, _, _, _, _, _, _, _, _, _, _, _, _, _, _, _, rfl, _⟩ := h; rfl) | (obtain ⟨_, _, _, _, _, _, _, _, _, _, _, _, _, _, _, _, _, rfl, _⟩ := h; rfl)
theorem len_remainder (h : sp_remainder K vs H Q E) : vs.length = (["first", "second"] : List Str).length := by
  first | (exact False.elim h) | (obtain ⟨rfl, _⟩ := h; rfl) | (obtain ⟨_, rfl, _⟩ := h; rfl) | (obtain ⟨_, _, rfl, _⟩ := h; rfl) | (obtain ⟨_, _, _, rfl, _⟩ := h; rfl) | (obtain ⟨_, _, _, _, rfl, _⟩ := h; rfl) | (obtain ⟨_, _, _, _, _, rfl, _⟩ := h; rfl) | (obtain ⟨_, _, _, _, _, _, rfl, _⟩ := h; rfl) | (obtain ⟨_, _, _, _, _, _, _, rfl, _⟩ := h; rfl) | (obtain ⟨_, _, _, _, _, _, _, _, rfl, _⟩ := h; rfl) | (obtain ⟨_, _, _, _, _, _, _, _, _, rfl, _⟩ := h; rfl) | (obtain ⟨_, _, _, _, _, _, _, _, _, _, rfl, _⟩ := h; rfl) | (obtain ⟨_, _, _, _, _, _, _, _, _, _, _, rfl, _⟩ := h; rfl) | (obtain ⟨_, _, _, _, _, _, _, _, _, _, _, _, rfl, _⟩ := h; rfl) | (obtain ⟨_, _, _, _, _, _, _, _, _, _, _, _, _, rfl, _⟩ := h; rfl) | (obtain ⟨_, _, _, _, _, _, _, _, _, _, _, _, _, _, rfl, _⟩ := h; rfl) | (obtain ⟨_, _, _, _, _, _, _, _, _, _, _, _, _, _, _, rfl, _⟩ := h; rfl) | (obtain ⟨_, _, _, _, _, _, _, _, _, _, _, _, _, _, _, _, rfl, _⟩ := h; rfl) | (obtain ⟨_, _, _, _, _, _, _, _, _, _, _, _, _, _, _, _, _, rfl, _⟩ := h; rfl)
theorem len_calculate (h : sp_calculate K vs H Q E) : vs.length = (["op", "first", "second"] : List Str).length := by
  first | (exact False.elim h) | (obtain ⟨rfl, _⟩ := h; rfl) | (obtain ⟨_, rfl, _⟩ := h; rfl) | (obtain ⟨_, _, rfl, _⟩ := h; rfl) | (obtain ⟨_, _, _, rfl, _⟩ := h; rfl) | (obtain ⟨_, _, _, _, rfl, _⟩ := h; rfl) | (obtain ⟨_, _, _, _, _, rfl, _⟩ := h; rfl) | (obtain ⟨_, _, _, _, _, _, rfl, _⟩ := h; rfl) | (obtain ⟨_, _, _, _, _, _, _, rfl, _⟩ := h; rfl) | (obtain ⟨_, _, _, _, _, _, _, _, rfl, _⟩ := h; rfl) | (obtain ⟨_, _, _, _, _, _, _, _, _, rfl, _⟩ := h; rfl) | (obtain ⟨_, _, _, _, _, _, _, _, _, _, rfl, _⟩ := h; rfl) | (obtain ⟨_, _, _, _, _, _, _, _, _, _, _, rfl, _⟩ := h; rfl) | (obtain ⟨_, _, _, _, _, _, _, _, _, _, _, _, rfl, _⟩ := h; rfl) | (obtain ⟨_, _, _, _, _, _, _, _, _, _, _, _, _, rfl, _⟩ := h; rfl) | (obtain ⟨_, _, _, _, _, _, _, _, _, _, _, _, _, _, rfl, _⟩ := h; rfl) | (obtain ⟨_, _, _, _, _, _, _, _, _, _, _, _, _, _, _, rfl, _⟩ := h; rfl) | (obtain ⟨_, _, _, _, _, _, _, _, _, _, _, _, _, _, _, _, rfl, _⟩ := h; rfl) | (obtain ⟨_, _, _, _, _, _, _, _, _, _, _, _, _, _, _, _, _, rfl, _⟩ := h; rfl)
theorem len_Evaluation___init__ (h : sp_Evaluation___init__ K vs H Q E) : vs.length = (["self", "program", "fuel"] : List Str).length := by
  first | (exact False.elim h) | (obtain ⟨rfl, _⟩ := h; rfl) | (obtain ⟨_, rfl, _⟩ := h; rfl) | (obtain ⟨_, _, rfl, _⟩ := h; rfl) | (obtain ⟨_, _, _, rfl, _⟩ := h; rfl) | (obtain ⟨_, _, _, _, rfl, _⟩ := h; rfl) | (obtain ⟨_, _, _, _, _, rfl, _⟩ := h; rfl) | (obtain ⟨_, _, _, _, _, _, rfl, _⟩ := h; rfl) | (obtain ⟨_, _, _, _, _, _, _, rfl, _⟩ := h; rfl) | (obtain ⟨_, _, _, _, _, _, _, _, rfl, _⟩ := h; rfl) | (obtain ⟨_, _, _, _, _, _, _, _, _, rfl, _⟩ := h; rfl) | (obtain ⟨_, _, _, _, _, _, _, _, _, _, rfl, _⟩ := h; rfl) | (obtain ⟨_, _, _, _, _, _, _, _, _, _, _, rfl, _⟩ := h; rfl) | (obtain ⟨_, _, _, _, _, _, _, _, _, _, _, _, rfl, _⟩ := h; rfl) | (obtain ⟨_, _, _, _, _, _, _, _, _, _, _, _, _, rfl, _⟩ := h; rfl) | (obtain ⟨_, _, _, _, _, _, _, _, _, _, _, _, _, _, rfl, _⟩ := h; rfl) | (obtain ⟨_, _, _, _, _, _, _, _, _, _, _, _, _, _, _, rfl, _⟩ := h; rfl) | (obtain ⟨_, _, _, _, _, _, _, _, _, _, _, _, _, _, _, _, rfl, _⟩ := h; rfl) | (obtain ⟨_, _, _, _, _, _, _, _, _, _, _, _, _, _, _, _, _, rfl, _⟩ := h; rfl)
theorem len_Evaluation_plan (h : sp_Evaluation_plan K vs H Q E) : vs.length = (["self", "name", "expression", "scope"] : List Str).length := by
  first | (exact False.elim h) | (obtain ⟨rfl, _⟩ := h; rfl) | (obtain ⟨_, rfl, _⟩ := h; rfl) | (obtain ⟨_, _, rfl, _⟩ := h; rfl) | (obtain ⟨_, _, _, rfl, _⟩ := h; rfl) | (obtain ⟨_, _, _, _, rfl, _⟩ := h; rfl) | (obtain ⟨_, _, _, _, _, rfl, _⟩ := h; rfl) | (obtain ⟨_, _, _, _, _, _, rfl, _⟩ := h; rfl) | (obtain ⟨_, _, _, _, _, _, _, rfl, _⟩ := h; rfl) | (obtain ⟨_, _, _, _, _, _, _, _, rfl, _⟩ := h; rfl) | (obtain ⟨_, _, _, _, _, _, _, _, _, rfl, _⟩ := h; rfl) | (obtain ⟨_, _, _, _, _, _, _, _, _, _, rfl, _⟩ := h; rfl) | (obtain ⟨_, _, _, _, _, _, _, _, _, _, _, rfl, _⟩ := h; rfl) | (obtain ⟨_, _, _, _, _, _, _, _, _, _, _, _, rfl, _⟩ := h; rfl) | (obtain ⟨_, _, _, _, _, _, _, _, _, _, _, _, _, rfl, _⟩ := h; rfl) | (obtain ⟨_, _, _, _, _, _, _, _, _, _, _, _, _, _, rfl, _⟩ := h; rfl) | (obtain ⟨_, _, _, _, _, _, _, _, _, _, _, _, _, _, _, rfl, _⟩ := h; rfl) | (obtain ⟨_, _, _, _, _, _, _, _, _, _, _, _, _, _, _, _, rfl, _⟩ := h; rfl) | (obtain ⟨_, _, _, _, _, _, _, _, _, _, _, _, _, _, _, _, _, rfl, _⟩ := h; rfl)
theorem len_Evaluation_spend (h : sp_Evaluation_spend K vs H Q E) : vs.length = (["self", "count"] : List Str).length := by
  first | (exact False.elim h) | (obtain ⟨rfl, _⟩ := h; rfl) | (obtain ⟨_, rfl, _⟩ := h; rfl) | (obtain ⟨_, _, rfl, _⟩ := h; rfl) | (obtain ⟨_, _, _, rfl, _⟩ := h; rfl) | (obtain ⟨_, _, _, _, rfl, _⟩ := h; rfl) | (obtain ⟨_, _, _, _, _, rfl, _⟩ := h; rfl) | (obtain ⟨_, _, _, _, _, _, rfl, _⟩ := h; rfl) | (obtain ⟨_, _, _, _, _, _, _, rfl, _⟩ := h; rfl) | (obtain ⟨_, _, _, _, _, _, _, _, rfl, _⟩ := h; rfl) | (obtain ⟨_, _, _, _, _, _, _, _, _, rfl, _⟩ := h; rfl) | (obtain ⟨_, _, _, _, _, _, _, _, _, _, rfl, _⟩ := h; rfl) | (obtain ⟨_, _, _, _, _, _, _, _, _, _, _, rfl, _⟩ := h; rfl) | (obtain ⟨_, _, _, _, _, _, _, _, _, _, _, _, rfl, _⟩ := h; rfl) | (obtain ⟨_, _, _, _, _, _, _, _, _, _, _, _, _, rfl, _⟩ := h; rfl) | (obtain ⟨_, _, _, _, _, _, _, _, _, _, _, _, _, _, rfl, _⟩ := h; rfl) | (obtain ⟨_, _, _, _, _, _, _, _, _, _, _, _, _, _, _, rfl, _⟩ := h; rfl) | (obtain ⟨_, _, _, _, _, _, _, _, _, _, _, _, _, _, _, _, rfl, _⟩ := h; rfl) | (obtain ⟨_, _, _, _, _, _, _, _, _, _, _, _, _, _, _, _, _, rfl, _⟩ := h; rfl)
theorem len_Evaluation_throw (h : sp_Evaluation_throw K vs H Q E) : vs.length = (["self", "number", "payload"] : List Str).length := by
  first | (exact False.elim h) | (obtain ⟨rfl, _⟩ := h; rfl) | (obtain ⟨_, rfl, _⟩ := h; rfl) | (obtain ⟨_, _, rfl, _⟩ := h; rfl) | (obtain ⟨_, _, _, rfl, _⟩ := h; rfl) | (obtain ⟨_, _, _, _, rfl, _⟩ := h; rfl) | (obtain ⟨_, _, _, _, _, rfl, _⟩ := h; rfl) | (obtain ⟨_, _, _, _, _, _, rfl, _⟩ := h; rfl) | (obtain ⟨_, _, _, _, _, _, _, rfl, _⟩ := h; rfl) | (obtain ⟨_, _, _, _, _, _, _, _, rfl, _⟩ := h; rfl) | (obtain ⟨_, _, _, _, _, _, _, _, _, rfl, _⟩ := h; rfl) | (obtain ⟨_, _, _, _, _, _, _, _, _, _, rfl, _⟩ := h; rfl) | (obtain ⟨_, _, _, _, _, _, _, _, _, _, _, rfl, _⟩ := h; rfl) | (obtain ⟨_, _, _, _, _, _, _, _, _, _, _, _, rfl, _⟩ := h; rfl) | (obtain ⟨_, _, _, _, _, _, _, _, _, _, _, _, _, rfl, _⟩ := h; rfl) | (obtain ⟨_, _, _, _, _, _, _, _, _, _, _, _, _, _, rfl, _⟩ := h; rfl) | (obtain ⟨_, _, _, _, _, _, _, _, _, _, _, _, _, _, _, rfl, _⟩ := h; rfl) | (obtain ⟨_, _, _, _, _, _, _, _, _, _, _, _, _, _, _, _, rfl, _⟩ := h; rfl) | (obtain ⟨_, _, _, _, _, _, _, _, _, _, _, _, _, _, _, _, _, rfl, _⟩ := h; rfl)
theorem len_Evaluation_finish (h : sp_Evaluation_finish K vs H Q E) : vs.length = (["self"] : List Str).length := by
  first | (exact False.elim h) | (obtain ⟨rfl, _⟩ := h; rfl) | (obtain ⟨_, rfl, _⟩ := h; rfl) | (obtain ⟨_, _, rfl, _⟩ := h; rfl) | (obtain ⟨_, _, _, rfl, _⟩ := h; rfl) | (obtain ⟨_, _, _, _, rfl, _⟩ := h; rfl) | (obtain ⟨_, _, _, _, _, rfl, _⟩ := h; rfl) | (obtain ⟨_, _, _, _, _, _, rfl, _⟩ := h; rfl) | (obtain ⟨_, _, _, _, _, _, _, rfl, _⟩ := h; rfl) | (obtain ⟨_, _, _, _, _, _, _, _, rfl, _⟩ := h; rfl) | (obtain ⟨_, _, _, _, _, _, _, _, _, rfl, _⟩ := h; rfl) | (obtain ⟨_, _, _, _, _, _, _, _, _, _, rfl, _⟩ := h; rfl) | (obtain ⟨_, _, _, _, _, _, _, _, _, _, _, rfl, _⟩ := h; rfl) | (obtain ⟨_, _, _, _, _, _, _, _, _, _, _, _, rfl, _⟩ := h; rfl) | (obtain ⟨_, _, _, _, _, _, _, _, _, _, _, _, _, rfl, _⟩ := h; rfl) | (obtain ⟨_, _, _, _, _, _, _, _, _, _, _, _, _, _, rfl, _⟩ := h; rfl) | (obtain ⟨_, _, _, _, _, _, _, _, _, _, _, _, _, _, _, rfl, _⟩ := h; rfl) | (obtain ⟨_, _, _, _, _, _, _, _, _, _, _, _, _, _, _, _, rfl, _⟩ := h; rfl) | (obtain ⟨_, _, _, _, _, _, _, _, _, _, _, _, _, _, _, _, _, rfl, _⟩ := h; rfl)
theorem len_find_variable (h : sp_find_variable K vs H Q E) : vs.length = (["scope", "name"] : List Str).length := by
  first | (exact False.elim h) | (obtain ⟨rfl, _⟩ := h; rfl) | (obtain ⟨_, rfl, _⟩ := h; rfl) | (obtain ⟨_, _, rfl, _⟩ := h; rfl) | (obtain ⟨_, _, _, rfl, _⟩ := h; rfl) | (obtain ⟨_, _, _, _, rfl, _⟩ := h; rfl) | (obtain ⟨_, _, _, _, _, rfl, _⟩ := h; rfl) | (obtain ⟨_, _, _, _, _, _, rfl, _⟩ := h; rfl) | (obtain ⟨_, _, _, _, _, _, _, rfl, _⟩ := h; rfl) | (obtain ⟨_, _, _, _, _, _, _, _, rfl, _⟩ := h; rfl) | (obtain ⟨_, _, _, _, _, _, _, _, _, rfl, _⟩ := h; rfl) | (obtain ⟨_, _, _, _, _, _, _, _, _, _, rfl, _⟩ := h; rfl) | (obtain ⟨_, _, _, _, _, _, _, _, _, _, _, rfl, _⟩ := h; rfl) | (obtain ⟨_, _, _, _, _, _, _, _, _, _, _, _, rfl, _⟩ := h; rfl) | (obtain ⟨_, _, _, _, _, _, _, _, _, _, _, _, _, rfl, _⟩ := h; rfl) | (obtain ⟨_, _, _, _, _, _, _, _, _, _, _, _, _, _, rfl, _⟩ := h; rfl) | (obtain ⟨_, _, _, _, _, _, _, _, _, _, _, _, _, _, _, rfl, _⟩ := h; rfl) | (obtain ⟨_, _, _, _, _, _, _, _, _, _, _, _, _, _, _, _, rfl, _⟩ := h; rfl) | (obtain ⟨_, _, _, _, _, _, _, _, _, _, _, _, _, _, _, _, _, rfl, _⟩ := h; rfl)
theorem len_evaluate (h : sp_evaluate K vs H Q E) : vs.length = (["state", "expression", "scope"] : List Str).length := by
  first | (exact False.elim h) | (obtain ⟨rfl, _⟩ := h; rfl) | (obtain ⟨_, rfl, _⟩ := h; rfl) | (obtain ⟨_, _, rfl, _⟩ := h; rfl) | (obtain ⟨_, _, _, rfl, _⟩ := h; rfl) | (obtain ⟨_, _, _, _, rfl, _⟩ := h; rfl) | (obtain ⟨_, _, _, _, _, rfl, _⟩ := h; rfl) | (obtain ⟨_, _, _, _, _, _, rfl, _⟩ := h; rfl) | (obtain ⟨_, _, _, _, _, _, _, rfl, _⟩ := h; rfl) | (obtain ⟨_, _, _, _, _, _, _, _, rfl, _⟩ := h; rfl) | (obtain ⟨_, _, _, _, _, _, _, _, _, rfl, _⟩ := h; rfl) | (obtain ⟨_, _, _, _, _, _, _, _, _, _, rfl, _⟩ := h; rfl) | (obtain ⟨_, _, _, _, _, _, _, _, _, _, _, rfl, _⟩ := h; rfl) | (obtain ⟨_, _, _, _, _, _, _, _, _, _, _, _, rfl, _⟩ := h; rfl) | (obtain ⟨_, _, _, _, _, _, _, _, _, _, _, _, _, rfl, _⟩ := h; rfl) | (obtain ⟨_, _, _, _, _, _, _, _, _, _, _, _, _, _, rfl, _⟩ := h; rfl) | (obtain ⟨_, _, _, _, _, _, _, _, _, _, _, _, _, _, _, rfl, _⟩ := h; rfl) | (obtain ⟨_, _, _, _, _, _, _, _, _, _, _, _, _, _, _, _, rfl, _⟩ := h; rfl) | (obtain ⟨_, _, _, _, _, _, _, _, _, _, _, _, _, _, _, _, _, rfl, _⟩ := h; rfl)
theorem len_continue_let (h : sp_continue_let K vs H Q E) : vs.length = (["state", "expression", "scope"] : List Str).length := by
  first | (exact False.elim h) | (obtain ⟨rfl, _⟩ := h; rfl) | (obtain ⟨_, rfl, _⟩ := h; rfl) | (obtain ⟨_, _, rfl, _⟩ := h; rfl) | (obtain ⟨_, _, _, rfl, _⟩ := h; rfl) | (obtain ⟨_, _, _, _, rfl, _⟩ := h; rfl) | (obtain ⟨_, _, _, _, _, rfl, _⟩ := h; rfl) | (obtain ⟨_, _, _, _, _, _, rfl, _⟩ := h; rfl) | (obtain ⟨_, _, _, _, _, _, _, rfl, _⟩ := h; rfl) | (obtain ⟨_, _, _, _, _, _, _, _, rfl, _⟩ := h; rfl) | (obtain ⟨_, _, _, _, _, _, _, _, _, rfl, _⟩ := h; rfl) | (obtain ⟨_, _, _, _, _, _, _, _, _, _, rfl, _⟩ := h; rfl) | (obtain ⟨_, _, _, _, _, _, _, _, _, _, _, rfl, _⟩ := h; rfl) | (obtain ⟨_, _, _, _, _, _, _, _, _, _, _, _, rfl, _⟩ := h; rfl) | (obtain ⟨_, _, _, _, _, _, _, _, _, _, _, _, _, rfl, _⟩ := h; rfl) | (obtain ⟨_, _, _, _, _, _, _, _, _, _, _, _, _, _, rfl, _⟩ := h; rfl) | (obtain ⟨_, _, _, _, _, _, _, _, _, _, _, _, _, _, _, rfl, _⟩ := h; rfl) | (obtain ⟨_, _, _, _, _, _, _, _, _, _, _, _, _, _, _, _, rfl, _⟩ := h; rfl) | (obtain ⟨_, _, _, _, _, _, _, _, _, _, _, _, _, _, _, _, _, rfl, _⟩ := h; rfl)
theorem len_continue_seq (h : sp_continue_seq K vs H Q E) : vs.length = (["state", "expression", "scope"] : List Str).length := by
  first | (exact False.elim h) | (obtain ⟨rfl, _⟩ := h; rfl) | (obtain ⟨_, rfl, _⟩ := h; rfl) | (obtain ⟨_, _, rfl, _⟩ := h; rfl) | (obtain ⟨_, _, _, rfl, _⟩ := h; rfl) | (obtain ⟨_, _, _, _, rfl, _⟩ := h; rfl) | (obtain ⟨_, _, _, _, _, rfl, _⟩ := h; rfl) | (obtain ⟨_, _, _, _, _, _, rfl, _⟩ := h; rfl) | (obtain ⟨_, _, _, _, _, _, _, rfl, _⟩ := h; rfl) | (obtain ⟨_, _, _, _, _, _, _, _, rfl, _⟩ := h; rfl) | (obtain ⟨_, _, _, _, _, _, _, _, _, rfl, _⟩ := h; rfl) | (obtain ⟨_, _, _, _, _, _, _, _, _, _, rfl, _⟩ := h; rfl) | (obtain ⟨_, _, _, _, _, _, _, _, _, _, _, rfl, _⟩ := h; rfl) | (obtain ⟨_, _, _, _, _, _, _, _, _, _, _, _, rfl, _⟩ := h; rfl) | (obtain ⟨_, _, _, _, _, _, _, _, _, _, _, _, _, rfl, _⟩ := h; rfl) | (obtain ⟨_, _, _, _, _, _, _, _, _, _, _, _, _, _, rfl, _⟩ := h; rfl) | (obtain ⟨_, _, _, _, _, _, _, _, _, _, _, _, _, _, _, rfl, _⟩ := h; rfl) | (obtain ⟨_, _, _, _, _, _, _, _, _, _, _, _, _, _, _, _, rfl, _⟩ := h; rfl) | (obtain ⟨_, _, _, _, _, _, _, _, _, _, _, _, _, _, _, _, _, rfl, _⟩ := h; rfl)
theorem len_continue_if (h : sp_continue_if K vs H Q E) : vs.length = (["state", "expression", "scope"] : List Str).length := by
  first | (exact False.elim h) | (obtain ⟨rfl, _⟩ := h; rfl) | (obtain ⟨_, rfl, _⟩ := h; rfl) | (obtain ⟨_, _, rfl, _⟩ := h; rfl) | (obtain ⟨_, _, _, rfl, _⟩ := h; rfl) | (obtain ⟨_, _, _, _, rfl, _⟩ := h; rfl) | (obtain ⟨_, _, _, _, _, rfl, _⟩ := h; rfl) | (obtain ⟨_, _, _, _, _, _, rfl, _⟩ := h; rfl) | (obtain ⟨_, _, _, _, _, _, _, rfl, _⟩ := h; rfl) | (obtain ⟨_, _, _, _, _, _, _, _, rfl, _⟩ := h; rfl) | (obtain ⟨_, _, _, _, _, _, _, _, _, rfl, _⟩ := h; rfl) | (obtain ⟨_, _, _, _, _, _, _, _, _, _, rfl, _⟩ := h; rfl) | (obtain ⟨_, _, _, _, _, _, _, _, _, _, _, rfl, _⟩ := h; rfl) | (obtain ⟨_, _, _, _, _, _, _, _, _, _, _, _, rfl, _⟩ := h; rfl) | (obtain ⟨_, _, _, _, _, _, _, _, _, _, _, _, _, rfl, _⟩ := h; rfl) | (obtain ⟨_, _, _, _, _, _, _, _, _, _, _, _, _, _, rfl, _⟩ := h; rfl) | (obtain ⟨_, _, _, _, _, _, _, _, _, _, _, _, _, _, _, rfl, _⟩ := h; rfl) | (obtain ⟨_, _, _, _, _, _, _, _, _, _, _, _, _, _, _, _, rfl, _⟩ := h; rfl) | (obtain ⟨_, _, _, _, _, _, _, _, _, _, _, _, _, _, _, _, _, rfl, _⟩ := h; rfl)
theorem len_continue_case (h : sp_continue_case K vs H Q E) : vs.length = (["state", "expression", "scope"] : List Str).length := by
  first | (exact False.elim h) | (obtain ⟨rfl, _⟩ := h; rfl) | (obtain ⟨_, rfl, _⟩ := h; rfl) | (obtain ⟨_, _, rfl, _⟩ := h; rfl) | (obtain ⟨_, _, _, rfl, _⟩ := h; rfl) | (obtain ⟨_, _, _, _, rfl, _⟩ := h; rfl) | (obtain ⟨_, _, _, _, _, rfl, _⟩ := h; rfl) | (obtain ⟨_, _, _, _, _, _, rfl, _⟩ := h; rfl) | (obtain ⟨_, _, _, _, _, _, _, rfl, _⟩ := h; rfl) | (obtain ⟨_, _, _, _, _, _, _, _, rfl, _⟩ := h; rfl) | (obtain ⟨_, _, _, _, _, _, _, _, _, rfl, _⟩ := h; rfl) | (obtain ⟨_, _, _, _, _, _, _, _, _, _, rfl, _⟩ := h; rfl) | (obtain ⟨_, _, _, _, _, _, _, _, _, _, _, rfl, _⟩ := h; rfl) | (obtain ⟨_, _, _, _, _, _, _, _, _, _, _, _, rfl, _⟩ := h; rfl) | (obtain ⟨_, _, _, _, _, _, _, _, _, _, _, _, _, rfl, _⟩ := h; rfl) | (obtain ⟨_, _, _, _, _, _, _, _, _, _, _, _, _, _, rfl, _⟩ := h; rfl) | (obtain ⟨_, _, _, _, _, _, _, _, _, _, _, _, _, _, _, rfl, _⟩ := h; rfl) | (obtain ⟨_, _, _, _, _, _, _, _, _, _, _, _, _, _, _, _, rfl, _⟩ := h; rfl) | (obtain ⟨_, _, _, _, _, _, _, _, _, _, _, _, _, _, _, _, _, rfl, _⟩ := h; rfl)
theorem len_leave (h : sp_leave K vs H Q E) : vs.length = (["state", "expression", "scope"] : List Str).length := by
  first | (exact False.elim h) | (obtain ⟨rfl, _⟩ := h; rfl) | (obtain ⟨_, rfl, _⟩ := h; rfl) | (obtain ⟨_, _, rfl, _⟩ := h; rfl) | (obtain ⟨_, _, _, rfl, _⟩ := h; rfl) | (obtain ⟨_, _, _, _, rfl, _⟩ := h; rfl) | (obtain ⟨_, _, _, _, _, rfl, _⟩ := h; rfl) | (obtain ⟨_, _, _, _, _, _, rfl, _⟩ := h; rfl) | (obtain ⟨_, _, _, _, _, _, _, rfl, _⟩ := h; rfl) | (obtain ⟨_, _, _, _, _, _, _, _, rfl, _⟩ := h; rfl) | (obtain ⟨_, _, _, _, _, _, _, _, _, rfl, _⟩ := h; rfl) | (obtain ⟨_, _, _, _, _, _, _, _, _, _, rfl, _⟩ := h; rfl) | (obtain ⟨_, _, _, _, _, _, _, _, _, _, _, rfl, _⟩ := h; rfl) | (obtain ⟨_, _, _, _, _, _, _, _, _, _, _, _, rfl, _⟩ := h; rfl) | (obtain ⟨_, _, _, _, _, _, _, _, _, _, _, _, _, rfl, _⟩ := h; rfl) | (obtain ⟨_, _, _, _, _, _, _, _, _, _, _, _, _, _, rfl, _⟩ := h; rfl) | (obtain ⟨_, _, _, _, _, _, _, _, _, _, _, _, _, _, _, rfl, _⟩ := h; rfl) | (obtain ⟨_, _, _, _, _, _, _, _, _, _, _, _, _, _, _, _, rfl, _⟩ := h; rfl) | (obtain ⟨_, _, _, _, _, _, _, _, _, _, _, _, _, _, _, _, _, rfl, _⟩ := h; rfl)
theorem len_compute (h : sp_compute K vs H Q E) : vs.length = (["state", "expression", "scope"] : List Str).length := by
  first | (exact False.elim h) | (obtain ⟨rfl, _⟩ := h; rfl) | (obtain ⟨_, rfl, _⟩ := h; rfl) | (obtain ⟨_, _, rfl, _⟩ := h; rfl) | (obtain ⟨_, _, _, rfl, _⟩ := h; rfl) | (obtain ⟨_, _, _, _, rfl, _⟩ := h; rfl) | (obtain ⟨_, _, _, _, _, rfl, _⟩ := h; rfl) | (obtain ⟨_, _, _, _, _, _, rfl, _⟩ := h; rfl) | (obtain ⟨_, _, _, _, _, _, _, rfl, _⟩ := h; rfl) | (obtain ⟨_, _, _, _, _, _, _, _, rfl, _⟩ := h; rfl) | (obtain ⟨_, _, _, _, _, _, _, _, _, rfl, _⟩ := h; rfl) | (obtain ⟨_, _, _, _, _, _, _, _, _, _, rfl, _⟩ := h; rfl) | (obtain ⟨_, _, _, _, _, _, _, _, _, _, _, rfl, _⟩ := h; rfl) | (obtain ⟨_, _, _, _, _, _, _, _, _, _, _, _, rfl, _⟩ := h; rfl) | (obtain ⟨_, _, _, _, _, _, _, _, _, _, _, _, _, rfl, _⟩ := h; rfl) | (obtain ⟨_, _, _, _, _, _, _, _, _, _, _, _, _, _, rfl, _⟩ := h; rfl) | (obtain ⟨_, _, _, _, _, _, _, _, _, _, _, _, _, _, _, rfl, _⟩ := h; rfl) | (obtain ⟨_, _, _, _, _, _, _, _, _, _, _, _, _, _, _, _, rfl, _⟩ := h; rfl) | (obtain ⟨_, _, _, _, _, _, _, _, _, _, _, _, _, _, _, _, _, rfl, _⟩ := h; rfl)
theorem len_enter (h : sp_enter K vs H Q E) : vs.length = (["state", "op", "info", "given"] : List Str).length := by
  first | (exact False.elim h) | (obtain ⟨rfl, _⟩ := h; rfl) | (obtain ⟨_, rfl, _⟩ := h; rfl) | (obtain ⟨_, _, rfl, _⟩ := h; rfl) | (obtain ⟨_, _, _, rfl, _⟩ := h; rfl) | (obtain ⟨_, _, _, _, rfl, _⟩ := h; rfl) | (obtain ⟨_, _, _, _, _, rfl, _⟩ := h; rfl) | (obtain ⟨_, _, _, _, _, _, rfl, _⟩ := h; rfl) | (obtain ⟨_, _, _, _, _, _, _, rfl, _⟩ := h; rfl) | (obtain ⟨_, _, _, _, _, _, _, _, rfl, _⟩ := h; rfl) | (obtain ⟨_, _, _, _, _, _, _, _, _, rfl, _⟩ := h; rfl) | (obtain ⟨_, _, _, _, _, _, _, _, _, _, rfl, _⟩ := h; rfl) | (obtain ⟨_, _, _, _, _, _, _, _, _, _, _, rfl, _⟩ := h; rfl) | (obtain ⟨_, _, _, _, _, _, _, _, _, _, _, _, rfl, _⟩ := h; rfl) | (obtain ⟨_, _, _, _, _, _, _, _, _, _, _, _, _, rfl, _⟩ := h; rfl) | (obtain ⟨_, _, _, _, _, _, _, _, _, _, _, _, _, _, rfl, _⟩ := h; rfl) | (obtain ⟨_, _, _, _, _, _, _, _, _, _, _, _, _, _, _, rfl, _⟩ := h; rfl) | (obtain ⟨_, _, _, _, _, _, _, _, _, _, _, _, _, _, _, _, rfl, _⟩ := h; rfl) | (obtain ⟨_, _, _, _, _, _, _, _, _, _, _, _, _, _, _, _, _, rfl, _⟩ := h; rfl)
theorem len_compute_ref (h : sp_compute_ref K vs H Q E) : vs.length = (["state", "op", "given"] : List Str).length := by
  first | (exact False.elim h) | (obtain ⟨rfl, _⟩ := h; rfl) | (obtain ⟨_, rfl, _⟩ := h; rfl) | (obtain ⟨_, _, rfl, _⟩ := h; rfl) | (obtain ⟨_, _, _, rfl, _⟩ := h; rfl) | (obtain ⟨_, _, _, _, rfl, _⟩ := h; rfl) | (obtain ⟨_, _, _, _, _, rfl, _⟩ := h; rfl) | (obtain ⟨_, _, _, _, _, _, rfl, _⟩ := h; rfl) | (obtain ⟨_, _, _, _, _, _, _, rfl, _⟩ := h; rfl) | (obtain ⟨_, _, _, _, _, _, _, _, rfl, _⟩ := h; rfl) | (obtain ⟨_, _, _, _, _, _, _, _, _, rfl, _⟩ := h; rfl) | (obtain ⟨_, _, _, _, _, _, _, _, _, _, rfl, _⟩ := h; rfl) | (obtain ⟨_, _, _, _, _, _, _, _, _, _, _, rfl, _⟩ := h; rfl) | (obtain ⟨_, _, _, _, _, _, _, _, _, _, _, _, rfl, _⟩ := h; rfl) | (obtain ⟨_, _, _, _, _, _, _, _, _, _, _, _, _, rfl, _⟩ := h; rfl) | (obtain ⟨_, _, _, _, _, _, _, _, _, _, _, _, _, _, rfl, _⟩ := h; rfl) | (obtain ⟨_, _, _, _, _, _, _, _, _, _, _, _, _, _, _, rfl, _⟩ := h; rfl) | (obtain ⟨_, _, _, _, _, _, _, _, _, _, _, _, _, _, _, _, rfl, _⟩ := h; rfl) | (obtain ⟨_, _, _, _, _, _, _, _, _, _, _, _, _, _, _, _, _, rfl, _⟩ := h; rfl)
theorem len_compute_array (h : sp_compute_array K vs H Q E) : vs.length = (["state", "op", "given"] : List Str).length := by
  first | (exact False.elim h) | (obtain ⟨rfl, _⟩ := h; rfl) | (obtain ⟨_, rfl, _⟩ := h; rfl) | (obtain ⟨_, _, rfl, _⟩ := h; rfl) | (obtain ⟨_, _, _, rfl, _⟩ := h; rfl) | (obtain ⟨_, _, _, _, rfl, _⟩ := h; rfl) | (obtain ⟨_, _, _, _, _, rfl, _⟩ := h; rfl) | (obtain ⟨_, _, _, _, _, _, rfl, _⟩ := h; rfl) | (obtain ⟨_, _, _, _, _, _, _, rfl, _⟩ := h; rfl) | (obtain ⟨_, _, _, _, _, _, _, _, rfl, _⟩ := h; rfl) | (obtain ⟨_, _, _, _, _, _, _, _, _, rfl, _⟩ := h; rfl) | (obtain ⟨_, _, _, _, _, _, _, _, _, _, rfl, _⟩ := h; rfl) | (obtain ⟨_, _, _, _, _, _, _, _, _, _, _, rfl, _⟩ := h; rfl) | (obtain ⟨_, _, _, _, _, _, _, _, _, _, _, _, rfl, _⟩ := h; rfl) | (obtain ⟨_, _, _, _, _, _, _, _, _, _, _, _, _, rfl, _⟩ := h; rfl) | (obtain ⟨_, _, _, _, _, _, _, _, _, _, _, _, _, _, rfl, _⟩ := h; rfl) | (obtain ⟨_, _, _, _, _, _, _, _, _, _, _, _, _, _, _, rfl, _⟩ := h; rfl) | (obtain ⟨_, _, _, _, _, _, _, _, _, _, _, _, _, _, _, _, rfl, _⟩ := h; rfl) | (obtain ⟨_, _, _, _, _, _, _, _, _, _, _, _, _, _, _, _, _, rfl, _⟩ := h; rfl)
theorem len_run (h : sp_run K vs H Q E) : vs.length = (["program", "arguments", "fuel"] : List Str).length := by
  first | (exact False.elim h) | (obtain ⟨rfl, _⟩ := h; rfl) | (obtain ⟨_, rfl, _⟩ := h; rfl) | (obtain ⟨_, _, rfl, _⟩ := h; rfl) | (obtain ⟨_, _, _, rfl, _⟩ := h; rfl) | (obtain ⟨_, _, _, _, rfl, _⟩ := h; rfl) | (obtain ⟨_, _, _, _, _, rfl, _⟩ := h; rfl) | (obtain ⟨_, _, _, _, _, _, rfl, _⟩ := h; rfl) | (obtain ⟨_, _, _, _, _, _, _, rfl, _⟩ := h; rfl) | (obtain ⟨_, _, _, _, _, _, _, _, rfl, _⟩ := h; rfl) | (obtain ⟨_, _, _, _, _, _, _, _, _, rfl, _⟩ := h; rfl) | (obtain ⟨_, _, _, _, _, _, _, _, _, _, rfl, _⟩ := h; rfl) | (obtain ⟨_, _, _, _, _, _, _, _, _, _, _, rfl, _⟩ := h; rfl) | (obtain ⟨_, _, _, _, _, _, _, _, _, _, _, _, rfl, _⟩ := h; rfl) | (obtain ⟨_, _, _, _, _, _, _, _, _, _, _, _, _, rfl, _⟩ := h; rfl) | (obtain ⟨_, _, _, _, _, _, _, _, _, _, _, _, _, _, rfl, _⟩ := h; rfl) | (obtain ⟨_, _, _, _, _, _, _, _, _, _, _, _, _, _, _, rfl, _⟩ := h; rfl) | (obtain ⟨_, _, _, _, _, _, _, _, _, _, _, _, _, _, _, _, rfl, _⟩ := h; rfl) | (obtain ⟨_, _, _, _, _, _, _, _, _, _, _, _, _, _, _, _, _, rfl, _⟩ := h; rfl)
theorem len_l_cell (h : sp_l_cell K vs H Q E) : vs.length = (["_law_script", "_law_at"] : List Str).length := by
  first | (exact False.elim h) | (obtain ⟨rfl, _⟩ := h; rfl) | (obtain ⟨_, rfl, _⟩ := h; rfl) | (obtain ⟨_, _, rfl, _⟩ := h; rfl) | (obtain ⟨_, _, _, rfl, _⟩ := h; rfl) | (obtain ⟨_, _, _, _, rfl, _⟩ := h; rfl) | (obtain ⟨_, _, _, _, _, rfl, _⟩ := h; rfl) | (obtain ⟨_, _, _, _, _, _, rfl, _⟩ := h; rfl) | (obtain ⟨_, _, _, _, _, _, _, rfl, _⟩ := h; rfl) | (obtain ⟨_, _, _, _, _, _, _, _, rfl, _⟩ := h; rfl) | (obtain ⟨_, _, _, _, _, _, _, _, _, rfl, _⟩ := h; rfl) | (obtain ⟨_, _, _, _, _, _, _, _, _, _, rfl, _⟩ := h; rfl) | (obtain ⟨_, _, _, _, _, _, _, _, _, _, _, rfl, _⟩ := h; rfl) | (obtain ⟨_, _, _, _, _, _, _, _, _, _, _, _, rfl, _⟩ := h; rfl) | (obtain ⟨_, _, _, _, _, _, _, _, _, _, _, _, _, rfl, _⟩ := h; rfl) | (obtain ⟨_, _, _, _, _, _, _, _, _, _, _, _, _, _, rfl, _⟩ := h; rfl) | (obtain ⟨_, _, _, _, _, _, _, _, _, _, _, _, _, _, _, rfl, _⟩ := h; rfl) | (obtain ⟨_, _, _, _, _, _, _, _, _, _, _, _, _, _, _, _, rfl, _⟩ := h; rfl) | (obtain ⟨_, _, _, _, _, _, _, _, _, _, _, _, _, _, _, _, _, rfl, _⟩ := h; rfl)
theorem len_l_whole (h : sp_l_whole K vs H Q E) : vs.length = ([] : List Str).length := by
  first | (exact False.elim h) | (obtain ⟨rfl, _⟩ := h; rfl) | (obtain ⟨_, rfl, _⟩ := h; rfl) | (obtain ⟨_, _, rfl, _⟩ := h; rfl) | (obtain ⟨_, _, _, rfl, _⟩ := h; rfl) | (obtain ⟨_, _, _, _, rfl, _⟩ := h; rfl) | (obtain ⟨_, _, _, _, _, rfl, _⟩ := h; rfl) | (obtain ⟨_, _, _, _, _, _, rfl, _⟩ := h; rfl) | (obtain ⟨_, _, _, _, _, _, _, rfl, _⟩ := h; rfl) | (obtain ⟨_, _, _, _, _, _, _, _, rfl, _⟩ := h; rfl) | (obtain ⟨_, _, _, _, _, _, _, _, _, rfl, _⟩ := h; rfl) | (obtain ⟨_, _, _, _, _, _, _, _, _, _, rfl, _⟩ := h; rfl) | (obtain ⟨_, _, _, _, _, _, _, _, _, _, _, rfl, _⟩ := h; rfl) | (obtain ⟨_, _, _, _, _, _, _, _, _, _, _, _, rfl, _⟩ := h; rfl) | (obtain ⟨_, _, _, _, _, _, _, _, _, _, _, _, _, rfl, _⟩ := h; rfl) | (obtain ⟨_, _, _, _, _, _, _, _, _, _, _, _, _, _, rfl, _⟩ := h; rfl) | (obtain ⟨_, _, _, _, _, _, _, _, _, _, _, _, _, _, _, rfl, _⟩ := h; rfl) | (obtain ⟨_, _, _, _, _, _, _, _, _, _, _, _, _, _, _, _, rfl, _⟩ := h; rfl) | (obtain ⟨_, _, _, _, _, _, _, _, _, _, _, _, _, _, _, _, _, rfl, _⟩ := h; rfl)
theorem len_l_int (h : sp_l_int K vs H Q E) : vs.length = (["_law_value"] : List Str).length := by
  first | (exact False.elim h) | (obtain ⟨rfl, _⟩ := h; rfl) | (obtain ⟨_, rfl, _⟩ := h; rfl) | (obtain ⟨_, _, rfl, _⟩ := h; rfl) | (obtain ⟨_, _, _, rfl, _⟩ := h; rfl) | (obtain ⟨_, _, _, _, rfl, _⟩ := h; rfl) | (obtain ⟨_, _, _, _, _, rfl, _⟩ := h; rfl) | (obtain ⟨_, _, _, _, _, _, rfl, _⟩ := h; rfl) | (obtain ⟨_, _, _, _, _, _, _, rfl, _⟩ := h; rfl) | (obtain ⟨_, _, _, _, _, _, _, _, rfl, _⟩ := h; rfl) | (obtain ⟨_, _, _, _, _, _, _, _, _, rfl, _⟩ := h; rfl) | (obtain ⟨_, _, _, _, _, _, _, _, _, _, rfl, _⟩ := h; rfl) | (obtain ⟨_, _, _, _, _, _, _, _, _, _, _, rfl, _⟩ := h; rfl) | (obtain ⟨_, _, _, _, _, _, _, _, _, _, _, _, rfl, _⟩ := h; rfl) | (obtain ⟨_, _, _, _, _, _, _, _, _, _, _, _, _, rfl, _⟩ := h; rfl) | (obtain ⟨_, _, _, _, _, _, _, _, _, _, _, _, _, _, rfl, _⟩ := h; rfl) | (obtain ⟨_, _, _, _, _, _, _, _, _, _, _, _, _, _, _, rfl, _⟩ := h; rfl) | (obtain ⟨_, _, _, _, _, _, _, _, _, _, _, _, _, _, _, _, rfl, _⟩ := h; rfl) | (obtain ⟨_, _, _, _, _, _, _, _, _, _, _, _, _, _, _, _, _, rfl, _⟩ := h; rfl)
theorem len_l_name (h : sp_l_name K vs H Q E) : vs.length = (["_law_kind", "_law_name_here"] : List Str).length := by
  first | (exact False.elim h) | (obtain ⟨rfl, _⟩ := h; rfl) | (obtain ⟨_, rfl, _⟩ := h; rfl) | (obtain ⟨_, _, rfl, _⟩ := h; rfl) | (obtain ⟨_, _, _, rfl, _⟩ := h; rfl) | (obtain ⟨_, _, _, _, rfl, _⟩ := h; rfl) | (obtain ⟨_, _, _, _, _, rfl, _⟩ := h; rfl) | (obtain ⟨_, _, _, _, _, _, rfl, _⟩ := h; rfl) | (obtain ⟨_, _, _, _, _, _, _, rfl, _⟩ := h; rfl) | (obtain ⟨_, _, _, _, _, _, _, _, rfl, _⟩ := h; rfl) | (obtain ⟨_, _, _, _, _, _, _, _, _, rfl, _⟩ := h; rfl) | (obtain ⟨_, _, _, _, _, _, _, _, _, _, rfl, _⟩ := h; rfl) | (obtain ⟨_, _, _, _, _, _, _, _, _, _, _, rfl, _⟩ := h; rfl) | (obtain ⟨_, _, _, _, _, _, _, _, _, _, _, _, rfl, _⟩ := h; rfl) | (obtain ⟨_, _, _, _, _, _, _, _, _, _, _, _, _, rfl, _⟩ := h; rfl) | (obtain ⟨_, _, _, _, _, _, _, _, _, _, _, _, _, _, rfl, _⟩ := h; rfl) | (obtain ⟨_, _, _, _, _, _, _, _, _, _, _, _, _, _, _, rfl, _⟩ := h; rfl) | (obtain ⟨_, _, _, _, _, _, _, _, _, _, _, _, _, _, _, _, rfl, _⟩ := h; rfl) | (obtain ⟨_, _, _, _, _, _, _, _, _, _, _, _, _, _, _, _, _, rfl, _⟩ := h; rfl)
theorem len_l_seq (h : sp_l_seq K vs H Q E) : vs.length = (["_law_first", "_law_second"] : List Str).length := by
  first | (exact False.elim h) | (obtain ⟨rfl, _⟩ := h; rfl) | (obtain ⟨_, rfl, _⟩ := h; rfl) | (obtain ⟨_, _, rfl, _⟩ := h; rfl) | (obtain ⟨_, _, _, rfl, _⟩ := h; rfl) | (obtain ⟨_, _, _, _, rfl, _⟩ := h; rfl) | (obtain ⟨_, _, _, _, _, rfl, _⟩ := h; rfl) | (obtain ⟨_, _, _, _, _, _, rfl, _⟩ := h; rfl) | (obtain ⟨_, _, _, _, _, _, _, rfl, _⟩ := h; rfl) | (obtain ⟨_, _, _, _, _, _, _, _, rfl, _⟩ := h; rfl) | (obtain ⟨_, _, _, _, _, _, _, _, _, rfl, _⟩ := h; rfl) | (obtain ⟨_, _, _, _, _, _, _, _, _, _, rfl, _⟩ := h; rfl) | (obtain ⟨_, _, _, _, _, _, _, _, _, _, _, rfl, _⟩ := h; rfl) | (obtain ⟨_, _, _, _, _, _, _, _, _, _, _, _, rfl, _⟩ := h; rfl) | (obtain ⟨_, _, _, _, _, _, _, _, _, _, _, _, _, rfl, _⟩ := h; rfl) | (obtain ⟨_, _, _, _, _, _, _, _, _, _, _, _, _, _, rfl, _⟩ := h; rfl) | (obtain ⟨_, _, _, _, _, _, _, _, _, _, _, _, _, _, _, rfl, _⟩ := h; rfl) | (obtain ⟨_, _, _, _, _, _, _, _, _, _, _, _, _, _, _, _, rfl, _⟩ := h; rfl) | (obtain ⟨_, _, _, _, _, _, _, _, _, _, _, _, _, _, _, _, _, rfl, _⟩ := h; rfl)
theorem len_l_let (h : sp_l_let K vs H Q E) : vs.length = (["_law_name_here", "_law_value", "_law_body"] : List Str).length := by
  first | (exact False.elim h) | (obtain ⟨rfl, _⟩ := h; rfl) | (obtain ⟨_, rfl, _⟩ := h; rfl) | (obtain ⟨_, _, rfl, _⟩ := h; rfl) | (obtain ⟨_, _, _, rfl, _⟩ := h; rfl) | (obtain ⟨_, _, _, _, rfl, _⟩ := h; rfl) | (obtain ⟨_, _, _, _, _, rfl, _⟩ := h; rfl) | (obtain ⟨_, _, _, _, _, _, rfl, _⟩ := h; rfl) | (obtain ⟨_, _, _, _, _, _, _, rfl, _⟩ := h; rfl) | (obtain ⟨_, _, _, _, _, _, _, _, rfl, _⟩ := h; rfl) | (obtain ⟨_, _, _, _, _, _, _, _, _, rfl, _⟩ := h; rfl) | (obtain ⟨_, _, _, _, _, _, _, _, _, _, rfl, _⟩ := h; rfl) | (obtain ⟨_, _, _, _, _, _, _, _, _, _, _, rfl, _⟩ := h; rfl) | (obtain ⟨_, _, _, _, _, _, _, _, _, _, _, _, rfl, _⟩ := h; rfl) | (obtain ⟨_, _, _, _, _, _, _, _, _, _, _, _, _, rfl, _⟩ := h; rfl) | (obtain ⟨_, _, _, _, _, _, _, _, _, _, _, _, _, _, rfl, _⟩ := h; rfl) | (obtain ⟨_, _, _, _, _, _, _, _, _, _, _, _, _, _, _, rfl, _⟩ := h; rfl) | (obtain ⟨_, _, _, _, _, _, _, _, _, _, _, _, _, _, _, _, rfl, _⟩ := h; rfl) | (obtain ⟨_, _, _, _, _, _, _, _, _, _, _, _, _, _, _, _, _, rfl, _⟩ := h; rfl)
theorem len_l_deeds (h : sp_l_deeds K vs H Q E) : vs.length = (["_law_cells", "_law_many"] : List Str).length := by
  first | (exact False.elim h) | (obtain ⟨rfl, _⟩ := h; rfl) | (obtain ⟨_, rfl, _⟩ := h; rfl) | (obtain ⟨_, _, rfl, _⟩ := h; rfl) | (obtain ⟨_, _, _, rfl, _⟩ := h; rfl) | (obtain ⟨_, _, _, _, rfl, _⟩ := h; rfl) | (obtain ⟨_, _, _, _, _, rfl, _⟩ := h; rfl) | (obtain ⟨_, _, _, _, _, _, rfl, _⟩ := h; rfl) | (obtain ⟨_, _, _, _, _, _, _, rfl, _⟩ := h; rfl) | (obtain ⟨_, _, _, _, _, _, _, _, rfl, _⟩ := h; rfl) | (obtain ⟨_, _, _, _, _, _, _, _, _, rfl, _⟩ := h; rfl) | (obtain ⟨_, _, _, _, _, _, _, _, _, _, rfl, _⟩ := h; rfl) | (obtain ⟨_, _, _, _, _, _, _, _, _, _, _, rfl, _⟩ := h; rfl) | (obtain ⟨_, _, _, _, _, _, _, _, _, _, _, _, rfl, _⟩ := h; rfl) | (obtain ⟨_, _, _, _, _, _, _, _, _, _, _, _, _, rfl, _⟩ := h; rfl) | (obtain ⟨_, _, _, _, _, _, _, _, _, _, _, _, _, _, rfl, _⟩ := h; rfl) | (obtain ⟨_, _, _, _, _, _, _, _, _, _, _, _, _, _, _, rfl, _⟩ := h; rfl) | (obtain ⟨_, _, _, _, _, _, _, _, _, _, _, _, _, _, _, _, rfl, _⟩ := h; rfl) | (obtain ⟨_, _, _, _, _, _, _, _, _, _, _, _, _, _, _, _, _, rfl, _⟩ := h; rfl)
theorem len_l_print (h : sp_l_print K vs H Q E) : vs.length = (["_law_kid"] : List Str).length := by
  first | (exact False.elim h) | (obtain ⟨rfl, _⟩ := h; rfl) | (obtain ⟨_, rfl, _⟩ := h; rfl) | (obtain ⟨_, _, rfl, _⟩ := h; rfl) | (obtain ⟨_, _, _, rfl, _⟩ := h; rfl) | (obtain ⟨_, _, _, _, rfl, _⟩ := h; rfl) | (obtain ⟨_, _, _, _, _, rfl, _⟩ := h; rfl) | (obtain ⟨_, _, _, _, _, _, rfl, _⟩ := h; rfl) | (obtain ⟨_, _, _, _, _, _, _, rfl, _⟩ := h; rfl) | (obtain ⟨_, _, _, _, _, _, _, _, rfl, _⟩ := h; rfl) | (obtain ⟨_, _, _, _, _, _, _, _, _, rfl, _⟩ := h; rfl) | (obtain ⟨_, _, _, _, _, _, _, _, _, _, rfl, _⟩ := h; rfl) | (obtain ⟨_, _, _, _, _, _, _, _, _, _, _, rfl, _⟩ := h; rfl) | (obtain ⟨_, _, _, _, _, _, _, _, _, _, _, _, rfl, _⟩ := h; rfl) | (obtain ⟨_, _, _, _, _, _, _, _, _, _, _, _, _, rfl, _⟩ := h; rfl) | (obtain ⟨_, _, _, _, _, _, _, _, _, _, _, _, _, _, rfl, _⟩ := h; rfl) | (obtain ⟨_, _, _, _, _, _, _, _, _, _, _, _, _, _, _, rfl, _⟩ := h; rfl) | (obtain ⟨_, _, _, _, _, _, _, _, _, _, _, _, _, _, _, _, rfl, _⟩ := h; rfl) | (obtain ⟨_, _, _, _, _, _, _, _, _, _, _, _, _, _, _, _, _, rfl, _⟩ := h; rfl)
theorem len_l_expression (h : sp_l_expression K vs H Q E) : vs.length = (["_law_deed"] : List Str).length := by
  first | (exact False.elim h) | (obtain ⟨rfl, _⟩ := h; rfl) | (obtain ⟨_, rfl, _⟩ := h; rfl) | (obtain ⟨_, _, rfl, _⟩ := h; rfl) | (obtain ⟨_, _, _, rfl, _⟩ := h; rfl) | (obtain ⟨_, _, _, _, rfl, _⟩ := h; rfl) | (obtain ⟨_, _, _, _, _, rfl, _⟩ := h; rfl) | (obtain ⟨_, _, _, _, _, _, rfl, _⟩ := h; rfl) | (obtain ⟨_, _, _, _, _, _, _, rfl, _⟩ := h; rfl) | (obtain ⟨_, _, _, _, _, _, _, _, rfl, _⟩ := h; rfl) | (obtain ⟨_, _, _, _, _, _, _, _, _, rfl, _⟩ := h; rfl) | (obtain ⟨_, _, _, _, _, _, _, _, _, _, rfl, _⟩ := h; rfl) | (obtain ⟨_, _, _, _, _, _, _, _, _, _, _, rfl, _⟩ := h; rfl) | (obtain ⟨_, _, _, _, _, _, _, _, _, _, _, _, rfl, _⟩ := h; rfl) | (obtain ⟨_, _, _, _, _, _, _, _, _, _, _, _, _, rfl, _⟩ := h; rfl) | (obtain ⟨_, _, _, _, _, _, _, _, _, _, _, _, _, _, rfl, _⟩ := h; rfl) | (obtain ⟨_, _, _, _, _, _, _, _, _, _, _, _, _, _, _, rfl, _⟩ := h; rfl) | (obtain ⟨_, _, _, _, _, _, _, _, _, _, _, _, _, _, _, _, rfl, _⟩ := h; rfl) | (obtain ⟨_, _, _, _, _, _, _, _, _, _, _, _, _, _, _, _, _, rfl, _⟩ := h; rfl)
theorem len_l_program (h : sp_l_program K vs H Q E) : vs.length = (["_law_many", "_law_start", "_law_deeds_here"] : List Str).length := by
  first | (exact False.elim h) | (obtain ⟨rfl, _⟩ := h; rfl) | (obtain ⟨_, rfl, _⟩ := h; rfl) | (obtain ⟨_, _, rfl, _⟩ := h; rfl) | (obtain ⟨_, _, _, rfl, _⟩ := h; rfl) | (obtain ⟨_, _, _, _, rfl, _⟩ := h; rfl) | (obtain ⟨_, _, _, _, _, rfl, _⟩ := h; rfl) | (obtain ⟨_, _, _, _, _, _, rfl, _⟩ := h; rfl) | (obtain ⟨_, _, _, _, _, _, _, rfl, _⟩ := h; rfl) | (obtain ⟨_, _, _, _, _, _, _, _, rfl, _⟩ := h; rfl) | (obtain ⟨_, _, _, _, _, _, _, _, _, rfl, _⟩ := h; rfl) | (obtain ⟨_, _, _, _, _, _, _, _, _, _, rfl, _⟩ := h; rfl) | (obtain ⟨_, _, _, _, _, _, _, _, _, _, _, rfl, _⟩ := h; rfl) | (obtain ⟨_, _, _, _, _, _, _, _, _, _, _, _, rfl, _⟩ := h; rfl) | (obtain ⟨_, _, _, _, _, _, _, _, _, _, _, _, _, rfl, _⟩ := h; rfl) | (obtain ⟨_, _, _, _, _, _, _, _, _, _, _, _, _, _, rfl, _⟩ := h; rfl) | (obtain ⟨_, _, _, _, _, _, _, _, _, _, _, _, _, _, _, rfl, _⟩ := h; rfl) | (obtain ⟨_, _, _, _, _, _, _, _, _, _, _, _, _, _, _, _, rfl, _⟩ := h; rfl) | (obtain ⟨_, _, _, _, _, _, _, _, _, _, _, _, _, _, _, _, _, rfl, _⟩ := h; rfl)
theorem len_l_due (h : sp_l_due K vs H Q E) : vs.length = (["_law_many", "_law_start", "_law_deeds_here", "_law_limit"] : List Str).length := by
  first | (exact False.elim h) | (obtain ⟨rfl, _⟩ := h; rfl) | (obtain ⟨_, rfl, _⟩ := h; rfl) | (obtain ⟨_, _, rfl, _⟩ := h; rfl) | (obtain ⟨_, _, _, rfl, _⟩ := h; rfl) | (obtain ⟨_, _, _, _, rfl, _⟩ := h; rfl) | (obtain ⟨_, _, _, _, _, rfl, _⟩ := h; rfl) | (obtain ⟨_, _, _, _, _, _, rfl, _⟩ := h; rfl) | (obtain ⟨_, _, _, _, _, _, _, rfl, _⟩ := h; rfl) | (obtain ⟨_, _, _, _, _, _, _, _, rfl, _⟩ := h; rfl) | (obtain ⟨_, _, _, _, _, _, _, _, _, rfl, _⟩ := h; rfl) | (obtain ⟨_, _, _, _, _, _, _, _, _, _, rfl, _⟩ := h; rfl) | (obtain ⟨_, _, _, _, _, _, _, _, _, _, _, rfl, _⟩ := h; rfl) | (obtain ⟨_, _, _, _, _, _, _, _, _, _, _, _, rfl, _⟩ := h; rfl) | (obtain ⟨_, _, _, _, _, _, _, _, _, _, _, _, _, rfl, _⟩ := h; rfl) | (obtain ⟨_, _, _, _, _, _, _, _, _, _, _, _, _, _, rfl, _⟩ := h; rfl) | (obtain ⟨_, _, _, _, _, _, _, _, _, _, _, _, _, _, _, rfl, _⟩ := h; rfl) | (obtain ⟨_, _, _, _, _, _, _, _, _, _, _, _, _, _, _, _, rfl, _⟩ := h; rfl) | (obtain ⟨_, _, _, _, _, _, _, _, _, _, _, _, _, _, _, _, _, rfl, _⟩ := h; rfl)
theorem len_law (h : sp_law K vs H Q E) : vs.length = (["_law_script"] : List Str).length := by
  first | (exact False.elim h) | (obtain ⟨rfl, _⟩ := h; rfl) | (obtain ⟨_, rfl, _⟩ := h; rfl) | (obtain ⟨_, _, rfl, _⟩ := h; rfl) | (obtain ⟨_, _, _, rfl, _⟩ := h; rfl) | (obtain ⟨_, _, _, _, rfl, _⟩ := h; rfl) | (obtain ⟨_, _, _, _, _, rfl, _⟩ := h; rfl) | (obtain ⟨_, _, _, _, _, _, rfl, _⟩ := h; rfl) | (obtain ⟨_, _, _, _, _, _, _, rfl, _⟩ := h; rfl) | (obtain ⟨_, _, _, _, _, _, _, _, rfl, _⟩ := h; rfl) | (obtain ⟨_, _, _, _, _, _, _, _, _, rfl, _⟩ := h; rfl) | (obtain ⟨_, _, _, _, _, _, _, _, _, _, rfl, _⟩ := h; rfl) | (obtain ⟨_, _, _, _, _, _, _, _, _, _, _, rfl, _⟩ := h; rfl) | (obtain ⟨_, _, _, _, _, _, _, _, _, _, _, _, rfl, _⟩ := h; rfl) | (obtain ⟨_, _, _, _, _, _, _, _, _, _, _, _, _, rfl, _⟩ := h; rfl) | (obtain ⟨_, _, _, _, _, _, _, _, _, _, _, _, _, _, rfl, _⟩ := h; rfl) | (obtain ⟨_, _, _, _, _, _, _, _, _, _, _, _, _, _, _, rfl, _⟩ := h; rfl) | (obtain ⟨_, _, _, _, _, _, _, _, _, _, _, _, _, _, _, _, rfl, _⟩ := h; rfl) | (obtain ⟨_, _, _, _, _, _, _, _, _, _, _, _, _, _, _, _, _, rfl, _⟩ := h; rfl)
end
theorem law_in {K : PySem.W.Frag} {H : Hp} (a : Addr) (ns : List Int) (hl : ns.length ≤ 63) (h : SqL K H a (ns.map V.int)) : sp_law K [.ref a] H (fun v _ => v = .bl true) (fun _ _ _ => False) := ⟨a, ns, rfl, h, hl, fun _ => rfl⟩
theorem sc_wrap : FnScope n_wrap ["number"] (defScope s_wrap) := ⟨rfl, rfl, rfl, by decide +kernel, rfl, by decide +kernel, by decide +kernel⟩
theorem sc_divide : FnScope n_divide ["first", "second"] (defScope s_divide) := ⟨rfl, rfl, rfl, by decide +kernel, rfl, by decide +kernel, by decide +kernel⟩
theorem sc_remainder : FnScope n_remainder ["first", "second"] (defScope s_remainder) := ⟨rfl, rfl, rfl, by decide +kernel, rfl, by decide +kernel, by decide +kernel⟩
theorem sc_calculate : FnScope n_calculate ["op", "first", "second"] (defScope s_calculate) := ⟨rfl, rfl, rfl, by decide +kernel, rfl, by decide +kernel, by decide +kernel⟩
theorem sc_Evaluation___init__ : FnScope n_Evaluation___init__ ["self", "program", "fuel"] (defScope s_Evaluation___init__) := ⟨rfl, rfl, rfl, by decide +kernel, rfl, by decide +kernel, by decide +kernel⟩
theorem sc_Evaluation_plan : FnScope n_Evaluation_plan ["self", "name", "expression", "scope"] (defScope s_Evaluation_plan) := ⟨rfl, rfl, rfl, by decide +kernel, rfl, by decide +kernel, by decide +kernel⟩
theorem sc_Evaluation_spend : FnScope n_Evaluation_spend ["self", "count"] (defScope s_Evaluation_spend) := ⟨rfl, rfl, rfl, by decide +kernel, rfl, by decide +kernel, by decide +kernel⟩
theorem sc_Evaluation_throw : FnScope n_Evaluation_throw ["self", "number", "payload"] (defScope s_Evaluation_throw) := ⟨rfl, rfl, rfl, by decide +kernel, rfl, by decide +kernel, by decide +kernel⟩
theorem sc_Evaluation_finish : FnScope n_Evaluation_finish ["self"] (defScope s_Evaluation_finish) := ⟨rfl, rfl, rfl, by decide +kernel, rfl, by decide +kernel, by decide +kernel⟩
theorem sc_find_variable : FnScope n_find_variable ["scope", "name"] (defScope s_find_variable) := ⟨rfl, rfl, rfl, by decide +kernel, rfl, by decide +kernel, by decide +kernel⟩
theorem sc_evaluate : FnScope n_evaluate ["state", "expression", "scope"] (defScope s_evaluate) := ⟨rfl, rfl, rfl, by decide +kernel, rfl, by decide +kernel, by decide +kernel⟩
theorem sc_continue_let : FnScope n_continue_let ["state", "expression", "scope"] (defScope s_continue_let) := ⟨rfl, rfl, rfl, by decide +kernel, rfl, by decide +kernel, by decide +kernel⟩
theorem sc_continue_seq : FnScope n_continue_seq ["state", "expression", "scope"] (defScope s_continue_seq) := ⟨rfl, rfl, rfl, by decide +kernel, rfl, by decide +kernel, by decide +kernel⟩
theorem sc_continue_if : FnScope n_continue_if ["state", "expression", "scope"] (defScope s_continue_if) := ⟨rfl, rfl, rfl, by decide +kernel, rfl, by decide +kernel, by decide +kernel⟩
theorem sc_continue_case : FnScope n_continue_case ["state", "expression", "scope"] (defScope s_continue_case) := ⟨rfl, rfl, rfl, by decide +kernel, rfl, by decide +kernel, by decide +kernel⟩
theorem sc_leave : FnScope n_leave ["state", "expression", "scope"] (defScope s_leave) := ⟨rfl, rfl, rfl, by decide +kernel, rfl, by decide +kernel, by decide +kernel⟩
theorem sc_compute : FnScope n_compute ["state", "expression", "scope"] (defScope s_compute) := ⟨rfl, rfl, rfl, by decide +kernel, rfl, by decide +kernel, by decide +kernel⟩
theorem sc_enter : FnScope n_enter ["state", "op", "info", "given"] (defScope s_enter) := ⟨rfl, rfl, rfl, by decide +kernel, rfl, by decide +kernel, by decide +kernel⟩
theorem sc_compute_ref : FnScope n_compute_ref ["state", "op", "given"] (defScope s_compute_ref) := ⟨rfl, rfl, rfl, by decide +kernel, rfl, by decide +kernel, by decide +kernel⟩
theorem sc_compute_array : FnScope n_compute_array ["state", "op", "given"] (defScope s_compute_array) := ⟨rfl, rfl, rfl, by decide +kernel, rfl, by decide +kernel, by decide +kernel⟩
theorem sc_run : FnScope n_run ["program", "arguments", "fuel"] (defScope s_run) := ⟨rfl, rfl, rfl, by decide +kernel, rfl, by decide +kernel, by decide +kernel⟩
theorem sc_l_cell : FnScope n_l_cell ["_law_script", "_law_at"] (defScope s_l_cell) := ⟨rfl, rfl, rfl, by decide +kernel, rfl, by decide +kernel, by decide +kernel⟩
theorem sc_l_whole : FnScope n_l_whole [] (defScope s_l_whole) := ⟨rfl, rfl, rfl, by decide +kernel, rfl, by decide +kernel, by decide +kernel⟩
theorem sc_l_int : FnScope n_l_int ["_law_value"] (defScope s_l_int) := ⟨rfl, rfl, rfl, by decide +kernel, rfl, by decide +kernel, by decide +kernel⟩
theorem sc_l_name : FnScope n_l_name ["_law_kind", "_law_name_here"] (defScope s_l_name) := ⟨rfl, rfl, rfl, by decide +kernel, rfl, by decide +kernel, by decide +kernel⟩
theorem sc_l_seq : FnScope n_l_seq ["_law_first", "_law_second"] (defScope s_l_seq) := ⟨rfl, rfl, rfl, by decide +kernel, rfl, by decide +kernel, by decide +kernel⟩
theorem sc_l_let : FnScope n_l_let ["_law_name_here", "_law_value", "_law_body"] (defScope s_l_let) := ⟨rfl, rfl, rfl, by decide +kernel, rfl, by decide +kernel, by decide +kernel⟩
theorem sc_l_deeds : FnScope n_l_deeds ["_law_cells", "_law_many"] (defScope s_l_deeds) := ⟨rfl, rfl, rfl, by decide +kernel, rfl, by decide +kernel, by decide +kernel⟩
theorem sc_l_print : FnScope n_l_print ["_law_kid"] (defScope s_l_print) := ⟨rfl, rfl, rfl, by decide +kernel, rfl, by decide +kernel, by decide +kernel⟩
theorem sc_l_expression : FnScope n_l_expression ["_law_deed"] (defScope s_l_expression) := ⟨rfl, rfl, rfl, by decide +kernel, rfl, by decide +kernel, by decide +kernel⟩
theorem sc_l_program : FnScope n_l_program ["_law_many", "_law_start", "_law_deeds_here"] (defScope s_l_program) := ⟨rfl, rfl, rfl, by decide +kernel, rfl, by decide +kernel, by decide +kernel⟩
theorem sc_l_due : FnScope n_l_due ["_law_many", "_law_start", "_law_deeds_here", "_law_limit"] (defScope s_l_due) := ⟨rfl, rfl, rfl, by decide +kernel, rfl, by decide +kernel, by decide +kernel⟩
theorem sc_law : FnScope n_law ["_law_script"] (defScope s_law) := ⟨rfl, rfl, rfl, by decide +kernel, rfl, by decide +kernel, by decide +kernel⟩
/-- what the top has left -/
structure Txt (w : World) (K : PySem.W.Frag) (mg : Str → Option Value) : Prop where
  c_HALF : ∃ t, mg "HALF" = some (.int 2147483648 t)
  c_SPAN : ∃ t, mg "SPAN" = some (.int 4294967296 t)
  b_abs : mg "abs" = none
  k_Evaluation : Cls K (He.ga K "Evaluation")
  n_Evaluation_program : NoAttr K (He.ga K "Evaluation") "program"
  n_Evaluation_fuel : NoAttr K (He.ga K "Evaluation") "fuel"
  n_Evaluation_ticks : NoAttr K (He.ga K "Evaluation") "ticks"
  n_Evaluation_outs : NoAttr K (He.ga K "Evaluation") "outs"
  n_Evaluation_tasks : NoAttr K (He.ga K "Evaluation") "tasks"
  n_Evaluation_results : NoAttr K (He.ga K "Evaluation") "results"
  n_Evaluation_fault : NoAttr K (He.ga K "Evaluation") "fault"
  b_len : mg "len" = none
  a_TASKS : mg "TASKS" = some (.ref (He.ga K "TASKS"))
  b_reversed : mg "reversed" = none
  b_zip : mg "zip" = none
  b_tuple : mg "tuple" = none
  c_MAX_ARRAY : ∃ t, mg "MAX_ARRAY" = some (.int 12 t)
  b_max : mg "max" = none
  b_min : mg "min" = none
  c_MAX_FUEL : ∃ t, mg "MAX_FUEL" = some (.int 200 t)
  b_int : mg "int" = none
  b_range : mg "range" = none
  b_str : mg "str" = none
  b_isinstance : mg "isinstance" = none
  b_bool : mg "bool" = none
  gc_Evaluation : mg "Evaluation" = some (.ref (He.ga K "Evaluation"))
  mk_Evaluation : Mk K (He.ga K "Evaluation") (He.ma K (He.ga K "Evaluation") "__init__")
  m_Evaluation_plan : Meth K (He.ga K "Evaluation") "plan" (He.ma K (He.ga K "Evaluation") "plan")
  m_Evaluation_spend : Meth K (He.ga K "Evaluation") "spend" (He.ma K (He.ga K "Evaluation") "spend")
  m_Evaluation_throw : Meth K (He.ga K "Evaluation") "throw" (He.ma K (He.ga K "Evaluation") "throw")
  m_Evaluation_finish : Meth K (He.ga K "Evaluation") "finish" (He.ma K (He.ga K "Evaluation") "finish")
  dic_TASKS : DicF w K dd_TASKS
  F_Evaluation___init__ : ∃ fd, FunD K "__init__" "Evaluation.__init__" (defArgs s_Evaluation___init__) (defBody s_Evaluation___init__) (defScope s_Evaluation___init__) [] [] (He.ma K (He.ga K "Evaluation") "__init__") fd
  F_Evaluation_plan : ∃ fd, FunD K "plan" "Evaluation.plan" (defArgs s_Evaluation_plan) (defBody s_Evaluation_plan) (defScope s_Evaluation_plan) [] [] (He.ma K (He.ga K "Evaluation") "plan") fd
  F_Evaluation_spend : ∃ fd, FunD K "spend" "Evaluation.spend" (defArgs s_Evaluation_spend) (defBody s_Evaluation_spend) (defScope s_Evaluation_spend) [] [] (He.ma K (He.ga K "Evaluation") "spend") fd
  F_Evaluation_throw : ∃ fd, FunD K "throw" "Evaluation.throw" (defArgs s_Evaluation_throw) (defBody s_Evaluation_throw) (defScope s_Evaluation_throw) [] [] (He.ma K (He.ga K "Evaluation") "throw") fd
  F_Evaluation_finish : ∃ fd, FunD K "finish" "Evaluation.finish" (defArgs s_Evaluation_finish) (defBody s_Evaluation_finish) (defScope s_Evaluation_finish) [] [] (He.ma K (He.ga K "Evaluation") "finish") fd
  g_wrap : mg "wrap" = some (.ref (He.ga K "wrap"))
  F_wrap : ∃ fd, FunD K "wrap" "wrap" (defArgs s_wrap) (defBody s_wrap) (defScope s_wrap) [] [] (He.ga K "wrap") fd
  g_divide : mg "divide" = some (.ref (He.ga K "divide"))
  F_divide : ∃ fd, FunD K "divide" "divide" (defArgs s_divide) (defBody s_divide) (defScope s_divide) [] [] (He.ga K "divide") fd
  g_remainder : mg "remainder" = some (.ref (He.ga K "remainder"))
  F_remainder : ∃ fd, FunD K "remainder" "remainder" (defArgs s_remainder) (defBody s_remainder) (defScope s_remainder) [] [] (He.ga K "remainder") fd
  g_calculate : mg "calculate" = some (.ref (He.ga K "calculate"))
  F_calculate : ∃ fd, FunD K "calculate" "calculate" (defArgs s_calculate) (defBody s_calculate) (defScope s_calculate) [] [] (He.ga K "calculate") fd
  g_find_variable : mg "find_variable" = some (.ref (He.ga K "find_variable"))
  F_find_variable : ∃ fd, FunD K "find_variable" "find_variable" (defArgs s_find_variable) (defBody s_find_variable) (defScope s_find_variable) [] [] (He.ga K "find_variable") fd
  g_evaluate : mg "evaluate" = some (.ref (He.ga K "evaluate"))
  F_evaluate : ∃ fd, FunD K "evaluate" "evaluate" (defArgs s_evaluate) (defBody s_evaluate) (defScope s_evaluate) [] [] (He.ga K "evaluate") fd
  g_continue_let : mg "continue_let" = some (.ref (He.ga K "continue_let"))
  F_continue_let : ∃ fd, FunD K "continue_let" "continue_let" (defArgs s_continue_let) (defBody s_continue_let) (defScope s_continue_let) [] [] (He.ga K "continue_let") fd
  g_continue_seq : mg "continue_seq" = some (.ref (He.ga K "continue_seq"))
  F_continue_seq : ∃ fd, FunD K "continue_seq" "continue_seq" (defArgs s_continue_seq) (defBody s_continue_seq) (defScope s_continue_seq) [] [] (He.ga K "continue_seq") fd
  g_continue_if : mg "continue_if" = some (.ref (He.ga K "continue_if"))
  F_continue_if : ∃ fd, FunD K "continue_if" "continue_if" (defArgs s_continue_if) (defBody s_continue_if) (defScope s_continue_if) [] [] (He.ga K "continue_if") fd
  g_continue_case : mg "continue_case" = some (.ref (He.ga K "continue_case"))
  F_continue_case : ∃ fd, FunD K "continue_case" "continue_case" (defArgs s_continue_case) (defBody s_continue_case) (defScope s_continue_case) [] [] (He.ga K "continue_case") fd
  g_leave : mg "leave" = some (.ref (He.ga K "leave"))
  F_leave : ∃ fd, FunD K "leave" "leave" (defArgs s_leave) (defBody s_leave) (defScope s_leave) [] [] (He.ga K "leave") fd
  g_compute : mg "compute" = some (.ref (He.ga K "compute"))
  F_compute : ∃ fd, FunD K "compute" "compute" (defArgs s_compute) (defBody s_compute) (defScope s_compute) [] [] (He.ga K "compute") fd
  g_enter : mg "enter" = some (.ref (He.ga K "enter"))
  F_enter : ∃ fd, FunD K "enter" "enter" (defArgs s_enter) (defBody s_enter) (defScope s_enter) [] [] (He.ga K "enter") fd
  g_compute_ref : mg "compute_ref" = some (.ref (He.ga K "compute_ref"))
  F_compute_ref : ∃ fd, FunD K "compute_ref" "compute_ref" (defArgs s_compute_ref) (defBody s_compute_ref) (defScope s_compute_ref) [] [] (He.ga K "compute_ref") fd
  g_compute_array : mg "compute_array" = some (.ref (He.ga K "compute_array"))
  F_compute_array : ∃ fd, FunD K "compute_array" "compute_array" (defArgs s_compute_array) (defBody s_compute_array) (defScope s_compute_array) [] [] (He.ga K "compute_array") fd
  g_run : mg "run" = some (.ref (He.ga K "run"))
  F_run : ∃ fd, FunD K "run" "run" (defArgs s_run) (defBody s_run) (defScope s_run) [] [(("fuel" : Str), (.int 200 : V))] (He.ga K "run") fd
  g_l_cell : mg "_law_cell" = some (.ref (He.ga K "_law_cell"))
  F_l_cell : ∃ fd, FunD K "_law_cell" "_law_cell" (defArgs s_l_cell) (defBody s_l_cell) (defScope s_l_cell) [] [] (He.ga K "_law_cell") fd
  g_l_whole : mg "_law_whole" = some (.ref (He.ga K "_law_whole"))
  F_l_whole : ∃ fd, FunD K "_law_whole" "_law_whole" (defArgs s_l_whole) (defBody s_l_whole) (defScope s_l_whole) [] [] (He.ga K "_law_whole") fd
  g_l_int : mg "_law_int" = some (.ref (He.ga K "_law_int"))
  F_l_int : ∃ fd, FunD K "_law_int" "_law_int" (defArgs s_l_int) (defBody s_l_int) (defScope s_l_int) [] [] (He.ga K "_law_int") fd
  g_l_name : mg "_law_name" = some (.ref (He.ga K "_law_name"))
  F_l_name : ∃ fd, FunD K "_law_name" "_law_name" (defArgs s_l_name) (defBody s_l_name) (defScope s_l_name) [] [] (He.ga K "_law_name") fd
  g_l_seq : mg "_law_seq" = some (.ref (He.ga K "_law_seq"))
  F_l_seq : ∃ fd, FunD K "_law_seq" "_law_seq" (defArgs s_l_seq) (defBody s_l_seq) (defScope s_l_seq) [] [] (He.ga K "_law_seq") fd
  g_l_let : mg "_law_let" = some (.ref (He.ga K "_law_let"))
  F_l_let : ∃ fd, FunD K "_law_let" "_law_let" (defArgs s_l_let) (defBody s_l_let) (defScope s_l_let) [] [] (He.ga K "_law_let") fd
  g_l_deeds : mg "_law_deeds" = some (.ref (He.ga K "_law_deeds"))
  F_l_deeds : ∃ fd, FunD K "_law_deeds" "_law_deeds" (defArgs s_l_deeds) (defBody s_l_deeds) (defScope s_l_deeds) [] [] (He.ga K "_law_deeds") fd
  g_l_print : mg "_law_print" = some (.ref (He.ga K "_law_print"))
  F_l_print : ∃ fd, FunD K "_law_print" "_law_print" (defArgs s_l_print) (defBody s_l_print) (defScope s_l_print) [] [] (He.ga K "_law_print") fd
  g_l_expression : mg "_law_expression" = some (.ref (He.ga K "_law_expression"))
  F_l_expression : ∃ fd, FunD K "_law_expression" "_law_expression" (defArgs s_l_expression) (defBody s_l_expression) (defScope s_l_expression) [] [] (He.ga K "_law_expression") fd
  g_l_program : mg "_law_program" = some (.ref (He.ga K "_law_program"))
  F_l_program : ∃ fd, FunD K "_law_program" "_law_program" (defArgs s_l_program) (defBody s_l_program) (defScope s_l_program) [] [] (He.ga K "_law_program") fd
  g_l_due : mg "_law_due" = some (.ref (He.ga K "_law_due"))
  F_l_due : ∃ fd, FunD K "_law_due" "_law_due" (defArgs s_l_due) (defBody s_l_due) (defScope s_l_due) [] [] (He.ga K "_law_due") fd
  g_law : mg "law" = some (.ref (He.ga K "law"))
  F_law : ∃ fd, FunD K "law" "law" (defArgs s_law) (defBody s_law) (defScope s_law) [] [] (He.ga K "law") fd
section
variable {P : Program} {w : World} {K : PySem.W.Frag} {mg : Str → Option Value} {base : Heap}
theorem ok_wrap (T : Txt w K mg)  : OkF P w K mg base 1 "wrap" ["number"] (sp_wrap K) := by
  obtain ⟨fd, F⟩ := T.F_wrap
  refine ⟨_, fd, T.g_wrap, F.ok sc_wrap (fun vs H Q E h => len_wrap h) (fun cdv A outer s H vs Q E hr h => ⟨t_wrap K, PSs.nox ?_, rd_wrap h⟩), FunD.bindsN F fun _ _ _ _ _ _ us hl => match us, hl with | [_], _ => rfl, F.kp⟩
  exact (pss_one (ps_ret (pe_op o_sub (pe_op o_mod (pe_op o_add (pv 0) (pe_gint rfl T.c_HALF)) (pe_gint rfl T.c_SPAN)) (pe_gint rfl T.c_HALF))))
theorem ok_divide (T : Txt w K mg) (O_wrap : OkF P w K mg base 1 "wrap" ["number"] (sp_wrap K)) : OkF P w K mg base 2 "divide" ["first", "second"] (sp_divide K) := by
  obtain ⟨fd, F⟩ := T.F_divide
  refine ⟨_, fd, T.g_divide, F.ok sc_divide (fun vs H Q E h => len_divide h) (fun cdv A outer s H vs Q E hr h => ⟨t_divide K, PSs.nox ?_, rd_divide h⟩), FunD.bindsN F fun _ _ _ _ _ _ us hl => match us, hl with | [_, _], _ => rfl, F.kp⟩
  exact (pss_c (ps_set (i := 2) sc_divide.nd rfl (Or.inl rfl) (pe_op o_fdiv (pe_callB c_abs (by rfl) T.b_abs (by decide +kernel) (pa_cons (pv 0) pa_nil)) (pe_callB c_abs (by rfl) T.b_abs (by decide +kernel) (pa_cons (pv 1) pa_nil))))
    (pss_c (ps_if (pt_cmpR (o_ne hr.units) (pe_cmpR o_lt (pv 0) pe_int (nomark _)) (pe_cmpR o_lt (pv 1) pe_int (nomark _)) (nomark _)) (pss_one (ps_set (i := 2) sc_divide.nd rfl (Or.inl rfl) (pe_un u_neg (pv 2)))) pss_nil)
    (pss_one (ps_ret (pe_fn O_wrap (hr.mono (by omega)) rfl (pa_cons (pv 2) pa_nil))))))
theorem ok_remainder (T : Txt w K mg)  : OkF P w K mg base 1 "remainder" ["first", "second"] (sp_remainder K) := by
  obtain ⟨fd, F⟩ := T.F_remainder
  refine ⟨_, fd, T.g_remainder, F.ok sc_remainder (fun vs H Q E h => len_remainder h) (fun cdv A outer s H vs Q E hr h => ⟨t_remainder K, PSs.nox ?_, rd_remainder h⟩), FunD.bindsN F fun _ _ _ _ _ _ us hl => match us, hl with | [_, _], _ => rfl, F.kp⟩
  exact (pss_c (ps_set (i := 2) sc_remainder.nd rfl (Or.inl rfl) (pe_op o_mod (pe_callB c_abs (by rfl) T.b_abs (by decide +kernel) (pa_cons (pv 0) pa_nil)) (pe_callB c_abs (by rfl) T.b_abs (by decide +kernel) (pa_cons (pv 1) pa_nil))))
    (pss_c (ps_if (pt_cmpR o_lt (pv 0) pe_int (nomark _)) (pss_one (ps_ret (pe_un u_neg (pv 2)))) pss_nil)
    (pss_one (ps_ret (pv 2)))))
theorem ok_calculate (T : Txt w K mg) (O_wrap : OkF P w K mg base 1 "wrap" ["number"] (sp_wrap K)) (O_divide : OkF P w K mg base 2 "divide" ["first", "second"] (sp_divide K)) (O_remainder : OkF P w K mg base 1 "remainder" ["first", "second"] (sp_remainder K)) : OkF P w K mg base 3 "calculate" ["op", "first", "second"] (sp_calculate K) := by
  obtain ⟨fd, F⟩ := T.F_calculate
  refine ⟨_, fd, T.g_calculate, F.ok sc_calculate (fun vs H Q E h => len_calculate h) (fun cdv A outer s H vs Q E hr h => ⟨t_calculate K, PSs.nox ?_, rd_calculate h⟩), FunD.bindsN F fun _ _ _ _ _ _ us hl => match us, hl with | [_, _, _], _ => rfl, F.kp⟩
  exact (pss_c (ps_if (pt_cmpR (o_eq hr.units) (pv 0) pe_str (nomark _)) (pss_one (ps_ret (pe_fn O_wrap (hr.mono (by omega)) rfl (pa_cons (pe_op o_add (pv 1) (pv 2)) pa_nil)))) pss_nil)
    (pss_c (ps_if (pt_cmpR (o_eq hr.units) (pv 0) pe_str (nomark _)) (pss_one (ps_ret (pe_fn O_wrap (hr.mono (by omega)) rfl (pa_cons (pe_op o_sub (pv 1) (pv 2)) pa_nil)))) pss_nil)
    (pss_c (ps_if (pt_cmpR (o_eq hr.units) (pv 0) pe_str (nomark _)) (pss_one (ps_ret (pe_fn O_wrap (hr.mono (by omega)) rfl (pa_cons (pe_op o_mul (pv 1) (pv 2)) pa_nil)))) pss_nil)
    (pss_c (ps_if (pt_cmpR (o_eq hr.units) (pv 0) pe_str (nomark _)) (pss_one (ps_ret (pe_fn O_divide (hr.mono (by omega)) rfl (pa_cons (pv 1) (pa_cons (pv 2) pa_nil))))) pss_nil)
    (pss_c (ps_if (pt_cmpR (o_eq hr.units) (pv 0) pe_str (nomark _)) (pss_one (ps_ret (pe_fn O_remainder (hr.mono (by omega)) rfl (pa_cons (pv 1) (pa_cons (pv 2) pa_nil))))) pss_nil)
    (pss_c (ps_if (pt_cmpR (o_eq hr.units) (pv 0) pe_str (nomark _)) (pss_one (ps_ret (pe_cmpR (o_eq hr.units) (pv 1) (pv 2) (nomark _)))) pss_nil)
    (pss_one (ps_ret (pe_cmpR o_lt (pv 1) (pv 2) (nomark _))))))))))
theorem ok_Evaluation___init__ (T : Txt w K mg)  : OkC P w K mg base 1 "Evaluation" (He.ga K "Evaluation") ["self", "program", "fuel"] (sp_Evaluation___init__ K) := by
  obtain ⟨fd, F⟩ := T.F_Evaluation___init__
  refine ⟨_, fd, T.gc_Evaluation, T.mk_Evaluation, F.ok sc_Evaluation___init__ (fun vs H Q E h => len_Evaluation___init__ h) (fun cdv A outer s H vs Q E hr h => ⟨t_Evaluation___init__ K, PSs.nox ?_, rd_Evaluation___init__ h⟩), FunD.bindsN F fun _ _ _ _ _ _ us hl => match us, hl with | [_, _, _], _ => rfl⟩
  exact (pss_c (ps_fldC T.k_Evaluation T.n_Evaluation_program (pv 0) (pv 1) rfl)
    (pss_c (ps_fldC T.k_Evaluation T.n_Evaluation_fuel (pv 0) (pv 2) rfl)
    (pss_c (ps_fldC T.k_Evaluation T.n_Evaluation_ticks (pv 0) pe_int rfl)
    (pss_c (ps_fldC T.k_Evaluation T.n_Evaluation_outs (pv 0) (pe_lst pa_nil) rfl)
    (pss_c (ps_fldC T.k_Evaluation T.n_Evaluation_tasks (pv 0) (pe_lst pa_nil) rfl)
    (pss_c (ps_fldC T.k_Evaluation T.n_Evaluation_results (pv 0) (pe_lst pa_nil) rfl)
    (pss_one (ps_fldC T.k_Evaluation T.n_Evaluation_fault (pv 0) pe_non rfl))))))))
theorem ok_Evaluation_plan (T : Txt w K mg)  : OkM P w K mg base 1 (He.ga K "Evaluation") "plan" ["self", "name", "expression", "scope"] (sp_Evaluation_plan K) := by
  obtain ⟨fd, F⟩ := T.F_Evaluation_plan
  refine ⟨_, fd, T.k_Evaluation, T.m_Evaluation_plan, F.ok sc_Evaluation_plan (fun vs H Q E h => len_Evaluation_plan h) (fun cdv A outer s H vs Q E hr h => ⟨t_Evaluation_plan K, PSs.nox ?_, rd_Evaluation_plan h⟩), FunD.bindsN F fun _ _ _ _ _ _ us hl => match us, hl with | [_, _, _, _], _ => rfl⟩
  exact (pss_one (ps_expr (pe_bm PySem.F.plainAttrs_list PySem.F.slot_list_append PySem.F.type_list_append m_append (pe_fldC T.k_Evaluation T.n_Evaluation_tasks (pv 0) (by rfl)) (pa_cons (pe_tup (pa_cons (pv 1) (pa_cons (pv 2) (pa_cons (pv 3) (pa_cons (pe_callB c_len (by rfl) T.b_len (by decide +kernel) (pa_cons (pe_fldC T.k_Evaluation T.n_Evaluation_results (pv 0) (by rfl)) pa_nil)) pa_nil))))) pa_nil))))
theorem ok_Evaluation_spend (T : Txt w K mg)  : OkM P w K mg base 1 (He.ga K "Evaluation") "spend" ["self", "count"] (sp_Evaluation_spend K) := by
  obtain ⟨fd, F⟩ := T.F_Evaluation_spend
  refine ⟨_, fd, T.k_Evaluation, T.m_Evaluation_spend, F.ok sc_Evaluation_spend (fun vs H Q E h => len_Evaluation_spend h) (fun cdv A outer s H vs Q E hr h => ⟨t_Evaluation_spend K, PSs.nox ?_, rd_Evaluation_spend h⟩), FunD.bindsN F fun _ _ _ _ _ _ us hl => match us, hl with | [_, _], _ => rfl⟩
  exact (pss_c (ps_if (pt_cmpR o_gt (pe_op o_add (pe_fldC T.k_Evaluation T.n_Evaluation_ticks (pv 0) (by rfl)) (pv 1)) (pe_fldC T.k_Evaluation T.n_Evaluation_fuel (pv 0) (by rfl)) (nomark _)) (pss_c (ps_fldC T.k_Evaluation T.n_Evaluation_ticks (pv 0) (pe_fldC T.k_Evaluation T.n_Evaluation_fuel (pv 0) (by rfl)) rfl)
    (pss_c (ps_fldC T.k_Evaluation T.n_Evaluation_fault (pv 0) (pe_tup (pa_cons pe_str pa_nil)) rfl)
    (pss_one (ps_ret pe_bl)))) pss_nil)
    (pss_c (ps_fldaugC T.k_Evaluation T.n_Evaluation_ticks (pv 0) (pv 1) a_add)
    (pss_one (ps_ret pe_bl))))
theorem ok_Evaluation_throw (T : Txt w K mg) (O_Evaluation_plan : OkM P w K mg base 1 (He.ga K "Evaluation") "plan" ["self", "name", "expression", "scope"] (sp_Evaluation_plan K)) : OkM P w K mg base 2 (He.ga K "Evaluation") "throw" ["self", "number", "payload"] (sp_Evaluation_throw K) := by
  obtain ⟨fd, F⟩ := T.F_Evaluation_throw
  refine ⟨_, fd, T.k_Evaluation, T.m_Evaluation_throw, F.ok sc_Evaluation_throw (fun vs H Q E h => len_Evaluation_throw h) (fun cdv A outer s H vs Q E hr h => ⟨t_Evaluation_throw K, PSs.nox ?_, rd_Evaluation_throw h⟩), FunD.bindsN F fun _ _ _ _ _ _ us hl => match us, hl with | [_, _, _], _ => rfl⟩
  exact (pss_c (ps_while PassesOwn.never (pt_tru (pe_fldC T.k_Evaluation T.n_Evaluation_tasks (pv 0) (by rfl))) (pss_c (ps_asg (pe_bm0 PySem.F.plainAttrs_list PySem.F.slot_list_pop PySem.F.type_list_pop m_pop0 (pe_fldC T.k_Evaluation T.n_Evaluation_tasks (pv 0) (by rfl))) (pg_tup rfl (pgs_cons (pg_name (i := 3) sc_Evaluation_throw.nd rfl (Or.inl rfl)) (pgs_cons (pg_name (i := 4) sc_Evaluation_throw.nd rfl (Or.inl rfl)) (pgs_cons (pg_name (i := 5) sc_Evaluation_throw.nd rfl (Or.inl rfl)) (pgs_cons (pg_name (i := 6) sc_Evaluation_throw.nd rfl (Or.inl rfl)) pgs_nil))))))
    (pss_c (ps_if (pt_cmpR (o_ne hr.units) (pv 3) pe_str (nomark _)) (pss_one ps_continue) pss_nil)
    (pss_one (ps_for PassesOwn.never rfl (pi_any (pe_ix i_x (pv 4) pe_int (fun _ _ => rfl))) (pg_name (i := 7) sc_Evaluation_throw.nd rfl (Or.inl rfl)) (pss_one (ps_if (pt_cmpR (o_eq hr.units) (pe_ix i_x (pv 7) pe_int (fun _ _ => rfl)) (pv 1) (nomark _)) (pss_c (ps_delK (pe_fldC T.k_Evaluation T.n_Evaluation_results (pv 0) (by rfl)) (pv 6))
    (pss_c (ps_expr (pe_mth O_Evaluation_plan (pv 0) (hr.mono (by omega)) (pa_cons pe_str (pa_cons (pe_ix i_x (pv 7) pe_int (fun _ _ => rfl)) (pa_cons (pe_tup (pa_cons (pe_ix i_x (pe_ix i_x (pv 7) pe_int (fun _ _ => rfl)) pe_int (fun _ _ => rfl)) (pa_cons (pv 2) (pa_cons (pv 5) pa_nil)))) pa_nil)))))
    (pss_one ps_retN))) pss_nil)))))))
    (pss_one (ps_fldC T.k_Evaluation T.n_Evaluation_fault (pv 0) (pe_tup (pa_cons pe_str (pa_cons (pe_ix i_x (pe_ix i_x (pe_fldC T.k_Evaluation T.n_Evaluation_program (pv 0) (by rfl)) pe_int (fun _ _ => rfl)) (pv 1) (fun _ _ => rfl)) (pa_cons (pv 2) pa_nil)))) rfl)))
theorem ok_Evaluation_finish (T : Txt w K mg) (O_evaluate : OkF P w K mg base 2 "evaluate" ["state", "expression", "scope"] (sp_evaluate K)) (O_continue_let : OkF P w K mg base 2 "continue_let" ["state", "expression", "scope"] (sp_continue_let K)) (O_continue_seq : OkF P w K mg base 2 "continue_seq" ["state", "expression", "scope"] (sp_continue_seq K)) (O_continue_if : OkF P w K mg base 2 "continue_if" ["state", "expression", "scope"] (sp_continue_if K)) (O_continue_case : OkF P w K mg base 2 "continue_case" ["state", "expression", "scope"] (sp_continue_case K)) (O_leave : OkF P w K mg base 1 "leave" ["state", "expression", "scope"] (sp_leave K)) (O_compute : OkF P w K mg base 4 "compute" ["state", "expression", "scope"] (sp_compute K)) : OkM P w K mg base 5 (He.ga K "Evaluation") "finish" ["self"] (sp_Evaluation_finish K) := by
  obtain ⟨fd, F⟩ := T.F_Evaluation_finish
  refine ⟨_, fd, T.k_Evaluation, T.m_Evaluation_finish, F.ok sc_Evaluation_finish (fun vs H Q E h => len_Evaluation_finish h) (fun cdv A outer s H vs Q E hr h => ⟨t_Evaluation_finish K, PSs.nox ?_, rd_Evaluation_finish h⟩), FunD.bindsN F fun _ _ _ _ _ _ us hl => match us, hl with | [_], _ => rfl⟩
  exact (pss_one (ps_while PassesOwn.never (PW.pt (pw_and (pt_tru (pe_fldC T.k_Evaluation T.n_Evaluation_tasks (pv 0) (by rfl))) (pw_and1 (pt_cmpR o_is (pe_fldC T.k_Evaluation T.n_Evaluation_fault (pv 0) (by rfl)) pe_non (nomark _))))) (pss_c (ps_asg (pe_bm0 PySem.F.plainAttrs_list PySem.F.slot_list_pop PySem.F.type_list_pop m_pop0 (pe_fldC T.k_Evaluation T.n_Evaluation_tasks (pv 0) (by rfl))) (pg_tup rfl (pgs_cons (pg_name (i := 1) sc_Evaluation_finish.nd rfl (Or.inl rfl)) (pgs_cons (pg_name (i := 2) sc_Evaluation_finish.nd rfl (Or.inl rfl)) (pgs_cons (pg_name (i := 3) sc_Evaluation_finish.nd rfl (Or.inl rfl)) (pgs_cons (pg_name (i := 4) sc_Evaluation_finish.nd rfl (Or.inl rfl)) pgs_nil))))))
    (pss_c (ps_set (i := 5) sc_Evaluation_finish.nd rfl (Or.inl rfl) (pe_kget T.dic_TASKS (pe_gref rfl T.a_TASKS) (pv 1) (fun _ _ => rfl)))
    (pss_one (ps_expr (pe_callM (.cons (heldU O_evaluate T.g_evaluate (hr.mono (by omega))) (.cons (heldU O_continue_let T.g_continue_let (hr.mono (by omega))) (.cons (heldU O_continue_seq T.g_continue_seq (hr.mono (by omega))) (.cons (heldU O_continue_if T.g_continue_if (hr.mono (by omega))) (.cons (heldU O_continue_case T.g_continue_case (hr.mono (by omega))) (.cons (heldU O_leave T.g_leave (hr.mono (by omega))) (.cons (heldU O_compute T.g_compute (hr.mono (by omega))) .nil))))))) (pa_cons (pv 0) (pa_cons (pv 2) (pa_cons (pv 3) pa_nil))))))))))
theorem ok_find_variable (T : Txt w K mg)  : OkF P w K mg base 1 "find_variable" ["scope", "name"] (sp_find_variable K) := by
  obtain ⟨fd, F⟩ := T.F_find_variable
  refine ⟨_, fd, T.g_find_variable, F.ok sc_find_variable (fun vs H Q E h => len_find_variable h) (fun cdv A outer s H vs Q E hr h => ⟨t_find_variable K, PSs.nox ?_, rd_find_variable h⟩), FunD.bindsN F fun _ _ _ _ _ _ us hl => match us, hl with | [_, _], _ => rfl, F.kp⟩
  exact (pss_c (ps_while PassesOwn.never (pt_cmpR (o_ne hr.units) (pe_ix i_x (pv 0) pe_int (fun _ _ => rfl)) (pv 1) (nomark _)) (pss_one (ps_set (i := 0) sc_find_variable.nd rfl (Or.inl rfl) (pe_ix i_x (pv 0) pe_int (fun _ _ => rfl)))))
    (pss_one (ps_ret (pe_ix i_x (pv 0) pe_int (fun _ _ => rfl)))))
theorem ok_evaluate (T : Txt w K mg) (O_find_variable : OkF P w K mg base 1 "find_variable" ["scope", "name"] (sp_find_variable K)) (O_Evaluation_plan : OkM P w K mg base 1 (He.ga K "Evaluation") "plan" ["self", "name", "expression", "scope"] (sp_Evaluation_plan K)) : OkF P w K mg base 2 "evaluate" ["state", "expression", "scope"] (sp_evaluate K) := by
  obtain ⟨fd, F⟩ := T.F_evaluate
  refine ⟨_, fd, T.g_evaluate, F.ok sc_evaluate (fun vs H Q E h => len_evaluate h) (fun cdv A outer s H vs Q E hr h => ⟨t_evaluate K, PSs.nox ?_, rd_evaluate h⟩), FunD.bindsN F fun _ _ _ _ _ _ us hl => match us, hl with | [_, _, _], _ => rfl, F.kp⟩
  exact (pss_c (ps_asg (pv 1) (pg_tup rfl (pgs_cons (pg_name (i := 3) sc_evaluate.nd rfl (Or.inl rfl)) (pgs_cons (pg_name (i := 4) sc_evaluate.nd rfl (Or.inl rfl)) (pgs_cons (pg_name (i := 5) sc_evaluate.nd rfl (Or.inl rfl)) (pgs_cons (pg_name (i := 6) sc_evaluate.nd rfl (Or.inl rfl)) (pgs_cons (pg_name (i := 7) sc_evaluate.nd rfl (Or.inl rfl)) pgs_nil)))))))
    (pss_one (ps_if (pt_cmpR o_in (pv 3) (pe_tup (pa_cons pe_str (pa_cons pe_str (pa_cons pe_str pa_nil)))) (by rfl)) (pss_one (ps_expr (pe_bm PySem.F.plainAttrs_list PySem.F.slot_list_append PySem.F.type_list_append m_append (pe_fldC T.k_Evaluation T.n_Evaluation_results (pv 0) (by rfl)) (pa_cons (pv 5) pa_nil)))) (pss_one (ps_if (pt_cmpR (o_eq hr.units) (pv 3) pe_str (nomark _)) (pss_one (ps_expr (pe_bm PySem.F.plainAttrs_list PySem.F.slot_list_append PySem.F.type_list_append m_append (pe_fldC T.k_Evaluation T.n_Evaluation_results (pv 0) (by rfl)) (pa_cons (pe_fn O_find_variable (hr.mono (by omega)) rfl (pa_cons (pv 2) (pa_cons (pv 5) pa_nil))) pa_nil)))) (pss_one (ps_if (pt_cmpR (o_eq hr.units) (pv 3) pe_str (nomark _)) (pss_one (ps_expr (pe_bm PySem.F.plainAttrs_list PySem.F.slot_list_append PySem.F.type_list_append m_append (pe_fldC T.k_Evaluation T.n_Evaluation_results (pv 0) (by rfl)) (pa_cons (pe_tup (pa_cons (pe_ix i_x (pv 5) pe_int (fun _ _ => rfl)) (pa_cons (pe_ix i_x (pv 6) pe_int (fun _ _ => rfl)) (pa_cons (pv 2) pa_nil)))) pa_nil)))) (pss_one (ps_if (pt_cmpR o_in (pv 3) (pe_tup (pa_cons pe_str (pa_cons pe_str (pa_cons pe_str (pa_cons pe_str pa_nil))))) (by rfl)) (pss_c (ps_expr (pe_mth O_Evaluation_plan (pv 0) (hr.mono (by omega)) (pa_cons (pv 3) (pa_cons (pv 1) (pa_cons (pv 2) pa_nil)))))
    (pss_one (ps_expr (pe_mth O_Evaluation_plan (pv 0) (hr.mono (by omega)) (pa_cons pe_str (pa_cons (pe_ix i_x (pv 6) pe_int (fun _ _ => rfl)) (pa_cons (pv 2) pa_nil))))))) (pss_one (ps_if (pt_cmpR (o_eq hr.units) (pv 3) pe_str (nomark _)) (pss_c (ps_expr (pe_mth O_Evaluation_plan (pv 0) (hr.mono (by omega)) (pa_cons pe_str (pa_cons (pv 1) (pa_cons (pv 2) pa_nil)))))
    (pss_one (ps_expr (pe_mth O_Evaluation_plan (pv 0) (hr.mono (by omega)) (pa_cons pe_str (pa_cons (pe_ix i_x (pv 6) pe_int (fun _ _ => rfl)) (pa_cons (pv 2) pa_nil))))))) (pss_c (ps_expr (pe_mth O_Evaluation_plan (pv 0) (hr.mono (by omega)) (pa_cons pe_str (pa_cons (pv 1) (pa_cons (pv 2) pa_nil)))))
    (pss_one (ps_for PassesOwn.never rfl (RT.pi_revA rfl T.b_reversed (pv 6)) (pg_name (i := 8) sc_evaluate.nd rfl (Or.inl rfl)) (pss_one (ps_expr (pe_mth O_Evaluation_plan (pv 0) (hr.mono (by omega)) (pa_cons pe_str (pa_cons (pv 8) (pa_cons (pv 2) pa_nil))))))))))))))))))))
theorem ok_continue_let (T : Txt w K mg) (O_Evaluation_plan : OkM P w K mg base 1 (He.ga K "Evaluation") "plan" ["self", "name", "expression", "scope"] (sp_Evaluation_plan K)) : OkF P w K mg base 2 "continue_let" ["state", "expression", "scope"] (sp_continue_let K) := by
  obtain ⟨fd, F⟩ := T.F_continue_let
  refine ⟨_, fd, T.g_continue_let, F.ok sc_continue_let (fun vs H Q E h => len_continue_let h) (fun cdv A outer s H vs Q E hr h => ⟨t_continue_let K, PSs.nox ?_, rd_continue_let h⟩), FunD.bindsN F fun _ _ _ _ _ _ us hl => match us, hl with | [_, _, _], _ => rfl, F.kp⟩
  exact (pss_c (ps_set (i := 3) sc_continue_let.nd rfl (Or.inl rfl) (pe_bm0 PySem.F.plainAttrs_list PySem.F.slot_list_pop PySem.F.type_list_pop m_pop0 (pe_fldC T.k_Evaluation T.n_Evaluation_results (pv 0) (by rfl))))
    (pss_one (ps_expr (pe_mth O_Evaluation_plan (pv 0) (hr.mono (by omega)) (pa_cons pe_str (pa_cons (pe_ix i_x (pe_ix i_x (pv 1) pe_int (fun _ _ => rfl)) pe_int (fun _ _ => rfl)) (pa_cons (pe_tup (pa_cons (pe_ix i_x (pv 1) pe_int (fun _ _ => rfl)) (pa_cons (pv 3) (pa_cons (pv 2) pa_nil)))) pa_nil)))))))
theorem ok_continue_seq (T : Txt w K mg) (O_Evaluation_plan : OkM P w K mg base 1 (He.ga K "Evaluation") "plan" ["self", "name", "expression", "scope"] (sp_Evaluation_plan K)) : OkF P w K mg base 2 "continue_seq" ["state", "expression", "scope"] (sp_continue_seq K) := by
  obtain ⟨fd, F⟩ := T.F_continue_seq
  refine ⟨_, fd, T.g_continue_seq, F.ok sc_continue_seq (fun vs H Q E h => len_continue_seq h) (fun cdv A outer s H vs Q E hr h => ⟨t_continue_seq K, PSs.nox ?_, rd_continue_seq h⟩), FunD.bindsN F fun _ _ _ _ _ _ us hl => match us, hl with | [_, _, _], _ => rfl, F.kp⟩
  exact (pss_c (ps_expr (pe_bm0 PySem.F.plainAttrs_list PySem.F.slot_list_pop PySem.F.type_list_pop m_pop0 (pe_fldC T.k_Evaluation T.n_Evaluation_results (pv 0) (by rfl))))
    (pss_one (ps_expr (pe_mth O_Evaluation_plan (pv 0) (hr.mono (by omega)) (pa_cons pe_str (pa_cons (pe_ix i_x (pe_ix i_x (pv 1) pe_int (fun _ _ => rfl)) pe_int (fun _ _ => rfl)) (pa_cons (pv 2) pa_nil)))))))
theorem ok_continue_if (T : Txt w K mg) (O_Evaluation_plan : OkM P w K mg base 1 (He.ga K "Evaluation") "plan" ["self", "name", "expression", "scope"] (sp_Evaluation_plan K)) : OkF P w K mg base 2 "continue_if" ["state", "expression", "scope"] (sp_continue_if K) := by
  obtain ⟨fd, F⟩ := T.F_continue_if
  refine ⟨_, fd, T.g_continue_if, F.ok sc_continue_if (fun vs H Q E h => len_continue_if h) (fun cdv A outer s H vs Q E hr h => ⟨t_continue_if K, PSs.nox ?_, rd_continue_if h⟩), FunD.bindsN F fun _ _ _ _ _ _ us hl => match us, hl with | [_, _, _], _ => rfl, F.kp⟩
  exact (pss_one (ps_if (pt_tru (pe_bm0 PySem.F.plainAttrs_list PySem.F.slot_list_pop PySem.F.type_list_pop m_pop0 (pe_fldC T.k_Evaluation T.n_Evaluation_results (pv 0) (by rfl)))) (pss_one (ps_expr (pe_mth O_Evaluation_plan (pv 0) (hr.mono (by omega)) (pa_cons pe_str (pa_cons (pe_ix i_x (pe_ix i_x (pv 1) pe_int (fun _ _ => rfl)) pe_int (fun _ _ => rfl)) (pa_cons (pv 2) pa_nil)))))) (pss_one (ps_expr (pe_mth O_Evaluation_plan (pv 0) (hr.mono (by omega)) (pa_cons pe_str (pa_cons (pe_ix i_x (pe_ix i_x (pv 1) pe_int (fun _ _ => rfl)) pe_int (fun _ _ => rfl)) (pa_cons (pv 2) pa_nil))))))))
theorem ok_continue_case (T : Txt w K mg) (O_Evaluation_plan : OkM P w K mg base 1 (He.ga K "Evaluation") "plan" ["self", "name", "expression", "scope"] (sp_Evaluation_plan K)) : OkF P w K mg base 2 "continue_case" ["state", "expression", "scope"] (sp_continue_case K) := by
  obtain ⟨fd, F⟩ := T.F_continue_case
  refine ⟨_, fd, T.g_continue_case, F.ok sc_continue_case (fun vs H Q E h => len_continue_case h) (fun cdv A outer s H vs Q E hr h => ⟨t_continue_case K, PSs.nox ?_, rd_continue_case h⟩), FunD.bindsN F fun _ _ _ _ _ _ us hl => match us, hl with | [_, _, _], _ => rfl, F.kp⟩
  exact (pss_c (ps_asg (pe_bm0 PySem.F.plainAttrs_list PySem.F.slot_list_pop PySem.F.type_list_pop m_pop0 (pe_fldC T.k_Evaluation T.n_Evaluation_results (pv 0) (by rfl))) (pg_tup rfl (pgs_cons (pg_name (i := 3) sc_continue_case.nd rfl (Or.inl rfl)) (pgs_cons (pg_name (i := 4) sc_continue_case.nd rfl (Or.inl rfl)) pgs_nil))))
    (pss_c (ps_set (i := 5) sc_continue_case.nd rfl (Or.inl rfl) (pe_ix i_x (pe_ix i_x (pv 1) pe_int (fun _ _ => rfl)) (pv 3) (fun _ _ => rfl)))
    (pss_c (ps_for PassesOwn.never rfl (pi_zipB rfl T.b_zip (pa_cons (pe_ix i_x (pv 5) pe_int (fun _ _ => rfl)) (pa_cons (pv 4) pa_nil))) (pg_tup rfl (pgs_cons (pg_name (i := 6) sc_continue_case.nd rfl (Or.inl rfl)) (pgs_cons (pg_name (i := 7) sc_continue_case.nd rfl (Or.inl rfl)) pgs_nil))) (pss_one (ps_set (i := 2) sc_continue_case.nd rfl (Or.inl rfl) (pe_tup (pa_cons (pv 6) (pa_cons (pv 7) (pa_cons (pv 2) pa_nil)))))))
    (pss_one (ps_expr (pe_mth O_Evaluation_plan (pv 0) (hr.mono (by omega)) (pa_cons pe_str (pa_cons (pe_ix i_x (pv 5) pe_int (fun _ _ => rfl)) (pa_cons (pv 2) pa_nil)))))))))
theorem ok_leave (T : Txt w K mg)  : OkF P w K mg base 1 "leave" ["state", "expression", "scope"] (sp_leave K) := by
  obtain ⟨fd, F⟩ := T.F_leave
  refine ⟨_, fd, T.g_leave, F.ok sc_leave (fun vs H Q E h => len_leave h) (fun cdv A outer s H vs Q E hr h => ⟨t_leave K, PSs.nox ?_, rd_leave h⟩), FunD.bindsN F fun _ _ _ _ _ _ us hl => match us, hl with | [_, _, _], _ => rfl, F.kp⟩
  exact (pss_one ps_pass)
theorem ok_compute (T : Txt w K mg) (O_enter : OkF P w K mg base 2 "enter" ["state", "op", "info", "given"] (sp_enter K)) (O_Evaluation_throw : OkM P w K mg base 2 (He.ga K "Evaluation") "throw" ["self", "number", "payload"] (sp_Evaluation_throw K)) (O_compute_ref : OkF P w K mg base 1 "compute_ref" ["state", "op", "given"] (sp_compute_ref K)) (O_compute_array : OkF P w K mg base 3 "compute_array" ["state", "op", "given"] (sp_compute_array K)) (O_calculate : OkF P w K mg base 3 "calculate" ["op", "first", "second"] (sp_calculate K)) : OkF P w K mg base 4 "compute" ["state", "expression", "scope"] (sp_compute K) := by
  obtain ⟨fd, F⟩ := T.F_compute
  refine ⟨_, fd, T.g_compute, F.ok sc_compute (fun vs H Q E h => len_compute h) (fun cdv A outer s H vs Q E hr h => ⟨t_compute K, PSs.nox ?_, rd_compute h⟩), FunD.bindsN F fun _ _ _ _ _ _ us hl => match us, hl with | [_, _, _], _ => rfl, F.kp⟩
  exact (pss_c (ps_asg (pv 1) (pg_tup rfl (pgs_cons (pg_name (i := 3) sc_compute.nd rfl (Or.inl rfl)) (pgs_cons (pg_name (i := 4) sc_compute.nd rfl (Or.inl rfl)) (pgs_cons (pg_name (i := 5) sc_compute.nd rfl (Or.inl rfl)) (pgs_cons (pg_name (i := 6) sc_compute.nd rfl (Or.inl rfl)) (pgs_cons (pg_name (i := 7) sc_compute.nd rfl (Or.inl rfl)) pgs_nil)))))))
    (pss_c (ps_set (i := 8) sc_compute.nd rfl (Or.inl rfl) (pe_op o_sub (pe_callB c_len (by rfl) T.b_len (by decide +kernel) (pa_cons (pe_fldC T.k_Evaluation T.n_Evaluation_results (pv 0) (by rfl)) pa_nil)) (pe_callB c_len (by rfl) T.b_len (by decide +kernel) (pa_cons (pv 6) pa_nil))))
    (pss_c (ps_set (i := 9) sc_compute.nd rfl (Or.inl rfl) (pe_slice s_l (pe_fldC T.k_Evaluation T.n_Evaluation_results (pv 0) (by rfl)) (po_some (pv 8)) po_none))
    (pss_c (ps_delK (pe_fldC T.k_Evaluation T.n_Evaluation_results (pv 0) (by rfl)) (pv 8))
    (pss_one (ps_if (pt_cmpR o_in (pv 3) (pe_tup (pa_cons pe_str (pa_cons pe_str pa_nil))) (by rfl)) (pss_one (ps_expr (pe_bm PySem.F.plainAttrs_list PySem.F.slot_list_append PySem.F.type_list_append m_append (pe_fldC T.k_Evaluation T.n_Evaluation_results (pv 0) (by rfl)) (pa_cons (pe_ifExp (pt_cmpR (o_eq hr.units) (pv 3) pe_str (nomark _)) (pe_tup (pa_cons (pv 5) (pa_cons (pe_callTy c_tuple (by rfl) T.b_tuple (by decide +kernel) (pa_cons (pv 9) pa_nil)) pa_nil))) (pe_callTy c_tuple (by rfl) T.b_tuple (by decide +kernel) (pa_cons (pv 9) pa_nil))) pa_nil)))) (pss_one (ps_if (pt_cmpR (o_eq hr.units) (pv 3) pe_str (nomark _)) (pss_one (ps_expr (pe_bm PySem.F.plainAttrs_list PySem.F.slot_list_append PySem.F.type_list_append m_append (pe_fldC T.k_Evaluation T.n_Evaluation_results (pv 0) (by rfl)) (pa_cons (pe_ix i_x (pe_ix i_x (pv 9) pe_int (fun _ _ => rfl)) (pv 5) (fun _ _ => rfl)) pa_nil)))) (pss_one (ps_if (pt_cmpR o_in (pv 3) (pe_tup (pa_cons pe_str (pa_cons pe_str pa_nil))) (by rfl)) (pss_one (ps_expr (pe_fn O_enter (hr.mono (by omega)) rfl (pa_cons (pv 0) (pa_cons (pv 3) (pa_cons (pv 5) (pa_cons (pv 9) pa_nil))))))) (pss_one (ps_if (pt_cmpR (o_eq hr.units) (pv 3) pe_str (nomark _)) (pss_one (ps_expr (pe_mth O_Evaluation_throw (pv 0) (hr.mono (by omega)) (pa_cons (pv 5) (pa_cons (pe_ix i_x (pv 9) pe_int (fun _ _ => rfl)) pa_nil))))) (pss_one (ps_if (pt_cmpR (o_eq hr.units) (pv 3) pe_str (nomark _)) (pss_c (ps_expr (pe_bm PySem.F.plainAttrs_list PySem.F.slot_list_append PySem.F.type_list_append m_append (pe_fldC T.k_Evaluation T.n_Evaluation_outs (pv 0) (by rfl)) (pa_cons (pe_ix i_x (pv 9) pe_int (fun _ _ => rfl)) pa_nil)))
    (pss_one (ps_expr (pe_bm PySem.F.plainAttrs_list PySem.F.slot_list_append PySem.F.type_list_append m_append (pe_fldC T.k_Evaluation T.n_Evaluation_results (pv 0) (by rfl)) (pa_cons pe_non pa_nil))))) (pss_one (ps_if (pt_cmpR o_in (pv 3) (pe_tup (pa_cons pe_str (pa_cons pe_str (pa_cons pe_str pa_nil)))) (by rfl)) (pss_one (ps_expr (pe_fn O_compute_ref (hr.mono (by omega)) rfl (pa_cons (pv 0) (pa_cons (pv 3) (pa_cons (pv 9) pa_nil)))))) (pss_one (ps_if (pt_cmpR o_in (pv 3) (pe_tup (pa_cons pe_str (pa_cons pe_str (pa_cons pe_str (pa_cons pe_str pa_nil))))) (by rfl)) (pss_one (ps_expr (pe_fn O_compute_array (hr.mono (by omega)) rfl (pa_cons (pv 0) (pa_cons (pv 3) (pa_cons (pv 9) pa_nil)))))) (pss_one (ps_if (PW.pt (pw_and (pt_cmpR o_in (pv 3) (pe_tup (pa_cons pe_str (pa_cons pe_str pa_nil))) (by rfl)) (pw_and1 (pt_cmpR (o_eq hr.units) (pe_ix i_x (pv 9) pe_int (fun _ _ => rfl)) pe_int (nomark _))))) (pss_one (ps_expr (pe_mth O_Evaluation_throw (pv 0) (hr.mono (by omega)) (pa_cons pe_int (pa_cons pe_int pa_nil))))) (pss_one (ps_expr (pe_bm PySem.F.plainAttrs_list PySem.F.slot_list_append PySem.F.type_list_append m_append (pe_fldC T.k_Evaluation T.n_Evaluation_results (pv 0) (by rfl)) (pa_cons (pe_fn O_calculate (hr.mono (by omega)) rfl (pa_cons (pv 3) (pa_cons (pe_ix i_x (pv 9) pe_int (fun _ _ => rfl)) (pa_cons (pe_ix i_x (pv 9) pe_int (fun _ _ => rfl)) pa_nil)))) pa_nil))))))))))))))))))))))))
theorem ok_enter (T : Txt w K mg) (O_Evaluation_spend : OkM P w K mg base 1 (He.ga K "Evaluation") "spend" ["self", "count"] (sp_Evaluation_spend K)) (O_Evaluation_plan : OkM P w K mg base 1 (He.ga K "Evaluation") "plan" ["self", "name", "expression", "scope"] (sp_Evaluation_plan K)) : OkF P w K mg base 2 "enter" ["state", "op", "info", "given"] (sp_enter K) := by
  obtain ⟨fd, F⟩ := T.F_enter
  refine ⟨_, fd, T.g_enter, F.ok sc_enter (fun vs H Q E h => len_enter h) (fun cdv A outer s H vs Q E hr h => ⟨t_enter K, PSs.nox ?_, rd_enter h⟩), FunD.bindsN F fun _ _ _ _ _ _ us hl => match us, hl with | [_, _, _, _], _ => rfl, F.kp⟩
  exact (pss_c (ps_if (pt_not (pt_tru (pe_mth O_Evaluation_spend (pv 0) (hr.mono (by omega)) (pa_cons pe_int pa_nil)))) (pss_one ps_retN) pss_nil)
    (pss_c (ps_if (pt_cmpR (o_eq hr.units) (pv 1) pe_str (nomark _)) (pss_c (ps_asg (pe_ix i_x (pv 3) pe_int (fun _ _ => rfl)) (pg_tup rfl (pgs_cons (pg_name (i := 4) sc_enter.nd rfl (Or.inl rfl)) (pgs_cons (pg_name (i := 5) sc_enter.nd rfl (Or.inl rfl)) (pgs_cons (pg_name (i := 6) sc_enter.nd rfl (Or.inl rfl)) pgs_nil)))))
    (pss_c (ps_expr (pe_mth O_Evaluation_plan (pv 0) (hr.mono (by omega)) (pa_cons pe_str (pa_cons (pv 5) (pa_cons (pe_tup (pa_cons (pv 4) (pa_cons (pe_ix i_x (pv 3) pe_int (fun _ _ => rfl)) (pa_cons (pv 6) pa_nil)))) pa_nil)))))
    (pss_one ps_retN))) pss_nil)
    (pss_c (ps_set (i := 7) sc_enter.nd rfl (Or.inl rfl) (pe_ix i_x (pe_ix i_x (pe_fldC T.k_Evaluation T.n_Evaluation_program (pv 0) (by rfl)) pe_int (fun _ _ => rfl)) (pv 2) (fun _ _ => rfl)))
    (pss_c (ps_set (i := 6) sc_enter.nd rfl (Or.inl rfl) pe_non)
    (pss_c (ps_for PassesOwn.never rfl (pi_zipB rfl T.b_zip (pa_cons (pe_ix i_x (pv 7) pe_int (fun _ _ => rfl)) (pa_cons (pv 3) pa_nil))) (pg_tup rfl (pgs_cons (pg_name (i := 8) sc_enter.nd rfl (Or.inl rfl)) (pgs_cons (pg_name (i := 9) sc_enter.nd rfl (Or.inl rfl)) pgs_nil))) (pss_one (ps_set (i := 6) sc_enter.nd rfl (Or.inl rfl) (pe_tup (pa_cons (pe_ix i_x (pv 8) pe_int (fun _ _ => rfl)) (pa_cons (pv 9) (pa_cons (pv 6) pa_nil)))))))
    (pss_one (ps_expr (pe_mth O_Evaluation_plan (pv 0) (hr.mono (by omega)) (pa_cons pe_str (pa_cons (pe_ix i_x (pv 7) pe_int (fun _ _ => rfl)) (pa_cons (pv 6) pa_nil)))))))))))
theorem ok_compute_ref (T : Txt w K mg)  : OkF P w K mg base 1 "compute_ref" ["state", "op", "given"] (sp_compute_ref K) := by
  obtain ⟨fd, F⟩ := T.F_compute_ref
  refine ⟨_, fd, T.g_compute_ref, F.ok sc_compute_ref (fun vs H Q E h => len_compute_ref h) (fun cdv A outer s H vs Q E hr h => ⟨t_compute_ref K, PSs.nox ?_, rd_compute_ref h⟩), FunD.bindsN F fun _ _ _ _ _ _ us hl => match us, hl with | [_, _, _], _ => rfl, F.kp⟩
  exact (pss_one (ps_if (pt_cmpR (o_eq hr.units) (pv 1) pe_str (nomark _)) (pss_one (ps_expr (pe_bm PySem.F.plainAttrs_list PySem.F.slot_list_append PySem.F.type_list_append m_append (pe_fldC T.k_Evaluation T.n_Evaluation_results (pv 0) (by rfl)) (pa_cons (pe_lst (pa_cons (pe_ix i_x (pv 2) pe_int (fun _ _ => rfl)) pa_nil)) pa_nil)))) (pss_one (ps_if (pt_cmpR (o_eq hr.units) (pv 1) pe_str (nomark _)) (pss_one (ps_expr (pe_bm PySem.F.plainAttrs_list PySem.F.slot_list_append PySem.F.type_list_append m_append (pe_fldC T.k_Evaluation T.n_Evaluation_results (pv 0) (by rfl)) (pa_cons (pe_ix i_x (pe_ix i_x (pv 2) pe_int (fun _ _ => rfl)) pe_int (fun _ _ => rfl)) pa_nil)))) (pss_c (ps_asg (pe_ix i_x (pv 2) pe_int (fun _ _ => rfl)) (pg_sub (pe_ix i_x (pv 2) pe_int (fun _ _ => rfl)) pe_int p_list))
    (pss_one (ps_expr (pe_bm PySem.F.plainAttrs_list PySem.F.slot_list_append PySem.F.type_list_append m_append (pe_fldC T.k_Evaluation T.n_Evaluation_results (pv 0) (by rfl)) (pa_cons pe_non pa_nil)))))))))
theorem ok_compute_array (T : Txt w K mg) (O_Evaluation_throw : OkM P w K mg base 2 (He.ga K "Evaluation") "throw" ["self", "number", "payload"] (sp_Evaluation_throw K)) (O_Evaluation_spend : OkM P w K mg base 1 (He.ga K "Evaluation") "spend" ["self", "count"] (sp_Evaluation_spend K)) : OkF P w K mg base 3 "compute_array" ["state", "op", "given"] (sp_compute_array K) := by
  obtain ⟨fd, F⟩ := T.F_compute_array
  refine ⟨_, fd, T.g_compute_array, F.ok sc_compute_array (fun vs H Q E h => len_compute_array h) (fun cdv A outer s H vs Q E hr h => ⟨t_compute_array K, PSs.nox ?_, rd_compute_array h⟩), FunD.bindsN F fun _ _ _ _ _ _ us hl => match us, hl with | [_, _, _], _ => rfl, F.kp⟩
  exact (pss_one (ps_if (pt_cmpR (o_eq hr.units) (pv 1) pe_str (nomark _)) (pss_one (ps_expr (pe_bm PySem.F.plainAttrs_list PySem.F.slot_list_append PySem.F.type_list_append m_append (pe_fldC T.k_Evaluation T.n_Evaluation_results (pv 0) (by rfl)) (pa_cons (pe_callB c_len (by rfl) T.b_len (by decide +kernel) (pa_cons (pe_ix i_x (pv 2) pe_int (fun _ _ => rfl)) pa_nil)) pa_nil)))) (pss_one (ps_if (pt_cmpR (o_eq hr.units) (pv 1) pe_str (nomark _)) (pss_c (ps_set (i := 3) sc_compute_array.nd rfl (Or.inl rfl) (pe_ix i_x (pv 2) pe_int (fun _ _ => rfl)))
    (pss_one (ps_if (PW.pt (pw_or (pt_cmpR o_lt (pv 3) pe_int (nomark _)) (pw_or1 (pt_cmpR o_gt (pv 3) (pe_gint rfl T.c_MAX_ARRAY) (nomark _))))) (pss_one (ps_expr (pe_mth O_Evaluation_throw (pv 0) (hr.mono (by omega)) (pa_cons pe_int (pa_cons (pv 3) pa_nil))))) (pss_one (ps_if (pt_tru (pe_mth O_Evaluation_spend (pv 0) (hr.mono (by omega)) (pa_cons (pv 3) pa_nil))) (pss_one (ps_expr (pe_bm PySem.F.plainAttrs_list PySem.F.slot_list_append PySem.F.type_list_append m_append (pe_fldC T.k_Evaluation T.n_Evaluation_results (pv 0) (by rfl)) (pa_cons (pe_op o_mul (pe_lst (pa_cons (pe_ix i_x (pv 2) pe_int (fun _ _ => rfl)) pa_nil)) (pv 3)) pa_nil)))) pss_nil))))) (pss_one (ps_if (PW.pt (pw_or (pt_cmpR o_lt (pe_ix i_x (pv 2) pe_int (fun _ _ => rfl)) pe_int (nomark _)) (pw_or1 (pt_cmpR o_ge (pe_ix i_x (pv 2) pe_int (fun _ _ => rfl)) (pe_callB c_len (by rfl) T.b_len (by decide +kernel) (pa_cons (pe_ix i_x (pv 2) pe_int (fun _ _ => rfl)) pa_nil)) (nomark _))))) (pss_one (ps_expr (pe_mth O_Evaluation_throw (pv 0) (hr.mono (by omega)) (pa_cons pe_int (pa_cons (pe_ix i_x (pv 2) pe_int (fun _ _ => rfl)) pa_nil))))) (pss_one (ps_if (pt_cmpR (o_eq hr.units) (pv 1) pe_str (nomark _)) (pss_one (ps_expr (pe_bm PySem.F.plainAttrs_list PySem.F.slot_list_append PySem.F.type_list_append m_append (pe_fldC T.k_Evaluation T.n_Evaluation_results (pv 0) (by rfl)) (pa_cons (pe_ix i_x (pe_ix i_x (pv 2) pe_int (fun _ _ => rfl)) (pe_ix i_x (pv 2) pe_int (fun _ _ => rfl)) (fun _ _ => rfl)) pa_nil)))) (pss_c (ps_asg (pe_ix i_x (pv 2) pe_int (fun _ _ => rfl)) (pg_sub (pe_ix i_x (pv 2) pe_int (fun _ _ => rfl)) (pe_ix i_x (pv 2) pe_int (fun _ _ => rfl)) p_list))
    (pss_one (ps_expr (pe_bm PySem.F.plainAttrs_list PySem.F.slot_list_append PySem.F.type_list_append m_append (pe_fldC T.k_Evaluation T.n_Evaluation_results (pv 0) (by rfl)) (pa_cons pe_non pa_nil)))))))))))))
theorem ok_run (T : Txt w K mg) (O_wrap : OkF P w K mg base 1 "wrap" ["number"] (sp_wrap K)) (O_Evaluation___init__ : OkC P w K mg base 1 "Evaluation" (He.ga K "Evaluation") ["self", "program", "fuel"] (sp_Evaluation___init__ K)) (O_Evaluation_plan : OkM P w K mg base 1 (He.ga K "Evaluation") "plan" ["self", "name", "expression", "scope"] (sp_Evaluation_plan K)) (O_Evaluation_finish : OkM P w K mg base 5 (He.ga K "Evaluation") "finish" ["self"] (sp_Evaluation_finish K)) : OkK P w K mg base 6 "run" ["program", "arguments", "fuel"] ["fuel"] [.int 200] 2 (sp_run K) := by
  obtain ⟨fd, F⟩ := T.F_run
  refine ⟨_, fd, T.g_run, F.ok sc_run (fun vs H Q E h => len_run h) (fun cdv A outer s H vs Q E hr h => ⟨t_run K, PSs.nox ?_, rd_run h⟩), F.binds0 2 (by decide) rfl (fun D doc pm an cdv ct us ks h1 h2 => ?_), kb0 F 2 (fun kV doc pm an cdv ct us ks h1 h2 => match us, ks, h1, h2 with | [u0, u1], [k0], _, _ => rfl), F.kp⟩
  · exact (pss_c (ps_set (i := 3) sc_run.nd rfl (Or.inl rfl) (pe_ix i_x (pe_ix i_x (pv 0) pe_int (fun _ _ => rfl)) (pe_un u_neg pe_int) (fun _ _ => rfl)))
    (pss_c (ps_if (pt_cmpR (o_ne hr.units) (pe_callB c_len (by rfl) T.b_len (by decide +kernel) (pa_cons (pv 1) pa_nil)) (pe_callB c_len (by rfl) T.b_len (by decide +kernel) (pa_cons (pe_ix i_x (pv 3) pe_int (fun _ _ => rfl)) pa_nil)) (nomark _)) (pss_one (ps_ret (pe_tup (pa_cons (pe_tup (pa_cons pe_str pa_nil)) (pa_cons pe_int (pa_cons (pe_tup pa_nil) (pa_cons pe_int pa_nil))))))) pss_nil)
    (pss_c (ps_set (i := 4) sc_run.nd rfl (Or.inl rfl) pe_non)
    (pss_c (ps_for PassesOwn.never rfl (pi_zipB rfl T.b_zip (pa_cons (pe_ix i_x (pv 3) pe_int (fun _ _ => rfl)) (pa_cons (pv 1) pa_nil))) (pg_tup rfl (pgs_cons (pg_name (i := 5) sc_run.nd rfl (Or.inl rfl)) (pgs_cons (pg_name (i := 6) sc_run.nd rfl (Or.inl rfl)) pgs_nil))) (pss_one (ps_set (i := 4) sc_run.nd rfl (Or.inl rfl) (pe_tup (pa_cons (pe_ix i_x (pv 5) pe_int (fun _ _ => rfl)) (pa_cons (pe_fn O_wrap (hr.mono (by omega)) rfl (pa_cons (pv 6) pa_nil)) (pa_cons (pv 4) pa_nil)))))))
    (pss_c (ps_set (i := 7) sc_run.nd rfl (Or.inl rfl) (pe_mk O_Evaluation___init__ (hr.mono (by omega)) rfl (pa_cons (pv 0) (pa_cons (pe_callB (c_max rfl) (by rfl) T.b_max (by decide +kernel) (pa_cons pe_int (pa_cons (pe_callB (c_min rfl) (by rfl) T.b_min (by decide +kernel) (pa_cons (pv 2) (pa_cons (pe_gint rfl T.c_MAX_FUEL) pa_nil))) pa_nil))) pa_nil))))
    (pss_c (ps_expr (pe_mth O_Evaluation_plan (pv 7) (hr.mono (by omega)) (pa_cons pe_str (pa_cons (pe_ix i_x (pv 3) pe_int (fun _ _ => rfl)) (pa_cons (pv 4) pa_nil)))))
    (pss_c (ps_expr (pe_mth0 O_Evaluation_finish (pv 7) (hr.mono (by omega))))
    (pss_c (ps_set (i := 8) sc_run.nd rfl (Or.inl rfl) pe_int)
    (pss_c (ps_if (pt_cmpR o_is (pe_fldC T.k_Evaluation T.n_Evaluation_fault (pv 7) (by rfl)) pe_non (nomark _)) (pss_one (ps_set (i := 8) sc_run.nd rfl (Or.inl rfl) (pe_ix i_x (pe_fldC T.k_Evaluation T.n_Evaluation_results (pv 7) (by rfl)) pe_int (fun _ _ => rfl)))) pss_nil)
    (pss_one (ps_ret (pe_tup (pa_cons (pe_fldC T.k_Evaluation T.n_Evaluation_fault (pv 7) (by rfl)) (pa_cons (pv 8) (pa_cons (pe_callTy c_tuple (by rfl) T.b_tuple (by decide +kernel) (pa_cons (pe_fldC T.k_Evaluation T.n_Evaluation_outs (pv 7) (by rfl)) pa_nil)) (pa_cons (pe_fldC T.k_Evaluation T.n_Evaluation_ticks (pv 7) (by rfl)) pa_nil))))))))))))))))
  · match us, ks, h1, h2 with
    | [u0, u1], [k0], _, _ => exact ⟨_, _, _, _, _, _, rfl, rfl, rfl⟩
theorem ok_l_cell (T : Txt w K mg)  : OkF P w K mg base 1 "_law_cell" ["_law_script", "_law_at"] (sp_l_cell K) := by
  obtain ⟨fd, F⟩ := T.F_l_cell
  refine ⟨_, fd, T.g_l_cell, F.ok sc_l_cell (fun vs H Q E h => len_l_cell h) (fun cdv A outer s H vs Q E hr h => ⟨t_l_cell K, PSs.nox ?_, rd_l_cell h⟩), FunD.bindsN F fun _ _ _ _ _ _ us hl => match us, hl with | [_, _], _ => rfl, F.kp⟩
  exact (pss_c (ps_if (pt_cmpR o_lt (pv 1) (pe_callB c_len (by rfl) T.b_len (by decide +kernel) (pa_cons (pv 0) pa_nil)) (nomark _)) (pss_one (ps_ret (pe_ix i_x (pv 0) (pv 1) (fun _ _ => rfl)))) pss_nil)
    (pss_one (ps_ret pe_int)))
theorem ok_l_whole (T : Txt w K mg)  : OkF P w K mg base 1 "_law_whole" [] (sp_l_whole K) := by
  obtain ⟨fd, F⟩ := T.F_l_whole
  refine ⟨_, fd, T.g_l_whole, F.ok sc_l_whole (fun vs H Q E h => len_l_whole h) (fun cdv A outer s H vs Q E hr h => ⟨t_l_whole K, PSs.nox ?_, rd_l_whole h⟩), FunD.bindsN F fun _ _ _ _ _ _ us hl => match us, hl with | [], _ => rfl, F.kp⟩
  exact (pss_one (ps_ret (pe_tup (pa_cons pe_str (pa_cons (pe_tup pa_nil) (pa_cons pe_int pa_nil))))))
theorem ok_l_int (T : Txt w K mg) (O_l_whole : OkF P w K mg base 1 "_law_whole" [] (sp_l_whole K)) : OkF P w K mg base 2 "_law_int" ["_law_value"] (sp_l_int K) := by
  obtain ⟨fd, F⟩ := T.F_l_int
  refine ⟨_, fd, T.g_l_int, F.ok sc_l_int (fun vs H Q E h => len_l_int h) (fun cdv A outer s H vs Q E hr h => ⟨t_l_int K, PSs.nox ?_, rd_l_int h⟩), FunD.bindsN F fun _ _ _ _ _ _ us hl => match us, hl with | [_], _ => rfl, F.kp⟩
  exact (pss_one (ps_ret (pe_tup (pa_cons pe_str (pa_cons (pe_fn0 O_l_whole (hr.mono (by omega)) rfl) (pa_cons (pv 0) (pa_cons (pe_tup pa_nil) (pa_cons (pe_tup pa_nil) pa_nil))))))))
theorem ok_l_name (T : Txt w K mg)  : OkF P w K mg base 1 "_law_name" ["_law_kind", "_law_name_here"] (sp_l_name K) := by
  obtain ⟨fd, F⟩ := T.F_l_name
  refine ⟨_, fd, T.g_l_name, F.ok sc_l_name (fun vs H Q E h => len_l_name h) (fun cdv A outer s H vs Q E hr h => ⟨t_l_name K, PSs.nox ?_, rd_l_name h⟩), FunD.bindsN F fun _ _ _ _ _ _ us hl => match us, hl with | [_, _], _ => rfl, F.kp⟩
  exact (pss_one (ps_ret (pe_tup (pa_cons pe_str (pa_cons (pv 0) (pa_cons (pv 1) (pa_cons (pe_tup pa_nil) (pa_cons (pe_tup pa_nil) pa_nil))))))))
theorem ok_l_seq (T : Txt w K mg)  : OkF P w K mg base 1 "_law_seq" ["_law_first", "_law_second"] (sp_l_seq K) := by
  obtain ⟨fd, F⟩ := T.F_l_seq
  refine ⟨_, fd, T.g_l_seq, F.ok sc_l_seq (fun vs H Q E h => len_l_seq h) (fun cdv A outer s H vs Q E hr h => ⟨t_l_seq K, PSs.nox ?_, rd_l_seq h⟩), FunD.bindsN F fun _ _ _ _ _ _ us hl => match us, hl with | [_, _], _ => rfl, F.kp⟩
  exact (pss_one (ps_ret (pe_tup (pa_cons pe_str (pa_cons (pe_ix i_x (pv 1) pe_int (fun _ _ => rfl)) (pa_cons pe_non (pa_cons (pe_tup (pa_cons (pv 0) (pa_cons (pv 1) pa_nil))) (pa_cons (pe_tup pa_nil) pa_nil))))))))
theorem ok_l_let (T : Txt w K mg)  : OkF P w K mg base 1 "_law_let" ["_law_name_here", "_law_value", "_law_body"] (sp_l_let K) := by
  obtain ⟨fd, F⟩ := T.F_l_let
  refine ⟨_, fd, T.g_l_let, F.ok sc_l_let (fun vs H Q E h => len_l_let h) (fun cdv A outer s H vs Q E hr h => ⟨t_l_let K, PSs.nox ?_, rd_l_let h⟩), FunD.bindsN F fun _ _ _ _ _ _ us hl => match us, hl with | [_, _, _], _ => rfl, F.kp⟩
  exact (pss_one (ps_ret (pe_tup (pa_cons pe_str (pa_cons (pe_ix i_x (pv 2) pe_int (fun _ _ => rfl)) (pa_cons (pv 0) (pa_cons (pe_tup (pa_cons (pv 1) (pa_cons (pv 2) pa_nil))) (pa_cons (pe_tup pa_nil) pa_nil))))))))
theorem ok_l_deeds (T : Txt w K mg)  : OkF P w K mg base 1 "_law_deeds" ["_law_cells", "_law_many"] (sp_l_deeds K) := by
  obtain ⟨fd, F⟩ := T.F_l_deeds
  refine ⟨_, fd, T.g_l_deeds, F.ok sc_l_deeds (fun vs H Q E h => len_l_deeds h) (fun cdv A outer s H vs Q E hr h => ⟨t_l_deeds K, PSs.nox ?_, rd_l_deeds h⟩), FunD.bindsN F fun _ _ _ _ _ _ us hl => match us, hl with | [_, _], _ => rfl, F.kp⟩
  exact (pss_c (ps_set (i := 2) sc_l_deeds.nd rfl (Or.inl rfl) (pe_lst pa_nil))
    (pss_c (ps_for PassesOwn.never rfl (pi_any (pv 0)) (pg_name (i := 3) sc_l_deeds.nd rfl (Or.inl rfl)) (pss_c (ps_set (i := 4) sc_l_deeds.nd rfl (Or.inl rfl) (pe_op o_mod (pv 3) pe_int))
    (pss_c (ps_set (i := 5) sc_l_deeds.nd rfl (Or.inl rfl) (pe_op o_mod (pe_op o_fdiv (pv 3) pe_int) pe_int))
    (pss_c (ps_set (i := 6) sc_l_deeds.nd rfl (Or.inl rfl) (pe_op o_sub (pe_op o_mod (pe_op o_fdiv (pv 3) pe_int) (pe_op o_add (pv 1) pe_int)) pe_int))
    (pss_c (ps_set (i := 7) sc_l_deeds.nd rfl (Or.inl rfl) (pe_op o_sub (pe_op o_mod (pe_callTy c_int (by rfl) T.b_int (by decide +kernel) (pa_cons (pe_op o_fdiv (pv 3) pe_int) pa_nil)) (pe_op o_pow pe_int pe_int)) (pe_op o_pow pe_int pe_int)))
    (pss_one (ps_expr (pe_bm PySem.F.plainAttrs_list PySem.F.slot_list_append PySem.F.type_list_append m_append (pv 2) (pa_cons (pe_tup (pa_cons (pv 4) (pa_cons (pv 5) (pa_cons (pv 6) (pa_cons (pv 7) pa_nil))))) pa_nil)))))))))
    (pss_one (ps_ret (pv 2)))))
theorem ok_l_print (T : Txt w K mg)  : OkF P w K mg base 1 "_law_print" ["_law_kid"] (sp_l_print K) := by
  obtain ⟨fd, F⟩ := T.F_l_print
  refine ⟨_, fd, T.g_l_print, F.ok sc_l_print (fun vs H Q E h => len_l_print h) (fun cdv A outer s H vs Q E hr h => ⟨t_l_print K, PSs.nox ?_, rd_l_print h⟩), FunD.bindsN F fun _ _ _ _ _ _ us hl => match us, hl with | [_], _ => rfl, F.kp⟩
  exact (pss_one (ps_ret (pe_tup (pa_cons pe_str (pa_cons (pe_tup (pa_cons pe_str (pa_cons (pe_tup pa_nil) (pa_cons pe_int pa_nil)))) (pa_cons pe_non (pa_cons (pe_tup (pa_cons (pv 0) pa_nil)) (pa_cons (pe_tup pa_nil) pa_nil))))))))
theorem ok_l_expression (T : Txt w K mg) (O_l_whole : OkF P w K mg base 1 "_law_whole" [] (sp_l_whole K)) (O_l_name : OkF P w K mg base 1 "_law_name" ["_law_kind", "_law_name_here"] (sp_l_name K)) (O_l_int : OkF P w K mg base 2 "_law_int" ["_law_value"] (sp_l_int K)) (O_l_print : OkF P w K mg base 1 "_law_print" ["_law_kid"] (sp_l_print K)) : OkF P w K mg base 3 "_law_expression" ["_law_deed"] (sp_l_expression K) := by
  obtain ⟨fd, F⟩ := T.F_l_expression
  refine ⟨_, fd, T.g_l_expression, F.ok sc_l_expression (fun vs H Q E h => len_l_expression h) (fun cdv A outer s H vs Q E hr h => ⟨t_l_expression K, PSs.nox ?_, rd_l_expression h⟩), FunD.bindsN F fun _ _ _ _ _ _ us hl => match us, hl with | [_], _ => rfl, F.kp⟩
  exact (pss_c (ps_set (i := 1) sc_l_expression.nd rfl (Or.inl rfl) (pe_tup (pa_cons pe_str (pa_cons (pe_tup pa_nil) (pa_cons pe_int pa_nil)))))
    (pss_c (ps_set (i := 2) sc_l_expression.nd rfl (Or.inl rfl) (pe_fn0 O_l_whole (hr.mono (by omega)) rfl))
    (pss_c (ps_set (i := 3) sc_l_expression.nd rfl (Or.inl rfl) (pe_tup (pa_cons pe_str (pa_cons (pe_tup (pa_cons (pv 2) pa_nil)) (pa_cons pe_int pa_nil)))))
    (pss_c (ps_set (i := 4) sc_l_expression.nd rfl (Or.inl rfl) (pe_tup (pa_cons pe_str (pa_cons (pe_tup (pa_cons (pv 2) pa_nil)) (pa_cons pe_int pa_nil)))))
    (pss_c (ps_set (i := 5) sc_l_expression.nd rfl (Or.inl rfl) (pe_fn O_l_name (hr.mono (by omega)) rfl (pa_cons (pv 3) (pa_cons (pe_ix i_x (pe_lst (pa_cons pe_str (pa_cons pe_str (pa_cons pe_str (pa_cons pe_str pa_nil))))) (pe_ix i_x (pv 0) pe_int (fun _ _ => rfl)) (fun _ _ => rfl)) pa_nil))))
    (pss_c (ps_set (i := 6) sc_l_expression.nd rfl (Or.inl rfl) (pe_fn O_l_name (hr.mono (by omega)) rfl (pa_cons (pv 4) (pa_cons (pe_ix i_x (pe_lst (pa_cons pe_str (pa_cons pe_str (pa_cons pe_str (pa_cons pe_str pa_nil))))) (pe_ix i_x (pv 0) pe_int (fun _ _ => rfl)) (fun _ _ => rfl)) pa_nil))))
    (pss_c (ps_if (pt_cmpR (o_eq hr.units) (pe_ix i_x (pv 0) pe_int (fun _ _ => rfl)) pe_int (nomark _)) (pss_one (ps_ret (pe_tup (pa_cons pe_str (pa_cons (pv 1) (pa_cons pe_non (pa_cons (pe_tup (pa_cons (pv 5) (pa_cons (pe_fn O_l_int (hr.mono (by omega)) rfl (pa_cons (pe_ix i_x (pv 0) pe_int (fun _ _ => rfl)) pa_nil)) pa_nil))) (pa_cons (pe_tup pa_nil) pa_nil)))))))) pss_nil)
    (pss_c (ps_if (pt_cmpR (o_eq hr.units) (pe_ix i_x (pv 0) pe_int (fun _ _ => rfl)) pe_int (nomark _)) (pss_one (ps_ret (pe_fn O_l_print (hr.mono (by omega)) rfl (pa_cons (pe_tup (pa_cons pe_str (pa_cons (pv 2) (pa_cons pe_non (pa_cons (pe_tup (pa_cons (pv 5) pa_nil)) (pa_cons (pe_tup pa_nil) pa_nil)))))) pa_nil)))) pss_nil)
    (pss_c (ps_if (pt_cmpR (o_eq hr.units) (pe_ix i_x (pv 0) pe_int (fun _ _ => rfl)) pe_int (nomark _)) (pss_one (ps_ret (pe_tup (pa_cons pe_str (pa_cons (pv 1) (pa_cons pe_non (pa_cons (pe_tup (pa_cons (pv 6) (pa_cons (pe_fn O_l_int (hr.mono (by omega)) rfl (pa_cons (pe_ix i_x (pv 0) pe_int (fun _ _ => rfl)) pa_nil)) (pa_cons (pe_fn O_l_int (hr.mono (by omega)) rfl (pa_cons (pe_ix i_x (pv 0) pe_int (fun _ _ => rfl)) pa_nil)) pa_nil)))) (pa_cons (pe_tup pa_nil) pa_nil)))))))) pss_nil)
    (pss_c (ps_if (pt_cmpR (o_eq hr.units) (pe_ix i_x (pv 0) pe_int (fun _ _ => rfl)) pe_int (nomark _)) (pss_one (ps_ret (pe_fn O_l_print (hr.mono (by omega)) rfl (pa_cons (pe_tup (pa_cons pe_str (pa_cons (pv 2) (pa_cons pe_non (pa_cons (pe_tup (pa_cons (pv 6) (pa_cons (pe_fn O_l_int (hr.mono (by omega)) rfl (pa_cons (pe_ix i_x (pv 0) pe_int (fun _ _ => rfl)) pa_nil)) pa_nil))) (pa_cons (pe_tup pa_nil) pa_nil)))))) pa_nil)))) pss_nil)
    (pss_c (ps_if (pt_cmpR (o_eq hr.units) (pe_ix i_x (pv 0) pe_int (fun _ _ => rfl)) pe_int (nomark _)) (pss_one (ps_ret (pe_fn O_l_print (hr.mono (by omega)) rfl (pa_cons (pe_tup (pa_cons pe_str (pa_cons (pv 2) (pa_cons pe_non (pa_cons (pe_tup (pa_cons (pv 6) pa_nil)) (pa_cons (pe_tup pa_nil) pa_nil)))))) pa_nil)))) pss_nil)
    (pss_c (ps_set (i := 7) sc_l_expression.nd rfl (Or.inl rfl) (pe_tup (pa_cons pe_str (pa_cons (pv 2) (pa_cons pe_non (pa_cons (pe_tup (pa_cons (pv 6) (pa_cons (pe_fn O_l_int (hr.mono (by omega)) rfl (pa_cons (pe_ix i_x (pv 0) pe_int (fun _ _ => rfl)) pa_nil)) pa_nil))) (pa_cons (pe_tup pa_nil) pa_nil)))))))
    (pss_one (ps_ret (pe_tup (pa_cons pe_str (pa_cons (pv 1) (pa_cons pe_non (pa_cons (pe_tup (pa_cons (pv 5) (pa_cons (pv 7) pa_nil))) (pa_cons (pe_tup pa_nil) pa_nil))))))))))))))))))))
theorem ok_l_program (T : Txt w K mg) (O_l_whole : OkF P w K mg base 1 "_law_whole" [] (sp_l_whole K)) (O_l_expression : OkF P w K mg base 3 "_law_expression" ["_law_deed"] (sp_l_expression K)) (O_l_seq : OkF P w K mg base 1 "_law_seq" ["_law_first", "_law_second"] (sp_l_seq K)) (O_l_name : OkF P w K mg base 1 "_law_name" ["_law_kind", "_law_name_here"] (sp_l_name K)) (O_l_let : OkF P w K mg base 1 "_law_let" ["_law_name_here", "_law_value", "_law_body"] (sp_l_let K)) (O_l_int : OkF P w K mg base 2 "_law_int" ["_law_value"] (sp_l_int K)) : OkF P w K mg base 4 "_law_program" ["_law_many", "_law_start", "_law_deeds_here"] (sp_l_program K) := by
  obtain ⟨fd, F⟩ := T.F_l_program
  refine ⟨_, fd, T.g_l_program, F.ok sc_l_program (fun vs H Q E h => len_l_program h) (fun cdv A outer s H vs Q E hr h => ⟨t_l_program K, PSs.nox ?_, rd_l_program h⟩), FunD.bindsN F fun _ _ _ _ _ _ us hl => match us, hl with | [_, _, _], _ => rfl, F.kp⟩
  exact (pss_c (ps_set (i := 3) sc_l_program.nd rfl (Or.inl rfl) (pe_fn0 O_l_whole (hr.mono (by omega)) rfl))
    (pss_c (ps_set (i := 4) sc_l_program.nd rfl (Or.inl rfl) (pe_tup (pa_cons pe_str (pa_cons (pe_tup (pa_cons (pv 3) pa_nil)) (pa_cons pe_int pa_nil)))))
    (pss_c (ps_set (i := 5) sc_l_program.nd rfl (Or.inl rfl) (pe_tup (pa_cons pe_str (pa_cons (pe_tup (pa_cons (pv 3) pa_nil)) (pa_cons pe_int pa_nil)))))
    (pss_c (ps_set (i := 6) sc_l_program.nd rfl (Or.inl rfl) (pe_lst pa_nil))
    (pss_c (ps_for PassesOwn.never rfl (pi_range3 rfl T.b_range (pa_cons pe_int (pa_cons (pe_callB c_len (by rfl) T.b_len (by decide +kernel) (pa_cons (pv 2) pa_nil)) (pa_cons pe_int pa_nil)))) (pg_name (i := 7) sc_l_program.nd rfl (Or.inl rfl)) (pss_c (ps_set (i := 8) sc_l_program.nd rfl (Or.inl rfl) (pe_fn O_l_expression (hr.mono (by omega)) rfl (pa_cons (pe_ix i_x (pv 2) (pv 7) (fun _ _ => rfl)) pa_nil)))
    (pss_c (ps_for PassesOwn.never rfl (pi_any (pe_slice s_l (pv 2) (po_some (pe_op o_add (pv 7) pe_int)) (po_some (pe_op o_add (pv 7) pe_int)))) (pg_name (i := 9) sc_l_program.nd rfl (Or.inl rfl)) (pss_one (ps_set (i := 8) sc_l_program.nd rfl (Or.inl rfl) (pe_fn O_l_seq (hr.mono (by omega)) rfl (pa_cons (pv 8) (pa_cons (pe_fn O_l_expression (hr.mono (by omega)) rfl (pa_cons (pv 9) pa_nil)) pa_nil))))))
    (pss_one (ps_expr (pe_bm PySem.F.plainAttrs_list PySem.F.slot_list_append PySem.F.type_list_append m_append (pv 6) (pa_cons (pv 8) pa_nil)))))))
    (pss_c (ps_set (i := 10) sc_l_program.nd rfl (Or.inl rfl) (pe_tup (pa_cons pe_str (pa_cons (pv 3) (pa_cons pe_non (pa_cons (pe_tup (pa_cons (pe_fn O_l_name (hr.mono (by omega)) rfl (pa_cons (pv 4) (pa_cons pe_str pa_nil))) pa_nil)) (pa_cons (pe_tup pa_nil) pa_nil)))))))
    (pss_c (ps_set (i := 11) sc_l_program.nd rfl (Or.inl rfl) (pe_lst pa_nil))
    (pss_c (ps_set (i := 12) sc_l_program.nd rfl (Or.inl rfl) (pe_tup (pa_cons (pe_tup (pa_cons pe_str (pa_cons (pv 4) pa_nil))) (pa_cons (pe_tup (pa_cons pe_str (pa_cons (pv 4) pa_nil))) (pa_cons (pe_tup (pa_cons pe_str (pa_cons (pv 4) pa_nil))) (pa_cons (pe_tup (pa_cons pe_str (pa_cons (pv 4) pa_nil))) (pa_cons (pe_tup (pa_cons pe_str (pa_cons (pv 5) pa_nil))) (pa_cons (pe_tup (pa_cons pe_str (pa_cons (pv 5) pa_nil))) pa_nil))))))))
    (pss_c (ps_set (i := 13) sc_l_program.nd rfl (Or.inl rfl) (pe_callTy c_tuple (by rfl) T.b_tuple (by decide +kernel) (pa_cons (pe_lc (own := [("_law_row", 15)]) (g := (gName 15)) (tt := tYes) rfl sc_l_program.nd (pi_any (pv 12)) (blkOk_by (own := [("_law_row", 15)]) (N := n_l_program) (sc := defScope s_l_program) (by first | decide +kernel | rfl)) (fun _ _ _ _ _ => pg_name (i := 15) sc_l_program.nd rfl (Or.inl rfl)) (fun _ _ _ _ _ => pts_nil) (fun _ _ _ _ _ => (pe_fn O_l_name (hr.mono (by omega)) rfl (pa_cons (pe_ix i_x (pv 15) pe_int (fun _ _ => rfl)) (pa_cons (pe_ix i_x (pv 15) pe_int (fun _ _ => rfl)) pa_nil))))) pa_nil)))
    (pss_c (ps_for PassesOwn.never rfl (pi_any (pv 6)) (pg_name (i := 8) sc_l_program.nd rfl (Or.inl rfl)) (pss_c (ps_if (pt_tru (pv 11)) (pss_c (ps_set (i := 14) sc_l_program.nd rfl (Or.inl rfl) (pe_tup (pa_cons pe_str (pa_cons (pe_tup (pa_cons pe_str (pa_cons (pe_tup pa_nil) (pa_cons pe_int pa_nil)))) (pa_cons (pe_op o_sub (pe_callB c_len (by rfl) T.b_len (by decide +kernel) (pa_cons (pv 11) pa_nil)) pe_int) (pa_cons (pv 13) (pa_cons (pe_tup pa_nil) pa_nil)))))))
    (pss_one (ps_set (i := 8) sc_l_program.nd rfl (Or.inl rfl) (pe_fn O_l_seq (hr.mono (by omega)) rfl (pa_cons (pv 14) (pa_cons (pv 8) pa_nil)))))) pss_nil)
    (pss_one (ps_expr (pe_bm PySem.F.plainAttrs_list PySem.F.slot_list_append PySem.F.type_list_append m_append (pv 11) (pa_cons (pe_tup (pa_cons (pe_op o_add pe_str (pe_callTy c_str (by rfl) T.b_str (by decide +kernel) (pa_cons (pe_callB c_len (by rfl) T.b_len (by decide +kernel) (pa_cons (pv 11) pa_nil)) pa_nil))) (pa_cons (pv 12) (pa_cons (pe_tup (pa_cons pe_str (pa_cons (pe_tup pa_nil) (pa_cons pe_int pa_nil)))) (pa_cons (pv 8) pa_nil))))) pa_nil))))))
    (pss_c (ps_if (pt_tru (pv 11)) (pss_one (ps_set (i := 10) sc_l_program.nd rfl (Or.inl rfl) (pe_fn O_l_seq (hr.mono (by omega)) rfl (pa_cons (pe_tup (pa_cons pe_str (pa_cons (pe_tup (pa_cons pe_str (pa_cons (pe_tup pa_nil) (pa_cons pe_int pa_nil)))) (pa_cons (pe_op o_sub (pe_callB c_len (by rfl) T.b_len (by decide +kernel) (pa_cons (pv 11) pa_nil)) pe_int) (pa_cons (pv 13) (pa_cons (pe_tup pa_nil) pa_nil)))))) (pa_cons (pv 10) pa_nil))))) pss_nil)
    (pss_c (ps_set (i := 10) sc_l_program.nd rfl (Or.inl rfl) (pe_fn O_l_let (hr.mono (by omega)) rfl (pa_cons pe_str (pa_cons (pe_fn O_l_name (hr.mono (by omega)) rfl (pa_cons (pv 5) (pa_cons pe_str pa_nil))) (pa_cons (pv 10) pa_nil)))))
    (pss_c (ps_set (i := 10) sc_l_program.nd rfl (Or.inl rfl) (pe_fn O_l_let (hr.mono (by omega)) rfl (pa_cons pe_str (pa_cons (pe_tup (pa_cons pe_str (pa_cons (pv 5) (pa_cons pe_non (pa_cons (pe_tup (pa_cons (pe_fn O_l_int (hr.mono (by omega)) rfl (pa_cons (pv 0) pa_nil)) (pa_cons (pe_fn O_l_int (hr.mono (by omega)) rfl (pa_cons (pv 1) pa_nil)) pa_nil))) (pa_cons (pe_tup pa_nil) pa_nil)))))) (pa_cons (pv 10) pa_nil)))))
    (pss_c (ps_set (i := 10) sc_l_program.nd rfl (Or.inl rfl) (pe_fn O_l_let (hr.mono (by omega)) rfl (pa_cons pe_str (pa_cons (pe_fn O_l_name (hr.mono (by omega)) rfl (pa_cons (pv 4) (pa_cons pe_str pa_nil))) (pa_cons (pv 10) pa_nil)))))
    (pss_c (ps_set (i := 10) sc_l_program.nd rfl (Or.inl rfl) (pe_fn O_l_let (hr.mono (by omega)) rfl (pa_cons pe_str (pa_cons (pe_fn O_l_name (hr.mono (by omega)) rfl (pa_cons (pv 4) (pa_cons pe_str pa_nil))) (pa_cons (pv 10) pa_nil)))))
    (pss_c (ps_set (i := 10) sc_l_program.nd rfl (Or.inl rfl) (pe_fn O_l_let (hr.mono (by omega)) rfl (pa_cons pe_str (pa_cons (pe_tup (pa_cons pe_str (pa_cons (pv 4) (pa_cons pe_non (pa_cons (pe_tup (pa_cons (pe_fn O_l_int (hr.mono (by omega)) rfl (pa_cons (pe_op o_add (pv 1) pe_int) pa_nil)) pa_nil)) (pa_cons (pe_tup pa_nil) pa_nil)))))) (pa_cons (pv 10) pa_nil)))))
    (pss_c (ps_set (i := 10) sc_l_program.nd rfl (Or.inl rfl) (pe_fn O_l_let (hr.mono (by omega)) rfl (pa_cons pe_str (pa_cons (pe_tup (pa_cons pe_str (pa_cons (pv 4) (pa_cons pe_non (pa_cons (pe_tup (pa_cons (pe_fn O_l_int (hr.mono (by omega)) rfl (pa_cons (pv 1) pa_nil)) pa_nil)) (pa_cons (pe_tup pa_nil) pa_nil)))))) (pa_cons (pv 10) pa_nil)))))
    (pss_one (ps_ret (pe_tup (pa_cons (pe_tup pa_nil) (pa_cons (pe_tup (pa_cons pe_str (pa_cons pe_str (pa_cons pe_str pa_nil)))) (pa_cons (pe_callTy c_tuple (by rfl) T.b_tuple (by decide +kernel) (pa_cons (pe_op o_add (pv 11) (pe_lst (pa_cons (pe_tup (pa_cons pe_str (pa_cons (pe_tup pa_nil) (pa_cons (pv 3) (pa_cons (pv 10) pa_nil))))) pa_nil))) pa_nil)) pa_nil)))))))))))))))))))))))
theorem ok_l_due (T : Txt w K mg)  : OkF P w K mg base 1 "_law_due" ["_law_many", "_law_start", "_law_deeds_here", "_law_limit"] (sp_l_due K) := by
  obtain ⟨fd, F⟩ := T.F_l_due
  refine ⟨_, fd, T.g_l_due, F.ok sc_l_due (fun vs H Q E h => len_l_due h) (fun cdv A outer s H vs Q E hr h => ⟨t_l_due K, PSs.nox ?_, rd_l_due h⟩), FunD.bindsN F fun _ _ _ _ _ _ us hl => match us, hl with | [_, _, _, _], _ => rfl, F.kp⟩
  exact (pss_c (ps_set (i := 4) sc_l_due.nd rfl (Or.inl rfl) (pe_op o_add (pv 0) (pe_op o_fdiv (pe_op o_add (pe_callB c_len (by rfl) T.b_len (by decide +kernel) (pa_cons (pv 2) pa_nil)) pe_int) pe_int)))
    (pss_c (ps_if (pt_cmpR o_lt (pv 3) (pv 4) (nomark _)) (pss_one (ps_ret (pe_tup (pa_cons (pe_tup (pa_cons pe_str pa_nil)) (pa_cons pe_int (pa_cons (pe_tup pa_nil) (pa_cons (pv 3) pa_nil))))))) pss_nil)
    (pss_c (ps_set (i := 5) sc_l_due.nd rfl (Or.inl rfl) (pe_lst (pa_cons (pv 1) (pa_cons (pe_op o_add (pv 1) pe_int) pa_nil))))
    (pss_c (ps_setLc (i := 6) (own := [("_law_k", 12)]) (g := (gName 12)) (tt := tYes) rfl sc_l_due.nd rfl rfl (sw_true rfl rfl rfl (by decide +kernel)) (pi_range1 rfl T.b_range (pa_cons (pv 0) pa_nil)) (blkOk_by (own := [("_law_k", 12)]) (N := n_l_due) (sc := defScope s_l_due) (by first | decide +kernel | rfl)) (fun _ _ _ _ _ => pg_name (i := 12) sc_l_due.nd rfl (Or.inl rfl)) (fun _ _ _ _ _ => pts_nil) (fun _ _ _ _ _ => (pv 1)))
    (pss_c (ps_set (i := 7) sc_l_due.nd rfl (Or.inl rfl) (pe_lst pa_nil))
    (pss_c (ps_for PassesOwn.never rfl (pi_any (pv 2)) (pg_tup rfl (pgs_cons (pg_name (i := 8) sc_l_due.nd rfl (Or.inl rfl)) (pgs_cons (pg_name (i := 9) sc_l_due.nd rfl (Or.inl rfl)) (pgs_cons (pg_name (i := 10) sc_l_due.nd rfl (Or.inl rfl)) (pgs_cons (pg_name (i := 11) sc_l_due.nd rfl (Or.inl rfl)) pgs_nil))))) (pss_c (ps_if (PW.pt (pw_and (pt_cmpR o_in (pv 8) (pe_tup (pa_cons pe_int (pa_cons pe_int (pa_cons pe_int pa_nil)))) (by rfl)) (pw_and1 (PW.pt (pw_or (pt_cmpR o_lt (pv 10) pe_int (nomark _)) (pw_or1 (pt_cmpR o_ge (pv 10) (pv 0) (nomark _)))))))) (pss_one (ps_ret (pe_tup (pa_cons (pe_tup (pa_cons pe_str (pa_cons pe_str (pa_cons (pv 10) pa_nil)))) (pa_cons pe_int (pa_cons (pe_callTy c_tuple (by rfl) T.b_tuple (by decide +kernel) (pa_cons (pv 7) pa_nil)) (pa_cons (pv 4) pa_nil))))))) pss_nil)
    (pss_one (ps_if (pt_cmpR (o_eq hr.units) (pv 8) pe_int (nomark _)) (pss_one (ps_asg (pv 11) (pg_sub (pv 5) (pe_op o_mod (pv 9) pe_int) p_list))) (pss_one (ps_if (pt_cmpR (o_eq hr.units) (pv 8) pe_int (nomark _)) (pss_one (ps_expr (pe_bm PySem.F.plainAttrs_list PySem.F.slot_list_append PySem.F.type_list_append m_append (pv 7) (pa_cons (pe_ix i_x (pv 5) (pe_op o_mod (pv 9) pe_int) (fun _ _ => rfl)) pa_nil)))) (pss_one (ps_if (pt_cmpR (o_eq hr.units) (pv 8) pe_int (nomark _)) (pss_one (ps_asg (pv 11) (pg_sub (pv 6) (pv 10) p_list))) (pss_one (ps_if (pt_cmpR (o_eq hr.units) (pv 8) pe_int (nomark _)) (pss_one (ps_expr (pe_bm PySem.F.plainAttrs_list PySem.F.slot_list_append PySem.F.type_list_append m_append (pv 7) (pa_cons (pe_ix i_x (pv 6) (pv 10) (fun _ _ => rfl)) pa_nil)))) (pss_one (ps_if (pt_cmpR (o_eq hr.units) (pv 8) pe_int (nomark _)) (pss_one (ps_expr (pe_bm PySem.F.plainAttrs_list PySem.F.slot_list_append PySem.F.type_list_append m_append (pv 7) (pa_cons (pv 0) pa_nil)))) (pss_one (ps_asg (pe_ix i_x (pv 6) (pv 10) (fun _ _ => rfl)) (pg_sub (pv 5) (pe_op o_mod (pv 9) pe_int) p_list)))))))))))))))
    (pss_one (ps_ret (pe_tup (pa_cons pe_non (pa_cons (pe_ix i_x (pv 5) pe_int (fun _ _ => rfl)) (pa_cons (pe_callTy c_tuple (by rfl) T.b_tuple (by decide +kernel) (pa_cons (pv 7) pa_nil)) (pa_cons (pv 4) pa_nil)))))))))))))
theorem okf_law (T : Txt w K mg) (O_l_cell : OkF P w K mg base 1 "_law_cell" ["_law_script", "_law_at"] (sp_l_cell K)) (O_l_deeds : OkF P w K mg base 1 "_law_deeds" ["_law_cells", "_law_many"] (sp_l_deeds K)) (O_l_program : OkF P w K mg base 4 "_law_program" ["_law_many", "_law_start", "_law_deeds_here"] (sp_l_program K)) (O_run : OkK P w K mg base 6 "run" ["program", "arguments", "fuel"] ["fuel"] [.int 200] 2 (sp_run K)) (O_l_due : OkF P w K mg base 1 "_law_due" ["_law_many", "_law_start", "_law_deeds_here", "_law_limit"] (sp_l_due K)) {fd : FuncData} (F : FunD K "law" "law" (defArgs s_law) (defBody s_law) (defScope s_law) [] [] (He.ga K "law") fd) : FnOk P w K mg base CX0 7 (He.ga K "law") fd ["_law_script"] (sp_law K) := by
  refine F.ok sc_law (fun vs H Q E h => len_law h) (fun cdv A outer s H vs Q E hr h => ⟨t_law K, PSs.nox ?_, rd_law h⟩)
  exact (pss_c (ps_set (i := 1) sc_law.nd rfl (Or.inl rfl) (pe_fn O_l_cell (hr.mono (by omega)) rfl (pa_cons (pv 0) (pa_cons pe_int pa_nil))))
    (pss_c (ps_set (i := 2) sc_law.nd rfl (Or.inl rfl) (pe_op o_mod (pv 1) pe_int))
    (pss_c (ps_set (i := 3) sc_law.nd rfl (Or.inl rfl) (pe_op o_mod (pe_op o_fdiv (pv 1) pe_int) (pe_op o_pow pe_int pe_int)))
    (pss_c (ps_set (i := 4) sc_law.nd rfl (Or.inl rfl) (pe_fn O_l_deeds (hr.mono (by omega)) rfl (pa_cons (pe_slice s_l (pv 0) (po_some pe_int) (po_some pe_int)) (pa_cons (pv 2) pa_nil))))
    (pss_c (ps_set (i := 5) sc_law.nd rfl (Or.inl rfl) (pe_op o_add (pv 2) (pe_op o_fdiv (pe_op o_add (pe_callB c_len (by rfl) T.b_len (by decide +kernel) (pa_cons (pv 4) pa_nil)) pe_int) pe_int)))
    (pss_c (ps_if (pt_cmpR (o_eq hr.units) (pe_op o_mod (pe_op o_fdiv (pe_op o_fdiv (pv 1) pe_int) (pe_op o_pow pe_int pe_int)) pe_int) pe_int (nomark _)) (pss_one (ps_set (i := 5) sc_law.nd rfl (Or.inl rfl) (pe_op o_mod (pe_op o_fdiv (pe_op o_fdiv (pv 1) pe_int) (pe_op o_pow pe_int pe_int)) (pe_op o_add (pv 5) pe_int)))) pss_nil)
    (pss_c (ps_set (i := 6) sc_law.nd rfl (Or.inl rfl) (pe_fn O_l_program (hr.mono (by omega)) rfl (pa_cons (pv 2) (pa_cons (pv 3) (pa_cons (pv 4) pa_nil)))))
    (pss_c (ps_set (i := 7) sc_law.nd rfl (Or.inl rfl) (pe_fnKw O_run (hr.mono (by omega)) rfl (pa_cons (pv 6) (pa_cons (pe_lst pa_nil) pa_nil)) (pk_cons (pv 5) pk_nil)))
    (pss_c (ps_if (PW.pt (pw_or (pt_not (pt_tru (pe_callB c_isi (by rfl) T.b_isinstance (by decide +kernel) (pa_cons (pv 7) (pa_cons (pe_ty rfl T.b_tuple (by decide +kernel)) pa_nil))))) (pw_or (pt_cmpR (o_ne hr.units) (pe_callB c_len (by rfl) T.b_len (by decide +kernel) (pa_cons (pv 7) pa_nil)) pe_int (nomark _)) (pw_or1 (pt_tru (pe_callB c_isi (by rfl) T.b_isinstance (by decide +kernel) (pa_cons (pe_ix i_x (pv 7) pe_int (fun _ _ => rfl)) (pa_cons (pe_ty rfl T.b_bool (by decide +kernel)) pa_nil)))))))) (pss_one (ps_ret pe_bl)) pss_nil)
    (pss_c (ps_set (i := 8) sc_law.nd rfl (Or.inl rfl) (pe_fn O_l_due (hr.mono (by omega)) rfl (pa_cons (pv 2) (pa_cons (pv 3) (pa_cons (pv 4) (pa_cons (pv 5) pa_nil))))))
    (pss_one (ps_ret (pe_and (pe_cmpR (o_eq hr.units) (pv 7) (pv 8) (nomark _)) (pe_one (pe_cmpR (o_eq hr.units) (pe_fnKw O_run (hr.mono (by omega)) rfl (pa_cons (pv 6) (pa_cons (pe_tup pa_nil) pa_nil)) (pk_cons (pv 5) pk_nil)) (pv 8) (nomark _))))))))))))))))
end
theorem txt {w : World} {K : PySem.W.Frag} {h : Heap} {mg : Str → Option Value} (X : K.In h) (G : h.Ns mainGlobals mg) (c : SaysP fil fa fn en dics prs tst w K) : Txt w K mg :=
  ⟨He.int_ok X G (c.u.d.fact 0 (f := .int "HALF" 2147483648) rfl),
   He.int_ok X G (c.u.d.fact 1 (f := .int "SPAN" 4294967296) rfl),
   He.free_ok X G (c.u.d.fact 2 (f := .free "abs") rfl),
   He.cls_ok (c.u.d.fact 3 (f := .cls "Evaluation") rfl),
   He.noat_ok (c.u.d.fact 4 (f := .noat "Evaluation" "program") rfl),
   He.noat_ok (c.u.d.fact 5 (f := .noat "Evaluation" "fuel") rfl),
   He.noat_ok (c.u.d.fact 6 (f := .noat "Evaluation" "ticks") rfl),
   He.noat_ok (c.u.d.fact 7 (f := .noat "Evaluation" "outs") rfl),
   He.noat_ok (c.u.d.fact 8 (f := .noat "Evaluation" "tasks") rfl),
   He.noat_ok (c.u.d.fact 9 (f := .noat "Evaluation" "results") rfl),
   He.noat_ok (c.u.d.fact 10 (f := .noat "Evaluation" "fault") rfl),
   He.free_ok X G (c.u.d.fact 11 (f := .free "len") rfl),
   He.glo_ok X G (c.u.d.fact 12 (f := .glo "TASKS") rfl),
   He.free_ok X G (c.u.d.fact 13 (f := .free "reversed") rfl),
   He.free_ok X G (c.u.d.fact 14 (f := .free "zip") rfl),
   He.free_ok X G (c.u.d.fact 15 (f := .free "tuple") rfl),
   He.int_ok X G (c.u.d.fact 16 (f := .int "MAX_ARRAY" 12) rfl),
   He.free_ok X G (c.u.d.fact 17 (f := .free "max") rfl),
   He.free_ok X G (c.u.d.fact 18 (f := .free "min") rfl),
   He.int_ok X G (c.u.d.fact 19 (f := .int "MAX_FUEL" 200) rfl),
   He.free_ok X G (c.u.d.fact 20 (f := .free "int") rfl),
   He.free_ok X G (c.u.d.fact 21 (f := .free "range") rfl),
   He.free_ok X G (c.u.d.fact 22 (f := .free "str") rfl),
   He.free_ok X G (c.u.d.fact 23 (f := .free "isinstance") rfl),
   He.free_ok X G (c.u.d.fact 24 (f := .free "bool") rfl),
   He.glo_ok X G (c.u.d.fact 25 (f := .glo "Evaluation") rfl),
   He.mkr_ok (c.u.d.fact 26 (f := .mkr "Evaluation") rfl),
   He.meth_ok (c.u.d.fact 27 (f := .meth "Evaluation" "plan") rfl),
   He.meth_ok (c.u.d.fact 28 (f := .meth "Evaluation" "spend") rfl),
   He.meth_ok (c.u.d.fact 29 (f := .meth "Evaluation" "throw") rfl),
   He.meth_ok (c.u.d.fact 30 (f := .meth "Evaluation" "finish") rfl),
   c.dic 0 (d := dd_TASKS) rfl (by decide),
   c.u.d.def_ 0 (d := d_Evaluation___init__) rfl,
   c.u.d.def_ 1 (d := d_Evaluation_plan) rfl,
   c.u.d.def_ 2 (d := d_Evaluation_spend) rfl,
   c.u.d.def_ 3 (d := d_Evaluation_throw) rfl,
   c.u.d.def_ 4 (d := d_Evaluation_finish) rfl,
   He.glo_ok X G (c.u.d.fact 31 (f := .glo "wrap") rfl),
   c.u.d.def_ 5 (d := d_wrap) rfl,
   He.glo_ok X G (c.u.d.fact 32 (f := .glo "divide") rfl),
   c.u.d.def_ 6 (d := d_divide) rfl,
   He.glo_ok X G (c.u.d.fact 33 (f := .glo "remainder") rfl),
   c.u.d.def_ 7 (d := d_remainder) rfl,
   He.glo_ok X G (c.u.d.fact 34 (f := .glo "calculate") rfl),
   c.u.d.def_ 8 (d := d_calculate) rfl,
   He.glo_ok X G (c.u.d.fact 35 (f := .glo "find_variable") rfl),
   c.u.d.def_ 9 (d := d_find_variable) rfl,
   He.glo_ok X G (c.u.d.fact 36 (f := .glo "evaluate") rfl),
   c.u.d.def_ 10 (d := d_evaluate) rfl,
   He.glo_ok X G (c.u.d.fact 37 (f := .glo "continue_let") rfl),
   c.u.d.def_ 11 (d := d_continue_let) rfl,
   He.glo_ok X G (c.u.d.fact 38 (f := .glo "continue_seq") rfl),
   c.u.d.def_ 12 (d := d_continue_seq) rfl,
   He.glo_ok X G (c.u.d.fact 39 (f := .glo "continue_if") rfl),
   c.u.d.def_ 13 (d := d_continue_if) rfl,
   He.glo_ok X G (c.u.d.fact 40 (f := .glo "continue_case") rfl),
   c.u.d.def_ 14 (d := d_continue_case) rfl,
   He.glo_ok X G (c.u.d.fact 41 (f := .glo "leave") rfl),
   c.u.d.def_ 15 (d := d_leave) rfl,
   He.glo_ok X G (c.u.d.fact 42 (f := .glo "compute") rfl),
   c.u.d.def_ 16 (d := d_compute) rfl,
   He.glo_ok X G (c.u.d.fact 43 (f := .glo "enter") rfl),
   c.u.d.def_ 17 (d := d_enter) rfl,
   He.glo_ok X G (c.u.d.fact 44 (f := .glo "compute_ref") rfl),
   c.u.d.def_ 18 (d := d_compute_ref) rfl,
   He.glo_ok X G (c.u.d.fact 45 (f := .glo "compute_array") rfl),
   c.u.d.def_ 19 (d := d_compute_array) rfl,
   He.glo_ok X G (c.u.d.fact 46 (f := .glo "run") rfl),
   c.u.d.def_ 20 (d := d_run) rfl,
   He.glo_ok X G (c.u.d.fact 47 (f := .glo "_law_cell") rfl),
   c.u.d.def_ 21 (d := d_l_cell) rfl,
   He.glo_ok X G (c.u.d.fact 48 (f := .glo "_law_whole") rfl),
   c.u.d.def_ 22 (d := d_l_whole) rfl,
   He.glo_ok X G (c.u.d.fact 49 (f := .glo "_law_int") rfl),
   c.u.d.def_ 23 (d := d_l_int) rfl,
   He.glo_ok X G (c.u.d.fact 50 (f := .glo "_law_name") rfl),
   c.u.d.def_ 24 (d := d_l_name) rfl,
   He.glo_ok X G (c.u.d.fact 51 (f := .glo "_law_seq") rfl),
   c.u.d.def_ 25 (d := d_l_seq) rfl,
   He.glo_ok X G (c.u.d.fact 52 (f := .glo "_law_let") rfl),
   c.u.d.def_ 26 (d := d_l_let) rfl,
   He.glo_ok X G (c.u.d.fact 53 (f := .glo "_law_deeds") rfl),
   c.u.d.def_ 27 (d := d_l_deeds) rfl,
   He.glo_ok X G (c.u.d.fact 54 (f := .glo "_law_print") rfl),
   c.u.d.def_ 28 (d := d_l_print) rfl,
   He.glo_ok X G (c.u.d.fact 55 (f := .glo "_law_expression") rfl),
   c.u.d.def_ 29 (d := d_l_expression) rfl,
   He.glo_ok X G (c.u.d.fact 56 (f := .glo "_law_program") rfl),
   c.u.d.def_ 30 (d := d_l_program) rfl,
   He.glo_ok X G (c.u.d.fact 57 (f := .glo "_law_due") rfl),
   c.u.d.def_ 31 (d := d_l_due) rfl,
   He.glo_ok X G (c.u.d.fact 58 (f := .glo "law") rfl),
   c.u.d.def_ 32 (d := d_law) rfl⟩
theorem facts {P : Program} {w : World} {K : PySem.W.Frag} {h : Heap} {mg : Str → Option Value} {f : Addr} (hP : P.main.file = fil) (hs : (P.main.scope.names.lookup ("super" : Str)).isSome = false) (X : K.In h) (G : h.Ns mainGlobals mg) (hfa : mg ("law" : Str) = some (.ref f)) (c : SaysP fil fa fn en dics prs tst w K) :
    ∃ fd : FuncData, (∀ (s : Shared) (v : Value), BindsTo s fd ⟨[v], []⟩ [("_law_script", v)]) ∧ ∀ base : Heap, K.In base → base.Ns mainGlobals mg → FnOk P w K mg base CX0 7 f fd ["_law_script"] (sp_law K) := by
  have T : Txt w K mg := txt X G c
  obtain ⟨fd, F⟩ := T.F_law
  have e := hfa.symm.trans T.g_law
  cases e
  have b := FunD.bindsA (ps := ["_law_script"]) F fun _ _ _ _ _ _ us hl => match us, hl with | [_], _ => rfl
  refine ⟨fd, fun s v => b s [v] rfl, fun base _ _ => ?_⟩
  have O_l_cell : OkF P w K mg base 1 "_law_cell" ["_law_script", "_law_at"] (sp_l_cell K) := ok_l_cell T 
  have O_l_deeds : OkF P w K mg base 1 "_law_deeds" ["_law_cells", "_law_many"] (sp_l_deeds K) := ok_l_deeds T 
  have O_l_whole : OkF P w K mg base 1 "_law_whole" [] (sp_l_whole K) := ok_l_whole T 
  have O_l_name : OkF P w K mg base 1 "_law_name" ["_law_kind", "_law_name_here"] (sp_l_name K) := ok_l_name T 
  have O_l_int : OkF P w K mg base 2 "_law_int" ["_law_value"] (sp_l_int K) := ok_l_int T O_l_whole
  have O_l_print : OkF P w K mg base 1 "_law_print" ["_law_kid"] (sp_l_print K) := ok_l_print T 
  have O_l_expression : OkF P w K mg base 3 "_law_expression" ["_law_deed"] (sp_l_expression K) := ok_l_expression T O_l_whole O_l_name O_l_int O_l_print
  have O_l_seq : OkF P w K mg base 1 "_law_seq" ["_law_first", "_law_second"] (sp_l_seq K) := ok_l_seq T 
  have O_l_let : OkF P w K mg base 1 "_law_let" ["_law_name_here", "_law_value", "_law_body"] (sp_l_let K) := ok_l_let T 
  have O_l_program : OkF P w K mg base 4 "_law_program" ["_law_many", "_law_start", "_law_deeds_here"] (sp_l_program K) := ok_l_program T O_l_whole O_l_expression O_l_seq O_l_name O_l_let O_l_int
  have O_wrap : OkF P w K mg base 1 "wrap" ["number"] (sp_wrap K) := ok_wrap T 
  have O_Evaluation___init__ : OkC P w K mg base 1 "Evaluation" (He.ga K "Evaluation") ["self", "program", "fuel"] (sp_Evaluation___init__ K) := ok_Evaluation___init__ T 
  have O_Evaluation_plan : OkM P w K mg base 1 (He.ga K "Evaluation") "plan" ["self", "name", "expression", "scope"] (sp_Evaluation_plan K) := ok_Evaluation_plan T 
  have O_find_variable : OkF P w K mg base 1 "find_variable" ["scope", "name"] (sp_find_variable K) := ok_find_variable T 
  have O_evaluate : OkF P w K mg base 2 "evaluate" ["state", "expression", "scope"] (sp_evaluate K) := ok_evaluate T O_find_variable O_Evaluation_plan
  have O_continue_let : OkF P w K mg base 2 "continue_let" ["state", "expression", "scope"] (sp_continue_let K) := ok_continue_let T O_Evaluation_plan
  have O_continue_seq : OkF P w K mg base 2 "continue_seq" ["state", "expression", "scope"] (sp_continue_seq K) := ok_continue_seq T O_Evaluation_plan
  have O_continue_if : OkF P w K mg base 2 "continue_if" ["state", "expression", "scope"] (sp_continue_if K) := ok_continue_if T O_Evaluation_plan
  have O_continue_case : OkF P w K mg base 2 "continue_case" ["state", "expression", "scope"] (sp_continue_case K) := ok_continue_case T O_Evaluation_plan
  have O_leave : OkF P w K mg base 1 "leave" ["state", "expression", "scope"] (sp_leave K) := ok_leave T 
  have O_Evaluation_spend : OkM P w K mg base 1 (He.ga K "Evaluation") "spend" ["self", "count"] (sp_Evaluation_spend K) := ok_Evaluation_spend T 
  have O_enter : OkF P w K mg base 2 "enter" ["state", "op", "info", "given"] (sp_enter K) := ok_enter T O_Evaluation_spend O_Evaluation_plan
  have O_Evaluation_throw : OkM P w K mg base 2 (He.ga K "Evaluation") "throw" ["self", "number", "payload"] (sp_Evaluation_throw K) := ok_Evaluation_throw T O_Evaluation_plan
  have O_compute_ref : OkF P w K mg base 1 "compute_ref" ["state", "op", "given"] (sp_compute_ref K) := ok_compute_ref T 
  have O_compute_array : OkF P w K mg base 3 "compute_array" ["state", "op", "given"] (sp_compute_array K) := ok_compute_array T O_Evaluation_throw O_Evaluation_spend
  have O_divide : OkF P w K mg base 2 "divide" ["first", "second"] (sp_divide K) := ok_divide T O_wrap
  have O_remainder : OkF P w K mg base 1 "remainder" ["first", "second"] (sp_remainder K) := ok_remainder T 
  have O_calculate : OkF P w K mg base 3 "calculate" ["op", "first", "second"] (sp_calculate K) := ok_calculate T O_wrap O_divide O_remainder
  have O_compute : OkF P w K mg base 4 "compute" ["state", "expression", "scope"] (sp_compute K) := ok_compute T O_enter O_Evaluation_throw O_compute_ref O_compute_array O_calculate
  have O_Evaluation_finish : OkM P w K mg base 5 (He.ga K "Evaluation") "finish" ["self"] (sp_Evaluation_finish K) := ok_Evaluation_finish T O_evaluate O_continue_let O_continue_seq O_continue_if O_continue_case O_leave O_compute
  have O_run : OkK P w K mg base 6 "run" ["program", "arguments", "fuel"] ["fuel"] [.int 200] 2 (sp_run K) := ok_run T O_wrap O_Evaluation___init__ O_Evaluation_plan O_Evaluation_finish
  have O_l_due : OkF P w K mg base 1 "_law_due" ["_law_many", "_law_start", "_law_deeds_here", "_law_limit"] (sp_l_due K) := ok_l_due T 
  exact okf_law (base := base) (P := P) (w := w) T O_l_cell O_l_deeds O_l_program O_run O_l_due F
end U
open PySem PySem.W PySem.Calls PyProof.Rows
theorem PySem.Challenge.cw_escheat_k18_shared_cells_holds : PySem.Challenge.rw_escheat_k18_shared_cells.Holds := by
  refine U.early fun P w K h mg f hP hs X G hfa c => ?_
  obtain ⟨fd, hb, hF⟩ := U.facts (P := P) (w := w) hP hs X G hfa c
  exact ⟨fd, hb, U.sp_law K, fun H a ns hl hS => U.law_in a ns hl hS, hF⟩


/-
The law FnMotions, over numbers and lists alone: the printed functions of the program and of the reference answer alike. No condition but that each number is an int64.
-/
import Derived.Test.YtcjchihnopmplaaO20
import GoSem.Claim

namespace Go.Proofs.Ytcjchihnopmplaa.PureFnMotions
open Go.RowKit Go.Proofs.Ytcjchihnopmplaa.F Go.Proofs.YtcjchihnopmplaaW.PrintWords Go.Proofs.YtcjchihnopmplaaW.PrintLast Go.Proofs.YtcjchihnopmplaaW.PrintMore
set_option linter.unusedVariables false
set_option linter.unusedSimpArgs false
/-- (x, y) is a sum of multiples of (a, 0) and (b, c). -/
def L (a b c x y : Int) : Prop := ∃ m n : Int, x = m * a + n * b ∧ y = n * c
theorem sq_nn (x : Int) : 0 ≤ x * x := by
  rcases Int.le_total 0 x with h | h
  · exact Int.mul_nonneg h h
  · exact Int.mul_nonneg_of_nonpos_of_nonpos h h
theorem sq_pos {x : Int} (h : x ≠ 0) : 0 < x * x := by
  rcases Int.lt_or_gt_of_ne h with h | h
  · exact Int.mul_pos_of_neg_of_neg h h
  · exact Int.mul_pos h h
theorem unit_of {e : Int} (h : e ∣ 1) : e = 1 ∨ e = -1 := by
  have h1 := Int.natAbs_dvd_natAbs.mpr h
  have h2 : e.natAbs = 1 := Nat.dvd_one.mp h1
  omega
def vecB (x y : Int) : Bool := decide (-1000 ≤ x ∧ x ≤ 1000 ∧ -1000 ≤ y ∧ y ≤ 1000)
def smallB (a b c d : Int) : Bool := decide ((-1000 ≤ a ∧ a ≤ 1000 ∧ -1000 ≤ b ∧ b ≤ 1000) ∧ -1000 ≤ c ∧ c ≤ 1000 ∧ -1000 ≤ d ∧ d ≤ 1000)
def matB (a b c d : Int) : Bool := smallB a b c d && (a * d - b * c == 1 || a * d - b * c == -1)
def lim (x y : Int) : Int × Int × Int := if vecB x y = true then (x, y, 0) else (0, 0, 3)
theorem wrap_id {x : Int} (h1 : -9223372036854775808 ≤ x) (h2 : x < 9223372036854775808) : wrap64 x = x := by unfold wrap64; omega
theorem prod_bd {a b A B : Int} (ha : -A ≤ a) (ha' : a ≤ A) (hb : -B ≤ b) (hb' : b ≤ B) (hA : 0 ≤ A) : -(A * B) ≤ a * b ∧ a * b ≤ A * B := by
  have h1 : (a * b).natAbs ≤ A.natAbs * B.natAbs := by rw [Int.natAbs_mul]; exact Nat.mul_le_mul (by omega) (by omega)
  have h2 : (A * B).natAbs = A.natAbs * B.natAbs := Int.natAbs_mul A B
  have h3 : 0 ≤ A * B := Int.mul_nonneg hA (by omega)
  omega
theorem vecB_iff {x y : Int} : vecB x y = true ↔ (-1000 ≤ x ∧ x ≤ 1000) ∧ (-1000 ≤ y ∧ y ≤ 1000) := by unfold vecB; rw [decide_eq_true_iff]; omega
theorem smallB_iff {a b c d : Int} : smallB a b c d = true ↔ ((-1000 ≤ a ∧ a ≤ 1000) ∧ (-1000 ≤ b ∧ b ≤ 1000)) ∧ (-1000 ≤ c ∧ c ≤ 1000) ∧ (-1000 ≤ d ∧ d ≤ 1000) := by unfold smallB; rw [decide_eq_true_iff]; omega
theorem matB_iff {a b c d : Int} : matB a b c d = true ↔ smallB a b c d = true ∧ (a * d - b * c = 1 ∨ a * d - b * c = -1) := by unfold matB; simp
theorem det_wrap {a b c d : Int} (h : smallB a b c d = true) : wrap64 (wrap64 (a * d) - wrap64 (b * c)) = a * d - b * c ∧ (-2000000 ≤ a * d - b * c ∧ a * d - b * c ≤ 2000000) := by
  rw [smallB_iff] at h
  have h1 := prod_bd (A := 1000) (B := 1000) h.1.1.1 h.1.1.2 h.2.2.1 h.2.2.2 (by omega)
  have h2 := prod_bd (A := 1000) (B := 1000) h.1.2.1 h.1.2.2 h.2.1.1 h.2.1.2 (by omega)
  rw [wrap_id (x := a * d) (by omega) (by omega), wrap_id (x := b * c) (by omega) (by omega), wrap_id (by omega) (by omega)]
  omega
/-- a x + b y for small numbers. -/
theorem lin_wrap {a b x y : Int} (A : Int) (ha : -A ≤ a ∧ a ≤ A) (hb : -A ≤ b ∧ b ≤ A) (hx : -A ≤ x ∧ x ≤ A) (hy : -A ≤ y ∧ y ≤ A) (hA : 0 ≤ A) (hA2 : A ≤ 1000000000) :
    wrap64 (wrap64 (a * x) + wrap64 (b * y)) = a * x + b * y ∧ (-(2 * (A * A)) ≤ a * x + b * y ∧ a * x + b * y ≤ 2 * (A * A)) := by
  have h1 := prod_bd ha.1 ha.2 hx.1 hx.2 hA
  have h2 := prod_bd hb.1 hb.2 hy.1 hy.2 hA
  have h3 : A * A ≤ 1000000000 * 1000000000 := Int.mul_le_mul hA2 hA2 hA (by omega)
  rw [wrap_id (x := a * x) (by omega) (by omega), wrap_id (x := b * y) (by omega) (by omega), wrap_id (by omega) (by omega)]
  omega
def mul1 (a b c d a' b' c' d' : Int) : Int × Int × Int × Int := (a * a' + b * c', a * b' + b * d', c * a' + d * c', c * b' + d * d')
def frameB (f : Int) : Bool := decide (f = 0 ∨ f = 1)
def ordV (a b c d : Int) : Int := if a = 1 ∧ b = 0 ∧ c = 0 ∧ d = 1 then 1 else if (a * d - b * c = -1 ∧ a + d = 0) ∨ (a = -1 ∧ b = 0 ∧ c = 0 ∧ d = -1) then 2
  else if a * d - b * c = 1 ∧ a + d = -1 then 3 else if a * d - b * c = 1 ∧ a + d = 0 then 4 else if a * d - b * c = 1 ∧ a + d = 1 then 6 else 0
def kindV (a b c d : Int) : Int := if a * d - b * c = 1 then ordV a b c d else if ordV a b c d = 2 then -2 else 0
theorem ordV_nonneg (a b c d : Int) : 0 ≤ ordV a b c d := by
  unfold ordV
  repeat' split
  all_goals omega
/-- One factor more, by the characteristic polynomial: the product of m and x m + y. -/
theorem ch1 (a b c d x y : Int) : mul1 a b c d (x * a + y) (x * b) (x * c) (x * d + y) =
    (((a + d) * x + y) * a + -((a * d - b * c) * x), ((a + d) * x + y) * b, ((a + d) * x + y) * c, ((a + d) * x + y) * d + -((a * d - b * c) * x)) := by
  unfold mul1; simp only [Prod.mk.injEq]; refine ⟨?_, ?_, ?_, ?_⟩ <;> grind
def motB (a b c d x y : Int) : Bool := matB a b c d && (kindV a b c d != 0) && vecB x y
theorem motB_iff {a b c d x y : Int} : motB a b c d x y = true ↔ matB a b c d = true ∧ kindV a b c d ≠ 0 ∧ vecB x y = true := by unfold motB; simp [and_assoc]
def appmR (a b c d x y vx vy : Int) : Int × Int × Int := if motB a b c d x y = true ∧ vecB vx vy = true then lim (a * vx + b * vy + x) (c * vx + d * vy + y) else (0, 0, 1)
def cmp1 (a b c d x y a' b' c' d' x' y' : Int) : Int × Int × Int × Int × Int × Int := (a * a' + b * c', a * b' + b * d', c * a' + d * c', c * b' + d * d', a * x' + b * y' + x, c * x' + d * y' + y)
def cmpmR (a b c d x y a' b' c' d' x' y' : Int) : Int × Int × Int × Int × Int × Int × Int :=
  if motB a b c d x y = true ∧ motB a' b' c' d' x' y' = true then
    (if smallB (a * a' + b * c') (a * b' + b * d') (c * a' + d * c') (c * b' + d * d') = true ∧ vecB (a * x' + b * y' + x) (c * x' + d * y' + y) = true then
      (if kindV (a * a' + b * c') (a * b' + b * d') (c * a' + d * c') (c * b' + d * d') ≠ 0 then (a * a' + b * c', a * b' + b * d', c * a' + d * c', c * b' + d * d', a * x' + b * y' + x, c * x' + d * y' + y, 0) else (0, 0, 0, 0, 0, 0, 5))
    else (0, 0, 0, 0, 0, 0, 3)) else (0, 0, 0, 0, 0, 0, 1)
def invmR (a b c d x y : Int) : Int × Int × Int × Int × Int × Int × Int :=
  if motB a b c d x y = true then
    (if vecB (-((a * d - b * c) * d * x + -(a * d - b * c) * b * y)) (-(-(a * d - b * c) * c * x + (a * d - b * c) * a * y)) = true then
      ((a * d - b * c) * d, -(a * d - b * c) * b, -(a * d - b * c) * c, (a * d - b * c) * a, -((a * d - b * c) * d * x + -(a * d - b * c) * b * y), -(-(a * d - b * c) * c * x + (a * d - b * c) * a * y), 0)
    else (0, 0, 0, 0, 0, 0, 3)) else (0, 0, 0, 0, 0, 0, 1)
/-- A valid matrix keeps numbers within 2,000,000. -/
theorem lin_bd {a b x y : Int} (ha : -1000 ≤ a ∧ a ≤ 1000) (hb : -1000 ≤ b ∧ b ≤ 1000) (hx : -1000 ≤ x ∧ x ≤ 1000) (hy : -1000 ≤ y ∧ y ≤ 1000) : -2000000 ≤ a * x + b * y ∧ a * x + b * y ≤ 2000000 := by
  have h1 := prod_bd ha.1 ha.2 hx.1 hx.2 (by omega)
  have h2 := prod_bd hb.1 hb.2 hy.1 hy.2 (by omega)
  omega
theorem det_mul {a b c d a' b' c' d' : Int} : (a * a' + b * c') * (c * b' + d * d') - (a * b' + b * d') * (c * a' + d * c') = (a * d - b * c) * (a' * d' - b' * c') := by grind
theorem matB_mul {a b c d a' b' c' d' : Int} (h : matB a b c d = true) (h' : matB a' b' c' d' = true) (hs : smallB (a * a' + b * c') (a * b' + b * d') (c * a' + d * c') (c * b' + d * d') = true) :
    matB (a * a' + b * c') (a * b' + b * d') (c * a' + d * c') (c * b' + d * d') = true := by
  rw [matB_iff]
  refine ⟨hs, ?_⟩
  rw [det_mul]
  rcases (matB_iff.mp h).2 with e | e <;> rcases (matB_iff.mp h').2 with e' | e' <;> rw [e, e'] <;> omega
theorem u8_bd {a : Int} (h : (Go.Lit.int .u8 a).wf = true) : 0 ≤ a ∧ a < 256 := by
  simp only [Go.Lit.wf, Bool.and_eq_true, decide_eq_true_eq] at h
  obtain ⟨h1, h2⟩ := h
  have e1 : Go.IntKind.min .u8 = 0 := by decide
  have e2 : Go.IntKind.max .u8 = 255 := by decide
  omega
theorem spec_l01In_eq (a b c : Int) : spec_l01In.f a b c = some (decide (b ≤ a ∧ a ≤ c)) := by
  unfold spec_l01In.f; split <;> simp <;> omega
theorem impl_within_eq (a b c : Int) : impl_within.f a b c = some (decide (b ≤ a ∧ a ≤ c)) := by
  unfold impl_within.f; split <;> simp <;> omega
theorem spec_IsVec_eq (x y : Int) : spec_IsVec.f x y = some (vecB x y) := by
  unfold spec_IsVec.f vecB; simp only [spec_l01In_eq, Option.bind_some]; split <;> simp_all <;> omega
theorem impl_isCoordinate_eq (a : Int) : impl_isCoordinate.f a = some (decide (-1000 ≤ a ∧ a ≤ 1000)) := by
  unfold impl_isCoordinate.f; simp only [impl_within_eq, Option.bind_some]
theorem impl_IsVec_eq (x y : Int) : impl_IsVec.f x y = some (vecB x y) := by
  unfold impl_IsVec.f vecB; simp only [impl_isCoordinate_eq, Option.bind_some]; split <;> simp_all <;> omega
theorem spec_l01Result_eq (x y : Int) : spec_l01Result.f x y = some (lim x y) := by
  unfold spec_l01Result.f lim; simp only [spec_IsVec_eq, Option.bind_some]; split <;> rfl
theorem impl_limited_eq (x y : Int) : impl_limited.f x y = some (lim x y) := by
  unfold impl_limited.f lim; simp only [impl_IsVec_eq, Option.bind_some]; split <;> rfl
theorem spec_l02Small_eq (a b c d : Int) : spec_l02Small.f a b c d = some (smallB a b c d) := by
  unfold spec_l02Small.f smallB; simp only [spec_IsVec_eq, Option.bind_some, vecB]; split <;> simp_all <;> omega
theorem impl_Mat_isSmall_eq (a b c d : Int) : impl_Mat_isSmall.f a b c d = some (smallB a b c d) := by
  unfold impl_Mat_isSmall.f smallB; simp only [impl_isCoordinate_eq, Option.bind_some, decide_eq_true_eq]
  by_cases h1 : -1000 ≤ a ∧ a ≤ 1000
  · rw [if_pos h1]
    by_cases h2 : -1000 ≤ b ∧ b ≤ 1000
    · rw [if_pos h2]
      by_cases h3 : -1000 ≤ c ∧ c ≤ 1000
      · rw [if_pos h3]
        by_cases h4 : -1000 ≤ d ∧ d ≤ 1000
        · rw [decide_eq_true h4, decide_eq_true (by omega)]
        · rw [decide_eq_false h4, decide_eq_false (by omega)]
      · rw [if_neg h3, decide_eq_false (by omega)]
    · rw [if_neg h2, decide_eq_false (by omega)]
  · rw [if_neg h1, decide_eq_false (by omega)]
theorem spec_IsMat_eq (a b c d : Int) : spec_IsMat.f a b c d = some (matB a b c d) := by
  unfold spec_IsMat.f matB spec_l02Det.f
  simp only [spec_l02Small_eq, Option.bind_some]
  cases h : smallB a b c d with
  | false => simp
  | true => rw [(det_wrap h).1]; simp; split <;> simp_all
theorem impl_IsMat_eq (a b c d : Int) : impl_IsMat.f a b c d = some (matB a b c d) := by
  unfold impl_IsMat.f matB impl_Mat_det.f
  simp only [impl_Mat_isSmall_eq, Option.bind_some]
  cases h : smallB a b c d with
  | false => simp
  | true => rw [(det_wrap h).1]; simp; split <;> simp_all
theorem spec_l02Inverse_eq (a b c d : Int) (h : matB a b c d = true) : spec_l02Inverse.f a b c d = some ((a * d - b * c) * d, -(a * d - b * c) * b, -(a * d - b * c) * c, (a * d - b * c) * a) := by
  obtain ⟨h1, h2⟩ := matB_iff.mp h
  unfold spec_l02Inverse.f spec_l02Det.f
  simp only [Option.bind_some, (det_wrap h1).1]
  rw [smallB_iff] at h1
  generalize a * d - b * c = D at *
  rw [wrap_id (x := -D) (by omega) (by omega)]
  rcases h2 with rfl | rfl
  all_goals
    simp only [Int.one_mul, Int.neg_mul, Int.neg_neg]
    rw [wrap_id (x := _) (by omega) (by omega), wrap_id (x := _) (by omega) (by omega), wrap_id (x := _) (by omega) (by omega), wrap_id (x := _) (by omega) (by omega)]
theorem impl_Mat_inverse_eq (a b c d : Int) (h : matB a b c d = true) : impl_Mat_inverse.f a b c d = some ((a * d - b * c) * d, -(a * d - b * c) * b, -(a * d - b * c) * c, (a * d - b * c) * a) := by
  obtain ⟨h1, h2⟩ := matB_iff.mp h
  unfold impl_Mat_inverse.f impl_Mat_det.f
  simp only [Option.bind_some, (det_wrap h1).1]
  rw [smallB_iff] at h1
  generalize a * d - b * c = D at *
  rw [wrap_id (x := -D) (by omega) (by omega)]
  rcases h2 with rfl | rfl
  all_goals
    simp only [Int.one_mul, Int.neg_mul, Int.neg_neg]
    rw [wrap_id (x := _) (by omega) (by omega), wrap_id (x := _) (by omega) (by omega), wrap_id (x := _) (by omega) (by omega), wrap_id (x := _) (by omega) (by omega)]
theorem spec_l02Multiply_eq {a b c d a' b' c' d' : Int} (h : smallB a b c d = true) (h' : smallB a' b' c' d' = true) : spec_l02Multiply.f a b c d a' b' c' d' = some (mul1 a b c d a' b' c' d') := by
  rw [smallB_iff] at h h'
  unfold spec_l02Multiply.f mul1
  rw [(lin_wrap 1000 (by omega) (by omega) (by omega) (by omega) (by omega) (by omega)).1, (lin_wrap 1000 (by omega) (by omega) (by omega) (by omega) (by omega) (by omega)).1,
    (lin_wrap 1000 (by omega) (by omega) (by omega) (by omega) (by omega) (by omega)).1, (lin_wrap 1000 (by omega) (by omega) (by omega) (by omega) (by omega) (by omega)).1]
theorem impl_Mat_times_eq {a b c d a' b' c' d' : Int} (h : smallB a b c d = true) (h' : smallB a' b' c' d' = true) : impl_Mat_times.f a b c d a' b' c' d' = some (mul1 a b c d a' b' c' d') := by
  rw [smallB_iff] at h h'
  unfold impl_Mat_times.f mul1
  rw [(lin_wrap 1000 (by omega) (by omega) (by omega) (by omega) (by omega) (by omega)).1, (lin_wrap 1000 (by omega) (by omega) (by omega) (by omega) (by omega) (by omega)).1,
    (lin_wrap 1000 (by omega) (by omega) (by omega) (by omega) (by omega) (by omega)).1, (lin_wrap 1000 (by omega) (by omega) (by omega) (by omega) (by omega) (by omega)).1]
theorem spec_l02Apply_eq (A : Int) {a b c d x y : Int} (hA : 0 ≤ A) (hA2 : A ≤ 1000000000) (ha : -A ≤ a ∧ a ≤ A) (hb : -A ≤ b ∧ b ≤ A) (hc : -A ≤ c ∧ c ≤ A) (hd : -A ≤ d ∧ d ≤ A) (hx : -A ≤ x ∧ x ≤ A) (hy : -A ≤ y ∧ y ≤ A) :
    spec_l02Apply.f a b c d x y = some (a * x + b * y, c * x + d * y) := by
  unfold spec_l02Apply.f; rw [(lin_wrap A ha hb hx hy hA hA2).1, (lin_wrap A hc hd hx hy hA hA2).1]
theorem impl_Mat_apply_eq (A : Int) {a b c d x y : Int} (hA : 0 ≤ A) (hA2 : A ≤ 1000000000) (ha : -A ≤ a ∧ a ≤ A) (hb : -A ≤ b ∧ b ≤ A) (hc : -A ≤ c ∧ c ≤ A) (hd : -A ≤ d ∧ d ≤ A) (hx : -A ≤ x ∧ x ≤ A) (hy : -A ≤ y ∧ y ≤ A) :
    impl_Mat_apply.f a b c d x y = some (a * x + b * y, c * x + d * y) := by
  unfold impl_Mat_apply.f; rw [(lin_wrap A ha hb hx hy hA hA2).1, (lin_wrap A hc hd hx hy hA hA2).1]
theorem spec_IsFrame_eq (f : Int) : spec_IsFrame.f f = some (frameB f) := by
  unfold spec_IsFrame.f frameB
  by_cases h : f = 0
  · simp [h]
  · by_cases h' : f = 1 <;> simp [h, h']
theorem frameB_iff {f : Int} : frameB f = true ↔ f = 0 ∨ f = 1 := by unfold frameB; exact decide_eq_true_iff
theorem impl_Mat_order_eq (k : Nat) (a b c d : Int) (h : matB a b c d = true) : impl_Mat_order.f (k + 4) a b c d = some (ordV a b c d) := by
  obtain ⟨h1, h2⟩ := matB_iff.mp h
  unfold impl_Mat_order.f impl_unit.f impl_Mat_det.f ordV
  simp only [impl_Mat_order.j0, impl_Mat_order.j1, impl_Mat_order.j2, impl_Mat_order.j3, impl_Mat_det.f, Option.bind_some, (det_wrap h1).1]
  rw [smallB_iff] at h1
  rw [wrap_id (x := a + d) (by omega) (by omega)]
  generalize a * d - b * c = D at *
  simp only [Bool.and_eq_true, beq_iff_eq]
  by_cases e1 : a = 1 ∧ b = 0 ∧ c = 0 ∧ d = 1
  · rw [if_pos e1, if_pos e1]
  · rw [if_neg e1, if_neg e1]
    by_cases e2 : a = -1 ∧ b = 0 ∧ c = 0 ∧ d = -1
    · obtain ⟨rfl, rfl, rfl, rfl⟩ := e2; simp
    · rcases h2 with rfl | rfl
      · by_cases t1 : a + d = -1
        · simp [t1, e2]
        · by_cases t2 : a + d = 0
          · simp [t1, t2, e2]
          · by_cases t3 : a + d = 1 <;> simp [t1, t2, t3, e2]
      · by_cases t1 : a + d = 0 <;> simp [t1, e2]
theorem order_step {a b c d : Int} (k : Nat) (n n' : Int) (x y x' y' : Int) (h : matB a b c d = true) (hs : smallB (x * a + y) (x * b) (x * c) (x * d + y) = true) (hn : 1 ≤ n ∧ n ≤ 6 ∧ n' = n + 1)
    (ex : x' = (a + d) * x + y) (ey : y' = -((a * d - b * c) * x)) :
    spec_l02Order.l0 (k + 1) n a b c d (x * a + y) (x * b) (x * c) (x * d + y) = if smallB (x' * a + y') (x' * b) (x' * c) (x' * d + y') = true then
      (if x' * a + y' = 1 ∧ x' * b = 0 ∧ x' * c = 0 ∧ x' * d + y' = 1 then some n else spec_l02Order.l0 k n' a b c d (x' * a + y') (x' * b) (x' * c) (x' * d + y')) else some 0 := by
  rw [spec_l02Order.l0, if_pos hn.2.1, spec_l02Multiply_eq (matB_iff.mp h).1 hs, ch1, ← ex, ← ey, wrap_id (x := n + 1) (by omega) (by omega), ← hn.2.2]
  simp only [Option.bind_some, spec_l02Small_eq, spec_l02Unit.f, Bool.and_eq_true, beq_iff_eq]
theorem no_unit {a b c d x y : Int} (hd : a * d - b * c = 1 ∨ a * d - b * c = -1) (hx : x ≠ 0) (h1 : ¬ (a = 1 ∧ b = 0 ∧ c = 0 ∧ d = 1)) (h2 : ¬ (a = -1 ∧ b = 0 ∧ c = 0 ∧ d = -1)) : ¬ (x * a + y = 1 ∧ x * b = 0 ∧ x * c = 0 ∧ x * d + y = 1) := by
  rintro ⟨e1, e2, e3, e4⟩
  have hb : b = 0 := by rcases Int.mul_eq_zero.mp e2 with h | h; exact absurd h hx; exact h
  have hc : c = 0 := by rcases Int.mul_eq_zero.mp e3 with h | h; exact absurd h hx; exact h
  have had : a = d := Int.eq_of_mul_eq_mul_left hx (by omega)
  subst hb hc had
  simp only [Int.zero_mul, Int.sub_zero] at hd
  have hsq := sq_nn a
  have h3 : a * a = 1 := by omega
  have h4 : a ∣ 1 := ⟨a, h3.symm⟩
  rcases unit_of h4 with h | h
  · exact h1 ⟨h, rfl, rfl, h⟩
  · exact h2 ⟨h, rfl, rfl, h⟩
theorem pw4 (t D : Int) : t * (t * t - 2 * D) = t * (t * t - D) + -(D * t) := by grind
theorem pw5 (t D : Int) (h : D * D = 1) : t * t * (t * t) - 3 * D * (t * t) + 1 = t * (t * (t * t - 2 * D)) + -(D * (t * t - D)) := by grind
theorem pw6 (t D : Int) (h : D * D = 1) : t * ((t * t - D) * (t * t - 3 * D)) = t * (t * t * (t * t) - 3 * D * (t * t) + 1) + -(D * (t * (t * t - 2 * D))) := by grind
theorem order_none {a b c d : Int} (h : matB a b c d = true) (e1 : ¬ (a = 1 ∧ b = 0 ∧ c = 0 ∧ d = 1)) (z1 : ¬ (a = -1 ∧ b = 0 ∧ c = 0 ∧ d = -1)) (k : Nat) (n n' x y x' y' : Int) (hn : 1 ≤ n ∧ n ≤ 6 ∧ n' = n + 1)
    (hsm : smallB (x * a + y) (x * b) (x * c) (x * d + y) = true) (ex : x' = (a + d) * x + y) (ey : y' = -((a * d - b * c) * x)) (hx' : x' ≠ 0)
    (hnext : smallB (x' * a + y') (x' * b) (x' * c) (x' * d + y') = true → spec_l02Order.l0 k n' a b c d (x' * a + y') (x' * b) (x' * c) (x' * d + y') = some 0) :
    spec_l02Order.l0 (k + 1) n a b c d (x * a + y) (x * b) (x * c) (x * d + y) = some 0 := by
  rw [order_step k n n' x y x' y' h hsm hn ex ey]
  split
  · rename_i hsm'
    rw [if_neg (no_unit (matB_iff.mp h).2 hx' e1 z1)]; exact hnext hsm'
  · rfl
theorem order_inf {a b c d : Int} (k : Nat) (h : matB a b c d = true) (e1 : ¬ (a = 1 ∧ b = 0 ∧ c = 0 ∧ d = 1)) (z1 : ¬ (a = -1 ∧ b = 0 ∧ c = 0 ∧ d = -1)) (b1 : smallB (1 * a + 0) (1 * b) (1 * c) (1 * d + 0) = true) (t D : Int) (ht : t = a + d) (hD : D = a * d - b * c)
    (n2 : t ≠ 0) (n3 : t * t - D ≠ 0) (n4 : t * t - 2 * D ≠ 0) (n5 : t * t * (t * t) - 3 * D * (t * t) + 1 ≠ 0) (n6 : t * t - 3 * D ≠ 0) (hDD : D * D = 1) :
    spec_l02Order.l0 (k + 6) 2 a b c d (1 * a + 0) (1 * b) (1 * c) (1 * d + 0) = some 0 := by
  have go := @order_none a b c d h e1 z1
  rw [← ht, ← hD] at go
  refine go (k + 5) 2 3 1 0 t (-D) ⟨by decide, by decide, by decide⟩ b1 (by simp) (by simp) n2 fun b2 => ?_
  refine go (k + 4) 3 4 t (-D) (t * t - D) (-(D * t)) ⟨by decide, by decide, by decide⟩ b2 Int.sub_eq_add_neg rfl n3 fun b3 => ?_
  refine go (k + 3) 4 5 (t * t - D) (-(D * t)) (t * (t * t - 2 * D)) (-(D * (t * t - D))) ⟨by decide, by decide, by decide⟩ b3 (pw4 t D) rfl (Int.mul_ne_zero n2 n4) fun b4 => ?_
  refine go (k + 2) 5 6 (t * (t * t - 2 * D)) (-(D * (t * t - D))) (t * t * (t * t) - 3 * D * (t * t) + 1) (-(D * (t * (t * t - 2 * D)))) ⟨by decide, by decide, by decide⟩ b4 (pw5 t D hDD) rfl n5 fun b5 => ?_
  refine go (k + 1) 6 7 (t * t * (t * t) - 3 * D * (t * t) + 1) (-(D * (t * (t * t - 2 * D)))) (t * ((t * t - D) * (t * t - 3 * D))) (-(D * (t * t * (t * t) - 3 * D * (t * t) + 1))) ⟨by decide, by decide, by decide⟩ b5 (pw6 t D hDD) rfl (Int.mul_ne_zero n2 (Int.mul_ne_zero n3 n6)) fun b6 => ?_
  rw [spec_l02Order.l0, if_neg (by decide)]
theorem spec_l02Order_eq (k : Nat) (a b c d : Int) (h : matB a b c d = true) : spec_l02Order.f (k + 7) a b c d = some (ordV a b c d) := by
  obtain ⟨hs, hd⟩ := matB_iff.mp h
  have hb := smallB_iff.mp hs
  unfold spec_l02Order.f spec_l02Unit.f
  simp only [Option.bind_some]
  have s0 : spec_l02Order.l0 (k + 7) 1 a b c d 1 0 0 1 = spec_l02Order.l0 (k + 6 + 1) 1 a b c d (0 * a + 1) (0 * b) (0 * c) (0 * d + 1) := by simp
  have b0 : smallB (0 * a + 1) (0 * b) (0 * c) (0 * d + 1) = true := by rw [smallB_iff]; omega
  rw [s0, order_step (k + 6) 1 2 0 1 1 0 h b0 (by omega) (by omega) (by omega)]
  rw [if_pos (by rw [smallB_iff]; omega)]
  unfold ordV
  by_cases e1 : a = 1 ∧ b = 0 ∧ c = 0 ∧ d = 1
  · rw [if_pos (by omega), if_pos e1]
  · rw [if_neg (by omega), if_neg e1]
    have b1 : smallB (1 * a + 0) (1 * b) (1 * c) (1 * d + 0) = true := by rw [smallB_iff]; omega
    by_cases e2 : (a * d - b * c = -1 ∧ a + d = 0) ∨ (a = -1 ∧ b = 0 ∧ c = 0 ∧ d = -1)
    · rw [if_pos e2]
      rcases e2 with ⟨e2, t⟩ | e2
      · rw [order_step (k + 5) 2 3 1 0 0 1 h b1 (by omega) (by omega) (by omega), if_pos (by rw [smallB_iff]; omega), if_pos (by omega)]
      · have e3 : a * d - b * c = 1 := by obtain ⟨rfl, rfl, rfl, rfl⟩ := e2; rfl
        rw [order_step (k + 5) 2 3 1 0 (-2) (-1) h b1 (by omega) (by omega) (by omega), if_pos (by rw [smallB_iff]; omega), if_pos (by omega)]
    · rw [if_neg e2]
      by_cases e3 : a * d - b * c = 1 ∧ a + d = -1
      · rw [if_pos e3, order_step (k + 5) 2 3 1 0 (-1) (-1) h b1 (by omega) (by omega) (by omega)]
        have b2 : smallB (-1 * a + -1) (-1 * b) (-1 * c) (-1 * d + -1) = true := by rw [smallB_iff]; omega
        rw [if_pos b2, if_neg (by omega), order_step (k + 4) 3 4 (-1) (-1) 0 1 h b2 (by omega) (by omega) (by omega), if_pos (by rw [smallB_iff]; omega), if_pos (by omega)]
      · rw [if_neg e3]
        by_cases e4 : a * d - b * c = 1 ∧ a + d = 0
        · rw [if_pos e4, order_step (k + 5) 2 3 1 0 0 (-1) h b1 (by omega) (by omega) (by omega)]
          have b2 : smallB (0 * a + -1) (0 * b) (0 * c) (0 * d + -1) = true := by rw [smallB_iff]; omega
          rw [if_pos b2, if_neg (by omega), order_step (k + 4) 3 4 0 (-1) (-1) 0 h b2 (by omega) (by omega) (by omega)]
          have b3 : smallB (-1 * a + 0) (-1 * b) (-1 * c) (-1 * d + 0) = true := by rw [smallB_iff]; omega
          rw [if_pos b3, if_neg (by omega), order_step (k + 3) 4 5 (-1) 0 0 1 h b3 (by omega) (by omega) (by omega), if_pos (by rw [smallB_iff]; omega), if_pos (by omega)]
        · rw [if_neg e4]
          by_cases e5 : a * d - b * c = 1 ∧ a + d = 1
          · rw [if_pos e5, order_step (k + 5) 2 3 1 0 1 (-1) h b1 (by omega) (by omega) (by omega)]
            have b2 : smallB (1 * a + -1) (1 * b) (1 * c) (1 * d + -1) = true := by rw [smallB_iff]; omega
            rw [if_pos b2, if_neg (by omega), order_step (k + 4) 3 4 1 (-1) 0 (-1) h b2 (by omega) (by omega) (by omega)]
            have b3 : smallB (0 * a + -1) (0 * b) (0 * c) (0 * d + -1) = true := by rw [smallB_iff]; omega
            rw [if_pos b3, if_neg (by omega), order_step (k + 3) 4 5 0 (-1) (-1) 0 h b3 (by omega) (by omega) (by omega)]
            have b4 : smallB (-1 * a + 0) (-1 * b) (-1 * c) (-1 * d + 0) = true := by rw [smallB_iff]; omega
            rw [if_pos b4, if_neg (by omega), order_step (k + 2) 5 6 (-1) 0 (-1) 1 h b4 (by omega) (by omega) (by omega)]
            have b5 : smallB (-1 * a + 1) (-1 * b) (-1 * c) (-1 * d + 1) = true := by rw [smallB_iff]; omega
            rw [if_pos b5, if_neg (by omega), order_step (k + 1) 6 7 (-1) 1 0 1 h b5 (by omega) (by omega) (by omega), if_pos (by rw [smallB_iff]; omega), if_pos (by omega)]
          · rw [if_neg e5]
            have z1 : ¬ (a = -1 ∧ b = 0 ∧ c = 0 ∧ d = -1) := fun x => e2 (Or.inr x)
            -- every factor is not 0
            have hx : ∀ t D : Int, t = a + d → D = a * d - b * c → t ≠ 0 ∧ t * t - D ≠ 0 ∧ t * t - 2 * D ≠ 0 ∧ t * t * (t * t) - 3 * D * (t * t) + 1 ≠ 0 ∧ t * t - 3 * D ≠ 0 := by
              intro t D ht hD
              have t2 : t ≠ 0 := by
                intro h0
                rcases hd with hd | hd
                · exact e4 ⟨hd, by omega⟩
                · exact e2 (Or.inl ⟨hd, by omega⟩)
              have hsq := sq_pos t2
              rcases hd with hd | hd
              · have ht4 : 4 ≤ t * t := by
                  have h5 : t ≠ 1 := fun x => e5 ⟨hd, by omega⟩
                  have h6 : t ≠ -1 := fun x => e3 ⟨hd, by omega⟩
                  rcases Int.lt_or_le t 2 with h | h
                  · have := Int.mul_le_mul (show 2 ≤ -t by omega) (show 2 ≤ -t by omega) (by omega) (by omega)
                    rw [Int.neg_mul_neg] at this; omega
                  · have := Int.mul_le_mul h h (by omega) (by omega); omega
                have D1 : D = 1 := by omega
                subst D1
                generalize t * t = T at *
                have : T * T - 3 * T = T * (T - 3) := by grind
                have h7 : 0 < T * (T - 3) := Int.mul_pos (by omega) (by omega)
                refine ⟨t2, by omega, by omega, by omega, ?_⟩
                omega
              · have D1 : D = -1 := by omega
                subst D1
                generalize t * t = T at *
                have h7 : 0 < T * T := Int.mul_pos hsq hsq
                refine ⟨t2, by omega, by omega, by omega, by omega⟩
            obtain ⟨n2, n3, n4, n5, n6⟩ := hx (a + d) (a * d - b * c) rfl rfl
            have hDD : (a * d - b * c) * (a * d - b * c) = 1 := by rcases hd with e | e <;> rw [e] <;> rfl
            exact order_inf k h e1 z1 b1 _ _ rfl rfl n2 n3 n4 n5 n6 hDD
theorem spec_l02Kind_eq (k : Nat) (a b c d : Int) (h : matB a b c d = true) : spec_l02Kind.f (k + 7) a b c d = some (kindV a b c d) := by
  unfold spec_l02Kind.f kindV spec_l02Det.f
  simp only [spec_l02Order_eq k a b c d h, Option.bind_some, (det_wrap (matB_iff.mp h).1).1]
  split
  · rfl
  · split <;> rfl
theorem impl_Mat_isReflection_eq (k : Nat) (a b c d : Int) (h : matB a b c d = true) : impl_Mat_isReflection.f (k + 4) a b c d = some (decide (kindV a b c d = -2)) := by
  have ho := ordV_nonneg a b c d
  unfold impl_Mat_isReflection.f kindV impl_Mat_det.f
  simp only [impl_Mat_order_eq k a b c d h, Option.bind_some, (det_wrap (matB_iff.mp h).1).1]
  rcases (matB_iff.mp h).2 with e | e <;> rw [e]
  · simp; omega
  · simp; by_cases h2 : ordV a b c d = 2 <;> simp [h2]
theorem impl_Mat_isRotation_eq (k : Nat) (a b c d : Int) (h : matB a b c d = true) : impl_Mat_isRotation.f (k + 4) a b c d = some (decide (0 < kindV a b c d)) := by
  have ho := ordV_nonneg a b c d
  unfold impl_Mat_isRotation.f kindV impl_Mat_det.f
  simp only [impl_Mat_order_eq k a b c d h, Option.bind_some, (det_wrap (matB_iff.mp h).1).1]
  rcases (matB_iff.mp h).2 with e | e <;> rw [e]
  · simp
  · simp; split <;> omega
theorem kindV_cases (a b c d : Int) : 0 ≤ kindV a b c d ∨ kindV a b c d = -2 := by
  have ho := ordV_nonneg a b c d
  unfold kindV
  split
  · omega
  · split <;> omega
theorem impl_Mat_isTurn_eq (k : Nat) (a b c d : Int) (h : matB a b c d = true) : impl_Mat_isTurn.f (k + 4) a b c d = some (kindV a b c d != 0) := by
  have ho := kindV_cases a b c d
  unfold impl_Mat_isTurn.f
  rw [impl_Mat_isReflection_eq k a b c d h, impl_Mat_isRotation_eq k a b c d h]
  simp only [Option.bind_some, decide_eq_true_eq]
  by_cases h1 : 0 < kindV a b c d
  · rw [if_pos h1]; congr 1; symm; rw [bne_iff_ne]; omega
  · rw [if_neg h1]; congr 1
    by_cases h2 : kindV a b c d = -2
    · rw [h2]; rfl
    · have h3 : kindV a b c d = 0 := by omega
      rw [h3]; rfl
theorem spec_IsMotion_eq (k : Nat) (a b c d x y : Int) : spec_IsMotion.f (k + 7) a b c d x y = some (motB a b c d x y) := by
  unfold spec_IsMotion.f motB; simp only [spec_IsMat_eq, spec_IsVec_eq, Option.bind_some]
  cases h : matB a b c d with
  | false => simp
  | true =>
    rw [spec_l02Kind_eq k a b c d h]
    simp only [if_true, Option.bind_some]
    by_cases h0 : kindV a b c d = 0 <;> simp [h0]
theorem impl_IsMotion_eq (k : Nat) (a b c d x y : Int) : impl_IsMotion.f (k + 4) a b c d x y = some (motB a b c d x y) := by
  unfold impl_IsMotion.f motB; simp only [impl_IsMat_eq, impl_IsVec_eq, Option.bind_some]
  cases h : matB a b c d with
  | false => simp
  | true =>
    rw [impl_Mat_isTurn_eq k a b c d h]
    simp only [if_true, Option.bind_some]
    by_cases h0 : kindV a b c d = 0 <;> simp [h0]
theorem spec_l01Add_eq {ux uy vx vy : Int} (h1 : -1000000000000000000 ≤ ux + vx ∧ ux + vx ≤ 1000000000000000000) (h2 : -1000000000000000000 ≤ uy + vy ∧ uy + vy ≤ 1000000000000000000) : spec_l01Add.f ux uy vx vy = some (ux + vx, uy + vy) := by
  unfold spec_l01Add.f; rw [wrap_id (by omega) (by omega), wrap_id (by omega) (by omega)]
theorem impl_Vec_add_eq {ux uy vx vy : Int} (h1 : -1000000000000000000 ≤ ux + vx ∧ ux + vx ≤ 1000000000000000000) (h2 : -1000000000000000000 ≤ uy + vy ∧ uy + vy ≤ 1000000000000000000) : impl_Vec_add.f ux uy vx vy = some (ux + vx, uy + vy) := by
  unfold impl_Vec_add.f; rw [wrap_id (by omega) (by omega), wrap_id (by omega) (by omega)]
theorem spec_l05Apply_eq {a b c d x y vx vy : Int} (hs : smallB a b c d = true) (h1 : vecB x y = true) (h2 : vecB vx vy = true) : spec_l05Apply.f a b c d x y vx vy = some (a * vx + b * vy + x, c * vx + d * vy + y) := by
  rw [smallB_iff] at hs; rw [vecB_iff] at h1 h2
  have l1 := lin_bd hs.1.1 hs.1.2 h2.1 h2.2
  have l2 := lin_bd hs.2.1 hs.2.2 h2.1 h2.2
  unfold spec_l05Apply.f
  rw [spec_l02Apply_eq 1000 (by omega) (by omega) hs.1.1 hs.1.2 hs.2.1 hs.2.2 h2.1 h2.2]
  simp only [Option.bind_some]
  rw [spec_l01Add_eq (by omega) (by omega)]; rfl
theorem impl_Motion_apply_eq {a b c d x y vx vy : Int} (hs : smallB a b c d = true) (h1 : vecB x y = true) (h2 : vecB vx vy = true) : impl_Motion_apply.f a b c d x y vx vy = some (a * vx + b * vy + x, c * vx + d * vy + y) := by
  rw [smallB_iff] at hs; rw [vecB_iff] at h1 h2
  have l1 := lin_bd hs.1.1 hs.1.2 h2.1 h2.2
  have l2 := lin_bd hs.2.1 hs.2.2 h2.1 h2.2
  unfold impl_Motion_apply.f
  rw [impl_Mat_apply_eq 1000 (by omega) (by omega) hs.1.1 hs.1.2 hs.2.1 hs.2.2 h2.1 h2.2]
  simp only [Option.bind_some]
  rw [impl_Vec_add_eq (by omega) (by omega)]; rfl
theorem spec_ApplyMotion_eq (k : Nat) (a b c d x y vx vy : Int) : spec_ApplyMotion.f (k + 7) a b c d x y vx vy = some (appmR a b c d x y vx vy) := by
  unfold spec_ApplyMotion.f appmR
  simp only [spec_IsMotion_eq, spec_IsVec_eq, Option.bind_some, spec_ApplyMotion.j0, spec_l01Result_eq]
  cases h : motB a b c d x y with
  | false => simp
  | true =>
    cases h' : vecB vx vy with
    | false => simp
    | true =>
      obtain ⟨m1, m2, m3⟩ := motB_iff.mp h
      simp [spec_l05Apply_eq (matB_iff.mp m1).1 m3 h']
theorem impl_ApplyMotion_eq (k : Nat) (a b c d x y vx vy : Int) : impl_ApplyMotion.f (k + 7) a b c d x y vx vy = some (appmR a b c d x y vx vy) := by
  unfold impl_ApplyMotion.f appmR
  simp only [impl_IsMotion_eq (k + 3), impl_IsVec_eq, Option.bind_some, impl_ApplyMotion.j0, impl_limited_eq]
  cases h : motB a b c d x y with
  | false => simp
  | true =>
    cases h' : vecB vx vy with
    | false => simp
    | true =>
      obtain ⟨m1, m2, m3⟩ := motB_iff.mp h
      simp [impl_Motion_apply_eq (matB_iff.mp m1).1 m3 h']
theorem impl_Motion_times_eq {a b c d x y a' b' c' d' x' y' : Int} (hs : smallB a b c d = true) (h1 : vecB x y = true) (hs' : smallB a' b' c' d' = true) (h1' : vecB x' y' = true) :
    impl_Motion_times.f a b c d x y a' b' c' d' x' y' = some (cmp1 a b c d x y a' b' c' d' x' y') := by
  unfold impl_Motion_times.f cmp1
  rw [impl_Mat_times_eq hs hs']
  rw [smallB_iff] at hs; rw [vecB_iff] at h1 h1'
  have l1 := lin_bd hs.1.1 hs.1.2 h1'.1 h1'.2
  have l2 := lin_bd hs.2.1 hs.2.2 h1'.1 h1'.2
  rw [impl_Mat_apply_eq 1000 (by omega) (by omega) hs.1.1 hs.1.2 hs.2.1 hs.2.2 h1'.1 h1'.2]
  simp only [Option.bind_some]
  rw [impl_Vec_add_eq (by omega) (by omega)]; rfl
theorem spec_l05Compose_eq {a b c d x y a' b' c' d' x' y' : Int} (hs : smallB a b c d = true) (h1 : vecB x y = true) (hs' : smallB a' b' c' d' = true) (h1' : vecB x' y' = true) :
    spec_l05Compose.f a b c d x y a' b' c' d' x' y' = some (cmp1 a b c d x y a' b' c' d' x' y') := by
  unfold spec_l05Compose.f cmp1
  rw [spec_l02Multiply_eq hs hs']
  rw [smallB_iff] at hs; rw [vecB_iff] at h1 h1'
  have l1 := lin_bd hs.1.1 hs.1.2 h1'.1 h1'.2
  have l2 := lin_bd hs.2.1 hs.2.2 h1'.1 h1'.2
  rw [spec_l02Apply_eq 1000 (by omega) (by omega) hs.1.1 hs.1.2 hs.2.1 hs.2.2 h1'.1 h1'.2]
  simp only [Option.bind_some]
  rw [spec_l01Add_eq (by omega) (by omega)]; rfl
theorem spec_ComposeMotions_eq (k : Nat) (a b c d x y a' b' c' d' x' y' : Int) : spec_ComposeMotions.f (k + 9) a b c d x y a' b' c' d' x' y' = some (cmpmR a b c d x y a' b' c' d' x' y') := by
  unfold spec_ComposeMotions.f cmpmR
  simp only [spec_IsMotion_eq (k + 2), Option.bind_some, spec_ComposeMotions.j0, spec_ComposeMotions.j1]
  cases h : motB a b c d x y with
  | false => simp
  | true =>
    cases h' : motB a' b' c' d' x' y' with
    | false => simp
    | true =>
      obtain ⟨m1, m2, m3⟩ := motB_iff.mp h
      obtain ⟨m1', m2', m3'⟩ := motB_iff.mp h'
      rw [spec_l05Compose_eq (matB_iff.mp m1).1 m3 (matB_iff.mp m1').1 m3']
      simp only [if_true, Bool.not_true, Bool.false_eq_true, if_false, Option.bind_some, spec_IsVec_eq, spec_l02Small_eq, and_self, cmp1, spec_IsMotion_eq k]
      have hm := matB_mul m1 m1'
      generalize a * a' + b * c' = A at *
      generalize a * b' + b * d' = B at *
      generalize c * a' + d * c' = C at *
      generalize c * b' + d * d' = D at *
      generalize a * x' + b * y' + x = X at *
      generalize c * x' + d * y' + y = Y at *
      cases hv : vecB X Y with
      | false => simp
      | true =>
        cases hsm : smallB A B C D with
        | false => simp
        | true =>
          simp only [if_true, Bool.not_true, Bool.false_eq_true, if_false, and_self, motB, hm hsm, hv, Bool.true_and, Bool.and_true, bne_iff_ne]
          split <;> rfl
theorem impl_ComposeMotions_eq (k : Nat) (a b c d x y a' b' c' d' x' y' : Int) : impl_ComposeMotions.f (k + 9) a b c d x y a' b' c' d' x' y' = some (cmpmR a b c d x y a' b' c' d' x' y') := by
  unfold impl_ComposeMotions.f cmpmR
  simp only [impl_IsMotion_eq (k + 5), Option.bind_some, impl_ComposeMotions.j0, impl_ComposeMotions.j1]
  cases h : motB a b c d x y with
  | false => simp
  | true =>
    cases h' : motB a' b' c' d' x' y' with
    | false => simp
    | true =>
      obtain ⟨m1, m2, m3⟩ := motB_iff.mp h
      obtain ⟨m1', m2', m3'⟩ := motB_iff.mp h'
      rw [impl_Motion_times_eq (matB_iff.mp m1).1 m3 (matB_iff.mp m1').1 m3']
      simp only [if_true, Bool.not_true, Bool.false_eq_true, if_false, Option.bind_some, impl_IsVec_eq, impl_Mat_isSmall_eq, and_self, cmp1]
      have hm := matB_mul m1 m1'
      generalize a * a' + b * c' = A at *
      generalize a * b' + b * d' = B at *
      generalize c * a' + d * c' = C at *
      generalize c * b' + d * d' = D at *
      generalize a * x' + b * y' + x = X at *
      generalize c * x' + d * y' + y = Y at *
      cases hsm : smallB A B C D with
      | false => simp
      | true =>
        cases hv : vecB X Y with
        | false => simp
        | true =>
          simp only [if_true, Bool.not_true, Bool.false_eq_true, if_false, and_self, impl_Mat_isTurn_eq (k + 3) A B C D (hm hsm), Option.bind_some, bne_iff_ne]
          split <;> rfl
theorem inv_small {a b c d : Int} (h : matB a b c d = true) : smallB ((a * d - b * c) * d) (-(a * d - b * c) * b) (-(a * d - b * c) * c) ((a * d - b * c) * a) = true := by
  obtain ⟨hs, hd⟩ := matB_iff.mp h
  rw [smallB_iff] at hs ⊢
  rcases hd with e | e <;> rw [e] <;> omega
theorem spec_InverseMotion_eq (k : Nat) (a b c d x y : Int) : spec_InverseMotion.f (k + 7) a b c d x y = some (invmR a b c d x y) := by
  unfold spec_InverseMotion.f invmR spec_l05Inverse.f; simp only [spec_IsMotion_eq, Option.bind_some, spec_IsVec_eq]
  split
  · rename_i h
    obtain ⟨m1, m2, m3⟩ := motB_iff.mp h
    rw [spec_l02Inverse_eq a b c d m1]
    have hb := smallB_iff.mp (inv_small m1)
    have hv := vecB_iff.mp m3
    generalize (a * d - b * c) * d = A at *
    generalize -(a * d - b * c) * b = B at *
    generalize -(a * d - b * c) * c = C at *
    generalize (a * d - b * c) * a = D at *
    have l1 := lin_bd hb.1.1 hb.1.2 hv.1 hv.2
    have l2 := lin_bd hb.2.1 hb.2.2 hv.1 hv.2
    simp only [Option.bind_some]
    rw [spec_l02Apply_eq 1000 (by omega) (by omega) hb.1.1 hb.1.2 hb.2.1 hb.2.2 hv.1 hv.2]
    unfold spec_l01Scale.f
    simp only [Option.bind_some]
    rw [wrap_id (by omega) (by omega), wrap_id (by omega) (by omega), Int.neg_one_mul, Int.neg_one_mul]
    split <;> rfl
  · rfl
theorem inv_small' {a b c d : Int} (h : matB a b c d = true) : smallB ((a * d - b * c) * d) (-(a * d - b * c) * b) (-(a * d - b * c) * c) ((a * d - b * c) * a) = true := by
  obtain ⟨hs, hd⟩ := matB_iff.mp h
  rw [smallB_iff] at hs ⊢
  rcases hd with e | e <;> rw [e] <;> omega
theorem impl_InverseMotion_eq (k : Nat) (a b c d x y : Int) : impl_InverseMotion.f (k + 7) a b c d x y = some (invmR a b c d x y) := by
  unfold impl_InverseMotion.f invmR impl_Motion_inverse.f; simp only [impl_IsMotion_eq (k + 3), Option.bind_some, impl_IsVec_eq]
  split
  · rename_i h
    obtain ⟨m1, m2, m3⟩ := motB_iff.mp h
    rw [impl_Mat_inverse_eq a b c d m1]
    have hb := smallB_iff.mp (inv_small' m1)
    have hv := vecB_iff.mp m3
    generalize (a * d - b * c) * d = A at *
    generalize -(a * d - b * c) * b = B at *
    generalize -(a * d - b * c) * c = C at *
    generalize (a * d - b * c) * a = D at *
    have l1 := lin_bd hb.1.1 hb.1.2 hv.1 hv.2
    have l2 := lin_bd hb.2.1 hb.2.2 hv.1 hv.2
    simp only [Option.bind_some]
    rw [impl_Mat_apply_eq 1000 (by omega) (by omega) hb.1.1 hb.1.2 hb.2.1 hb.2.2 hv.1 hv.2]
    unfold impl_Vec_times.f
    simp only [Option.bind_some]
    rw [wrap_id (by omega) (by omega), wrap_id (by omega) (by omega), Int.neg_one_mul, Int.neg_one_mul]
    split <;> rfl
  · rfl
def pm0 : List S51 := [⟨-1, 0, 0, -1⟩, ⟨-1, 0, 0, 1⟩, ⟨0, -1, -1, 0⟩, ⟨0, -1, 1, 0⟩, ⟨0, 1, -1, 0⟩, ⟨0, 1, 1, 0⟩, ⟨1, 0, 0, -1⟩, ⟨1, 0, 0, 1⟩]
def pm1 : List S51 := [⟨-1, -1, 0, 1⟩, ⟨-1, -1, 1, 0⟩, ⟨-1, 0, 0, -1⟩, ⟨-1, 0, 1, 1⟩, ⟨0, -1, -1, 0⟩, ⟨0, -1, 1, 1⟩, ⟨0, 1, -1, -1⟩, ⟨0, 1, 1, 0⟩, ⟨1, 0, -1, -1⟩, ⟨1, 0, 0, 1⟩, ⟨1, 1, -1, 0⟩, ⟨1, 1, 0, -1⟩]
def pmL (f : Int) : List S51 := if f = 0 then pm0 else pm1
set_option maxRecDepth 100000 in
theorem spec_pm0 (k : Nat) : spec_l04Mats.f (k + 82) 0 = some pm0 := by kernel_rfl
set_option maxRecDepth 100000 in
theorem spec_pm1 (k : Nat) : spec_l04Mats.f (k + 82) 1 = some pm1 := by kernel_rfl
theorem spec_l04Mats_eq (k : Nat) (hk : 82 ≤ k) {f : Int} (hf : f = 0 ∨ f = 1) : spec_l04Mats.f k f = some (pmL f) := by
  obtain ⟨k, rfl⟩ : ∃ m, k = m + 82 := ⟨k - 82, by omega⟩
  rcases hf with rfl | rfl
  · rw [spec_pm0]; rfl
  · rw [spec_pm1]; rfl
def St (l : List Int) (p s : Int) : Prop := (l.length : Int) ≤ 4096 ∧ (∀ x ∈ l, 0 ≤ x ∧ x < 256) ∧ 0 ≤ p ∧ p ≤ (l.length : Int) ∧ 0 ≤ s ∧ s < 2147483647
theorem rd_mem {l : List Int} {i : Int} (h0 : 0 ≤ i) (h1 : i < (l.length : Int)) : rd l i ∈ l := by
  unfold rd
  have h : i.toNat < l.length := by omega
  have e : l.getD i.toNat 0 = l[i.toNat] := by simp [List.getD, h]
  rw [e]
  exact List.getElem_mem h
theorem tm_bd {X n : Int} (hX : 0 ≤ X) (hn : 0 < n) : 0 ≤ Int.tmod X n ∧ Int.tmod X n < n := ⟨Int.tmod_nonneg n hX, Int.tmod_lt_of_pos X hn⟩
theorem next_eq {l : List Int} {p s : Int} (h : St l p s) (n : Int) : ∃ r p' s', spec_l01Next.f l p s n = some (r, p', s') ∧ St l p' s' ∧ 0 ≤ r ∧ (r < n ∨ r = 0) := by
  have h0 := h
  obtain ⟨hl, hb, hp0, hp1, hs0, hs1⟩ := h
  unfold spec_l01Next.f
  by_cases hn : n ≤ 1
  · rw [if_pos hn]; exact ⟨0, p, s, rfl, h0, by omega, .inr rfl⟩
  rw [if_neg hn]
  rw [wrap_id (x := s * 48271) (by omega) (by omega), wrap_id (x := s * 48271 + 67) (by omega) (by omega)]
  obtain ⟨a1, a2⟩ := tm_bd (X := s * 48271 + 67) (n := 2147483647) (by omega) (by decide)
  generalize Int.tmod (s * 48271 + 67) 2147483647 = S at a1 a2
  have q0 : 0 ≤ Int.tdiv S 37 ∧ Int.tdiv S 37 ≤ S := by rw [Int.tdiv_eq_ediv_of_nonneg a1]; omega
  have q1 : wrap64 (Int.tdiv S 37) = Int.tdiv S 37 := wrap_id (by omega) (by omega)
  by_cases hp : p < (l.length : Int)
  · rw [if_pos hp, if_pos hp0]
    have m := hb _ (rd_mem hp0 hp)
    rw [wrap_id (x := p + 1) (by omega) (by omega), wrap_id (x := p + 1 - 1) (by omega) (by omega), Int.add_sub_cancel]
    have w1 : wrap64 (rd l p) = rd l p := wrap_id (by omega) (by omega)
    rw [q1, w1, wrap_id (x := Int.tdiv S 37 + rd l p) (by omega) (by omega), if_neg (show ¬ n = 0 by omega), if_neg (show ¬ n = 0 by omega)]
    have t1 := tm_bd (X := rd l p) (n := n) m.1 (by omega)
    have t2 := tm_bd (X := Int.tdiv S 37 + rd l p) (n := n) (by omega) (by omega)
    have st : St l (p + 1) S := ⟨hl, hb, by omega, by omega, a1, a2⟩
    split
    · split
      · exact ⟨_, _, _, rfl, st, t1.1, .inl t1.2⟩
      · exact ⟨_, _, _, rfl, st, t2.1, .inl t2.2⟩
    · exact ⟨_, _, _, rfl, st, t2.1, .inl t2.2⟩
  · rw [if_neg hp, if_neg (show ¬ n = 0 by omega), q1]
    have t1 := tm_bd (X := Int.tdiv S 37) (n := n) (by omega) (by omega)
    exact ⟨_, _, _, rfl, ⟨hl, hb, hp0, hp1, a1, a2⟩, t1.1, .inl t1.2⟩
theorem from_loop {l : List Int} (hl : (l.length : Int) ≤ 4096) (hb : ∀ x ∈ l, 0 ≤ x ∧ x < 256) (p : Int) : ∀ (k : Nat) (i s : Int), 0 ≤ i → i ≤ 64 → 64 - i < (k : Int) → 0 ≤ s → s < 2147483647 →
    ∃ s', spec_l01From.l0 k l i l p s = some (l, p, s') ∧ 0 ≤ s' ∧ s' < 2147483647
  | 0, i, s, h0, h1, h2, _, _ => by omega
  | k + 1, i, s, h0, h1, h2, h3, h4 => by
    unfold spec_l01From.l0
    by_cases hi : i < (l.length : Int)
    · rw [if_pos hi]
      by_cases h6 : i < 64
      · rw [if_pos h6, if_pos h0]
        have m := hb _ (rd_mem h0 hi)
        rw [wrap_id (x := i + 1) (by omega) (by omega), wrap_id (x := rd l i) (by omega) (by omega), wrap_id (x := s * 73) (by omega) (by omega), wrap_id (x := s * 73 + rd l i) (by omega) (by omega)]
        have t := tm_bd (X := s * 73 + rd l i) (n := 2147483647) (by omega) (by decide)
        exact from_loop hl hb p k (i + 1) _ (by omega) (by omega) (by omega) t.1 t.2
      · rw [if_neg h6]; exact ⟨s, rfl, h3, h4⟩
    · rw [if_neg hi]; exact ⟨s, rfl, h3, h4⟩
theorem from_eq {l : List Int} (hl : (l.length : Int) ≤ 4096) (hb : ∀ x ∈ l, 0 ≤ x ∧ x < 256) (k : Nat) (hk : 65 ≤ k) : ∃ p s, spec_l01From.f k l = some (l, p, s) ∧ St l p s := by
  obtain ⟨s, e, h1, h2⟩ := from_loop hl hb 0 k 0 93001 (by omega) (by omega) (by omega) (by omega) (by omega)
  exact ⟨0, s, e, hl, hb, by omega, by omega, h1, h2⟩
theorem pick_eq {l : List Int} {p s : Int} (h : St l p s) (L : List Int) (hL : 0 < L.length) : ∃ v p' s', spec_l01Pick.f l p s L = some (v, p', s') ∧ St l p' s' ∧ v ∈ L := by
  unfold spec_l01Pick.f
  obtain ⟨r, p', s', e, hs, b1, b2⟩ := next_eq h (L.length : Int)
  rw [e]
  simp only [Option.bind_some]
  have hr : r < (L.length : Int) := by rcases b2 with b | b <;> omega
  rw [if_pos b1, if_pos hr]
  exact ⟨_, _, _, rfl, hs, rd_mem b1 hr⟩
theorem draw_eq {l : List Int} {p s : Int} (h : St l p s) : ∃ x y p' s', spec_l01Draw.f l p s = some (x, y, p', s') ∧ St l p' s' ∧ (-1001 ≤ x ∧ x ≤ 1001) ∧ (-1001 ≤ y ∧ y ≤ 1001) := by
  unfold spec_l01Draw.f
  obtain ⟨r, p1, s1, e1, h1, b1, b2⟩ := next_eq h 40
  rw [e1]
  simp only [Option.bind_some]
  split
  · obtain ⟨v, p2, s2, e2, h2, m2⟩ := pick_eq h1 [-1000, 1000, 1001, 0] (by decide)
    rw [e2]
    simp only [Option.bind_some]
    obtain ⟨v', p3, s3, e3, h3, m3⟩ := pick_eq h2 [-1001, 1000, 0] (by decide)
    rw [e3]
    simp only [Option.bind_some]
    simp only [List.mem_cons, List.not_mem_nil, or_false] at m2 m3
    exact ⟨_, _, _, _, rfl, h3, by omega, by omega⟩
  · obtain ⟨v, p2, s2, e2, h2, m2⟩ := pick_eq h1 [4, 9, 30] (by decide)
    rw [e2]
    simp only [Option.bind_some]
    simp only [List.mem_cons, List.not_mem_nil, or_false] at m2
    rw [wrap_id (x := 2 * v) (by omega) (by omega), wrap_id (x := 2 * v + 1) (by omega) (by omega)]
    obtain ⟨r3, p3, s3, e3, h3, b3, c3⟩ := next_eq h2 (2 * v + 1)
    rw [e3]
    simp only [Option.bind_some]
    obtain ⟨r4, p4, s4, e4, h4, b4, c4⟩ := next_eq h3 (2 * v + 1)
    rw [e4]
    simp only [Option.bind_some]
    rw [wrap_id (x := r3 - v) (by omega) (by omega), wrap_id (x := r4 - v) (by omega) (by omega)]
    exact ⟨_, _, _, _, rfl, h4, by omega, by omega⟩
theorem big_eq (l : List Int) : laws_big.f l = some (decide ((l.length : Int) > 4096)) := rfl
def bdM (B a b c d : Int) : Prop := (-B ≤ a ∧ a ≤ B) ∧ (-B ≤ b ∧ b ≤ B) ∧ (-B ≤ c ∧ c ≤ B) ∧ (-B ≤ d ∧ d ≤ B)
theorem mul_bdM {A B a b c d a' b' c' d' : Int} (hA : 0 ≤ A) (hA2 : A ≤ 1000) (hB2 : B ≤ 1000) (h : bdM A a b c d) (h' : bdM B a' b' c' d') :
    ∃ p q r s, spec_l02Multiply.f a b c d a' b' c' d' = some (p, q, r, s) ∧ bdM (2 * (A * B)) p q r s := by
  obtain ⟨h1, h2, h3, h4⟩ := h
  obtain ⟨g1, g2, g3, g4⟩ := h'
  have s1 : smallB a b c d = true := smallB_iff.mpr ⟨⟨by omega, by omega⟩, by omega, by omega⟩
  have s2 : smallB a' b' c' d' = true := smallB_iff.mpr ⟨⟨by omega, by omega⟩, by omega, by omega⟩
  rw [spec_l02Multiply_eq s1 s2]
  unfold mul1
  refine ⟨_, _, _, _, rfl, ?_⟩
  have p1 := prod_bd h1.1 h1.2 g1.1 g1.2 hA
  have p2 := prod_bd h2.1 h2.2 g3.1 g3.2 hA
  have p3 := prod_bd h1.1 h1.2 g2.1 g2.2 hA
  have p4 := prod_bd h2.1 h2.2 g4.1 g4.2 hA
  have p5 := prod_bd h3.1 h3.2 g1.1 g1.2 hA
  have p6 := prod_bd h4.1 h4.2 g3.1 g3.2 hA
  have p7 := prod_bd h3.1 h3.2 g2.1 g2.2 hA
  have p8 := prod_bd h4.1 h4.2 g4.1 g4.2 hA
  unfold bdM
  omega
theorem inv_lo {c : Int} (h : -10 ≤ c ∧ c ≤ 10) : spec_l02Inverse.f 1 0 c 1 = some (1, 0, -c, 1) := by
  unfold spec_l02Inverse.f spec_l02Det.f
  have e : wrap64 (wrap64 (1 * 1) - wrap64 (0 * c)) = 1 := by unfold wrap64; omega
  simp only [Option.bind_some, e]
  rw [wrap_id (x := -1) (by omega) (by omega), wrap_id (x := 1 * 1) (by omega) (by omega), wrap_id (x := -1 * 0) (by omega) (by omega), wrap_id (x := -1 * c) (by omega) (by omega)]
  congr 3; congr 1; omega
theorem inv_up {b : Int} (h : -10 ≤ b ∧ b ≤ 10) : spec_l02Inverse.f 1 b 0 1 = some (1, -b, 0, 1) := by
  unfold spec_l02Inverse.f spec_l02Det.f
  have e : wrap64 (wrap64 (1 * 1) - wrap64 (b * 0)) = 1 := by unfold wrap64; omega
  simp only [Option.bind_some, e]
  rw [wrap_id (x := -1) (by omega) (by omega), wrap_id (x := 1 * 1) (by omega) (by omega), wrap_id (x := -1 * 0) (by omega) (by omega), wrap_id (x := -1 * b) (by omega) (by omega)]
  congr 2; congr 1; omega
theorem fin_step {l : List Int} {p s : Int} (h : St l p s) {n B a b c d : Int} (hn : 0 < n) (hn2 : n ≤ 10) (hB : 0 ≤ B) (hB2 : 16 * B ≤ 1000) (hb : bdM B a b c d) :
    ∃ p' s' a' b' c' d', St l p' s' ∧ bdM (16 * B) a' b' c' d' ∧ ∀ k, spec_l02DrawFinite.l0 (k + 1) n l p s a b c d = spec_l02DrawFinite.l0 k (n - 1) l p' s' a' b' c' d' := by
  obtain ⟨r1, p1, s1, e1, h1, b1, c1⟩ := next_eq h 5
  obtain ⟨r2, p2, s2, e2, h2, b2, c2⟩ := next_eq h1 2
  by_cases hr : r2 = 0
  · obtain ⟨r3, p3, s3, e3, h3, b3, c3⟩ := next_eq h2 5
    obtain ⟨t1, t2, t3, t4, q1, q2⟩ := mul_bdM (A := 2) (B := B) (a := 1) (b := 0) (c := r3 - 2) (d := 1) (by omega) (by omega) (by omega) (by unfold bdM; omega) hb
    obtain ⟨u1, u2, u3, u4, q3, q4⟩ := mul_bdM (A := 2 * (2 * B)) (B := 2) (a' := 1) (b' := 0) (c' := -(r3 - 2)) (d' := 1) (by omega) (by omega) (by omega) q2 (by unfold bdM; omega)
    refine ⟨p3, s3, u1, u2, u3, u4, h3, by unfold bdM at q4 ⊢; omega, fun k => ?_⟩
    rw [spec_l02DrawFinite.l0, if_pos hn, e1]
    simp only [Option.bind_some]
    rw [e2]
    simp only [Option.bind_some]
    rw [if_pos hr, e3]
    simp only [Option.bind_some]
    rw [wrap_id (x := r3 - 2) (by omega) (by omega), wrap_id (x := n - 1) (by omega) (by omega), q1, inv_lo (by omega)]
    simp only [Option.bind_some]
    rw [q3]
    rfl
  · obtain ⟨t1, t2, t3, t4, q1, q2⟩ := mul_bdM (A := 2) (B := B) (a := 1) (b := r1 - 2) (c := 0) (d := 1) (by omega) (by omega) (by omega) (by unfold bdM; omega) hb
    obtain ⟨u1, u2, u3, u4, q3, q4⟩ := mul_bdM (A := 2 * (2 * B)) (B := 2) (a' := 1) (b' := -(r1 - 2)) (c' := 0) (d' := 1) (by omega) (by omega) (by omega) q2 (by unfold bdM; omega)
    refine ⟨p2, s2, u1, u2, u3, u4, h2, by unfold bdM at q4 ⊢; omega, fun k => ?_⟩
    rw [spec_l02DrawFinite.l0, if_pos hn, e1]
    simp only [Option.bind_some]
    rw [e2]
    simp only [Option.bind_some]
    rw [if_neg hr]
    rw [wrap_id (x := r1 - 2) (by omega) (by omega), wrap_id (x := n - 1) (by omega) (by omega), q1, inv_up (by omega)]
    simp only [Option.bind_some]
    rw [q3]
    rfl
theorem fin_end (k : Nat) (l : List Int) (p s a b c d : Int) : spec_l02DrawFinite.l0 (k + 1) 0 l p s a b c d = some (a, b, c, d, p, s) := by
  rw [spec_l02DrawFinite.l0, if_neg (by decide)]
theorem fin_all {l : List Int} {p s : Int} (h : St l p s) {n a b c d : Int} (hn : 0 ≤ n ∧ n ≤ 2) (hb : bdM 1 a b c d) (k : Nat) :
    ∃ p' s' a' b' c' d', St l p' s' ∧ bdM 256 a' b' c' d' ∧ spec_l02DrawFinite.l0 (k + 3) n l p s a b c d = some (a', b', c', d', p', s') := by
  have hh : n = 0 ∨ n = 1 ∨ n = 2 := by omega
  rcases hh with rfl | rfl | rfl
  · exact ⟨p, s, a, b, c, d, h, by unfold bdM at hb ⊢; omega, fin_end _ _ _ _ _ _ _ _⟩
  · obtain ⟨p1, s1, a1, b1, c1, d1, h1, hb1, e1⟩ := fin_step (n := 1) h (by decide) (by decide) (by decide) (by decide) hb
    exact ⟨p1, s1, a1, b1, c1, d1, h1, by unfold bdM at hb1 ⊢; omega, (e1 _).trans (fin_end _ _ _ _ _ _ _ _)⟩
  · obtain ⟨p1, s1, a1, b1, c1, d1, h1, hb1, e1⟩ := fin_step (n := 2) h (by decide) (by decide) (by decide) (by decide) hb
    obtain ⟨p2, s2, a2, b2, c2, d2, h2, hb2, e2⟩ := fin_step (n := 2 - 1) h1 (by decide) (by decide) (by decide) (by decide) hb1
    exact ⟨p2, s2, a2, b2, c2, d2, h2, by unfold bdM at hb2 ⊢; omega, (e1 _).trans ((e2 _).trans (fin_end _ _ _ _ _ _ _ _))⟩
theorem rd_SM_mem {L : List S51} {i : Int} (h0 : 0 ≤ i) (h1 : i < (L.length : Int)) : rd_T51 L i ∈ L := by
  unfold rd_T51
  have h : i.toNat < L.length := by omega
  have e : L.getD i.toNat z51 = L[i.toNat] := by simp [List.getD, h]
  rw [e]
  exact List.getElem_mem h
theorem drawFin_eq {l : List Int} {p s : Int} (h : St l p s) (k : Nat) : ∃ p' s' a' b' c' d', St l p' s' ∧ bdM 256 a' b' c' d' ∧ spec_l02DrawFinite.f (k + 3) l p s = some (a', b', c', d', p', s') := by
  unfold spec_l02DrawFinite.f
  obtain ⟨r1, p1, s1, e1, h1, b1, c1⟩ := next_eq h 8
  obtain ⟨r2, p2, s2, e2, h2, b2, c2⟩ := next_eq h1 3
  simp only [Option.bind_some]
  have hm : ∀ m ∈ ([⟨1, 0, 0, 1⟩, ⟨-1, 0, 0, -1⟩, ⟨0, -1, 1, 0⟩, ⟨0, -1, 1, 1⟩, ⟨-1, -1, 1, 0⟩, ⟨1, 0, 0, -1⟩, ⟨0, 1, 1, 0⟩, ⟨1, 1, 0, -1⟩] : List S51), bdM 1 m.f0 m.f1 m.f2 m.f3 := by
    intro m hm
    simp only [List.mem_cons, List.not_mem_nil, or_false] at hm
    rcases hm with rfl | rfl | rfl | rfl | rfl | rfl | rfl | rfl <;> (unfold bdM; decide)
  rw [e1]
  simp only [Option.bind_some]
  rw [if_pos b1, if_pos (by simp; omega), e2]
  simp only [Option.bind_some]
  exact fin_all h2 (by omega) (hm _ (rd_SM_mem b1 (by simp; omega))) k
def goodM (a b c d : Int) : Prop := bdM 999 a b c d ∨ ordV a b c d = 0
def okD (l : List Int) (n C : Int) (K : Nat) : Prop := ∀ p s a b c d k, St l p s → bdM C a b c d → K ≤ k →
  ∃ p' s' a' b' c' d', St l p' s' ∧ goodM a' b' c' d' ∧ spec_l02Draw.l0 k n l p s a b c d = some (a', b', c', d', p', s')
theorem draw2_end (l : List Int) : okD l 0 256 1 := by
  intro p s a b c d k h hb hk
  obtain ⟨k, rfl⟩ : ∃ m, k = m + 1 := ⟨k - 1, by omega⟩
  obtain ⟨r1, p1, s1, e1, h1, b1, c1⟩ := next_eq h 20
  rw [spec_l02Draw.l0, if_neg (by decide), e1]
  simp only [Option.bind_some]
  by_cases h0 : r1 = 0
  · rw [if_pos h0, wrap_id (x := a + 1) (by unfold bdM at hb; omega) (by unfold bdM at hb; omega)]
    exact ⟨_, _, _, _, _, _, h1, .inl (by unfold bdM at hb ⊢; omega), rfl⟩
  · rw [if_neg h0]
    by_cases h2 : r1 = 1
    · rw [if_pos h2]
      obtain ⟨v, p2, s2, e2, h3, m3⟩ := pick_eq h1 [999, 1000, 1001] (by decide)
      rw [e2]
      simp only [List.mem_cons, List.not_mem_nil, or_false] at m3
      refine ⟨_, _, _, _, _, _, h3, .inr ?_, rfl⟩
      unfold ordV
      rw [if_neg (by omega), if_neg (by omega), if_neg (by omega), if_neg (by omega), if_neg (by omega)]
    · rw [if_neg h2]
      exact ⟨_, _, _, _, _, _, h1, .inl (by unfold bdM at hb ⊢; omega), rfl⟩
theorem draw2_step {l : List Int} {n C : Int} {K : Nat} (hn : 0 ≤ n ∧ n ≤ 10) (hC : 0 ≤ C) (hC2 : C ≤ 1000) (ih : okD l n (2 * (C * 2)) K) : okD l (n + 1) C (K + 1) := by
  intro p s a b c d k h hb hk
  obtain ⟨k, rfl⟩ : ∃ m, k = m + 1 := ⟨k - 1, by omega⟩
  obtain ⟨r1, p1, s1, e1, h1, b1, c1⟩ := next_eq h 5
  rw [spec_l02Draw.l0, if_pos (by omega)]
  simp only [Option.bind_some]
  rw [e1]
  simp only [Option.bind_some]
  have hm : ∀ m ∈ ([⟨1, 1, 0, 1⟩, ⟨1, 0, 1, 1⟩, ⟨1, -2, 0, 1⟩, ⟨0, 1, 1, 0⟩, ⟨-1, 0, 0, 1⟩] : List S51), bdM 2 m.f0 m.f1 m.f2 m.f3 := by
    intro m hm
    simp only [List.mem_cons, List.not_mem_nil, or_false] at hm
    rcases hm with rfl | rfl | rfl | rfl | rfl <;> (unfold bdM; decide)
  have hmm := hm _ (rd_SM_mem b1 (by simp; omega))
  obtain ⟨t1, t2, t3, t4, q1, q2⟩ := mul_bdM hC hC2 (by omega) hb hmm
  rw [if_pos b1, if_pos (by simp; omega), q1]
  simp only [Option.bind_some]
  rw [wrap_id (x := n + 1 - 1) (by omega) (by omega), Int.add_sub_cancel]
  exact ih _ _ _ _ _ _ _ h1 q2 (by omega)
theorem draw2_eq {l : List Int} {p s : Int} (h : St l p s) (k : Nat) (hk : 10 ≤ k) : ∃ p' s' a' b' c' d', St l p' s' ∧ goodM a' b' c' d' ∧ spec_l02Draw.f k l p s = some (a', b', c', d', p', s') := by
  unfold spec_l02Draw.f
  obtain ⟨r1, p1, s1, e1, h1, b1, c1⟩ := next_eq h 3
  rw [e1]
  simp only [Option.bind_some]
  split
  · obtain ⟨k, rfl⟩ : ∃ m, k = m + 3 := ⟨k - 3, by omega⟩
    obtain ⟨p2, s2, a, b, c, d, h2, hb, e2⟩ := drawFin_eq h1 k
    rw [e2]
    exact ⟨p2, s2, a, b, c, d, h2, .inl (by unfold bdM at hb ⊢; omega), rfl⟩
  · obtain ⟨r2, p2, s2, e2, h2, b2, c2⟩ := next_eq h1 5
    rw [e2]
    unfold spec_l02Unit.f
    simp only [Option.bind_some]
    have o0 := draw2_end l
    have o1 : okD l 1 64 2 := draw2_step (n := 0) (by decide) (by decide) (by decide) o0
    have o2 : okD l 2 16 3 := draw2_step (n := 1) (by decide) (by decide) (by decide) o1
    have o3 : okD l 3 4 4 := draw2_step (n := 2) (by decide) (by decide) (by decide) o2
    have o4 : okD l 4 1 5 := draw2_step (n := 3) (by decide) (by decide) (by decide) o3
    have hr : r2 = 0 ∨ r2 = 1 ∨ r2 = 2 ∨ r2 = 3 ∨ r2 = 4 := by omega
    rcases hr with rfl | rfl | rfl | rfl | rfl
    · exact o0 _ _ _ _ _ _ _ h2 (by unfold bdM; decide) (by omega)
    · exact o1 _ _ _ _ _ _ _ h2 (by unfold bdM; decide) (by omega)
    · exact o2 _ _ _ _ _ _ _ h2 (by unfold bdM; decide) (by omega)
    · exact o3 _ _ _ _ _ _ _ h2 (by unfold bdM; decide) (by omega)
    · exact o4 _ _ _ _ _ _ _ h2 (by unfold bdM; decide) (by omega)
theorem drawMat_eq {l : List Int} {p s : Int} (h : St l p s) (k : Nat) (hk : 82 ≤ k) (f : Int) : ∃ p' s' a b c d, St l p' s' ∧ spec_l04DrawMat.f k l p s f = some (a, b, c, d, p', s') := by
  unfold spec_l04DrawMat.f
  rw [spec_IsFrame_eq]
  simp only [Option.bind_some]
  by_cases hf : frameB f = true
  · rw [if_pos hf, spec_l04Mats_eq k hk (frameB_iff.mp hf)]
    simp only [Option.bind_some]
    have hpos : 0 < (pmL f).length := by unfold pmL; split <;> decide
    obtain ⟨r, p1, s1, e1, h1, b1, c1⟩ := next_eq h ((pmL f).length : Int)
    rw [e1]
    simp only [Option.bind_some]
    rw [if_pos b1, if_pos (by omega)]
    exact ⟨_, _, _, _, _, _, h1, rfl⟩
  · rw [if_neg hf]
    exact ⟨_, _, _, _, _, _, h, rfl⟩
theorem draw5_j0 {l : List Int} {p s : Int} (h : St l p s) (k : Nat) (a b c d : Int) : ∃ p' s' a' b' c' d' x y, St l p' s' ∧ spec_l05Draw.j0 (k + 1) l p s a b c d = some (a', b', c', d', x, y, p', s') := by
  rw [spec_l05Draw.j0]
  obtain ⟨r, p1, s1, e1, h1, b1, c1⟩ := next_eq h 5
  rw [e1]
  simp only [Option.bind_some]
  split
  · exact ⟨_, _, _, _, _, _, _, _, h1, rfl⟩
  · obtain ⟨x, y, p2, s2, e2, h2, _⟩ := draw_eq h1
    rw [e2]
    exact ⟨_, _, _, _, _, _, _, _, h2, rfl⟩
theorem draw5_eq {l : List Int} {p s : Int} (h : St l p s) (k : Nat) (hk : 100 ≤ k) : ∃ p' s' a b c d x y, St l p' s' ∧ spec_l05Draw.f k l p s = some (a, b, c, d, x, y, p', s') := by
  obtain ⟨k, rfl⟩ : ∃ m, k = m + 3 := ⟨k - 3, by omega⟩
  unfold spec_l05Draw.f
  obtain ⟨r, p1, s1, e1, h1, b1, c1⟩ := next_eq h 2
  rw [e1]
  simp only [Option.bind_some]
  obtain ⟨p2, s2, a, b, c, d, h2, e2⟩ := drawMat_eq h1 (k + 3) (by omega) r
  rw [e2]
  simp only [Option.bind_some]
  obtain ⟨r3, p3, s3, e3, h3, b3, c3⟩ := next_eq h2 12
  rw [e3]
  simp only [Option.bind_some]
  split
  · obtain ⟨p4, s4, a4, b4, c4, d4, h4, _, e4⟩ := draw2_eq h3 (k + 3) (by omega)
    rw [e4]
    exact draw5_j0 h4 (k + 2) _ _ _ _
  · split
    · exact draw5_j0 h3 (k + 2) _ _ _ _
    · split
      · obtain ⟨p4, s4, a4, b4, c4, d4, h4, _, e4⟩ := drawFin_eq h3 k
        rw [e4]
        exact draw5_j0 h4 (k + 2) _ _ _ _
      · exact draw5_j0 h3 (k + 2) _ _ _ _
theorem drawCmp_eq {l : List Int} (hl : (l.length : Int) ≤ 4096) (hb : ∀ x ∈ l, 0 ≤ x ∧ x < 256) (k : Nat) (hk : 100 ≤ k) : ∃ a b c d x y a' b' c' d' x' y', spec_DrawComposeMotions.f k l = some (a, b, c, d, x, y, a', b', c', d', x', y') := by
  unfold spec_DrawComposeMotions.f
  obtain ⟨p, s, e, h⟩ := from_eq hl hb k (by omega)
  rw [e]
  simp only [Option.bind_some]
  obtain ⟨r, p1, s1, e1, h1, b1, b2⟩ := next_eq h 4
  rw [e1]
  simp only [Option.bind_some]
  split
  · obtain ⟨p2, s2, a, b, c, d, x, y, h2, e2⟩ := draw5_eq h1 k hk
    rw [e2]
    simp only [Option.bind_some]
    obtain ⟨p3, s3, a', b', c', d', x', y', h3, e3⟩ := draw5_eq h2 k hk
    rw [e3]
    exact ⟨_, _, _, _, _, _, _, _, _, _, _, _, rfl⟩
  · obtain ⟨f, p2, s2, e2, h2, b3, b4⟩ := next_eq h1 2
    rw [e2]
    simp only [Option.bind_some]
    obtain ⟨p3, s3, a, b, c, d, h3, e3⟩ := drawMat_eq h2 k (by omega) f
    rw [e3]
    simp only [Option.bind_some]
    obtain ⟨x, y, p4, s4, e4, h4, _⟩ := draw_eq h3
    rw [e4]
    simp only [Option.bind_some]
    obtain ⟨p5, s5, a', b', c', d', h5, e5⟩ := drawMat_eq h4 k (by omega) f
    rw [e5]
    simp only [Option.bind_some]
    obtain ⟨x', y', p6, s6, e6, h6, _⟩ := draw_eq h5
    rw [e6]
    exact ⟨_, _, _, _, _, _, _, _, _, _, _, _, rfl⟩
theorem drawInvM_eq {l : List Int} (hl : (l.length : Int) ≤ 4096) (hb : ∀ x ∈ l, 0 ≤ x ∧ x < 256) (k : Nat) (hk : 100 ≤ k) : ∃ a b c d x y, spec_DrawInverseMotion.f k l = some (a, b, c, d, x, y) := by
  unfold spec_DrawInverseMotion.f
  obtain ⟨p, s, e, h⟩ := from_eq hl hb k (by omega)
  rw [e]
  simp only [Option.bind_some]
  obtain ⟨p2, s2, a, b, c, d, x, y, h2, e2⟩ := draw5_eq h k hk
  rw [e2]
  exact ⟨_, _, _, _, _, _, rfl⟩
theorem drawAppM_eq {l : List Int} (hl : (l.length : Int) ≤ 4096) (hb : ∀ x ∈ l, 0 ≤ x ∧ x < 256) (k : Nat) (hk : 100 ≤ k) : ∃ a b c d x y u v, spec_DrawApplyMotion.f k l = some (a, b, c, d, x, y, u, v) := by
  unfold spec_DrawApplyMotion.f
  obtain ⟨p, s, e, h⟩ := from_eq hl hb k (by omega)
  rw [e]
  simp only [Option.bind_some]
  obtain ⟨p2, s2, a, b, c, d, x, y, h2, e2⟩ := draw5_eq h k hk
  rw [e2]
  simp only [Option.bind_some]
  obtain ⟨u, v, p3, s3, e3, h3, _⟩ := draw_eq h2
  rw [e3]
  exact ⟨_, _, _, _, _, _, _, _, rfl⟩
theorem impl_Cmp_k (k : Nat) (hk : 9 ≤ k) (a b c d x y a' b' c' d' x' y' : Int) : impl_ComposeMotions.f k a b c d x y a' b' c' d' x' y' = some (cmpmR a b c d x y a' b' c' d' x' y') := by
  obtain ⟨j, rfl⟩ : ∃ j, k = j + 9 := ⟨k - 9, by omega⟩
  exact impl_ComposeMotions_eq j a b c d x y a' b' c' d' x' y'
theorem spec_Cmp_k (k : Nat) (hk : 9 ≤ k) (a b c d x y a' b' c' d' x' y' : Int) : spec_ComposeMotions.f k a b c d x y a' b' c' d' x' y' = some (cmpmR a b c d x y a' b' c' d' x' y') := by
  obtain ⟨j, rfl⟩ : ∃ j, k = j + 9 := ⟨k - 9, by omega⟩
  exact spec_ComposeMotions_eq j a b c d x y a' b' c' d' x' y'
theorem impl_AppM_k (k : Nat) (hk : 7 ≤ k) (a b c d x y u v : Int) : impl_ApplyMotion.f k a b c d x y u v = some (appmR a b c d x y u v) := by
  obtain ⟨j, rfl⟩ : ∃ j, k = j + 7 := ⟨k - 7, by omega⟩
  exact impl_ApplyMotion_eq j a b c d x y u v
theorem spec_AppM_k (k : Nat) (hk : 7 ≤ k) (a b c d x y u v : Int) : spec_ApplyMotion.f k a b c d x y u v = some (appmR a b c d x y u v) := by
  obtain ⟨j, rfl⟩ : ∃ j, k = j + 7 := ⟨k - 7, by omega⟩
  exact spec_ApplyMotion_eq j a b c d x y u v
theorem impl_InvM_k (k : Nat) (hk : 7 ≤ k) (a b c d x y : Int) : impl_InverseMotion.f k a b c d x y = some (invmR a b c d x y) := by
  obtain ⟨j, rfl⟩ : ∃ j, k = j + 7 := ⟨k - 7, by omega⟩
  exact impl_InverseMotion_eq j a b c d x y
theorem spec_InvM_k (k : Nat) (hk : 7 ≤ k) (a b c d x y : Int) : spec_InverseMotion.f k a b c d x y = some (invmR a b c d x y) := by
  obtain ⟨j, rfl⟩ : ∃ j, k = j + 7 := ⟨k - 7, by omega⟩
  exact spec_InverseMotion_eq j a b c d x y
theorem impl_IsMo_k (k : Nat) (hk : 7 ≤ k) (a b c d x y : Int) : impl_IsMotion.f k a b c d x y = some (motB a b c d x y) := by
  obtain ⟨j, rfl⟩ : ∃ j, k = j + 4 := ⟨k - 4, by omega⟩
  exact impl_IsMotion_eq j a b c d x y
theorem spec_IsMo_k (k : Nat) (hk : 7 ≤ k) (a b c d x y : Int) : spec_IsMotion.f k a b c d x y = some (motB a b c d x y) := by
  obtain ⟨j, rfl⟩ : ∃ j, k = j + 7 := ⟨k - 7, by omega⟩
  exact spec_IsMotion_eq j a b c d x y
theorem cmpm_ok {a b c d x y a' b' c' d' x' y' : Int} (h : (cmpmR a b c d x y a' b' c' d' x' y').2.2.2.2.2.2 = 0) : cmpmR a b c d x y a' b' c' d' x' y' = (a * a' + b * c', a * b' + b * d', c * a' + d * c', c * b' + d * d', a * x' + b * y' + x, c * x' + d * y' + y, 0) := by
  unfold cmpmR at h ⊢
  split at h
  · split at h
    · split at h
      · rename_i h1 h2 h3
        rw [if_pos h1, if_pos h2, if_pos h3]
      · exact absurd h (by decide)
    · exact absurd h (by decide)
  · exact absurd h (by decide)
theorem appm_ok {a b c d x y u v : Int} (h : (appmR a b c d x y u v).2.2 = 0) : appmR a b c d x y u v = (a * u + b * v + x, c * u + d * v + y, 0) := by
  unfold appmR lim at h ⊢
  split at h
  · split at h
    · rename_i h1 h2
      rw [if_pos h1, if_pos h2]
    · exact absurd h (by decide)
  · exact absurd h (by decide)
theorem mot_j1 (k : Nat) (hk : 9 ≤ k) (a b c d x y a' b' c' d' x' y' : Int) : laws_FnMotions.j1 (k + 1) (cmpmR a b c d x y a' b' c' d' x' y').2.2.2.2.2.2 a b c d x y a' b' c' d' x' y' (cmpmR a b c d x y a' b' c' d' x' y').1 (cmpmR a b c d x y a' b' c' d' x' y').2.1 (cmpmR a b c d x y a' b' c' d' x' y').2.2.1 (cmpmR a b c d x y a' b' c' d' x' y').2.2.2.1 (cmpmR a b c d x y a' b' c' d' x' y').2.2.2.2.1 (cmpmR a b c d x y a' b' c' d' x' y').2.2.2.2.2.1 = some true := by
  rw [laws_FnMotions.j1]
  by_cases h : (cmpmR a b c d x y a' b' c' d' x' y').2.2.2.2.2.2 = 0
  · rw [if_pos h, cmpm_ok h]
    simp only
    rw [impl_AppM_k k (by omega)]
    simp only [Option.bind_some]
    rw [impl_AppM_k k (by omega)]
    simp only [Option.bind_some]
    rw [impl_AppM_k k (by omega)]
    simp only [Option.bind_some]
    by_cases c1 : (appmR a' b' c' d' x' y' 2 (-3)).2.2 = 0
    · rw [if_pos c1]
      by_cases c2 : (appmR a b c d x y (appmR a' b' c' d' x' y' 2 (-3)).1 (appmR a' b' c' d' x' y' 2 (-3)).2.1).2.2 = 0
      · rw [if_pos c2]
        by_cases c3 : (appmR (a * a' + b * c') (a * b' + b * d') (c * a' + d * c') (c * b' + d * d') (a * x' + b * y' + x) (c * x' + d * y' + y) 2 (-3)).2.2 = 0
        · rw [if_pos c3, appm_ok c3, appm_ok c2, appm_ok c1]
          simp only
          have e1 : a * (a' * 2 + b' * -3 + x') + b * (c' * 2 + d' * -3 + y') + x = (a * a' + b * c') * 2 + (a * b' + b * d') * -3 + (a * x' + b * y' + x) := by grind
          have e2 : c * (a' * 2 + b' * -3 + x') + d * (c' * 2 + d' * -3 + y') + y = (c * a' + d * c') * 2 + (c * b' + d * d') * -3 + (c * x' + d * y' + y) := by grind
          rw [e1, e2]
          simp
        · rw [if_neg c3]
      · rw [if_neg c2]
    · rw [if_neg c1]
  · rw [if_neg h]
theorem kind_p (a b c d : Int) (e : a * d - b * c = 1) : kindV a b c d ≠ 0 ↔ ((a = 1 ∧ b = 0 ∧ c = 0 ∧ d = 1) ∨ (a = -1 ∧ b = 0 ∧ c = 0 ∧ d = -1) ∨ a + d = -1 ∨ a + d = 0 ∨ a + d = 1) := by
  have n1 : ¬ ((1 : Int) = -1) := by decide
  unfold kindV ordV
  rw [e, if_pos rfl]
  by_cases u : a = 1 ∧ b = 0 ∧ c = 0 ∧ d = 1
  · rw [if_pos u]; exact ⟨fun _ => .inl u, fun _ => by decide⟩
  rw [if_neg u]
  by_cases v : a = -1 ∧ b = 0 ∧ c = 0 ∧ d = -1
  · rw [if_pos (.inr v)]; exact ⟨fun _ => .inr (.inl v), fun _ => by decide⟩
  rw [if_neg (fun q => q.elim (fun z => n1 z.1) v)]
  by_cases p : a + d = -1
  · rw [if_pos ⟨rfl, p⟩]; exact ⟨fun _ => .inr (.inr (.inl p)), fun _ => by decide⟩
  rw [if_neg (fun z => p z.2)]
  by_cases q : a + d = 0
  · rw [if_pos ⟨rfl, q⟩]; exact ⟨fun _ => .inr (.inr (.inr (.inl q))), fun _ => by decide⟩
  rw [if_neg (fun z => q z.2)]
  by_cases r : a + d = 1
  · rw [if_pos ⟨rfl, r⟩]; exact ⟨fun _ => .inr (.inr (.inr (.inr r))), fun _ => by decide⟩
  rw [if_neg (fun z => r z.2)]
  exact ⟨fun h => absurd rfl h, fun h => by rcases h with h | h | h | h | h <;> contradiction⟩
theorem kind_m (a b c d : Int) (e : a * d - b * c = -1) : kindV a b c d ≠ 0 ↔ a + d = 0 := by
  have n1 : ¬ ((-1 : Int) = 1) := by decide
  have nu : ¬ (a = 1 ∧ b = 0 ∧ c = 0 ∧ d = 1) := by rintro ⟨rfl, rfl, rfl, rfl⟩; exact absurd e (by decide)
  have nv : ¬ (a = -1 ∧ b = 0 ∧ c = 0 ∧ d = -1) := by rintro ⟨rfl, rfl, rfl, rfl⟩; exact absurd e (by decide)
  unfold kindV
  rw [e, if_neg n1]
  have ho : ordV a b c d = 2 ↔ a + d = 0 := by
    unfold ordV
    rw [e, if_neg nu]
    by_cases q : a + d = 0
    · rw [if_pos (.inl ⟨rfl, q⟩)]; exact ⟨fun _ => q, fun _ => rfl⟩
    · rw [if_neg (fun z => z.elim (fun y => q y.2) nv), if_neg (fun z => n1 z.1), if_neg (fun z => n1 z.1), if_neg (fun z => n1 z.1)]
      exact ⟨fun h => absurd h (by decide), fun h => absurd h q⟩
  by_cases q : a + d = 0
  · rw [if_pos (ho.mpr q)]; exact ⟨fun _ => q, fun _ => by decide⟩
  · rw [if_neg (fun z => q (ho.mp z))]; exact ⟨fun h => absurd rfl h, fun h => absurd h q⟩
theorem kind_inv {a b c d t : Int} (e : a * d - b * c = t) (ht : t = 1 ∨ t = -1) (h : kindV a b c d ≠ 0) : kindV (t * d) (-t * b) (-t * c) (t * a) ≠ 0 := by
  have hd : t * d * (t * a) - -t * b * (-t * c) = t := by rcases ht with rfl | rfl <;> grind
  rcases ht with rfl | rfl
  · rw [kind_p _ _ _ _ e] at h
    rw [kind_p _ _ _ _ hd]
    omega
  · rw [kind_m _ _ _ _ e] at h
    rw [kind_m _ _ _ _ hd]
    omega
theorem invm_back {a b c d x y : Int} (h : (invmR a b c d x y).2.2.2.2.2.2 = 0) : cmpmR a b c d x y (invmR a b c d x y).1 (invmR a b c d x y).2.1 (invmR a b c d x y).2.2.1 (invmR a b c d x y).2.2.2.1 (invmR a b c d x y).2.2.2.2.1 (invmR a b c d x y).2.2.2.2.2.1 = (1, 0, 0, 1, 0, 0, 0) := by
  unfold invmR at h ⊢
  split at h
  · rename_i hm
    split at h
    · rename_i hv
      rw [if_pos hm, if_pos hv]
      simp only
      obtain ⟨m1, m2, m3⟩ := motB_iff.mp hm
      have hs := smallB_iff.mp (matB_iff.mp m1).1
      have ht := (matB_iff.mp m1).2
      have hk := kind_inv rfl ht m2
      generalize e : a * d - b * c = t at hv ht hk ⊢
      have h2 : matB (t * d) (-t * b) (-t * c) (t * a) = true := by
        refine matB_iff.mpr ⟨smallB_iff.mpr ?_, ?_⟩
        · rcases ht with rfl | rfl <;> omega
        · rcases ht with rfl | rfl
          · left; grind
          · right; grind
      have h3 : motB (t * d) (-t * b) (-t * c) (t * a) (-(t * d * x + -t * b * y)) (-(-t * c * x + t * a * y)) = true := motB_iff.mpr ⟨h2, hk, hv⟩
      have p1 : a * (t * d) + b * (-t * c) = 1 := by rcases ht with rfl | rfl <;> grind
      have p2 : a * (-t * b) + b * (t * a) = 0 := by rcases ht with rfl | rfl <;> grind
      have p3 : c * (t * d) + d * (-t * c) = 0 := by rcases ht with rfl | rfl <;> grind
      have p4 : c * (-t * b) + d * (t * a) = 1 := by rcases ht with rfl | rfl <;> grind
      have p5 : a * -(t * d * x + -t * b * y) + b * -(-t * c * x + t * a * y) + x = 0 := by rcases ht with rfl | rfl <;> grind
      have p6 : c * -(t * d * x + -t * b * y) + d * -(-t * c * x + t * a * y) + y = 0 := by rcases ht with rfl | rfl <;> grind
      unfold cmpmR
      rw [if_pos ⟨hm, h3⟩, p1, p2, p3, p4, p5, p6, if_pos ⟨by decide, by decide⟩, if_pos (by decide)]
    · exact absurd h (by decide)
  · exact absurd h (by decide)
theorem mot_j0 (k : Nat) (hk : 9 ≤ k) (a b c d x y a' b' c' d' x' y' m n o p q r : Int) : laws_FnMotions.j0 (k + 2) (cmpmR a b c d x y a' b' c' d' x' y').2.2.2.2.2.2 (invmR m n o p q r).2.2.2.2.2.2 false a b c d x y a' b' c' d' x' y' (cmpmR a b c d x y a' b' c' d' x' y').1 (cmpmR a b c d x y a' b' c' d' x' y').2.1 (cmpmR a b c d x y a' b' c' d' x' y').2.2.1 (cmpmR a b c d x y a' b' c' d' x' y').2.2.2.1 (cmpmR a b c d x y a' b' c' d' x' y').2.2.2.2.1 (cmpmR a b c d x y a' b' c' d' x' y').2.2.2.2.2.1 m n o p q r (invmR m n o p q r).1 (invmR m n o p q r).2.1 (invmR m n o p q r).2.2.1 (invmR m n o p q r).2.2.2.1 (invmR m n o p q r).2.2.2.2.1 (invmR m n o p q r).2.2.2.2.2.1 = some true := by
  rw [laws_FnMotions.j0, if_neg (by decide)]
  by_cases h : (invmR m n o p q r).2.2.2.2.2.2 = 0
  · rw [if_pos h, impl_Cmp_k (k + 1) (by omega), invm_back h]
    simp only [Option.bind_some]
    rw [if_neg (by decide), if_pos trivial, if_neg (by decide)]
    exact mot_j1 k hk a b c d x y a' b' c' d' x' y'
  · rw [if_neg h]
    exact mot_j1 k hk a b c d x y a' b' c' d' x' y'
theorem main (l0 : List Int) (hm0 : l0.length ≤ maxLen) (y0 : l0.length * 1 ≤ 140737488351232) (w0 : ∀ x ∈ l0, (Go.Lit.int .u8 x).wf = true) : ∃ k, laws_FnMotions.f k l0 = some true := by
  have hb : ∀ x ∈ l0, 0 ≤ x ∧ x < 256 := fun x hx => u8_bd (w0 x hx)
  by_cases hl : (l0.length : Int) ≤ 4096
  · obtain ⟨a, b, c, d, x, y, a', b', c', d', x', y', e1⟩ := drawCmp_eq hl hb (1000 + 2) (by decide)
    obtain ⟨m, n, o, p, q, r, e2⟩ := drawInvM_eq hl hb (1000 + 2) (by decide)
    obtain ⟨m1, m2, m3, m4, m5, m6, v1, v2, e3⟩ := drawAppM_eq hl hb (1000 + 2) (by decide)
    have fin := mot_j0 1000 (by decide) a b c d x y a' b' c' d' x' y' m n o p q r
    refine ⟨1000 + 2, ?_⟩
    unfold laws_FnMotions.f
    rw [big_eq, e1, decide_eq_false (by omega)]
    simp only [Option.bind_some, Bool.false_eq_true, if_false]
    rw [impl_Cmp_k _ (by decide), spec_Cmp_k _ (by decide)]
    simp only [Option.bind_some]
    rw [e2]
    simp only [Option.bind_some]
    rw [impl_InvM_k _ (by decide), spec_InvM_k _ (by decide)]
    simp only [Option.bind_some]
    rw [e3]
    simp only [Option.bind_some]
    rw [impl_AppM_k _ (by decide), spec_AppM_k _ (by decide)]
    simp only [Option.bind_some]
    generalize appmR m1 m2 m3 m4 m5 m6 v1 v2 = A
    rw [impl_IsMo_k _ (by decide), spec_IsMo_k _ (by decide)]
    simp only [Option.bind_some, bne_self_eq_false, beq_self_eq_true, Bool.not_true, Bool.or_self, Bool.false_eq_true, if_false, if_true]
    exact fin
  · refine ⟨0, ?_⟩
    unfold laws_FnMotions.f
    rw [big_eq]
    simp only [Option.bind_some]
    rw [if_pos (by rw [decide_eq_true_eq]; omega)]
end Go.Proofs.Ytcjchihnopmplaa.PureFnMotions

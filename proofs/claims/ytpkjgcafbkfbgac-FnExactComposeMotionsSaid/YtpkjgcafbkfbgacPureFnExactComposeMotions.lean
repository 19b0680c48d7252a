/-
The law FnExactComposeMotions, over numbers and lists alone: the printed functions of the program and of the reference answer alike. No condition but that each number is an int64.
-/
import Derived.Test.YtpkjgcafbkfbgacF37
import GoSem.Claim
namespace Go.Proofs.Ytpkjgcafbkfbgac.PureFnExactComposeMotions
open Go.RowKit Go.Proofs.Ytpkjgcafbkfbgac.F Go.Proofs.YtpkjgcafbkfbgacW.PrintWords Go.Proofs.YtpkjgcafbkfbgacW.PrintLast Go.Proofs.YtpkjgcafbkfbgacW.PrintMore
set_option linter.unusedVariables false
set_option linter.unusedSimpArgs false
theorem sq_nn (x : Int) : 0 ≤ x * x := by
  rcases Int.le_total 0 x with h | h
  · exact Int.mul_nonneg h h
  · exact Int.mul_nonneg_of_nonpos_of_nonpos h h
theorem sq_pos {x : Int} (h : x ≠ 0) : 0 < x * x := by
  rcases Int.lt_or_gt_of_ne h with h | h
  · exact Int.mul_pos_of_neg_of_neg h h
  · exact Int.mul_pos h h
theorem unit_of {e : Int} (h : e ∣ 1) : e = 1 ∨ e = -1 := by
  have h1 := Int.natAbs_dvd_natAbs.mpr h
  have h2 : e.natAbs = 1 := Nat.dvd_one.mp h1
  omega
def vecB (x y : Int) : Bool := decide (-1000 ≤ x ∧ x ≤ 1000 ∧ -1000 ≤ y ∧ y ≤ 1000)
def smallB (a b c d : Int) : Bool := decide ((-1000 ≤ a ∧ a ≤ 1000 ∧ -1000 ≤ b ∧ b ≤ 1000) ∧ -1000 ≤ c ∧ c ≤ 1000 ∧ -1000 ≤ d ∧ d ≤ 1000)
def matB (a b c d : Int) : Bool := smallB a b c d && (a * d - b * c == 1 || a * d - b * c == -1)
theorem wrap_id {x : Int} (h1 : -9223372036854775808 ≤ x) (h2 : x < 9223372036854775808) : wrap64 x = x := by unfold wrap64; omega
theorem prod_bd {a b A B : Int} (ha : -A ≤ a) (ha' : a ≤ A) (hb : -B ≤ b) (hb' : b ≤ B) (hA : 0 ≤ A) : -(A * B) ≤ a * b ∧ a * b ≤ A * B := by
  have h1 : (a * b).natAbs ≤ A.natAbs * B.natAbs := by rw [Int.natAbs_mul]; exact Nat.mul_le_mul (by omega) (by omega)
  have h2 : (A * B).natAbs = A.natAbs * B.natAbs := Int.natAbs_mul A B
  have h3 : 0 ≤ A * B := Int.mul_nonneg hA (by omega)
  omega
theorem vecB_iff {x y : Int} : vecB x y = true ↔ (-1000 ≤ x ∧ x ≤ 1000) ∧ (-1000 ≤ y ∧ y ≤ 1000) := by unfold vecB; rw [decide_eq_true_iff]; omega
theorem smallB_iff {a b c d : Int} : smallB a b c d = true ↔ ((-1000 ≤ a ∧ a ≤ 1000) ∧ (-1000 ≤ b ∧ b ≤ 1000)) ∧ (-1000 ≤ c ∧ c ≤ 1000) ∧ (-1000 ≤ d ∧ d ≤ 1000) := by unfold smallB; rw [decide_eq_true_iff]; omega
theorem matB_iff {a b c d : Int} : matB a b c d = true ↔ smallB a b c d = true ∧ (a * d - b * c = 1 ∨ a * d - b * c = -1) := by unfold matB; simp
theorem det_wrap {a b c d : Int} (h : smallB a b c d = true) : wrap64 (wrap64 (a * d) - wrap64 (b * c)) = a * d - b * c ∧ (-2000000 ≤ a * d - b * c ∧ a * d - b * c ≤ 2000000) := by
  rw [smallB_iff] at h
  have h1 := prod_bd (A := 1000) (B := 1000) h.1.1.1 h.1.1.2 h.2.2.1 h.2.2.2 (by omega)
  have h2 := prod_bd (A := 1000) (B := 1000) h.1.2.1 h.1.2.2 h.2.1.1 h.2.1.2 (by omega)
  rw [wrap_id (x := a * d) (by omega) (by omega), wrap_id (x := b * c) (by omega) (by omega), wrap_id (by omega) (by omega)]
  omega
/-- a x + b y for small numbers. -/
theorem lin_wrap {a b x y : Int} (A : Int) (ha : -A ≤ a ∧ a ≤ A) (hb : -A ≤ b ∧ b ≤ A) (hx : -A ≤ x ∧ x ≤ A) (hy : -A ≤ y ∧ y ≤ A) (hA : 0 ≤ A) (hA2 : A ≤ 1000000000) :
    wrap64 (wrap64 (a * x) + wrap64 (b * y)) = a * x + b * y ∧ (-(2 * (A * A)) ≤ a * x + b * y ∧ a * x + b * y ≤ 2 * (A * A)) := by
  have h1 := prod_bd ha.1 ha.2 hx.1 hx.2 hA
  have h2 := prod_bd hb.1 hb.2 hy.1 hy.2 hA
  have h3 : A * A ≤ 1000000000 * 1000000000 := Int.mul_le_mul hA2 hA2 hA (by omega)
  rw [wrap_id (x := a * x) (by omega) (by omega), wrap_id (x := b * y) (by omega) (by omega), wrap_id (by omega) (by omega)]
  omega
def mul1 (a b c d a' b' c' d' : Int) : Int × Int × Int × Int := (a * a' + b * c', a * b' + b * d', c * a' + d * c', c * b' + d * d')
def ordV (a b c d : Int) : Int := if a = 1 ∧ b = 0 ∧ c = 0 ∧ d = 1 then 1 else if (a * d - b * c = -1 ∧ a + d = 0) ∨ (a = -1 ∧ b = 0 ∧ c = 0 ∧ d = -1) then 2
  else if a * d - b * c = 1 ∧ a + d = -1 then 3 else if a * d - b * c = 1 ∧ a + d = 0 then 4 else if a * d - b * c = 1 ∧ a + d = 1 then 6 else 0
def kindV (a b c d : Int) : Int := if a * d - b * c = 1 then ordV a b c d else if ordV a b c d = 2 then -2 else 0
theorem ordV_nonneg (a b c d : Int) : 0 ≤ ordV a b c d := by
  unfold ordV
  repeat' split
  all_goals omega
/-- One factor more, by the characteristic polynomial: the product of m and x m + y. -/
theorem ch1 (a b c d x y : Int) : mul1 a b c d (x * a + y) (x * b) (x * c) (x * d + y) =
    (((a + d) * x + y) * a + -((a * d - b * c) * x), ((a + d) * x + y) * b, ((a + d) * x + y) * c, ((a + d) * x + y) * d + -((a * d - b * c) * x)) := by
  unfold mul1; simp only [Prod.mk.injEq]; refine ⟨?_, ?_, ?_, ?_⟩ <;> grind
def motB (a b c d x y : Int) : Bool := matB a b c d && (kindV a b c d != 0) && vecB x y
theorem motB_iff {a b c d x y : Int} : motB a b c d x y = true ↔ matB a b c d = true ∧ kindV a b c d ≠ 0 ∧ vecB x y = true := by unfold motB; simp [and_assoc]
def cmp1 (a b c d x y a' b' c' d' x' y' : Int) : Int × Int × Int × Int × Int × Int := (a * a' + b * c', a * b' + b * d', c * a' + d * c', c * b' + d * d', a * x' + b * y' + x, c * x' + d * y' + y)
def cmpmR (a b c d x y a' b' c' d' x' y' : Int) : Int × Int × Int × Int × Int × Int × Int :=
  if motB a b c d x y = true ∧ motB a' b' c' d' x' y' = true then
    (if smallB (a * a' + b * c') (a * b' + b * d') (c * a' + d * c') (c * b' + d * d') = true ∧ vecB (a * x' + b * y' + x) (c * x' + d * y' + y) = true then
      (if kindV (a * a' + b * c') (a * b' + b * d') (c * a' + d * c') (c * b' + d * d') ≠ 0 then (a * a' + b * c', a * b' + b * d', c * a' + d * c', c * b' + d * d', a * x' + b * y' + x, c * x' + d * y' + y, 0) else (0, 0, 0, 0, 0, 0, 5))
    else (0, 0, 0, 0, 0, 0, 3)) else (0, 0, 0, 0, 0, 0, 1)
/-- A valid matrix keeps numbers within 2,000,000. -/
theorem lin_bd {a b x y : Int} (ha : -1000 ≤ a ∧ a ≤ 1000) (hb : -1000 ≤ b ∧ b ≤ 1000) (hx : -1000 ≤ x ∧ x ≤ 1000) (hy : -1000 ≤ y ∧ y ≤ 1000) : -2000000 ≤ a * x + b * y ∧ a * x + b * y ≤ 2000000 := by
  have h1 := prod_bd ha.1 ha.2 hx.1 hx.2 (by omega)
  have h2 := prod_bd hb.1 hb.2 hy.1 hy.2 (by omega)
  omega
theorem det_mul {a b c d a' b' c' d' : Int} : (a * a' + b * c') * (c * b' + d * d') - (a * b' + b * d') * (c * a' + d * c') = (a * d - b * c) * (a' * d' - b' * c') := by grind
theorem matB_mul {a b c d a' b' c' d' : Int} (h : matB a b c d = true) (h' : matB a' b' c' d' = true) (hs : smallB (a * a' + b * c') (a * b' + b * d') (c * a' + d * c') (c * b' + d * d') = true) :
    matB (a * a' + b * c') (a * b' + b * d') (c * a' + d * c') (c * b' + d * d') = true := by
  rw [matB_iff]
  refine ⟨hs, ?_⟩
  rw [det_mul]
  rcases (matB_iff.mp h).2 with e | e <;> rcases (matB_iff.mp h').2 with e' | e' <;> rw [e, e'] <;> omega
theorem spec_l01In_eq (a b c : Int) : spec_l01In.f a b c = some (decide (b ≤ a ∧ a ≤ c)) := by
  unfold spec_l01In.f; split <;> simp <;> omega
theorem impl_within_eq (a b c : Int) : impl_within.f a b c = some (decide (b ≤ a ∧ a ≤ c)) := by
  unfold impl_within.f; split <;> simp <;> omega
theorem spec_IsVec_eq (x y : Int) : spec_IsVec.f x y = some (vecB x y) := by
  unfold spec_IsVec.f vecB; simp only [spec_l01In_eq, Option.bind_some]; split <;> simp_all <;> omega
theorem impl_isCoordinate_eq (a : Int) : impl_isCoordinate.f a = some (decide (-1000 ≤ a ∧ a ≤ 1000)) := by
  unfold impl_isCoordinate.f; simp only [impl_within_eq, Option.bind_some]
theorem impl_IsVec_eq (x y : Int) : impl_IsVec.f x y = some (vecB x y) := by
  unfold impl_IsVec.f vecB; simp only [impl_isCoordinate_eq, Option.bind_some]; split <;> simp_all <;> omega
theorem spec_l02Small_eq (a b c d : Int) : spec_l02Small.f a b c d = some (smallB a b c d) := by
  unfold spec_l02Small.f smallB; simp only [spec_IsVec_eq, Option.bind_some, vecB]; split <;> simp_all <;> omega
theorem impl_Mat_isSmall_eq (a b c d : Int) : impl_Mat_isSmall.f a b c d = some (smallB a b c d) := by
  unfold impl_Mat_isSmall.f smallB; simp only [impl_isCoordinate_eq, Option.bind_some, decide_eq_true_eq]
  by_cases h1 : -1000 ≤ a ∧ a ≤ 1000
  · rw [if_pos h1]
    by_cases h2 : -1000 ≤ b ∧ b ≤ 1000
    · rw [if_pos h2]
      by_cases h3 : -1000 ≤ c ∧ c ≤ 1000
      · rw [if_pos h3]
        by_cases h4 : -1000 ≤ d ∧ d ≤ 1000
        · rw [decide_eq_true h4, decide_eq_true (by omega)]
        · rw [decide_eq_false h4, decide_eq_false (by omega)]
      · rw [if_neg h3, decide_eq_false (by omega)]
    · rw [if_neg h2, decide_eq_false (by omega)]
  · rw [if_neg h1, decide_eq_false (by omega)]
theorem spec_IsMat_eq (a b c d : Int) : spec_IsMat.f a b c d = some (matB a b c d) := by
  unfold spec_IsMat.f matB spec_l02Det.f
  simp only [spec_l02Small_eq, Option.bind_some]
  cases h : smallB a b c d with
  | false => simp
  | true => rw [(det_wrap h).1]; simp; split <;> simp_all
theorem impl_IsMat_eq (a b c d : Int) : impl_IsMat.f a b c d = some (matB a b c d) := by
  unfold impl_IsMat.f matB impl_Mat_det.f
  simp only [impl_Mat_isSmall_eq, Option.bind_some]
  cases h : smallB a b c d with
  | false => simp
  | true => rw [(det_wrap h).1]; simp; split <;> simp_all
theorem spec_l02Multiply_eq {a b c d a' b' c' d' : Int} (h : smallB a b c d = true) (h' : smallB a' b' c' d' = true) : spec_l02Multiply.f a b c d a' b' c' d' = some (mul1 a b c d a' b' c' d') := by
  rw [smallB_iff] at h h'
  unfold spec_l02Multiply.f mul1
  rw [(lin_wrap 1000 (by omega) (by omega) (by omega) (by omega) (by omega) (by omega)).1, (lin_wrap 1000 (by omega) (by omega) (by omega) (by omega) (by omega) (by omega)).1,
    (lin_wrap 1000 (by omega) (by omega) (by omega) (by omega) (by omega) (by omega)).1, (lin_wrap 1000 (by omega) (by omega) (by omega) (by omega) (by omega) (by omega)).1]
theorem impl_Mat_times_eq {a b c d a' b' c' d' : Int} (h : smallB a b c d = true) (h' : smallB a' b' c' d' = true) : impl_Mat_times.f a b c d a' b' c' d' = some (mul1 a b c d a' b' c' d') := by
  rw [smallB_iff] at h h'
  unfold impl_Mat_times.f mul1
  rw [(lin_wrap 1000 (by omega) (by omega) (by omega) (by omega) (by omega) (by omega)).1, (lin_wrap 1000 (by omega) (by omega) (by omega) (by omega) (by omega) (by omega)).1,
    (lin_wrap 1000 (by omega) (by omega) (by omega) (by omega) (by omega) (by omega)).1, (lin_wrap 1000 (by omega) (by omega) (by omega) (by omega) (by omega) (by omega)).1]
theorem spec_l02Apply_eq (A : Int) {a b c d x y : Int} (hA : 0 ≤ A) (hA2 : A ≤ 1000000000) (ha : -A ≤ a ∧ a ≤ A) (hb : -A ≤ b ∧ b ≤ A) (hc : -A ≤ c ∧ c ≤ A) (hd : -A ≤ d ∧ d ≤ A) (hx : -A ≤ x ∧ x ≤ A) (hy : -A ≤ y ∧ y ≤ A) :
    spec_l02Apply.f a b c d x y = some (a * x + b * y, c * x + d * y) := by
  unfold spec_l02Apply.f; rw [(lin_wrap A ha hb hx hy hA hA2).1, (lin_wrap A hc hd hx hy hA hA2).1]
theorem impl_Mat_apply_eq (A : Int) {a b c d x y : Int} (hA : 0 ≤ A) (hA2 : A ≤ 1000000000) (ha : -A ≤ a ∧ a ≤ A) (hb : -A ≤ b ∧ b ≤ A) (hc : -A ≤ c ∧ c ≤ A) (hd : -A ≤ d ∧ d ≤ A) (hx : -A ≤ x ∧ x ≤ A) (hy : -A ≤ y ∧ y ≤ A) :
    impl_Mat_apply.f a b c d x y = some (a * x + b * y, c * x + d * y) := by
  unfold impl_Mat_apply.f; rw [(lin_wrap A ha hb hx hy hA hA2).1, (lin_wrap A hc hd hx hy hA hA2).1]
theorem impl_Mat_order_eq (k : Nat) (a b c d : Int) (h : matB a b c d = true) : impl_Mat_order.f (k + 4) a b c d = some (ordV a b c d) := by
  obtain ⟨h1, h2⟩ := matB_iff.mp h
  unfold impl_Mat_order.f impl_unit.f impl_Mat_det.f ordV
  simp only [impl_Mat_order.j0, impl_Mat_order.j1, impl_Mat_order.j2, impl_Mat_order.j3, impl_Mat_det.f, Option.bind_some, (det_wrap h1).1]
  rw [smallB_iff] at h1
  rw [wrap_id (x := a + d) (by omega) (by omega)]
  generalize a * d - b * c = D at *
  simp only [Bool.and_eq_true, beq_iff_eq]
  by_cases e1 : a = 1 ∧ b = 0 ∧ c = 0 ∧ d = 1
  · rw [if_pos e1, if_pos e1]
  · rw [if_neg e1, if_neg e1]
    by_cases e2 : a = -1 ∧ b = 0 ∧ c = 0 ∧ d = -1
    · obtain ⟨rfl, rfl, rfl, rfl⟩ := e2; simp
    · rcases h2 with rfl | rfl
      · by_cases t1 : a + d = -1
        · simp [t1, e2]
        · by_cases t2 : a + d = 0
          · simp [t1, t2, e2]
          · by_cases t3 : a + d = 1 <;> simp [t1, t2, t3, e2]
      · by_cases t1 : a + d = 0 <;> simp [t1, e2]
theorem order_step {a b c d : Int} (k : Nat) (n n' : Int) (x y x' y' : Int) (h : matB a b c d = true) (hs : smallB (x * a + y) (x * b) (x * c) (x * d + y) = true) (hn : 1 ≤ n ∧ n ≤ 6 ∧ n' = n + 1)
    (ex : x' = (a + d) * x + y) (ey : y' = -((a * d - b * c) * x)) :
    spec_l02Order.l0 (k + 1) n a b c d (x * a + y) (x * b) (x * c) (x * d + y) = if smallB (x' * a + y') (x' * b) (x' * c) (x' * d + y') = true then
      (if x' * a + y' = 1 ∧ x' * b = 0 ∧ x' * c = 0 ∧ x' * d + y' = 1 then some n else spec_l02Order.l0 k n' a b c d (x' * a + y') (x' * b) (x' * c) (x' * d + y')) else some 0 := by
  rw [spec_l02Order.l0, if_pos hn.2.1, spec_l02Multiply_eq (matB_iff.mp h).1 hs, ch1, ← ex, ← ey, wrap_id (x := n + 1) (by omega) (by omega), ← hn.2.2]
  simp only [Option.bind_some, spec_l02Small_eq, spec_l02Unit.f, Bool.and_eq_true, beq_iff_eq]
theorem no_unit {a b c d x y : Int} (hd : a * d - b * c = 1 ∨ a * d - b * c = -1) (hx : x ≠ 0) (h1 : ¬ (a = 1 ∧ b = 0 ∧ c = 0 ∧ d = 1)) (h2 : ¬ (a = -1 ∧ b = 0 ∧ c = 0 ∧ d = -1)) : ¬ (x * a + y = 1 ∧ x * b = 0 ∧ x * c = 0 ∧ x * d + y = 1) := by
  rintro ⟨e1, e2, e3, e4⟩
  have hb : b = 0 := by rcases Int.mul_eq_zero.mp e2 with h | h; exact absurd h hx; exact h
  have hc : c = 0 := by rcases Int.mul_eq_zero.mp e3 with h | h; exact absurd h hx; exact h
  have had : a = d := Int.eq_of_mul_eq_mul_left hx (by omega)
  subst hb hc had
  simp only [Int.zero_mul, Int.sub_zero] at hd
  have hsq := sq_nn a
  have h3 : a * a = 1 := by omega
  have h4 : a ∣ 1 := ⟨a, h3.symm⟩
  rcases unit_of h4 with h | h
  · exact h1 ⟨h, rfl, rfl, h⟩
  · exact h2 ⟨h, rfl, rfl, h⟩
theorem pw4 (t D : Int) : t * (t * t - 2 * D) = t * (t * t - D) + -(D * t) := by grind
theorem pw5 (t D : Int) (h : D * D = 1) : t * t * (t * t) - 3 * D * (t * t) + 1 = t * (t * (t * t - 2 * D)) + -(D * (t * t - D)) := by grind
theorem pw6 (t D : Int) (h : D * D = 1) : t * ((t * t - D) * (t * t - 3 * D)) = t * (t * t * (t * t) - 3 * D * (t * t) + 1) + -(D * (t * (t * t - 2 * D))) := by grind
theorem order_none {a b c d : Int} (h : matB a b c d = true) (e1 : ¬ (a = 1 ∧ b = 0 ∧ c = 0 ∧ d = 1)) (z1 : ¬ (a = -1 ∧ b = 0 ∧ c = 0 ∧ d = -1)) (k : Nat) (n n' x y x' y' : Int) (hn : 1 ≤ n ∧ n ≤ 6 ∧ n' = n + 1)
    (hsm : smallB (x * a + y) (x * b) (x * c) (x * d + y) = true) (ex : x' = (a + d) * x + y) (ey : y' = -((a * d - b * c) * x)) (hx' : x' ≠ 0)
    (hnext : smallB (x' * a + y') (x' * b) (x' * c) (x' * d + y') = true → spec_l02Order.l0 k n' a b c d (x' * a + y') (x' * b) (x' * c) (x' * d + y') = some 0) :
    spec_l02Order.l0 (k + 1) n a b c d (x * a + y) (x * b) (x * c) (x * d + y) = some 0 := by
  rw [order_step k n n' x y x' y' h hsm hn ex ey]
  split
  · rename_i hsm'
    rw [if_neg (no_unit (matB_iff.mp h).2 hx' e1 z1)]; exact hnext hsm'
  · rfl
theorem order_inf {a b c d : Int} (k : Nat) (h : matB a b c d = true) (e1 : ¬ (a = 1 ∧ b = 0 ∧ c = 0 ∧ d = 1)) (z1 : ¬ (a = -1 ∧ b = 0 ∧ c = 0 ∧ d = -1)) (b1 : smallB (1 * a + 0) (1 * b) (1 * c) (1 * d + 0) = true) (t D : Int) (ht : t = a + d) (hD : D = a * d - b * c)
    (n2 : t ≠ 0) (n3 : t * t - D ≠ 0) (n4 : t * t - 2 * D ≠ 0) (n5 : t * t * (t * t) - 3 * D * (t * t) + 1 ≠ 0) (n6 : t * t - 3 * D ≠ 0) (hDD : D * D = 1) :
    spec_l02Order.l0 (k + 6) 2 a b c d (1 * a + 0) (1 * b) (1 * c) (1 * d + 0) = some 0 := by
  have go := @order_none a b c d h e1 z1
  rw [← ht, ← hD] at go
  refine go (k + 5) 2 3 1 0 t (-D) ⟨by decide, by decide, by decide⟩ b1 (by simp) (by simp) n2 fun b2 => ?_
  refine go (k + 4) 3 4 t (-D) (t * t - D) (-(D * t)) ⟨by decide, by decide, by decide⟩ b2 Int.sub_eq_add_neg rfl n3 fun b3 => ?_
  refine go (k + 3) 4 5 (t * t - D) (-(D * t)) (t * (t * t - 2 * D)) (-(D * (t * t - D))) ⟨by decide, by decide, by decide⟩ b3 (pw4 t D) rfl (Int.mul_ne_zero n2 n4) fun b4 => ?_
  refine go (k + 2) 5 6 (t * (t * t - 2 * D)) (-(D * (t * t - D))) (t * t * (t * t) - 3 * D * (t * t) + 1) (-(D * (t * (t * t - 2 * D)))) ⟨by decide, by decide, by decide⟩ b4 (pw5 t D hDD) rfl n5 fun b5 => ?_
  refine go (k + 1) 6 7 (t * t * (t * t) - 3 * D * (t * t) + 1) (-(D * (t * (t * t - 2 * D)))) (t * ((t * t - D) * (t * t - 3 * D))) (-(D * (t * t * (t * t) - 3 * D * (t * t) + 1))) ⟨by decide, by decide, by decide⟩ b5 (pw6 t D hDD) rfl (Int.mul_ne_zero n2 (Int.mul_ne_zero n3 n6)) fun b6 => ?_
  rw [spec_l02Order.l0, if_neg (by decide)]
theorem spec_l02Order_eq (k : Nat) (a b c d : Int) (h : matB a b c d = true) : spec_l02Order.f (k + 7) a b c d = some (ordV a b c d) := by
  obtain ⟨hs, hd⟩ := matB_iff.mp h
  have hb := smallB_iff.mp hs
  unfold spec_l02Order.f spec_l02Unit.f
  simp only [Option.bind_some]
  have s0 : spec_l02Order.l0 (k + 7) 1 a b c d 1 0 0 1 = spec_l02Order.l0 (k + 6 + 1) 1 a b c d (0 * a + 1) (0 * b) (0 * c) (0 * d + 1) := by simp
  have b0 : smallB (0 * a + 1) (0 * b) (0 * c) (0 * d + 1) = true := by rw [smallB_iff]; omega
  rw [s0, order_step (k + 6) 1 2 0 1 1 0 h b0 (by omega) (by omega) (by omega)]
  rw [if_pos (by rw [smallB_iff]; omega)]
  unfold ordV
  by_cases e1 : a = 1 ∧ b = 0 ∧ c = 0 ∧ d = 1
  · rw [if_pos (by omega), if_pos e1]
  · rw [if_neg (by omega), if_neg e1]
    have b1 : smallB (1 * a + 0) (1 * b) (1 * c) (1 * d + 0) = true := by rw [smallB_iff]; omega
    by_cases e2 : (a * d - b * c = -1 ∧ a + d = 0) ∨ (a = -1 ∧ b = 0 ∧ c = 0 ∧ d = -1)
    · rw [if_pos e2]
      rcases e2 with ⟨e2, t⟩ | e2
      · rw [order_step (k + 5) 2 3 1 0 0 1 h b1 (by omega) (by omega) (by omega), if_pos (by rw [smallB_iff]; omega), if_pos (by omega)]
      · have e3 : a * d - b * c = 1 := by obtain ⟨rfl, rfl, rfl, rfl⟩ := e2; rfl
        rw [order_step (k + 5) 2 3 1 0 (-2) (-1) h b1 (by omega) (by omega) (by omega), if_pos (by rw [smallB_iff]; omega), if_pos (by omega)]
    · rw [if_neg e2]
      by_cases e3 : a * d - b * c = 1 ∧ a + d = -1
      · rw [if_pos e3, order_step (k + 5) 2 3 1 0 (-1) (-1) h b1 (by omega) (by omega) (by omega)]
        have b2 : smallB (-1 * a + -1) (-1 * b) (-1 * c) (-1 * d + -1) = true := by rw [smallB_iff]; omega
        rw [if_pos b2, if_neg (by omega), order_step (k + 4) 3 4 (-1) (-1) 0 1 h b2 (by omega) (by omega) (by omega), if_pos (by rw [smallB_iff]; omega), if_pos (by omega)]
      · rw [if_neg e3]
        by_cases e4 : a * d - b * c = 1 ∧ a + d = 0
        · rw [if_pos e4, order_step (k + 5) 2 3 1 0 0 (-1) h b1 (by omega) (by omega) (by omega)]
          have b2 : smallB (0 * a + -1) (0 * b) (0 * c) (0 * d + -1) = true := by rw [smallB_iff]; omega
          rw [if_pos b2, if_neg (by omega), order_step (k + 4) 3 4 0 (-1) (-1) 0 h b2 (by omega) (by omega) (by omega)]
          have b3 : smallB (-1 * a + 0) (-1 * b) (-1 * c) (-1 * d + 0) = true := by rw [smallB_iff]; omega
          rw [if_pos b3, if_neg (by omega), order_step (k + 3) 4 5 (-1) 0 0 1 h b3 (by omega) (by omega) (by omega), if_pos (by rw [smallB_iff]; omega), if_pos (by omega)]
        · rw [if_neg e4]
          by_cases e5 : a * d - b * c = 1 ∧ a + d = 1
          · rw [if_pos e5, order_step (k + 5) 2 3 1 0 1 (-1) h b1 (by omega) (by omega) (by omega)]
            have b2 : smallB (1 * a + -1) (1 * b) (1 * c) (1 * d + -1) = true := by rw [smallB_iff]; omega
            rw [if_pos b2, if_neg (by omega), order_step (k + 4) 3 4 1 (-1) 0 (-1) h b2 (by omega) (by omega) (by omega)]
            have b3 : smallB (0 * a + -1) (0 * b) (0 * c) (0 * d + -1) = true := by rw [smallB_iff]; omega
            rw [if_pos b3, if_neg (by omega), order_step (k + 3) 4 5 0 (-1) (-1) 0 h b3 (by omega) (by omega) (by omega)]
            have b4 : smallB (-1 * a + 0) (-1 * b) (-1 * c) (-1 * d + 0) = true := by rw [smallB_iff]; omega
            rw [if_pos b4, if_neg (by omega), order_step (k + 2) 5 6 (-1) 0 (-1) 1 h b4 (by omega) (by omega) (by omega)]
            have b5 : smallB (-1 * a + 1) (-1 * b) (-1 * c) (-1 * d + 1) = true := by rw [smallB_iff]; omega
            rw [if_pos b5, if_neg (by omega), order_step (k + 1) 6 7 (-1) 1 0 1 h b5 (by omega) (by omega) (by omega), if_pos (by rw [smallB_iff]; omega), if_pos (by omega)]
          · rw [if_neg e5]
            have z1 : ¬ (a = -1 ∧ b = 0 ∧ c = 0 ∧ d = -1) := fun x => e2 (Or.inr x)
            -- every factor is not 0
            have hx : ∀ t D : Int, t = a + d → D = a * d - b * c → t ≠ 0 ∧ t * t - D ≠ 0 ∧ t * t - 2 * D ≠ 0 ∧ t * t * (t * t) - 3 * D * (t * t) + 1 ≠ 0 ∧ t * t - 3 * D ≠ 0 := by
              intro t D ht hD
              have t2 : t ≠ 0 := by
                intro h0
                rcases hd with hd | hd
                · exact e4 ⟨hd, by omega⟩
                · exact e2 (Or.inl ⟨hd, by omega⟩)
              have hsq := sq_pos t2
              rcases hd with hd | hd
              · have ht4 : 4 ≤ t * t := by
                  have h5 : t ≠ 1 := fun x => e5 ⟨hd, by omega⟩
                  have h6 : t ≠ -1 := fun x => e3 ⟨hd, by omega⟩
                  rcases Int.lt_or_le t 2 with h | h
                  · have := Int.mul_le_mul (show 2 ≤ -t by omega) (show 2 ≤ -t by omega) (by omega) (by omega)
                    rw [Int.neg_mul_neg] at this; omega
                  · have := Int.mul_le_mul h h (by omega) (by omega); omega
                have D1 : D = 1 := by omega
                subst D1
                generalize t * t = T at *
                have : T * T - 3 * T = T * (T - 3) := by grind
                have h7 : 0 < T * (T - 3) := Int.mul_pos (by omega) (by omega)
                refine ⟨t2, by omega, by omega, by omega, ?_⟩
                omega
              · have D1 : D = -1 := by omega
                subst D1
                generalize t * t = T at *
                have h7 : 0 < T * T := Int.mul_pos hsq hsq
                refine ⟨t2, by omega, by omega, by omega, by omega⟩
            obtain ⟨n2, n3, n4, n5, n6⟩ := hx (a + d) (a * d - b * c) rfl rfl
            have hDD : (a * d - b * c) * (a * d - b * c) = 1 := by rcases hd with e | e <;> rw [e] <;> rfl
            exact order_inf k h e1 z1 b1 _ _ rfl rfl n2 n3 n4 n5 n6 hDD
theorem spec_l02Kind_eq (k : Nat) (a b c d : Int) (h : matB a b c d = true) : spec_l02Kind.f (k + 7) a b c d = some (kindV a b c d) := by
  unfold spec_l02Kind.f kindV spec_l02Det.f
  simp only [spec_l02Order_eq k a b c d h, Option.bind_some, (det_wrap (matB_iff.mp h).1).1]
  split
  · rfl
  · split <;> rfl
theorem impl_Mat_isReflection_eq (k : Nat) (a b c d : Int) (h : matB a b c d = true) : impl_Mat_isReflection.f (k + 4) a b c d = some (decide (kindV a b c d = -2)) := by
  have ho := ordV_nonneg a b c d
  unfold impl_Mat_isReflection.f kindV impl_Mat_det.f
  simp only [impl_Mat_order_eq k a b c d h, Option.bind_some, (det_wrap (matB_iff.mp h).1).1]
  rcases (matB_iff.mp h).2 with e | e <;> rw [e]
  · simp; omega
  · simp; by_cases h2 : ordV a b c d = 2 <;> simp [h2]
theorem impl_Mat_isRotation_eq (k : Nat) (a b c d : Int) (h : matB a b c d = true) : impl_Mat_isRotation.f (k + 4) a b c d = some (decide (0 < kindV a b c d)) := by
  have ho := ordV_nonneg a b c d
  unfold impl_Mat_isRotation.f kindV impl_Mat_det.f
  simp only [impl_Mat_order_eq k a b c d h, Option.bind_some, (det_wrap (matB_iff.mp h).1).1]
  rcases (matB_iff.mp h).2 with e | e <;> rw [e]
  · simp
  · simp; split <;> omega
theorem kindV_cases (a b c d : Int) : 0 ≤ kindV a b c d ∨ kindV a b c d = -2 := by
  have ho := ordV_nonneg a b c d
  unfold kindV
  split
  · omega
  · split <;> omega
theorem impl_Mat_isTurn_eq (k : Nat) (a b c d : Int) (h : matB a b c d = true) : impl_Mat_isTurn.f (k + 4) a b c d = some (kindV a b c d != 0) := by
  have ho := kindV_cases a b c d
  unfold impl_Mat_isTurn.f
  rw [impl_Mat_isReflection_eq k a b c d h, impl_Mat_isRotation_eq k a b c d h]
  simp only [Option.bind_some, decide_eq_true_eq]
  by_cases h1 : 0 < kindV a b c d
  · rw [if_pos h1]; congr 1; symm; rw [bne_iff_ne]; omega
  · rw [if_neg h1]; congr 1
    by_cases h2 : kindV a b c d = -2
    · rw [h2]; rfl
    · have h3 : kindV a b c d = 0 := by omega
      rw [h3]; rfl
theorem spec_IsMotion_eq (k : Nat) (a b c d x y : Int) : spec_IsMotion.f (k + 7) a b c d x y = some (motB a b c d x y) := by
  unfold spec_IsMotion.f motB; simp only [spec_IsMat_eq, spec_IsVec_eq, Option.bind_some]
  cases h : matB a b c d with
  | false => simp
  | true =>
    rw [spec_l02Kind_eq k a b c d h]
    simp only [if_true, Option.bind_some]
    by_cases h0 : kindV a b c d = 0 <;> simp [h0]
theorem impl_IsMotion_eq (k : Nat) (a b c d x y : Int) : impl_IsMotion.f (k + 4) a b c d x y = some (motB a b c d x y) := by
  unfold impl_IsMotion.f motB; simp only [impl_IsMat_eq, impl_IsVec_eq, Option.bind_some]
  cases h : matB a b c d with
  | false => simp
  | true =>
    rw [impl_Mat_isTurn_eq k a b c d h]
    simp only [if_true, Option.bind_some]
    by_cases h0 : kindV a b c d = 0 <;> simp [h0]
theorem spec_l01Add_eq {ux uy vx vy : Int} (h1 : -1000000000000000000 ≤ ux + vx ∧ ux + vx ≤ 1000000000000000000) (h2 : -1000000000000000000 ≤ uy + vy ∧ uy + vy ≤ 1000000000000000000) : spec_l01Add.f ux uy vx vy = some (ux + vx, uy + vy) := by
  unfold spec_l01Add.f; rw [wrap_id (by omega) (by omega), wrap_id (by omega) (by omega)]
theorem impl_Vec_add_eq {ux uy vx vy : Int} (h1 : -1000000000000000000 ≤ ux + vx ∧ ux + vx ≤ 1000000000000000000) (h2 : -1000000000000000000 ≤ uy + vy ∧ uy + vy ≤ 1000000000000000000) : impl_Vec_add.f ux uy vx vy = some (ux + vx, uy + vy) := by
  unfold impl_Vec_add.f; rw [wrap_id (by omega) (by omega), wrap_id (by omega) (by omega)]
theorem impl_Motion_times_eq {a b c d x y a' b' c' d' x' y' : Int} (hs : smallB a b c d = true) (h1 : vecB x y = true) (hs' : smallB a' b' c' d' = true) (h1' : vecB x' y' = true) :
    impl_Motion_times.f a b c d x y a' b' c' d' x' y' = some (cmp1 a b c d x y a' b' c' d' x' y') := by
  unfold impl_Motion_times.f cmp1
  rw [impl_Mat_times_eq hs hs']
  rw [smallB_iff] at hs; rw [vecB_iff] at h1 h1'
  have l1 := lin_bd hs.1.1 hs.1.2 h1'.1 h1'.2
  have l2 := lin_bd hs.2.1 hs.2.2 h1'.1 h1'.2
  rw [impl_Mat_apply_eq 1000 (by omega) (by omega) hs.1.1 hs.1.2 hs.2.1 hs.2.2 h1'.1 h1'.2]
  simp only [Option.bind_some]
  rw [impl_Vec_add_eq (by omega) (by omega)]; rfl
theorem spec_l05Compose_eq {a b c d x y a' b' c' d' x' y' : Int} (hs : smallB a b c d = true) (h1 : vecB x y = true) (hs' : smallB a' b' c' d' = true) (h1' : vecB x' y' = true) :
    spec_l05Compose.f a b c d x y a' b' c' d' x' y' = some (cmp1 a b c d x y a' b' c' d' x' y') := by
  unfold spec_l05Compose.f cmp1
  rw [spec_l02Multiply_eq hs hs']
  rw [smallB_iff] at hs; rw [vecB_iff] at h1 h1'
  have l1 := lin_bd hs.1.1 hs.1.2 h1'.1 h1'.2
  have l2 := lin_bd hs.2.1 hs.2.2 h1'.1 h1'.2
  rw [spec_l02Apply_eq 1000 (by omega) (by omega) hs.1.1 hs.1.2 hs.2.1 hs.2.2 h1'.1 h1'.2]
  simp only [Option.bind_some]
  rw [spec_l01Add_eq (by omega) (by omega)]; rfl
theorem spec_ComposeMotions_eq (k : Nat) (a b c d x y a' b' c' d' x' y' : Int) : spec_ComposeMotions.f (k + 9) a b c d x y a' b' c' d' x' y' = some (cmpmR a b c d x y a' b' c' d' x' y') := by
  unfold spec_ComposeMotions.f cmpmR
  simp only [spec_IsMotion_eq (k + 2), Option.bind_some, spec_ComposeMotions.j0, spec_ComposeMotions.j1]
  cases h : motB a b c d x y with
  | false => simp
  | true =>
    cases h' : motB a' b' c' d' x' y' with
    | false => simp
    | true =>
      obtain ⟨m1, m2, m3⟩ := motB_iff.mp h
      obtain ⟨m1', m2', m3'⟩ := motB_iff.mp h'
      rw [spec_l05Compose_eq (matB_iff.mp m1).1 m3 (matB_iff.mp m1').1 m3']
      simp only [if_true, Bool.not_true, Bool.false_eq_true, if_false, Option.bind_some, spec_IsVec_eq, spec_l02Small_eq, and_self, cmp1, spec_IsMotion_eq k]
      have hm := matB_mul m1 m1'
      generalize a * a' + b * c' = A at *
      generalize a * b' + b * d' = B at *
      generalize c * a' + d * c' = C at *
      generalize c * b' + d * d' = D at *
      generalize a * x' + b * y' + x = X at *
      generalize c * x' + d * y' + y = Y at *
      cases hv : vecB X Y with
      | false => simp
      | true =>
        cases hsm : smallB A B C D with
        | false => simp
        | true =>
          simp only [if_true, Bool.not_true, Bool.false_eq_true, if_false, and_self, motB, hm hsm, hv, Bool.true_and, Bool.and_true, bne_iff_ne]
          split <;> rfl
theorem impl_ComposeMotions_eq (k : Nat) (a b c d x y a' b' c' d' x' y' : Int) : impl_ComposeMotions.f (k + 9) a b c d x y a' b' c' d' x' y' = some (cmpmR a b c d x y a' b' c' d' x' y') := by
  unfold impl_ComposeMotions.f cmpmR
  simp only [impl_IsMotion_eq (k + 5), Option.bind_some, impl_ComposeMotions.j0, impl_ComposeMotions.j1]
  cases h : motB a b c d x y with
  | false => simp
  | true =>
    cases h' : motB a' b' c' d' x' y' with
    | false => simp
    | true =>
      obtain ⟨m1, m2, m3⟩ := motB_iff.mp h
      obtain ⟨m1', m2', m3'⟩ := motB_iff.mp h'
      rw [impl_Motion_times_eq (matB_iff.mp m1).1 m3 (matB_iff.mp m1').1 m3']
      simp only [if_true, Bool.not_true, Bool.false_eq_true, if_false, Option.bind_some, impl_IsVec_eq, impl_Mat_isSmall_eq, and_self, cmp1]
      have hm := matB_mul m1 m1'
      generalize a * a' + b * c' = A at *
      generalize a * b' + b * d' = B at *
      generalize c * a' + d * c' = C at *
      generalize c * b' + d * d' = D at *
      generalize a * x' + b * y' + x = X at *
      generalize c * x' + d * y' + y = Y at *
      cases hsm : smallB A B C D with
      | false => simp
      | true =>
        cases hv : vecB X Y with
        | false => simp
        | true =>
          simp only [if_true, Bool.not_true, Bool.false_eq_true, if_false, and_self, impl_Mat_isTurn_eq (k + 3) A B C D (hm hsm), Option.bind_some, bne_iff_ne]
          split <;> rfl
theorem main (a0_0 : Int) (a0_1 : Int) (a0_2 : Int) (a0_3 : Int) (a0_4 : Int) (a0_5 : Int) (a1_0 : Int) (a1_1 : Int) (a1_2 : Int) (a1_3 : Int) (a1_4 : Int) (a1_5 : Int) (w0_0 : (Go.Lit.int .i64 a0_0).wf = true) (w0_1 : (Go.Lit.int .i64 a0_1).wf = true) (w0_2 : (Go.Lit.int .i64 a0_2).wf = true) (w0_3 : (Go.Lit.int .i64 a0_3).wf = true) (w0_4 : (Go.Lit.int .i64 a0_4).wf = true) (w0_5 : (Go.Lit.int .i64 a0_5).wf = true) (w1_0 : (Go.Lit.int .i64 a1_0).wf = true) (w1_1 : (Go.Lit.int .i64 a1_1).wf = true) (w1_2 : (Go.Lit.int .i64 a1_2).wf = true) (w1_3 : (Go.Lit.int .i64 a1_3).wf = true) (w1_4 : (Go.Lit.int .i64 a1_4).wf = true) (w1_5 : (Go.Lit.int .i64 a1_5).wf = true) : ∃ k, laws_FnExactComposeMotions.f k a0_0 a0_1 a0_2 a0_3 a0_4 a0_5 a1_0 a1_1 a1_2 a1_3 a1_4 a1_5 = some true := by
  refine ⟨0 + 9, ?_⟩
  unfold laws_FnExactComposeMotions.f
  simp only [laws_toVec.f, laws_toMat.f, laws_toMotion.f, Option.bind_some]
  rw [spec_ComposeMotions_eq, impl_ComposeMotions_eq]
  simp [laws_eqVec.f, laws_eqMat.f, laws_eqMotion.f]
end Go.Proofs.Ytpkjgcafbkfbgac.PureFnExactComposeMotions

/-
The law FnOrders, over numbers and lists alone: the printed functions of the program and of the reference answer alike. No condition but that each number is an int64.
-/
import Derived.Test.YtjjbjaagfjljnaaG38
import GoSem.Claim
namespace Go.Proofs.Ytjjbjaagfjljnaa.PureFnOrders
open Go.RowKit Go.Proofs.Ytjjbjaagfjljnaa.F Go.Proofs.YtjjbjaagfjljnaaW.PrintWords Go.Proofs.YtjjbjaagfjljnaaW.PrintLast Go.Proofs.YtjjbjaagfjljnaaW.PrintMore
set_option linter.unusedVariables false
set_option linter.unusedSimpArgs false
/-- (x, y) is a sum of multiples of (a, 0) and (b, c). -/
def L (a b c x y : Int) : Prop := ∃ m n : Int, x = m * a + n * b ∧ y = n * c
theorem sq_nn (x : Int) : 0 ≤ x * x := by
  rcases Int.le_total 0 x with h | h
  · exact Int.mul_nonneg h h
  · exact Int.mul_nonneg_of_nonpos_of_nonpos h h
theorem sq_pos {x : Int} (h : x ≠ 0) : 0 < x * x := by
  rcases Int.lt_or_gt_of_ne h with h | h
  · exact Int.mul_pos_of_neg_of_neg h h
  · exact Int.mul_pos h h
theorem unit_of {e : Int} (h : e ∣ 1) : e = 1 ∨ e = -1 := by
  have h1 := Int.natAbs_dvd_natAbs.mpr h
  have h2 : e.natAbs = 1 := Nat.dvd_one.mp h1
  omega
def vecB (x y : Int) : Bool := decide (-1000 ≤ x ∧ x ≤ 1000 ∧ -1000 ≤ y ∧ y ≤ 1000)
def smallB (a b c d : Int) : Bool := decide ((-1000 ≤ a ∧ a ≤ 1000 ∧ -1000 ≤ b ∧ b ≤ 1000) ∧ -1000 ≤ c ∧ c ≤ 1000 ∧ -1000 ≤ d ∧ d ≤ 1000)
def matB (a b c d : Int) : Bool := smallB a b c d && (a * d - b * c == 1 || a * d - b * c == -1)
theorem wrap_id {x : Int} (h1 : -9223372036854775808 ≤ x) (h2 : x < 9223372036854775808) : wrap64 x = x := by unfold wrap64; omega
theorem prod_bd {a b A B : Int} (ha : -A ≤ a) (ha' : a ≤ A) (hb : -B ≤ b) (hb' : b ≤ B) (hA : 0 ≤ A) : -(A * B) ≤ a * b ∧ a * b ≤ A * B := by
  have h1 : (a * b).natAbs ≤ A.natAbs * B.natAbs := by rw [Int.natAbs_mul]; exact Nat.mul_le_mul (by omega) (by omega)
  have h2 : (A * B).natAbs = A.natAbs * B.natAbs := Int.natAbs_mul A B
  have h3 : 0 ≤ A * B := Int.mul_nonneg hA (by omega)
  omega
theorem smallB_iff {a b c d : Int} : smallB a b c d = true ↔ ((-1000 ≤ a ∧ a ≤ 1000) ∧ (-1000 ≤ b ∧ b ≤ 1000)) ∧ (-1000 ≤ c ∧ c ≤ 1000) ∧ (-1000 ≤ d ∧ d ≤ 1000) := by unfold smallB; rw [decide_eq_true_iff]; omega
theorem matB_iff {a b c d : Int} : matB a b c d = true ↔ smallB a b c d = true ∧ (a * d - b * c = 1 ∨ a * d - b * c = -1) := by unfold matB; simp
theorem det_wrap {a b c d : Int} (h : smallB a b c d = true) : wrap64 (wrap64 (a * d) - wrap64 (b * c)) = a * d - b * c ∧ (-2000000 ≤ a * d - b * c ∧ a * d - b * c ≤ 2000000) := by
  rw [smallB_iff] at h
  have h1 := prod_bd (A := 1000) (B := 1000) h.1.1.1 h.1.1.2 h.2.2.1 h.2.2.2 (by omega)
  have h2 := prod_bd (A := 1000) (B := 1000) h.1.2.1 h.1.2.2 h.2.1.1 h.2.1.2 (by omega)
  rw [wrap_id (x := a * d) (by omega) (by omega), wrap_id (x := b * c) (by omega) (by omega), wrap_id (by omega) (by omega)]
  omega
/-- a x + b y for small numbers. -/
theorem lin_wrap {a b x y : Int} (A : Int) (ha : -A ≤ a ∧ a ≤ A) (hb : -A ≤ b ∧ b ≤ A) (hx : -A ≤ x ∧ x ≤ A) (hy : -A ≤ y ∧ y ≤ A) (hA : 0 ≤ A) (hA2 : A ≤ 1000000000) :
    wrap64 (wrap64 (a * x) + wrap64 (b * y)) = a * x + b * y ∧ (-(2 * (A * A)) ≤ a * x + b * y ∧ a * x + b * y ≤ 2 * (A * A)) := by
  have h1 := prod_bd ha.1 ha.2 hx.1 hx.2 hA
  have h2 := prod_bd hb.1 hb.2 hy.1 hy.2 hA
  have h3 : A * A ≤ 1000000000 * 1000000000 := Int.mul_le_mul hA2 hA2 hA (by omega)
  rw [wrap_id (x := a * x) (by omega) (by omega), wrap_id (x := b * y) (by omega) (by omega), wrap_id (by omega) (by omega)]
  omega
def mul1 (a b c d a' b' c' d' : Int) : Int × Int × Int × Int := (a * a' + b * c', a * b' + b * d', c * a' + d * c', c * b' + d * d')
def limM (m : Int × Int × Int × Int) : Int × Int × Int × Int × Int := if smallB m.1 m.2.1 m.2.2.1 m.2.2.2 = true then (m.1, m.2.1, m.2.2.1, m.2.2.2, 0) else (0, 0, 0, 0, 3)
def mulR (a b c d a' b' c' d' : Int) : Int × Int × Int × Int × Int := if matB a b c d = true ∧ matB a' b' c' d' = true then limM (mul1 a b c d a' b' c' d') else (0, 0, 0, 0, 1)
def ordV (a b c d : Int) : Int := if a = 1 ∧ b = 0 ∧ c = 0 ∧ d = 1 then 1 else if (a * d - b * c = -1 ∧ a + d = 0) ∨ (a = -1 ∧ b = 0 ∧ c = 0 ∧ d = -1) then 2
  else if a * d - b * c = 1 ∧ a + d = -1 then 3 else if a * d - b * c = 1 ∧ a + d = 0 then 4 else if a * d - b * c = 1 ∧ a + d = 1 then 6 else 0
def ordR (a b c d : Int) : Int × Int := if matB a b c d = true then (ordV a b c d, 0) else (0, 1)
def kindV (a b c d : Int) : Int := if a * d - b * c = 1 then ordV a b c d else if ordV a b c d = 2 then -2 else 0
def kindR (a b c d : Int) : Int × Int := if matB a b c d = true then (kindV a b c d, 0) else (0, 1)
theorem ordV_nonneg (a b c d : Int) : 0 ≤ ordV a b c d := by
  unfold ordV
  repeat' split
  all_goals omega
/-- One factor more, by the characteristic polynomial: the product of m and x m + y. -/
theorem ch1 (a b c d x y : Int) : mul1 a b c d (x * a + y) (x * b) (x * c) (x * d + y) =
    (((a + d) * x + y) * a + -((a * d - b * c) * x), ((a + d) * x + y) * b, ((a + d) * x + y) * c, ((a + d) * x + y) * d + -((a * d - b * c) * x)) := by
  unfold mul1; simp only [Prod.mk.injEq]; refine ⟨?_, ?_, ?_, ?_⟩ <;> grind
def powL (a b c d : Int) : Nat → Int × Int × Int × Int → Int × Int × Int × Int × Int
  | 0, p => (p.1, p.2.1, p.2.2.1, p.2.2.2, 0)
  | n + 1, p => if smallB (mul1 a b c d p.1 p.2.1 p.2.2.1 p.2.2.2).1 (mul1 a b c d p.1 p.2.1 p.2.2.1 p.2.2.2).2.1 (mul1 a b c d p.1 p.2.1 p.2.2.1 p.2.2.2).2.2.1 (mul1 a b c d p.1 p.2.1 p.2.2.1 p.2.2.2).2.2.2 = true
      then powL a b c d n (mul1 a b c d p.1 p.2.1 p.2.2.1 p.2.2.2) else (0, 0, 0, 0, 3)
def powR (a b c d n : Int) : Int × Int × Int × Int × Int := if matB a b c d = true then (if 0 ≤ n ∧ n ≤ 100 then powL a b c d n.toNat (1, 0, 0, 1) else (0, 0, 0, 0, 2)) else (0, 0, 0, 0, 1)
theorem mul_comm1 (a b c d x y : Int) : mul1 a b c d (x * a + y) (x * b) (x * c) (x * d + y) = mul1 (x * a + y) (x * b) (x * c) (x * d + y) a b c d := by
  unfold mul1; simp only [Prod.mk.injEq]; refine ⟨?_, ?_, ?_, ?_⟩ <;> grind
theorem u8_bd {a : Int} (h : (Go.Lit.int .u8 a).wf = true) : 0 ≤ a ∧ a < 256 := by
  simp only [Go.Lit.wf, Bool.and_eq_true, decide_eq_true_eq] at h
  obtain ⟨h1, h2⟩ := h
  have e1 : Go.IntKind.min .u8 = 0 := by decide
  have e2 : Go.IntKind.max .u8 = 255 := by decide
  omega
theorem spec_l01In_eq (a b c : Int) : spec_l01In.f a b c = some (decide (b ≤ a ∧ a ≤ c)) := by
  unfold spec_l01In.f; split <;> simp <;> omega
theorem impl_within_eq (a b c : Int) : impl_within.f a b c = some (decide (b ≤ a ∧ a ≤ c)) := by
  unfold impl_within.f; split <;> simp <;> omega
theorem spec_IsVec_eq (x y : Int) : spec_IsVec.f x y = some (vecB x y) := by
  unfold spec_IsVec.f vecB; simp only [spec_l01In_eq, Option.bind_some]; split <;> simp_all <;> omega
theorem impl_isCoordinate_eq (a : Int) : impl_isCoordinate.f a = some (decide (-1000 ≤ a ∧ a ≤ 1000)) := by
  unfold impl_isCoordinate.f; simp only [impl_within_eq, Option.bind_some]
theorem spec_l02Small_eq (a b c d : Int) : spec_l02Small.f a b c d = some (smallB a b c d) := by
  unfold spec_l02Small.f smallB; simp only [spec_IsVec_eq, Option.bind_some, vecB]; split <;> simp_all <;> omega
theorem impl_Mat_isSmall_eq (a b c d : Int) : impl_Mat_isSmall.f a b c d = some (smallB a b c d) := by
  unfold impl_Mat_isSmall.f smallB; simp only [impl_isCoordinate_eq, Option.bind_some, decide_eq_true_eq]
  by_cases h1 : -1000 ≤ a ∧ a ≤ 1000
  · rw [if_pos h1]
    by_cases h2 : -1000 ≤ b ∧ b ≤ 1000
    · rw [if_pos h2]
      by_cases h3 : -1000 ≤ c ∧ c ≤ 1000
      · rw [if_pos h3]
        by_cases h4 : -1000 ≤ d ∧ d ≤ 1000
        · rw [decide_eq_true h4, decide_eq_true (by omega)]
        · rw [decide_eq_false h4, decide_eq_false (by omega)]
      · rw [if_neg h3, decide_eq_false (by omega)]
    · rw [if_neg h2, decide_eq_false (by omega)]
  · rw [if_neg h1, decide_eq_false (by omega)]
theorem spec_IsMat_eq (a b c d : Int) : spec_IsMat.f a b c d = some (matB a b c d) := by
  unfold spec_IsMat.f matB spec_l02Det.f
  simp only [spec_l02Small_eq, Option.bind_some]
  cases h : smallB a b c d with
  | false => simp
  | true => rw [(det_wrap h).1]; simp; split <;> simp_all
theorem impl_IsMat_eq (a b c d : Int) : impl_IsMat.f a b c d = some (matB a b c d) := by
  unfold impl_IsMat.f matB impl_Mat_det.f
  simp only [impl_Mat_isSmall_eq, Option.bind_some]
  cases h : smallB a b c d with
  | false => simp
  | true => rw [(det_wrap h).1]; simp; split <;> simp_all
theorem spec_l02Multiply_eq {a b c d a' b' c' d' : Int} (h : smallB a b c d = true) (h' : smallB a' b' c' d' = true) : spec_l02Multiply.f a b c d a' b' c' d' = some (mul1 a b c d a' b' c' d') := by
  rw [smallB_iff] at h h'
  unfold spec_l02Multiply.f mul1
  rw [(lin_wrap 1000 (by omega) (by omega) (by omega) (by omega) (by omega) (by omega)).1, (lin_wrap 1000 (by omega) (by omega) (by omega) (by omega) (by omega) (by omega)).1,
    (lin_wrap 1000 (by omega) (by omega) (by omega) (by omega) (by omega) (by omega)).1, (lin_wrap 1000 (by omega) (by omega) (by omega) (by omega) (by omega) (by omega)).1]
theorem impl_Mat_times_eq {a b c d a' b' c' d' : Int} (h : smallB a b c d = true) (h' : smallB a' b' c' d' = true) : impl_Mat_times.f a b c d a' b' c' d' = some (mul1 a b c d a' b' c' d') := by
  rw [smallB_iff] at h h'
  unfold impl_Mat_times.f mul1
  rw [(lin_wrap 1000 (by omega) (by omega) (by omega) (by omega) (by omega) (by omega)).1, (lin_wrap 1000 (by omega) (by omega) (by omega) (by omega) (by omega) (by omega)).1,
    (lin_wrap 1000 (by omega) (by omega) (by omega) (by omega) (by omega) (by omega)).1, (lin_wrap 1000 (by omega) (by omega) (by omega) (by omega) (by omega) (by omega)).1]
theorem impl_MultiplyMats_eq (k : Nat) (a b c d a' b' c' d' : Int) : impl_MultiplyMats.f (k + 1) a b c d a' b' c' d' = some (mulR a b c d a' b' c' d') := by
  unfold impl_MultiplyMats.f mulR
  simp only [impl_IsMat_eq, Option.bind_some, impl_MultiplyMats.j0]
  cases h : matB a b c d with
  | false => simp
  | true =>
    cases h' : matB a' b' c' d' with
    | false => simp
    | true =>
      simp only [impl_Mat_times_eq (matB_iff.mp h).1 (matB_iff.mp h').1, impl_Mat_isSmall_eq, limM, Option.bind_some, if_true, Bool.not_true, Bool.false_eq_true, if_false, and_self]
      split <;> rfl
theorem impl_Mat_order_eq (k : Nat) (a b c d : Int) (h : matB a b c d = true) : impl_Mat_order.f (k + 4) a b c d = some (ordV a b c d) := by
  obtain ⟨h1, h2⟩ := matB_iff.mp h
  unfold impl_Mat_order.f impl_unit.f impl_Mat_det.f ordV
  simp only [impl_Mat_order.j0, impl_Mat_order.j1, impl_Mat_order.j2, impl_Mat_order.j3, impl_Mat_det.f, Option.bind_some, (det_wrap h1).1]
  rw [smallB_iff] at h1
  rw [wrap_id (x := a + d) (by omega) (by omega)]
  generalize a * d - b * c = D at *
  simp only [Bool.and_eq_true, beq_iff_eq]
  by_cases e1 : a = 1 ∧ b = 0 ∧ c = 0 ∧ d = 1
  · rw [if_pos e1, if_pos e1]
  · rw [if_neg e1, if_neg e1]
    by_cases e2 : a = -1 ∧ b = 0 ∧ c = 0 ∧ d = -1
    · obtain ⟨rfl, rfl, rfl, rfl⟩ := e2; simp
    · rcases h2 with rfl | rfl
      · by_cases t1 : a + d = -1
        · simp [t1, e2]
        · by_cases t2 : a + d = 0
          · simp [t1, t2, e2]
          · by_cases t3 : a + d = 1 <;> simp [t1, t2, t3, e2]
      · by_cases t1 : a + d = 0 <;> simp [t1, e2]
theorem impl_OrderOf_eq (k : Nat) (a b c d : Int) : impl_OrderOf.f (k + 4) a b c d = some (ordR a b c d) := by
  unfold impl_OrderOf.f ordR; simp only [impl_IsMat_eq, Option.bind_some]
  split
  · rename_i h; rw [impl_Mat_order_eq k a b c d h]; rfl
  · rfl
theorem order_step {a b c d : Int} (k : Nat) (n n' : Int) (x y x' y' : Int) (h : matB a b c d = true) (hs : smallB (x * a + y) (x * b) (x * c) (x * d + y) = true) (hn : 1 ≤ n ∧ n ≤ 6 ∧ n' = n + 1)
    (ex : x' = (a + d) * x + y) (ey : y' = -((a * d - b * c) * x)) :
    spec_l02Order.l0 (k + 1) n a b c d (x * a + y) (x * b) (x * c) (x * d + y) = if smallB (x' * a + y') (x' * b) (x' * c) (x' * d + y') = true then
      (if x' * a + y' = 1 ∧ x' * b = 0 ∧ x' * c = 0 ∧ x' * d + y' = 1 then some n else spec_l02Order.l0 k n' a b c d (x' * a + y') (x' * b) (x' * c) (x' * d + y')) else some 0 := by
  rw [spec_l02Order.l0, if_pos hn.2.1, spec_l02Multiply_eq (matB_iff.mp h).1 hs, ch1, ← ex, ← ey, wrap_id (x := n + 1) (by omega) (by omega), ← hn.2.2]
  simp only [Option.bind_some, spec_l02Small_eq, spec_l02Unit.f, Bool.and_eq_true, beq_iff_eq]
theorem no_unit {a b c d x y : Int} (hd : a * d - b * c = 1 ∨ a * d - b * c = -1) (hx : x ≠ 0) (h1 : ¬ (a = 1 ∧ b = 0 ∧ c = 0 ∧ d = 1)) (h2 : ¬ (a = -1 ∧ b = 0 ∧ c = 0 ∧ d = -1)) : ¬ (x * a + y = 1 ∧ x * b = 0 ∧ x * c = 0 ∧ x * d + y = 1) := by
  rintro ⟨e1, e2, e3, e4⟩
  have hb : b = 0 := by rcases Int.mul_eq_zero.mp e2 with h | h; exact absurd h hx; exact h
  have hc : c = 0 := by rcases Int.mul_eq_zero.mp e3 with h | h; exact absurd h hx; exact h
  have had : a = d := Int.eq_of_mul_eq_mul_left hx (by omega)
  subst hb hc had
  simp only [Int.zero_mul, Int.sub_zero] at hd
  have hsq := sq_nn a
  have h3 : a * a = 1 := by omega
  have h4 : a ∣ 1 := ⟨a, h3.symm⟩
  rcases unit_of h4 with h | h
  · exact h1 ⟨h, rfl, rfl, h⟩
  · exact h2 ⟨h, rfl, rfl, h⟩
theorem pw4 (t D : Int) : t * (t * t - 2 * D) = t * (t * t - D) + -(D * t) := by grind
theorem pw5 (t D : Int) (h : D * D = 1) : t * t * (t * t) - 3 * D * (t * t) + 1 = t * (t * (t * t - 2 * D)) + -(D * (t * t - D)) := by grind
theorem pw6 (t D : Int) (h : D * D = 1) : t * ((t * t - D) * (t * t - 3 * D)) = t * (t * t * (t * t) - 3 * D * (t * t) + 1) + -(D * (t * (t * t - 2 * D))) := by grind
theorem order_none {a b c d : Int} (h : matB a b c d = true) (e1 : ¬ (a = 1 ∧ b = 0 ∧ c = 0 ∧ d = 1)) (z1 : ¬ (a = -1 ∧ b = 0 ∧ c = 0 ∧ d = -1)) (k : Nat) (n n' x y x' y' : Int) (hn : 1 ≤ n ∧ n ≤ 6 ∧ n' = n + 1)
    (hsm : smallB (x * a + y) (x * b) (x * c) (x * d + y) = true) (ex : x' = (a + d) * x + y) (ey : y' = -((a * d - b * c) * x)) (hx' : x' ≠ 0)
    (hnext : smallB (x' * a + y') (x' * b) (x' * c) (x' * d + y') = true → spec_l02Order.l0 k n' a b c d (x' * a + y') (x' * b) (x' * c) (x' * d + y') = some 0) :
    spec_l02Order.l0 (k + 1) n a b c d (x * a + y) (x * b) (x * c) (x * d + y) = some 0 := by
  rw [order_step k n n' x y x' y' h hsm hn ex ey]
  split
  · rename_i hsm'
    rw [if_neg (no_unit (matB_iff.mp h).2 hx' e1 z1)]; exact hnext hsm'
  · rfl
theorem order_inf {a b c d : Int} (k : Nat) (h : matB a b c d = true) (e1 : ¬ (a = 1 ∧ b = 0 ∧ c = 0 ∧ d = 1)) (z1 : ¬ (a = -1 ∧ b = 0 ∧ c = 0 ∧ d = -1)) (b1 : smallB (1 * a + 0) (1 * b) (1 * c) (1 * d + 0) = true) (t D : Int) (ht : t = a + d) (hD : D = a * d - b * c)
    (n2 : t ≠ 0) (n3 : t * t - D ≠ 0) (n4 : t * t - 2 * D ≠ 0) (n5 : t * t * (t * t) - 3 * D * (t * t) + 1 ≠ 0) (n6 : t * t - 3 * D ≠ 0) (hDD : D * D = 1) :
    spec_l02Order.l0 (k + 6) 2 a b c d (1 * a + 0) (1 * b) (1 * c) (1 * d + 0) = some 0 := by
  have go := @order_none a b c d h e1 z1
  rw [← ht, ← hD] at go
  refine go (k + 5) 2 3 1 0 t (-D) ⟨by decide, by decide, by decide⟩ b1 (by simp) (by simp) n2 fun b2 => ?_
  refine go (k + 4) 3 4 t (-D) (t * t - D) (-(D * t)) ⟨by decide, by decide, by decide⟩ b2 Int.sub_eq_add_neg rfl n3 fun b3 => ?_
  refine go (k + 3) 4 5 (t * t - D) (-(D * t)) (t * (t * t - 2 * D)) (-(D * (t * t - D))) ⟨by decide, by decide, by decide⟩ b3 (pw4 t D) rfl (Int.mul_ne_zero n2 n4) fun b4 => ?_
  refine go (k + 2) 5 6 (t * (t * t - 2 * D)) (-(D * (t * t - D))) (t * t * (t * t) - 3 * D * (t * t) + 1) (-(D * (t * (t * t - 2 * D)))) ⟨by decide, by decide, by decide⟩ b4 (pw5 t D hDD) rfl n5 fun b5 => ?_
  refine go (k + 1) 6 7 (t * t * (t * t) - 3 * D * (t * t) + 1) (-(D * (t * (t * t - 2 * D)))) (t * ((t * t - D) * (t * t - 3 * D))) (-(D * (t * t * (t * t) - 3 * D * (t * t) + 1))) ⟨by decide, by decide, by decide⟩ b5 (pw6 t D hDD) rfl (Int.mul_ne_zero n2 (Int.mul_ne_zero n3 n6)) fun b6 => ?_
  rw [spec_l02Order.l0, if_neg (by decide)]
theorem spec_l02Order_eq (k : Nat) (a b c d : Int) (h : matB a b c d = true) : spec_l02Order.f (k + 7) a b c d = some (ordV a b c d) := by
  obtain ⟨hs, hd⟩ := matB_iff.mp h
  have hb := smallB_iff.mp hs
  unfold spec_l02Order.f spec_l02Unit.f
  simp only [Option.bind_some]
  have s0 : spec_l02Order.l0 (k + 7) 1 a b c d 1 0 0 1 = spec_l02Order.l0 (k + 6 + 1) 1 a b c d (0 * a + 1) (0 * b) (0 * c) (0 * d + 1) := by simp
  have b0 : smallB (0 * a + 1) (0 * b) (0 * c) (0 * d + 1) = true := by rw [smallB_iff]; omega
  rw [s0, order_step (k + 6) 1 2 0 1 1 0 h b0 (by omega) (by omega) (by omega)]
  rw [if_pos (by rw [smallB_iff]; omega)]
  unfold ordV
  by_cases e1 : a = 1 ∧ b = 0 ∧ c = 0 ∧ d = 1
  · rw [if_pos (by omega), if_pos e1]
  · rw [if_neg (by omega), if_neg e1]
    have b1 : smallB (1 * a + 0) (1 * b) (1 * c) (1 * d + 0) = true := by rw [smallB_iff]; omega
    by_cases e2 : (a * d - b * c = -1 ∧ a + d = 0) ∨ (a = -1 ∧ b = 0 ∧ c = 0 ∧ d = -1)
    · rw [if_pos e2]
      rcases e2 with ⟨e2, t⟩ | e2
      · rw [order_step (k + 5) 2 3 1 0 0 1 h b1 (by omega) (by omega) (by omega), if_pos (by rw [smallB_iff]; omega), if_pos (by omega)]
      · have e3 : a * d - b * c = 1 := by obtain ⟨rfl, rfl, rfl, rfl⟩ := e2; rfl
        rw [order_step (k + 5) 2 3 1 0 (-2) (-1) h b1 (by omega) (by omega) (by omega), if_pos (by rw [smallB_iff]; omega), if_pos (by omega)]
    · rw [if_neg e2]
      by_cases e3 : a * d - b * c = 1 ∧ a + d = -1
      · rw [if_pos e3, order_step (k + 5) 2 3 1 0 (-1) (-1) h b1 (by omega) (by omega) (by omega)]
        have b2 : smallB (-1 * a + -1) (-1 * b) (-1 * c) (-1 * d + -1) = true := by rw [smallB_iff]; omega
        rw [if_pos b2, if_neg (by omega), order_step (k + 4) 3 4 (-1) (-1) 0 1 h b2 (by omega) (by omega) (by omega), if_pos (by rw [smallB_iff]; omega), if_pos (by omega)]
      · rw [if_neg e3]
        by_cases e4 : a * d - b * c = 1 ∧ a + d = 0
        · rw [if_pos e4, order_step (k + 5) 2 3 1 0 0 (-1) h b1 (by omega) (by omega) (by omega)]
          have b2 : smallB (0 * a + -1) (0 * b) (0 * c) (0 * d + -1) = true := by rw [smallB_iff]; omega
          rw [if_pos b2, if_neg (by omega), order_step (k + 4) 3 4 0 (-1) (-1) 0 h b2 (by omega) (by omega) (by omega)]
          have b3 : smallB (-1 * a + 0) (-1 * b) (-1 * c) (-1 * d + 0) = true := by rw [smallB_iff]; omega
          rw [if_pos b3, if_neg (by omega), order_step (k + 3) 4 5 (-1) 0 0 1 h b3 (by omega) (by omega) (by omega), if_pos (by rw [smallB_iff]; omega), if_pos (by omega)]
        · rw [if_neg e4]
          by_cases e5 : a * d - b * c = 1 ∧ a + d = 1
          · rw [if_pos e5, order_step (k + 5) 2 3 1 0 1 (-1) h b1 (by omega) (by omega) (by omega)]
            have b2 : smallB (1 * a + -1) (1 * b) (1 * c) (1 * d + -1) = true := by rw [smallB_iff]; omega
            rw [if_pos b2, if_neg (by omega), order_step (k + 4) 3 4 1 (-1) 0 (-1) h b2 (by omega) (by omega) (by omega)]
            have b3 : smallB (0 * a + -1) (0 * b) (0 * c) (0 * d + -1) = true := by rw [smallB_iff]; omega
            rw [if_pos b3, if_neg (by omega), order_step (k + 3) 4 5 0 (-1) (-1) 0 h b3 (by omega) (by omega) (by omega)]
            have b4 : smallB (-1 * a + 0) (-1 * b) (-1 * c) (-1 * d + 0) = true := by rw [smallB_iff]; omega
            rw [if_pos b4, if_neg (by omega), order_step (k + 2) 5 6 (-1) 0 (-1) 1 h b4 (by omega) (by omega) (by omega)]
            have b5 : smallB (-1 * a + 1) (-1 * b) (-1 * c) (-1 * d + 1) = true := by rw [smallB_iff]; omega
            rw [if_pos b5, if_neg (by omega), order_step (k + 1) 6 7 (-1) 1 0 1 h b5 (by omega) (by omega) (by omega), if_pos (by rw [smallB_iff]; omega), if_pos (by omega)]
          · rw [if_neg e5]
            have z1 : ¬ (a = -1 ∧ b = 0 ∧ c = 0 ∧ d = -1) := fun x => e2 (Or.inr x)
            -- every factor is not 0
            have hx : ∀ t D : Int, t = a + d → D = a * d - b * c → t ≠ 0 ∧ t * t - D ≠ 0 ∧ t * t - 2 * D ≠ 0 ∧ t * t * (t * t) - 3 * D * (t * t) + 1 ≠ 0 ∧ t * t - 3 * D ≠ 0 := by
              intro t D ht hD
              have t2 : t ≠ 0 := by
                intro h0
                rcases hd with hd | hd
                · exact e4 ⟨hd, by omega⟩
                · exact e2 (Or.inl ⟨hd, by omega⟩)
              have hsq := sq_pos t2
              rcases hd with hd | hd
              · have ht4 : 4 ≤ t * t := by
                  have h5 : t ≠ 1 := fun x => e5 ⟨hd, by omega⟩
                  have h6 : t ≠ -1 := fun x => e3 ⟨hd, by omega⟩
                  rcases Int.lt_or_le t 2 with h | h
                  · have := Int.mul_le_mul (show 2 ≤ -t by omega) (show 2 ≤ -t by omega) (by omega) (by omega)
                    rw [Int.neg_mul_neg] at this; omega
                  · have := Int.mul_le_mul h h (by omega) (by omega); omega
                have D1 : D = 1 := by omega
                subst D1
                generalize t * t = T at *
                have : T * T - 3 * T = T * (T - 3) := by grind
                have h7 : 0 < T * (T - 3) := Int.mul_pos (by omega) (by omega)
                refine ⟨t2, by omega, by omega, by omega, ?_⟩
                omega
              · have D1 : D = -1 := by omega
                subst D1
                generalize t * t = T at *
                have h7 : 0 < T * T := Int.mul_pos hsq hsq
                refine ⟨t2, by omega, by omega, by omega, by omega⟩
            obtain ⟨n2, n3, n4, n5, n6⟩ := hx (a + d) (a * d - b * c) rfl rfl
            have hDD : (a * d - b * c) * (a * d - b * c) = 1 := by rcases hd with e | e <;> rw [e] <;> rfl
            exact order_inf k h e1 z1 b1 _ _ rfl rfl n2 n3 n4 n5 n6 hDD
theorem spec_OrderOf_eq (k : Nat) (a b c d : Int) : spec_OrderOf.f (k + 7) a b c d = some (ordR a b c d) := by
  unfold spec_OrderOf.f ordR; simp only [spec_IsMat_eq, Option.bind_some]
  split
  · rename_i h; rw [spec_l02Order_eq k a b c d h]; rfl
  · rfl
theorem spec_l02Kind_eq (k : Nat) (a b c d : Int) (h : matB a b c d = true) : spec_l02Kind.f (k + 7) a b c d = some (kindV a b c d) := by
  unfold spec_l02Kind.f kindV spec_l02Det.f
  simp only [spec_l02Order_eq k a b c d h, Option.bind_some, (det_wrap (matB_iff.mp h).1).1]
  split
  · rfl
  · split <;> rfl
theorem spec_MatKind_eq (k : Nat) (a b c d : Int) : spec_MatKind.f (k + 7) a b c d = some (kindR a b c d) := by
  unfold spec_MatKind.f kindR; simp only [spec_IsMat_eq, Option.bind_some]
  split
  · rename_i h; rw [spec_l02Kind_eq k a b c d h]; rfl
  · rfl
theorem impl_Mat_isReflection_eq (k : Nat) (a b c d : Int) (h : matB a b c d = true) : impl_Mat_isReflection.f (k + 4) a b c d = some (decide (kindV a b c d = -2)) := by
  have ho := ordV_nonneg a b c d
  unfold impl_Mat_isReflection.f kindV impl_Mat_det.f
  simp only [impl_Mat_order_eq k a b c d h, Option.bind_some, (det_wrap (matB_iff.mp h).1).1]
  rcases (matB_iff.mp h).2 with e | e <;> rw [e]
  · simp; omega
  · simp; by_cases h2 : ordV a b c d = 2 <;> simp [h2]
theorem impl_Mat_isRotation_eq (k : Nat) (a b c d : Int) (h : matB a b c d = true) : impl_Mat_isRotation.f (k + 4) a b c d = some (decide (0 < kindV a b c d)) := by
  have ho := ordV_nonneg a b c d
  unfold impl_Mat_isRotation.f kindV impl_Mat_det.f
  simp only [impl_Mat_order_eq k a b c d h, Option.bind_some, (det_wrap (matB_iff.mp h).1).1]
  rcases (matB_iff.mp h).2 with e | e <;> rw [e]
  · simp
  · simp; split <;> omega
theorem impl_MatKind_eq (k : Nat) (a b c d : Int) : impl_MatKind.f (k + 4) a b c d = some (kindR a b c d) := by
  unfold impl_MatKind.f kindR; simp only [impl_IsMat_eq, Option.bind_some]
  split
  · rename_i h
    rw [impl_Mat_isReflection_eq k a b c d h, impl_Mat_isRotation_eq k a b c d h, impl_Mat_order_eq k a b c d h]
    have ho := ordV_nonneg a b c d
    simp only [Option.bind_some, decide_eq_true_eq]
    by_cases h1 : kindV a b c d = -2
    · rw [if_pos h1, h1]
    · rw [if_neg h1]
      unfold kindV at *
      by_cases h2 : a * d - b * c = 1
      · rw [if_pos h2] at *
        by_cases h3 : 0 < ordV a b c d
        · rw [if_pos h3]
        · rw [if_neg h3]; congr 2; omega
      · rw [if_neg h2] at *
        by_cases h3 : ordV a b c d = 2
        · rw [if_pos h3] at h1; omega
        · rw [if_neg h3, if_neg (by omega)]
  · rfl
theorem spec_pow_loop {a b c d : Int} (h : matB a b c d = true) : ∀ (n k : Nat) (i N p q r s : Int), smallB p q r s = true → i + n = N → 0 ≤ i → N ≤ 100 → n < k →
    spec_PowerMat.l0 k N i a b c d p q r s = some (powL a b c d n (p, q, r, s)) := by
  intro n
  induction n with
  | zero =>
    intro k i N p q r s hs hi h0 hN hk
    obtain ⟨k, rfl⟩ : ∃ m, k = m + 1 := ⟨k - 1, by omega⟩
    rw [spec_PowerMat.l0, if_neg (by omega)]; rfl
  | succ n ih =>
    intro k i N p q r s hs hi h0 hN hk
    obtain ⟨k, rfl⟩ : ∃ m, k = m + 1 := ⟨k - 1, by omega⟩
    rw [spec_PowerMat.l0, if_pos (by omega), spec_l02Multiply_eq (matB_iff.mp h).1 hs, wrap_id (x := i + 1) (by omega) (by omega)]
    simp only [Option.bind_some, spec_l02Small_eq, powL]
    split
    · rename_i hs'
      rw [ih k (i + 1) N _ _ _ _ hs' (by omega) (by omega) hN (by omega)]
    · rfl
theorem spec_PowerMat_eq (k : Nat) (hk : 101 ≤ k) (a b c d n : Int) : spec_PowerMat.f k a b c d n = some (powR a b c d n) := by
  unfold spec_PowerMat.f powR spec_l02Unit.f
  simp only [spec_IsMat_eq, spec_l01In_eq, Option.bind_some, decide_eq_true_eq]
  split
  · rename_i h
    split
    · rename_i hn
      exact spec_pow_loop h n.toNat k 0 n 1 0 0 1 (by decide) (by omega) (by omega) (by omega) (by omega)
    · rfl
  · rfl
theorem impl_pow_loop {a b c d : Int} (h : matB a b c d = true) : ∀ (n k : Nat) (i N x y : Int), smallB (x * a + y) (x * b) (x * c) (x * d + y) = true → i + n = N → 0 ≤ i → N ≤ 100 → n < k →
    impl_PowerMat.l0 k N i a b c d (x * a + y) (x * b) (x * c) (x * d + y) = some (powL a b c d n (x * a + y, x * b, x * c, x * d + y)) := by
  intro n
  induction n with
  | zero =>
    intro k i N x y hs hi h0 hN hk
    obtain ⟨k, rfl⟩ : ∃ m, k = m + 1 := ⟨k - 1, by omega⟩
    rw [impl_PowerMat.l0, if_neg (by omega)]; rfl
  | succ n ih =>
    intro k i N x y hs hi h0 hN hk
    obtain ⟨k, rfl⟩ : ∃ m, k = m + 1 := ⟨k - 1, by omega⟩
    rw [impl_PowerMat.l0, if_pos (by omega), impl_Mat_times_eq hs (matB_iff.mp h).1, wrap_id (x := i + 1) (by omega) (by omega), ← mul_comm1]
    simp only [Option.bind_some, impl_Mat_isSmall_eq, powL]
    rw [ch1]
    split
    · rename_i hs'
      exact ih k (i + 1) N _ _ hs' (by omega) (by omega) hN (by omega)
    · rfl
theorem impl_PowerMat_eq (k : Nat) (hk : 101 ≤ k) (a b c d n : Int) : impl_PowerMat.f k a b c d n = some (powR a b c d n) := by
  unfold impl_PowerMat.f powR impl_unit.f
  simp only [impl_IsMat_eq, impl_within_eq, Option.bind_some, decide_eq_true_eq]
  split
  · rename_i h
    split
    · rename_i hn
      have := impl_pow_loop h n.toNat k 0 n 0 1 (by rw [smallB_iff]; omega) (by omega) (by omega) (by omega) (by omega)
      simp only [Int.zero_mul, Int.zero_add] at this
      exact this
    · rfl
  · rfl
def St (l : List Int) (p s : Int) : Prop := (l.length : Int) ≤ 4096 ∧ (∀ x ∈ l, 0 ≤ x ∧ x < 256) ∧ 0 ≤ p ∧ p ≤ (l.length : Int) ∧ 0 ≤ s ∧ s < 2147483647
theorem rd_mem {l : List Int} {i : Int} (h0 : 0 ≤ i) (h1 : i < (l.length : Int)) : rd l i ∈ l := by
  unfold rd
  have h : i.toNat < l.length := by omega
  have e : l.getD i.toNat 0 = l[i.toNat] := by simp [List.getD, h]
  rw [e]
  exact List.getElem_mem h
theorem tm_bd {X n : Int} (hX : 0 ≤ X) (hn : 0 < n) : 0 ≤ Int.tmod X n ∧ Int.tmod X n < n := ⟨Int.tmod_nonneg n hX, Int.tmod_lt_of_pos X hn⟩
theorem next_eq {l : List Int} {p s : Int} (h : St l p s) (n : Int) : ∃ r p' s', spec_l01Next.f l p s n = some (r, p', s') ∧ St l p' s' ∧ 0 ≤ r ∧ (r < n ∨ r = 0) := by
  have h0 := h
  obtain ⟨hl, hb, hp0, hp1, hs0, hs1⟩ := h
  unfold spec_l01Next.f
  by_cases hn : n ≤ 1
  · rw [if_pos hn]; exact ⟨0, p, s, rfl, h0, by omega, .inr rfl⟩
  rw [if_neg hn]
  rw [wrap_id (x := s * 48271) (by omega) (by omega), wrap_id (x := s * 48271 + 67) (by omega) (by omega)]
  obtain ⟨a1, a2⟩ := tm_bd (X := s * 48271 + 67) (n := 2147483647) (by omega) (by decide)
  generalize Int.tmod (s * 48271 + 67) 2147483647 = S at a1 a2
  have q0 : 0 ≤ Int.tdiv S 37 ∧ Int.tdiv S 37 ≤ S := by rw [Int.tdiv_eq_ediv_of_nonneg a1]; omega
  have q1 : wrap64 (Int.tdiv S 37) = Int.tdiv S 37 := wrap_id (by omega) (by omega)
  by_cases hp : p < (l.length : Int)
  · rw [if_pos hp, if_pos hp0]
    have m := hb _ (rd_mem hp0 hp)
    rw [wrap_id (x := p + 1) (by omega) (by omega), wrap_id (x := p + 1 - 1) (by omega) (by omega), Int.add_sub_cancel]
    have w1 : wrap64 (rd l p) = rd l p := wrap_id (by omega) (by omega)
    rw [q1, w1, wrap_id (x := Int.tdiv S 37 + rd l p) (by omega) (by omega), if_neg (show ¬ n = 0 by omega), if_neg (show ¬ n = 0 by omega)]
    have t1 := tm_bd (X := rd l p) (n := n) m.1 (by omega)
    have t2 := tm_bd (X := Int.tdiv S 37 + rd l p) (n := n) (by omega) (by omega)
    have st : St l (p + 1) S := ⟨hl, hb, by omega, by omega, a1, a2⟩
    split
    · split
      · exact ⟨_, _, _, rfl, st, t1.1, .inl t1.2⟩
      · exact ⟨_, _, _, rfl, st, t2.1, .inl t2.2⟩
    · exact ⟨_, _, _, rfl, st, t2.1, .inl t2.2⟩
  · rw [if_neg hp, if_neg (show ¬ n = 0 by omega), q1]
    have t1 := tm_bd (X := Int.tdiv S 37) (n := n) (by omega) (by omega)
    exact ⟨_, _, _, rfl, ⟨hl, hb, hp0, hp1, a1, a2⟩, t1.1, .inl t1.2⟩
theorem from_loop {l : List Int} (hl : (l.length : Int) ≤ 4096) (hb : ∀ x ∈ l, 0 ≤ x ∧ x < 256) (p : Int) : ∀ (k : Nat) (i s : Int), 0 ≤ i → i ≤ 64 → 64 - i < (k : Int) → 0 ≤ s → s < 2147483647 →
    ∃ s', spec_l01From.l0 k l i l p s = some (l, p, s') ∧ 0 ≤ s' ∧ s' < 2147483647
  | 0, i, s, h0, h1, h2, _, _ => by omega
  | k + 1, i, s, h0, h1, h2, h3, h4 => by
    unfold spec_l01From.l0
    by_cases hi : i < (l.length : Int)
    · rw [if_pos hi]
      by_cases h6 : i < 64
      · rw [if_pos h6, if_pos h0]
        have m := hb _ (rd_mem h0 hi)
        rw [wrap_id (x := i + 1) (by omega) (by omega), wrap_id (x := rd l i) (by omega) (by omega), wrap_id (x := s * 73) (by omega) (by omega), wrap_id (x := s * 73 + rd l i) (by omega) (by omega)]
        have t := tm_bd (X := s * 73 + rd l i) (n := 2147483647) (by omega) (by decide)
        exact from_loop hl hb p k (i + 1) _ (by omega) (by omega) (by omega) t.1 t.2
      · rw [if_neg h6]; exact ⟨s, rfl, h3, h4⟩
    · rw [if_neg hi]; exact ⟨s, rfl, h3, h4⟩
theorem from_eq {l : List Int} (hl : (l.length : Int) ≤ 4096) (hb : ∀ x ∈ l, 0 ≤ x ∧ x < 256) (k : Nat) (hk : 65 ≤ k) : ∃ p s, spec_l01From.f k l = some (l, p, s) ∧ St l p s := by
  obtain ⟨s, e, h1, h2⟩ := from_loop hl hb 0 k 0 93001 (by omega) (by omega) (by omega) (by omega) (by omega)
  exact ⟨0, s, e, hl, hb, by omega, by omega, h1, h2⟩
theorem pick_eq {l : List Int} {p s : Int} (h : St l p s) (L : List Int) (hL : 0 < L.length) : ∃ v p' s', spec_l01Pick.f l p s L = some (v, p', s') ∧ St l p' s' ∧ v ∈ L := by
  unfold spec_l01Pick.f
  obtain ⟨r, p', s', e, hs, b1, b2⟩ := next_eq h (L.length : Int)
  rw [e]
  simp only [Option.bind_some]
  have hr : r < (L.length : Int) := by rcases b2 with b | b <;> omega
  rw [if_pos b1, if_pos hr]
  exact ⟨_, _, _, rfl, hs, rd_mem b1 hr⟩
theorem big_eq (l : List Int) : laws_big.f l = some (decide ((l.length : Int) > 4096)) := rfl
def bdM (B a b c d : Int) : Prop := (-B ≤ a ∧ a ≤ B) ∧ (-B ≤ b ∧ b ≤ B) ∧ (-B ≤ c ∧ c ≤ B) ∧ (-B ≤ d ∧ d ≤ B)
theorem mul_bdM {A B a b c d a' b' c' d' : Int} (hA : 0 ≤ A) (hA2 : A ≤ 1000) (hB2 : B ≤ 1000) (h : bdM A a b c d) (h' : bdM B a' b' c' d') :
    ∃ p q r s, spec_l02Multiply.f a b c d a' b' c' d' = some (p, q, r, s) ∧ bdM (2 * (A * B)) p q r s := by
  obtain ⟨h1, h2, h3, h4⟩ := h
  obtain ⟨g1, g2, g3, g4⟩ := h'
  have s1 : smallB a b c d = true := smallB_iff.mpr ⟨⟨by omega, by omega⟩, by omega, by omega⟩
  have s2 : smallB a' b' c' d' = true := smallB_iff.mpr ⟨⟨by omega, by omega⟩, by omega, by omega⟩
  rw [spec_l02Multiply_eq s1 s2]
  unfold mul1
  refine ⟨_, _, _, _, rfl, ?_⟩
  have p1 := prod_bd h1.1 h1.2 g1.1 g1.2 hA
  have p2 := prod_bd h2.1 h2.2 g3.1 g3.2 hA
  have p3 := prod_bd h1.1 h1.2 g2.1 g2.2 hA
  have p4 := prod_bd h2.1 h2.2 g4.1 g4.2 hA
  have p5 := prod_bd h3.1 h3.2 g1.1 g1.2 hA
  have p6 := prod_bd h4.1 h4.2 g3.1 g3.2 hA
  have p7 := prod_bd h3.1 h3.2 g2.1 g2.2 hA
  have p8 := prod_bd h4.1 h4.2 g4.1 g4.2 hA
  unfold bdM
  omega
theorem inv_lo {c : Int} (h : -10 ≤ c ∧ c ≤ 10) : spec_l02Inverse.f 1 0 c 1 = some (1, 0, -c, 1) := by
  unfold spec_l02Inverse.f spec_l02Det.f
  have e : wrap64 (wrap64 (1 * 1) - wrap64 (0 * c)) = 1 := by unfold wrap64; omega
  simp only [Option.bind_some, e]
  rw [wrap_id (x := -1) (by omega) (by omega), wrap_id (x := 1 * 1) (by omega) (by omega), wrap_id (x := -1 * 0) (by omega) (by omega), wrap_id (x := -1 * c) (by omega) (by omega)]
  congr 3; congr 1; omega
theorem inv_up {b : Int} (h : -10 ≤ b ∧ b ≤ 10) : spec_l02Inverse.f 1 b 0 1 = some (1, -b, 0, 1) := by
  unfold spec_l02Inverse.f spec_l02Det.f
  have e : wrap64 (wrap64 (1 * 1) - wrap64 (b * 0)) = 1 := by unfold wrap64; omega
  simp only [Option.bind_some, e]
  rw [wrap_id (x := -1) (by omega) (by omega), wrap_id (x := 1 * 1) (by omega) (by omega), wrap_id (x := -1 * 0) (by omega) (by omega), wrap_id (x := -1 * b) (by omega) (by omega)]
  congr 2; congr 1; omega
theorem fin_step {l : List Int} {p s : Int} (h : St l p s) {n B a b c d : Int} (hn : 0 < n) (hn2 : n ≤ 10) (hB : 0 ≤ B) (hB2 : 16 * B ≤ 1000) (hb : bdM B a b c d) :
    ∃ p' s' a' b' c' d', St l p' s' ∧ bdM (16 * B) a' b' c' d' ∧ ∀ k, spec_l02DrawFinite.l0 (k + 1) n l p s a b c d = spec_l02DrawFinite.l0 k (n - 1) l p' s' a' b' c' d' := by
  obtain ⟨r1, p1, s1, e1, h1, b1, c1⟩ := next_eq h 5
  obtain ⟨r2, p2, s2, e2, h2, b2, c2⟩ := next_eq h1 2
  by_cases hr : r2 = 0
  · obtain ⟨r3, p3, s3, e3, h3, b3, c3⟩ := next_eq h2 5
    obtain ⟨t1, t2, t3, t4, q1, q2⟩ := mul_bdM (A := 2) (B := B) (a := 1) (b := 0) (c := r3 - 2) (d := 1) (by omega) (by omega) (by omega) (by unfold bdM; omega) hb
    obtain ⟨u1, u2, u3, u4, q3, q4⟩ := mul_bdM (A := 2 * (2 * B)) (B := 2) (a' := 1) (b' := 0) (c' := -(r3 - 2)) (d' := 1) (by omega) (by omega) (by omega) q2 (by unfold bdM; omega)
    refine ⟨p3, s3, u1, u2, u3, u4, h3, by unfold bdM at q4 ⊢; omega, fun k => ?_⟩
    rw [spec_l02DrawFinite.l0, if_pos hn, e1]
    simp only [Option.bind_some]
    rw [e2]
    simp only [Option.bind_some]
    rw [if_pos hr, e3]
    simp only [Option.bind_some]
    rw [wrap_id (x := r3 - 2) (by omega) (by omega), wrap_id (x := n - 1) (by omega) (by omega), q1, inv_lo (by omega)]
    simp only [Option.bind_some]
    rw [q3]
    rfl
  · obtain ⟨t1, t2, t3, t4, q1, q2⟩ := mul_bdM (A := 2) (B := B) (a := 1) (b := r1 - 2) (c := 0) (d := 1) (by omega) (by omega) (by omega) (by unfold bdM; omega) hb
    obtain ⟨u1, u2, u3, u4, q3, q4⟩ := mul_bdM (A := 2 * (2 * B)) (B := 2) (a' := 1) (b' := -(r1 - 2)) (c' := 0) (d' := 1) (by omega) (by omega) (by omega) q2 (by unfold bdM; omega)
    refine ⟨p2, s2, u1, u2, u3, u4, h2, by unfold bdM at q4 ⊢; omega, fun k => ?_⟩
    rw [spec_l02DrawFinite.l0, if_pos hn, e1]
    simp only [Option.bind_some]
    rw [e2]
    simp only [Option.bind_some]
    rw [if_neg hr]
    rw [wrap_id (x := r1 - 2) (by omega) (by omega), wrap_id (x := n - 1) (by omega) (by omega), q1, inv_up (by omega)]
    simp only [Option.bind_some]
    rw [q3]
    rfl
theorem fin_end (k : Nat) (l : List Int) (p s a b c d : Int) : spec_l02DrawFinite.l0 (k + 1) 0 l p s a b c d = some (a, b, c, d, p, s) := by
  rw [spec_l02DrawFinite.l0, if_neg (by decide)]
theorem fin_all {l : List Int} {p s : Int} (h : St l p s) {n a b c d : Int} (hn : 0 ≤ n ∧ n ≤ 2) (hb : bdM 1 a b c d) (k : Nat) :
    ∃ p' s' a' b' c' d', St l p' s' ∧ bdM 256 a' b' c' d' ∧ spec_l02DrawFinite.l0 (k + 3) n l p s a b c d = some (a', b', c', d', p', s') := by
  have hh : n = 0 ∨ n = 1 ∨ n = 2 := by omega
  rcases hh with rfl | rfl | rfl
  · exact ⟨p, s, a, b, c, d, h, by unfold bdM at hb ⊢; omega, fin_end _ _ _ _ _ _ _ _⟩
  · obtain ⟨p1, s1, a1, b1, c1, d1, h1, hb1, e1⟩ := fin_step (n := 1) h (by decide) (by decide) (by decide) (by decide) hb
    exact ⟨p1, s1, a1, b1, c1, d1, h1, by unfold bdM at hb1 ⊢; omega, (e1 _).trans (fin_end _ _ _ _ _ _ _ _)⟩
  · obtain ⟨p1, s1, a1, b1, c1, d1, h1, hb1, e1⟩ := fin_step (n := 2) h (by decide) (by decide) (by decide) (by decide) hb
    obtain ⟨p2, s2, a2, b2, c2, d2, h2, hb2, e2⟩ := fin_step (n := 2 - 1) h1 (by decide) (by decide) (by decide) (by decide) hb1
    exact ⟨p2, s2, a2, b2, c2, d2, h2, by unfold bdM at hb2 ⊢; omega, (e1 _).trans ((e2 _).trans (fin_end _ _ _ _ _ _ _ _))⟩
theorem rd_SM_mem {L : List S51} {i : Int} (h0 : 0 ≤ i) (h1 : i < (L.length : Int)) : rd_T51 L i ∈ L := by
  unfold rd_T51
  have h : i.toNat < L.length := by omega
  have e : L.getD i.toNat z51 = L[i.toNat] := by simp [List.getD, h]
  rw [e]
  exact List.getElem_mem h
theorem drawFin_eq {l : List Int} {p s : Int} (h : St l p s) (k : Nat) : ∃ p' s' a' b' c' d', St l p' s' ∧ bdM 256 a' b' c' d' ∧ spec_l02DrawFinite.f (k + 3) l p s = some (a', b', c', d', p', s') := by
  unfold spec_l02DrawFinite.f
  obtain ⟨r1, p1, s1, e1, h1, b1, c1⟩ := next_eq h 8
  obtain ⟨r2, p2, s2, e2, h2, b2, c2⟩ := next_eq h1 3
  simp only [Option.bind_some]
  have hm : ∀ m ∈ ([⟨1, 0, 0, 1⟩, ⟨-1, 0, 0, -1⟩, ⟨0, -1, 1, 0⟩, ⟨0, -1, 1, 1⟩, ⟨-1, -1, 1, 0⟩, ⟨1, 0, 0, -1⟩, ⟨0, 1, 1, 0⟩, ⟨1, 1, 0, -1⟩] : List S51), bdM 1 m.f0 m.f1 m.f2 m.f3 := by
    intro m hm
    simp only [List.mem_cons, List.not_mem_nil, or_false] at hm
    rcases hm with rfl | rfl | rfl | rfl | rfl | rfl | rfl | rfl <;> (unfold bdM; decide)
  rw [e1]
  simp only [Option.bind_some]
  rw [if_pos b1, if_pos (by simp; omega), e2]
  simp only [Option.bind_some]
  exact fin_all h2 (by omega) (hm _ (rd_SM_mem b1 (by simp; omega))) k
def goodM (a b c d : Int) : Prop := bdM 999 a b c d ∨ ordV a b c d = 0
def okD (l : List Int) (n C : Int) (K : Nat) : Prop := ∀ p s a b c d k, St l p s → bdM C a b c d → K ≤ k →
  ∃ p' s' a' b' c' d', St l p' s' ∧ goodM a' b' c' d' ∧ spec_l02Draw.l0 k n l p s a b c d = some (a', b', c', d', p', s')
theorem draw2_end (l : List Int) : okD l 0 256 1 := by
  intro p s a b c d k h hb hk
  obtain ⟨k, rfl⟩ : ∃ m, k = m + 1 := ⟨k - 1, by omega⟩
  obtain ⟨r1, p1, s1, e1, h1, b1, c1⟩ := next_eq h 20
  rw [spec_l02Draw.l0, if_neg (by decide), e1]
  simp only [Option.bind_some]
  by_cases h0 : r1 = 0
  · rw [if_pos h0, wrap_id (x := a + 1) (by unfold bdM at hb; omega) (by unfold bdM at hb; omega)]
    exact ⟨_, _, _, _, _, _, h1, .inl (by unfold bdM at hb ⊢; omega), rfl⟩
  · rw [if_neg h0]
    by_cases h2 : r1 = 1
    · rw [if_pos h2]
      obtain ⟨v, p2, s2, e2, h3, m3⟩ := pick_eq h1 [999, 1000, 1001] (by decide)
      rw [e2]
      simp only [List.mem_cons, List.not_mem_nil, or_false] at m3
      refine ⟨_, _, _, _, _, _, h3, .inr ?_, rfl⟩
      unfold ordV
      rw [if_neg (by omega), if_neg (by omega), if_neg (by omega), if_neg (by omega), if_neg (by omega)]
    · rw [if_neg h2]
      exact ⟨_, _, _, _, _, _, h1, .inl (by unfold bdM at hb ⊢; omega), rfl⟩
theorem draw2_step {l : List Int} {n C : Int} {K : Nat} (hn : 0 ≤ n ∧ n ≤ 10) (hC : 0 ≤ C) (hC2 : C ≤ 1000) (ih : okD l n (2 * (C * 2)) K) : okD l (n + 1) C (K + 1) := by
  intro p s a b c d k h hb hk
  obtain ⟨k, rfl⟩ : ∃ m, k = m + 1 := ⟨k - 1, by omega⟩
  obtain ⟨r1, p1, s1, e1, h1, b1, c1⟩ := next_eq h 5
  rw [spec_l02Draw.l0, if_pos (by omega)]
  simp only [Option.bind_some]
  rw [e1]
  simp only [Option.bind_some]
  have hm : ∀ m ∈ ([⟨1, 1, 0, 1⟩, ⟨1, 0, 1, 1⟩, ⟨1, -2, 0, 1⟩, ⟨0, 1, 1, 0⟩, ⟨-1, 0, 0, 1⟩] : List S51), bdM 2 m.f0 m.f1 m.f2 m.f3 := by
    intro m hm
    simp only [List.mem_cons, List.not_mem_nil, or_false] at hm
    rcases hm with rfl | rfl | rfl | rfl | rfl <;> (unfold bdM; decide)
  have hmm := hm _ (rd_SM_mem b1 (by simp; omega))
  obtain ⟨t1, t2, t3, t4, q1, q2⟩ := mul_bdM hC hC2 (by omega) hb hmm
  rw [if_pos b1, if_pos (by simp; omega), q1]
  simp only [Option.bind_some]
  rw [wrap_id (x := n + 1 - 1) (by omega) (by omega), Int.add_sub_cancel]
  exact ih _ _ _ _ _ _ _ h1 q2 (by omega)
theorem draw2_eq {l : List Int} {p s : Int} (h : St l p s) (k : Nat) (hk : 10 ≤ k) : ∃ p' s' a' b' c' d', St l p' s' ∧ goodM a' b' c' d' ∧ spec_l02Draw.f k l p s = some (a', b', c', d', p', s') := by
  unfold spec_l02Draw.f
  obtain ⟨r1, p1, s1, e1, h1, b1, c1⟩ := next_eq h 3
  rw [e1]
  simp only [Option.bind_some]
  split
  · obtain ⟨k, rfl⟩ : ∃ m, k = m + 3 := ⟨k - 3, by omega⟩
    obtain ⟨p2, s2, a, b, c, d, h2, hb, e2⟩ := drawFin_eq h1 k
    rw [e2]
    exact ⟨p2, s2, a, b, c, d, h2, .inl (by unfold bdM at hb ⊢; omega), rfl⟩
  · obtain ⟨r2, p2, s2, e2, h2, b2, c2⟩ := next_eq h1 5
    rw [e2]
    unfold spec_l02Unit.f
    simp only [Option.bind_some]
    have o0 := draw2_end l
    have o1 : okD l 1 64 2 := draw2_step (n := 0) (by decide) (by decide) (by decide) o0
    have o2 : okD l 2 16 3 := draw2_step (n := 1) (by decide) (by decide) (by decide) o1
    have o3 : okD l 3 4 4 := draw2_step (n := 2) (by decide) (by decide) (by decide) o2
    have o4 : okD l 4 1 5 := draw2_step (n := 3) (by decide) (by decide) (by decide) o3
    have hr : r2 = 0 ∨ r2 = 1 ∨ r2 = 2 ∨ r2 = 3 ∨ r2 = 4 := by omega
    rcases hr with rfl | rfl | rfl | rfl | rfl
    · exact o0 _ _ _ _ _ _ _ h2 (by unfold bdM; decide) (by omega)
    · exact o1 _ _ _ _ _ _ _ h2 (by unfold bdM; decide) (by omega)
    · exact o2 _ _ _ _ _ _ _ h2 (by unfold bdM; decide) (by omega)
    · exact o3 _ _ _ _ _ _ _ h2 (by unfold bdM; decide) (by omega)
    · exact o4 _ _ _ _ _ _ _ h2 (by unfold bdM; decide) (by omega)
theorem drawOrder_eq {l : List Int} (hl : (l.length : Int) ≤ 4096) (hb : ∀ x ∈ l, 0 ≤ x ∧ x < 256) (k : Nat) (hk : 65 ≤ k) : ∃ a b c d, goodM a b c d ∧ spec_DrawOrderOf.f k l = some (a, b, c, d) := by
  unfold spec_DrawOrderOf.f
  obtain ⟨p, s, e, h⟩ := from_eq hl hb k hk
  rw [e]
  simp only [Option.bind_some]
  obtain ⟨p1, s1, a, b, c, d, h1, hg, e1⟩ := draw2_eq h k (by omega)
  rw [e1]
  exact ⟨_, _, _, _, hg, rfl⟩
theorem drawKind_eq {l : List Int} (hl : (l.length : Int) ≤ 4096) (hb : ∀ x ∈ l, 0 ≤ x ∧ x < 256) (k : Nat) (hk : 65 ≤ k) : ∃ a b c d, spec_DrawMatKind.f k l = some (a, b, c, d) := by
  unfold spec_DrawMatKind.f
  obtain ⟨p, s, e, h⟩ := from_eq hl hb k hk
  rw [e]
  simp only [Option.bind_some]
  obtain ⟨p1, s1, a, b, c, d, h1, hg, e1⟩ := draw2_eq h k (by omega)
  rw [e1]
  exact ⟨_, _, _, _, rfl⟩
theorem drawPower_eq {l : List Int} (hl : (l.length : Int) ≤ 4096) (hb : ∀ x ∈ l, 0 ≤ x ∧ x < 256) (k : Nat) (hk : 65 ≤ k) : ∃ a b c d n, spec_DrawPowerMat.f k l = some (a, b, c, d, n) := by
  unfold spec_DrawPowerMat.f
  obtain ⟨p, s, e, h⟩ := from_eq hl hb k hk
  rw [e]
  simp only [Option.bind_some]
  obtain ⟨r0, p0, s0, e0, h0, _⟩ := next_eq h 12
  rw [e0]
  simp only [Option.bind_some]
  obtain ⟨p1, s1, a, b, c, d, h1, hg, e1⟩ := draw2_eq h0 k (by omega)
  rw [e1]
  simp only [Option.bind_some]
  split
  · obtain ⟨v, p2, s2, e2, h2, _⟩ := pick_eq h1 [-1, 0, 100, 101] (by decide)
    rw [e2]
    exact ⟨_, _, _, _, _, rfl⟩
  · obtain ⟨r, p2, s2, e2, h2, _⟩ := next_eq h1 13
    rw [e2]
    exact ⟨_, _, _, _, _, rfl⟩
theorem pow_step {a b c d : Int} (n : Nat) (x y x' y' : Int) (hx : x' = (a + d) * x + y) (hy : y' = -((a * d - b * c) * x)) (hs : smallB (x' * a + y') (x' * b) (x' * c) (x' * d + y') = true) :
    powL a b c d (n + 1) (x * a + y, x * b, x * c, x * d + y) = powL a b c d n (x' * a + y', x' * b, x' * c, x' * d + y') := by
  subst hx hy
  rw [powL]
  simp only
  rw [ch1]
  simp only
  rw [if_pos hs]
theorem pow_end {a b c d : Int} (p : Int × Int × Int × Int) : powL a b c d 0 p = (p.1, p.2.1, p.2.2.1, p.2.2.2, 0) := rfl
theorem pow_ord {a b c d : Int} (hm : matB a b c d = true) (hb : bdM 999 a b c d) (h0 : ordV a b c d ≠ 0) : powR a b c d (ordV a b c d) = (1, 0, 0, 1, 0) := by
  have hD := (matB_iff.mp hm).2
  unfold bdM at hb
  have u0 : ((1 : Int), (0 : Int), (0 : Int), (1 : Int)) = (0 * a + 1, 0 * b, 0 * c, 0 * d + 1) := by simp
  unfold powR
  rw [if_pos hm]
  unfold ordV at h0 ⊢
  by_cases h1 : a = 1 ∧ b = 0 ∧ c = 0 ∧ d = 1
  · rw [if_pos h1, if_pos (by decide)]
    obtain ⟨rfl, rfl, rfl, rfl⟩ := h1
    rfl
  rw [if_neg h1] at h0 ⊢
  by_cases h2 : (a * d - b * c = -1 ∧ a + d = 0) ∨ (a = -1 ∧ b = 0 ∧ c = 0 ∧ d = -1)
  · rw [if_pos h2, if_pos (by decide)]
    rcases h2 with ⟨h3, h4⟩ | ⟨rfl, rfl, rfl, rfl⟩
    · rw [u0, show (2 : Int).toNat = 1 + 1 from rfl]
      rw [pow_step 1 0 1 1 0 (by omega) (by omega) (by rw [smallB_iff]; omega)]
      rw [pow_step 0 1 0 0 1 (by rw [h4]; decide) (by rw [h3]; decide) (by rw [smallB_iff]; omega), pow_end]
      simp
    · rfl
  rw [if_neg h2] at h0 ⊢
  by_cases h3 : a * d - b * c = 1 ∧ a + d = -1
  · rw [if_pos h3, if_pos (by decide), u0, show (3 : Int).toNat = 2 + 1 from rfl]
    obtain ⟨h3, h4⟩ := h3
    rw [pow_step 2 0 1 1 0 (by omega) (by omega) (by rw [smallB_iff]; omega)]
    rw [pow_step 1 1 0 (-1) (-1) (by rw [h4]; decide) (by rw [h3]; decide) (by rw [smallB_iff]; omega)]
    rw [pow_step 0 (-1) (-1) 0 1 (by rw [h4]; decide) (by rw [h3]; decide) (by rw [smallB_iff]; omega), pow_end]
    simp
  rw [if_neg h3] at h0 ⊢
  by_cases h4 : a * d - b * c = 1 ∧ a + d = 0
  · rw [if_pos h4, if_pos (by decide), u0, show (4 : Int).toNat = 3 + 1 from rfl]
    obtain ⟨h3, h4⟩ := h4
    rw [pow_step 3 0 1 1 0 (by omega) (by omega) (by rw [smallB_iff]; omega)]
    rw [pow_step 2 1 0 0 (-1) (by rw [h4]; decide) (by rw [h3]; decide) (by rw [smallB_iff]; omega)]
    rw [pow_step 1 0 (-1) (-1) 0 (by rw [h4]; decide) (by rw [h3]; decide) (by rw [smallB_iff]; omega)]
    rw [pow_step 0 (-1) 0 0 1 (by rw [h4]; decide) (by rw [h3]; decide) (by rw [smallB_iff]; omega), pow_end]
    simp
  rw [if_neg h4] at h0 ⊢
  by_cases h5 : a * d - b * c = 1 ∧ a + d = 1
  · rw [if_pos h5, if_pos (by decide), u0, show (6 : Int).toNat = 5 + 1 from rfl]
    obtain ⟨h3, h4⟩ := h5
    rw [pow_step 5 0 1 1 0 (by omega) (by omega) (by rw [smallB_iff]; omega)]
    rw [pow_step 4 1 0 1 (-1) (by rw [h4]; decide) (by rw [h3]; decide) (by rw [smallB_iff]; omega)]
    rw [pow_step 3 1 (-1) 0 (-1) (by rw [h4]; decide) (by rw [h3]; decide) (by rw [smallB_iff]; omega)]
    rw [pow_step 2 0 (-1) (-1) 0 (by rw [h4]; decide) (by rw [h3]; decide) (by rw [smallB_iff]; omega)]
    rw [pow_step 1 (-1) 0 (-1) 1 (by rw [h4]; decide) (by rw [h3]; decide) (by rw [smallB_iff]; omega)]
    rw [pow_step 0 (-1) 1 0 1 (by rw [h4]; decide) (by rw [h3]; decide) (by rw [smallB_iff]; omega), pow_end]
    simp
  rw [if_neg h5] at h0
  omega
theorem det_mul1 (a b c d p q r s : Int) : (mul1 a b c d p q r s).1 * (mul1 a b c d p q r s).2.2.2 - (mul1 a b c d p q r s).2.1 * (mul1 a b c d p q r s).2.2.1 = (a * d - b * c) * (p * s - q * r) := by
  unfold mul1; simp only; grind
/-- The last step of a power. -/
theorem pow_last {a b c d : Int} : ∀ (n : Nat) (p : Int × Int × Int × Int), (powL a b c d (n + 1) p).2.2.2.2 = 0 → ∃ q : Int × Int × Int × Int, powL a b c d n p = (q.1, q.2.1, q.2.2.1, q.2.2.2, 0) ∧
    powL a b c d (n + 1) p = ((mul1 a b c d q.1 q.2.1 q.2.2.1 q.2.2.2).1, (mul1 a b c d q.1 q.2.1 q.2.2.1 q.2.2.2).2.1, (mul1 a b c d q.1 q.2.1 q.2.2.1 q.2.2.2).2.2.1, (mul1 a b c d q.1 q.2.1 q.2.2.1 q.2.2.2).2.2.2, 0) ∧
    smallB (mul1 a b c d q.1 q.2.1 q.2.2.1 q.2.2.2).1 (mul1 a b c d q.1 q.2.1 q.2.2.1 q.2.2.2).2.1 (mul1 a b c d q.1 q.2.1 q.2.2.1 q.2.2.2).2.2.1 (mul1 a b c d q.1 q.2.1 q.2.2.1 q.2.2.2).2.2.2 = true ∧
    (matB a b c d = true → matB p.1 p.2.1 p.2.2.1 p.2.2.2 = true → matB q.1 q.2.1 q.2.2.1 q.2.2.2 = true) := by
  intro n
  induction n with
  | zero =>
    intro p h
    refine ⟨p, rfl, ?_⟩
    rw [powL] at h ⊢
    split at h
    · rename_i hs
      rw [if_pos hs]
      exact ⟨rfl, hs, fun _ h => h⟩
    · simp at h
  | succ n ih =>
    intro p h
    rw [powL] at h ⊢
    rw [powL]
    split at h
    · rename_i hs
      rw [if_pos hs]
      obtain ⟨q, h1, h2, h3, h4⟩ := ih _ h
      refine ⟨q, h1, (if_pos hs).trans h2, h3, fun hm hp => h4 hm ?_⟩
      rw [matB_iff] at hm hp ⊢
      refine ⟨hs, ?_⟩
      rw [det_mul1]
      rcases hm.2 with e1 | e1 <;> rcases hp.2 with e2 | e2 <;> rw [e1, e2] <;> decide
    · simp at h
theorem orders_rest (k : Nat) {a b c d : Int} (hg : goodM a b c d) : (if (ordR a b c d).2 = 0 then (if (ordR a b c d).1 = 0 then (some true) else ((impl_PowerMat.f (k + 101) a b c d (ordR a b c d).1).bind fun bt986 => (if bt986.2.2.2.2 = 0 then (some (bt986.1 == 1 && (bt986.2.1 == 0 && (bt986.2.2.1 == 0 && (bt986.2.2.2.1 == 1))))) else (some false)))) else (some true)) = some true := by
  unfold ordR
  by_cases hm : matB a b c d = true
  · rw [if_pos hm, if_pos rfl]
    simp only
    by_cases h0 : ordV a b c d = 0
    · rw [if_pos h0]
    · rw [if_neg h0, impl_PowerMat_eq _ (by omega)]
      rcases hg with hg | hg
      · rw [pow_ord hm hg h0]; rfl
      · exact absurd hg h0
  · rw [if_neg hm, if_neg (by decide)]
theorem orders_j1 (k : Nat) {a b c d p q r s n : Int} (hg : goodM a b c d) (v : Bool) (hv : v = true → (powR p q r s n).2.2.2.2 = 0 ∧ 0 < n) :
    laws_FnOrders.j1 (k + 103) (ordR a b c d).1 (ordR a b c d).2 n v a b c d p q r s (powR p q r s n).1 (powR p q r s n).2.1 (powR p q r s n).2.2.1 (powR p q r s n).2.2.2.1 = some true := by
  rw [show k + 103 = (k + 1 + 101) + 1 by omega, laws_FnOrders.j1]
  cases v with
  | false => rw [if_neg (by decide)]; exact orders_rest (k + 1) hg
  | true =>
    rw [if_pos rfl]
    obtain ⟨h0, hn⟩ := hv rfl
    unfold powR at h0 ⊢
    split at h0
    · rename_i hm
      split at h0
      · rename_i hr
        rw [if_pos hm, if_pos hr]
        obtain ⟨m, hm2⟩ : ∃ m : Nat, n = m + 1 := ⟨n.toNat - 1, by omega⟩
        subst hm2
        rw [show ((m : Int) + 1).toNat = m + 1 by omega] at h0 ⊢
        obtain ⟨u, e1, e2, e3, e4⟩ := pow_last m (1, 0, 0, 1) h0
        have hu := e4 hm (by decide)
        rw [e2, wrap_id (x := (m : Int) + 1 - 1) (by omega) (by omega), Int.add_sub_cancel, impl_PowerMat_eq _ (by omega)]
        simp only [Option.bind_some]
        have e5 : powR p q r s (m : Int) = (u.1, u.2.1, u.2.2.1, u.2.2.2, 0) := by
          unfold powR; rw [if_pos hm, if_pos (by omega), show (m : Int).toNat = m by omega, e1]
        rw [e5]
        simp only
        rw [show k + 1 + 101 = (k + 101) + 1 by omega, impl_MultiplyMats_eq]
        simp only [Option.bind_some]
        have e6 : mulR p q r s u.1 u.2.1 u.2.2.1 u.2.2.2 = ((mul1 p q r s u.1 u.2.1 u.2.2.1 u.2.2.2).1, (mul1 p q r s u.1 u.2.1 u.2.2.1 u.2.2.2).2.1, (mul1 p q r s u.1 u.2.1 u.2.2.1 u.2.2.2).2.2.1, (mul1 p q r s u.1 u.2.1 u.2.2.1 u.2.2.2).2.2.2, 0) := by
          unfold mulR limM; rw [if_pos ⟨hm, hu⟩, if_pos e3]
        rw [e6]
        simp only [if_true, beq_self_eq_true, Bool.not_true, Bool.or_self]
        rw [laws_FnOrders.j2, if_neg (by decide)]
        exact orders_rest k hg
      · simp at h0
    · simp at h0
theorem orders_j0 (k : Nat) {a b c d p q r s n : Int} (hg : goodM a b c d) :
    laws_FnOrders.j0 (k + 104) (ordR a b c d).1 (ordR a b c d).2 n (powR p q r s n).2.2.2.2 false a b c d p q r s (powR p q r s n).1 (powR p q r s n).2.1 (powR p q r s n).2.2.1 (powR p q r s n).2.2.2.1 = some true := by
  rw [show k + 104 = (k + 103) + 1 by omega, laws_FnOrders.j0, if_neg (by decide)]
  by_cases h : (powR p q r s n).2.2.2.2 = 0
  · rw [if_pos h]; exact orders_j1 k hg _ (fun hv => ⟨h, by simpa using hv⟩)
  · rw [if_neg h]; exact orders_j1 k hg _ (fun hv => by cases hv)
theorem main (l0 : List Int) (hm0 : l0.length ≤ maxLen) (y0 : l0.length * 1 ≤ 140737488351232) (w0 : ∀ x ∈ l0, (Go.Lit.int .u8 x).wf = true) : ∃ k, laws_FnOrders.f k l0 = some true := by
  have hb : ∀ x ∈ l0, 0 ≤ x ∧ x < 256 := fun x hx => u8_bd (w0 x hx)
  by_cases hl : (l0.length : Int) ≤ 4096
  · obtain ⟨a, b, c, d, hg, e1⟩ := drawOrder_eq hl hb (100 + 104) (by decide)
    obtain ⟨p, q, r, s, n, e2⟩ := drawPower_eq hl hb (100 + 104) (by decide)
    obtain ⟨t, u, v, w, e3⟩ := drawKind_eq hl hb (100 + 104) (by decide)
    have hj := orders_j0 100 (p := p) (q := q) (r := r) (s := s) (n := n) hg
    refine ⟨100 + 104, ?_⟩
    unfold laws_FnOrders.f
    rw [big_eq, e1, e2, e3, decide_eq_false (by omega)]
    simp only [Option.bind_some]
    rw [impl_OrderOf_eq (200), spec_OrderOf_eq (197), impl_PowerMat_eq _ (by decide), spec_PowerMat_eq _ (by decide), impl_MatKind_eq (200), spec_MatKind_eq (197)]
    simp only [Option.bind_some, Bool.false_eq_true, if_false, beq_self_eq_true, Bool.not_true, Bool.or_self, if_true, bne_self_eq_false]
    exact hj
  · refine ⟨1, ?_⟩
    unfold laws_FnOrders.f
    rw [big_eq, decide_eq_true (by omega)]
    rfl
end Go.Proofs.Ytjjbjaagfjljnaa.PureFnOrders

/-
The law FnExactAxisOf, over numbers and lists alone: the printed functions of the program and of the reference answer alike. No condition but that each number is an int64.
-/
import Derived.Test.YtpkjgcafbkfbgacF32
import Derived.Test.YtpkjgcafbkfbgacSem
import Derived.Test.YtpkjgcafbkfbgacMth
namespace Go.Proofs.Ytpkjgcafbkfbgac.PureFnExactAxisOf
open Go.RowKit Go.Proofs.Ytpkjgcafbkfbgac.F Go.Proofs.YtpkjgcafbkfbgacW.PrintWords Go.Proofs.YtpkjgcafbkfbgacW.PrintLast Go.Proofs.YtpkjgcafbkfbgacW.PrintMore Go.Proofs.Ytpkjgcafbkfbgac.Sem Go.Proofs.Ytpkjgcafbkfbgac.Mth
set_option linter.unusedVariables false
set_option linter.unusedSimpArgs false
theorem spec_l01In_eq (a b c : Int) : spec_l01In.f a b c = some (decide (b ≤ a ∧ a ≤ c)) := by
  unfold spec_l01In.f; split <;> simp <;> omega
theorem impl_within_eq (a b c : Int) : impl_within.f a b c = some (decide (b ≤ a ∧ a ≤ c)) := by
  unfold impl_within.f; split <;> simp <;> omega
theorem spec_IsVec_eq (x y : Int) : spec_IsVec.f x y = some (vecB x y) := by
  unfold spec_IsVec.f vecB; simp only [spec_l01In_eq, Option.bind_some]; split <;> simp_all <;> omega
theorem impl_isCoordinate_eq (a : Int) : impl_isCoordinate.f a = some (decide (-1000 ≤ a ∧ a ≤ 1000)) := by
  unfold impl_isCoordinate.f; simp only [impl_within_eq, Option.bind_some]
theorem impl_IsVec_eq (x y : Int) : impl_IsVec.f x y = some (vecB x y) := by
  unfold impl_IsVec.f vecB; simp only [impl_isCoordinate_eq, Option.bind_some]; split <;> simp_all <;> omega
theorem spec_l01Result_eq (x y : Int) : spec_l01Result.f x y = some (lim x y) := by
  unfold spec_l01Result.f lim; simp only [spec_IsVec_eq, Option.bind_some]; split <;> rfl
theorem impl_limited_eq (x y : Int) : impl_limited.f x y = some (lim x y) := by
  unfold impl_limited.f lim; simp only [impl_IsVec_eq, Option.bind_some]; split <;> rfl
theorem spec_l02Small_eq (a b c d : Int) : spec_l02Small.f a b c d = some (smallB a b c d) := by
  unfold spec_l02Small.f smallB; simp only [spec_IsVec_eq, Option.bind_some, vecB]; split <;> simp_all <;> omega
theorem impl_Mat_isSmall_eq (a b c d : Int) : impl_Mat_isSmall.f a b c d = some (smallB a b c d) := by
  unfold impl_Mat_isSmall.f smallB; simp only [impl_isCoordinate_eq, Option.bind_some, decide_eq_true_eq]
  by_cases h1 : -1000 ≤ a ∧ a ≤ 1000
  · rw [if_pos h1]
    by_cases h2 : -1000 ≤ b ∧ b ≤ 1000
    · rw [if_pos h2]
      by_cases h3 : -1000 ≤ c ∧ c ≤ 1000
      · rw [if_pos h3]
        by_cases h4 : -1000 ≤ d ∧ d ≤ 1000
        · rw [decide_eq_true h4, decide_eq_true (by omega)]
        · rw [decide_eq_false h4, decide_eq_false (by omega)]
      · rw [if_neg h3, decide_eq_false (by omega)]
    · rw [if_neg h2, decide_eq_false (by omega)]
  · rw [if_neg h1, decide_eq_false (by omega)]
theorem spec_IsMat_eq (a b c d : Int) : spec_IsMat.f a b c d = some (matB a b c d) := by
  unfold spec_IsMat.f matB spec_l02Det.f
  simp only [spec_l02Small_eq, Option.bind_some]
  cases h : smallB a b c d with
  | false => simp
  | true => rw [(det_wrap h).1]; simp; split <;> simp_all
theorem impl_IsMat_eq (a b c d : Int) : impl_IsMat.f a b c d = some (matB a b c d) := by
  unfold impl_IsMat.f matB impl_Mat_det.f
  simp only [impl_Mat_isSmall_eq, Option.bind_some]
  cases h : smallB a b c d with
  | false => simp
  | true => rw [(det_wrap h).1]; simp; split <;> simp_all
theorem spec_l01Less_eq (ux uy vx vy : Int) : spec_l01Less.f ux uy vx vy = some (decide (ux < vx ∨ (ux = vx ∧ uy < vy))) := by
  unfold spec_l01Less.f
  by_cases h1 : ux < vx
  · rw [if_pos h1, decide_eq_true (Or.inl h1)]
  · rw [if_neg h1]
    by_cases h2 : ux = vx
    · rw [if_pos h2]; congr 1; exact decide_eq_decide.mpr (by omega)
    · rw [if_neg h2, decide_eq_false (by omega)]
theorem impl_compareVecs_eq (k : Nat) (ux uy vx vy : Int) : impl_compareVecs.f (k + 3) ux uy vx vy = some (cmpv ux uy vx vy) := by
  unfold impl_compareVecs.f impl_compareNumbers.f cmpv
  simp only [impl_compareNumbers.l0, List.length_cons, List.length_nil]
  simp [rd, wrap64]
  by_cases h1 : ux = vx
  · subst h1
    by_cases h2 : uy = vy
    · subst h2; simp
    · rw [if_neg h2]
      by_cases h3 : uy < vy <;> simp [h2, h3]
  · by_cases h2 : ux < vx <;> simp [h1, h2]
theorem spec_l02Multiply_eq {a b c d a' b' c' d' : Int} (h : smallB a b c d = true) (h' : smallB a' b' c' d' = true) : spec_l02Multiply.f a b c d a' b' c' d' = some (mul1 a b c d a' b' c' d') := by
  rw [smallB_iff] at h h'
  unfold spec_l02Multiply.f mul1
  rw [(lin_wrap 1000 (by omega) (by omega) (by omega) (by omega) (by omega) (by omega)).1, (lin_wrap 1000 (by omega) (by omega) (by omega) (by omega) (by omega) (by omega)).1,
    (lin_wrap 1000 (by omega) (by omega) (by omega) (by omega) (by omega) (by omega)).1, (lin_wrap 1000 (by omega) (by omega) (by omega) (by omega) (by omega) (by omega)).1]
theorem impl_gcd_eq : ∀ (k : Nat) (a b : Int), b.natAbs < k → a.natAbs < 9223372036854775808 → b.natAbs < 9223372036854775808 → impl_gcd.l0 k a b = some (Int.gcd a b : Int) := by
  intro k
  induction k with
  | zero => intro a b h; omega
  | succ k ih =>
    intro a b h ha hb
    unfold impl_gcd.l0
    by_cases h0 : b = 0
    · subst h0; rw [if_pos rfl, mx_abs (by omega) (by omega), Int.gcd_zero_right]
    · rw [if_neg h0]
      have h1 := Int.natAbs_tmod a b
      have h2 := Nat.mod_lt a.natAbs (show 0 < b.natAbs by omega)
      rw [ih b (a.tmod b) (by omega) (by omega) (by omega), gcd_tmod]
theorem spec_l01Divisor_eq : ∀ (k : Nat) (a b : Int), b.natAbs < k → a.natAbs < 9223372036854775808 → b.natAbs < 9223372036854775808 → spec_l01Divisor.f k a b = some (Int.gcd a b : Int) := by
  intro k
  induction k with
  | zero => intro a b h; omega
  | succ k ih =>
    intro a b h ha hb
    unfold spec_l01Divisor.f
    by_cases h0 : b = 0
    · subst h0; rw [if_pos rfl, mx_abs (by omega) (by omega), Int.gcd_zero_right]
    · rw [if_neg h0]
      have h1 := Int.natAbs_tmod a b
      have h2 := Nat.mod_lt a.natAbs (show 0 < b.natAbs by omega)
      rw [ih b (a.tmod b) (by omega) (by omega) (by omega), gcd_tmod]; rfl
theorem impl_Mat_order_eq (k : Nat) (a b c d : Int) (h : matB a b c d = true) : impl_Mat_order.f (k + 4) a b c d = some (ordV a b c d) := by
  obtain ⟨h1, h2⟩ := matB_iff.mp h
  unfold impl_Mat_order.f impl_unit.f impl_Mat_det.f ordV
  simp only [impl_Mat_order.j0, impl_Mat_order.j1, impl_Mat_order.j2, impl_Mat_order.j3, impl_Mat_det.f, Option.bind_some, (det_wrap h1).1]
  rw [smallB_iff] at h1
  rw [wrap_id (x := a + d) (by omega) (by omega)]
  generalize a * d - b * c = D at *
  simp only [Bool.and_eq_true, beq_iff_eq]
  by_cases e1 : a = 1 ∧ b = 0 ∧ c = 0 ∧ d = 1
  · rw [if_pos e1, if_pos e1]
  · rw [if_neg e1, if_neg e1]
    by_cases e2 : a = -1 ∧ b = 0 ∧ c = 0 ∧ d = -1
    · obtain ⟨rfl, rfl, rfl, rfl⟩ := e2; simp
    · rcases h2 with rfl | rfl
      · by_cases t1 : a + d = -1
        · simp [t1, e2]
        · by_cases t2 : a + d = 0
          · simp [t1, t2, e2]
          · by_cases t3 : a + d = 1 <;> simp [t1, t2, t3, e2]
      · by_cases t1 : a + d = 0 <;> simp [t1, e2]
theorem order_step {a b c d : Int} (k : Nat) (n n' : Int) (x y x' y' : Int) (h : matB a b c d = true) (hs : smallB (x * a + y) (x * b) (x * c) (x * d + y) = true) (hn : 1 ≤ n ∧ n ≤ 6 ∧ n' = n + 1)
    (ex : x' = (a + d) * x + y) (ey : y' = -((a * d - b * c) * x)) :
    spec_l02Order.l0 (k + 1) n a b c d (x * a + y) (x * b) (x * c) (x * d + y) = if smallB (x' * a + y') (x' * b) (x' * c) (x' * d + y') = true then
      (if x' * a + y' = 1 ∧ x' * b = 0 ∧ x' * c = 0 ∧ x' * d + y' = 1 then some n else spec_l02Order.l0 k n' a b c d (x' * a + y') (x' * b) (x' * c) (x' * d + y')) else some 0 := by
  rw [spec_l02Order.l0, if_pos hn.2.1, spec_l02Multiply_eq (matB_iff.mp h).1 hs, ch1, ← ex, ← ey, wrap_id (x := n + 1) (by omega) (by omega), ← hn.2.2]
  simp only [Option.bind_some, spec_l02Small_eq, spec_l02Unit.f, Bool.and_eq_true, beq_iff_eq]
theorem no_unit {a b c d x y : Int} (hd : a * d - b * c = 1 ∨ a * d - b * c = -1) (hx : x ≠ 0) (h1 : ¬ (a = 1 ∧ b = 0 ∧ c = 0 ∧ d = 1)) (h2 : ¬ (a = -1 ∧ b = 0 ∧ c = 0 ∧ d = -1)) : ¬ (x * a + y = 1 ∧ x * b = 0 ∧ x * c = 0 ∧ x * d + y = 1) := by
  rintro ⟨e1, e2, e3, e4⟩
  have hb : b = 0 := by rcases Int.mul_eq_zero.mp e2 with h | h; exact absurd h hx; exact h
  have hc : c = 0 := by rcases Int.mul_eq_zero.mp e3 with h | h; exact absurd h hx; exact h
  have had : a = d := Int.eq_of_mul_eq_mul_left hx (by omega)
  subst hb hc had
  simp only [Int.zero_mul, Int.sub_zero] at hd
  have hsq := sq_nn a
  have h3 : a * a = 1 := by omega
  have h4 : a ∣ 1 := ⟨a, h3.symm⟩
  rcases unit_of h4 with h | h
  · exact h1 ⟨h, rfl, rfl, h⟩
  · exact h2 ⟨h, rfl, rfl, h⟩
theorem pw4 (t D : Int) : t * (t * t - 2 * D) = t * (t * t - D) + -(D * t) := by grind
theorem pw5 (t D : Int) (h : D * D = 1) : t * t * (t * t) - 3 * D * (t * t) + 1 = t * (t * (t * t - 2 * D)) + -(D * (t * t - D)) := by grind
theorem pw6 (t D : Int) (h : D * D = 1) : t * ((t * t - D) * (t * t - 3 * D)) = t * (t * t * (t * t) - 3 * D * (t * t) + 1) + -(D * (t * (t * t - 2 * D))) := by grind
theorem order_none {a b c d : Int} (h : matB a b c d = true) (e1 : ¬ (a = 1 ∧ b = 0 ∧ c = 0 ∧ d = 1)) (z1 : ¬ (a = -1 ∧ b = 0 ∧ c = 0 ∧ d = -1)) (k : Nat) (n n' x y x' y' : Int) (hn : 1 ≤ n ∧ n ≤ 6 ∧ n' = n + 1)
    (hsm : smallB (x * a + y) (x * b) (x * c) (x * d + y) = true) (ex : x' = (a + d) * x + y) (ey : y' = -((a * d - b * c) * x)) (hx' : x' ≠ 0)
    (hnext : smallB (x' * a + y') (x' * b) (x' * c) (x' * d + y') = true → spec_l02Order.l0 k n' a b c d (x' * a + y') (x' * b) (x' * c) (x' * d + y') = some 0) :
    spec_l02Order.l0 (k + 1) n a b c d (x * a + y) (x * b) (x * c) (x * d + y) = some 0 := by
  rw [order_step k n n' x y x' y' h hsm hn ex ey]
  split
  · rename_i hsm'
    rw [if_neg (no_unit (matB_iff.mp h).2 hx' e1 z1)]; exact hnext hsm'
  · rfl
theorem order_inf {a b c d : Int} (k : Nat) (h : matB a b c d = true) (e1 : ¬ (a = 1 ∧ b = 0 ∧ c = 0 ∧ d = 1)) (z1 : ¬ (a = -1 ∧ b = 0 ∧ c = 0 ∧ d = -1)) (b1 : smallB (1 * a + 0) (1 * b) (1 * c) (1 * d + 0) = true) (t D : Int) (ht : t = a + d) (hD : D = a * d - b * c)
    (n2 : t ≠ 0) (n3 : t * t - D ≠ 0) (n4 : t * t - 2 * D ≠ 0) (n5 : t * t * (t * t) - 3 * D * (t * t) + 1 ≠ 0) (n6 : t * t - 3 * D ≠ 0) (hDD : D * D = 1) :
    spec_l02Order.l0 (k + 6) 2 a b c d (1 * a + 0) (1 * b) (1 * c) (1 * d + 0) = some 0 := by
  have go := @order_none a b c d h e1 z1
  rw [← ht, ← hD] at go
  refine go (k + 5) 2 3 1 0 t (-D) ⟨by decide, by decide, by decide⟩ b1 (by simp) (by simp) n2 fun b2 => ?_
  refine go (k + 4) 3 4 t (-D) (t * t - D) (-(D * t)) ⟨by decide, by decide, by decide⟩ b2 Int.sub_eq_add_neg rfl n3 fun b3 => ?_
  refine go (k + 3) 4 5 (t * t - D) (-(D * t)) (t * (t * t - 2 * D)) (-(D * (t * t - D))) ⟨by decide, by decide, by decide⟩ b3 (pw4 t D) rfl (Int.mul_ne_zero n2 n4) fun b4 => ?_
  refine go (k + 2) 5 6 (t * (t * t - 2 * D)) (-(D * (t * t - D))) (t * t * (t * t) - 3 * D * (t * t) + 1) (-(D * (t * (t * t - 2 * D)))) ⟨by decide, by decide, by decide⟩ b4 (pw5 t D hDD) rfl n5 fun b5 => ?_
  refine go (k + 1) 6 7 (t * t * (t * t) - 3 * D * (t * t) + 1) (-(D * (t * (t * t - 2 * D)))) (t * ((t * t - D) * (t * t - 3 * D))) (-(D * (t * t * (t * t) - 3 * D * (t * t) + 1))) ⟨by decide, by decide, by decide⟩ b5 (pw6 t D hDD) rfl (Int.mul_ne_zero n2 (Int.mul_ne_zero n3 n6)) fun b6 => ?_
  rw [spec_l02Order.l0, if_neg (by decide)]
theorem start_xy (a b c d : Int) : (1 : Int) = 0 * a + 1 ∧ (0 : Int) = 0 * b ∧ (0 : Int) = 0 * c ∧ (1 : Int) = 0 * d + 1 := by omega

theorem spec_l02Order_eq (k : Nat) (a b c d : Int) (h : matB a b c d = true) : spec_l02Order.f (k + 7) a b c d = some (ordV a b c d) := by
  obtain ⟨hs, hd⟩ := matB_iff.mp h
  have hb := smallB_iff.mp hs
  unfold spec_l02Order.f spec_l02Unit.f
  simp only [Option.bind_some]
  have s0 : spec_l02Order.l0 (k + 7) 1 a b c d 1 0 0 1 = spec_l02Order.l0 (k + 6 + 1) 1 a b c d (0 * a + 1) (0 * b) (0 * c) (0 * d + 1) := by simp
  have b0 : smallB (0 * a + 1) (0 * b) (0 * c) (0 * d + 1) = true := by rw [smallB_iff]; omega
  rw [s0, order_step (k + 6) 1 2 0 1 1 0 h b0 (by omega) (by omega) (by omega)]
  rw [if_pos (by rw [smallB_iff]; omega)]
  unfold ordV
  by_cases e1 : a = 1 ∧ b = 0 ∧ c = 0 ∧ d = 1
  · rw [if_pos (by omega), if_pos e1]
  · rw [if_neg (by omega), if_neg e1]
    have b1 : smallB (1 * a + 0) (1 * b) (1 * c) (1 * d + 0) = true := by rw [smallB_iff]; omega
    by_cases e2 : (a * d - b * c = -1 ∧ a + d = 0) ∨ (a = -1 ∧ b = 0 ∧ c = 0 ∧ d = -1)
    · rw [if_pos e2]
      rcases e2 with ⟨e2, t⟩ | e2
      · rw [order_step (k + 5) 2 3 1 0 0 1 h b1 (by omega) (by omega) (by omega), if_pos (by rw [smallB_iff]; omega), if_pos (by omega)]
      · have e3 : a * d - b * c = 1 := by obtain ⟨rfl, rfl, rfl, rfl⟩ := e2; rfl
        rw [order_step (k + 5) 2 3 1 0 (-2) (-1) h b1 (by omega) (by omega) (by omega), if_pos (by rw [smallB_iff]; omega), if_pos (by omega)]
    · rw [if_neg e2]
      by_cases e3 : a * d - b * c = 1 ∧ a + d = -1
      · rw [if_pos e3, order_step (k + 5) 2 3 1 0 (-1) (-1) h b1 (by omega) (by omega) (by omega)]
        have b2 : smallB (-1 * a + -1) (-1 * b) (-1 * c) (-1 * d + -1) = true := by rw [smallB_iff]; omega
        rw [if_pos b2, if_neg (by omega), order_step (k + 4) 3 4 (-1) (-1) 0 1 h b2 (by omega) (by omega) (by omega), if_pos (by rw [smallB_iff]; omega), if_pos (by omega)]
      · rw [if_neg e3]
        by_cases e4 : a * d - b * c = 1 ∧ a + d = 0
        · rw [if_pos e4, order_step (k + 5) 2 3 1 0 0 (-1) h b1 (by omega) (by omega) (by omega)]
          have b2 : smallB (0 * a + -1) (0 * b) (0 * c) (0 * d + -1) = true := by rw [smallB_iff]; omega
          rw [if_pos b2, if_neg (by omega), order_step (k + 4) 3 4 0 (-1) (-1) 0 h b2 (by omega) (by omega) (by omega)]
          have b3 : smallB (-1 * a + 0) (-1 * b) (-1 * c) (-1 * d + 0) = true := by rw [smallB_iff]; omega
          rw [if_pos b3, if_neg (by omega), order_step (k + 3) 4 5 (-1) 0 0 1 h b3 (by omega) (by omega) (by omega), if_pos (by rw [smallB_iff]; omega), if_pos (by omega)]
        · rw [if_neg e4]
          by_cases e5 : a * d - b * c = 1 ∧ a + d = 1
          · rw [if_pos e5, order_step (k + 5) 2 3 1 0 1 (-1) h b1 (by omega) (by omega) (by omega)]
            have b2 : smallB (1 * a + -1) (1 * b) (1 * c) (1 * d + -1) = true := by rw [smallB_iff]; omega
            rw [if_pos b2, if_neg (by omega), order_step (k + 4) 3 4 1 (-1) 0 (-1) h b2 (by omega) (by omega) (by omega)]
            have b3 : smallB (0 * a + -1) (0 * b) (0 * c) (0 * d + -1) = true := by rw [smallB_iff]; omega
            rw [if_pos b3, if_neg (by omega), order_step (k + 3) 4 5 0 (-1) (-1) 0 h b3 (by omega) (by omega) (by omega)]
            have b4 : smallB (-1 * a + 0) (-1 * b) (-1 * c) (-1 * d + 0) = true := by rw [smallB_iff]; omega
            rw [if_pos b4, if_neg (by omega), order_step (k + 2) 5 6 (-1) 0 (-1) 1 h b4 (by omega) (by omega) (by omega)]
            have b5 : smallB (-1 * a + 1) (-1 * b) (-1 * c) (-1 * d + 1) = true := by rw [smallB_iff]; omega
            rw [if_pos b5, if_neg (by omega), order_step (k + 1) 6 7 (-1) 1 0 1 h b5 (by omega) (by omega) (by omega), if_pos (by rw [smallB_iff]; omega), if_pos (by omega)]
          · rw [if_neg e5]
            have z1 : ¬ (a = -1 ∧ b = 0 ∧ c = 0 ∧ d = -1) := fun x => e2 (Or.inr x)
            -- every factor is not 0
            have hx : ∀ t D : Int, t = a + d → D = a * d - b * c → t ≠ 0 ∧ t * t - D ≠ 0 ∧ t * t - 2 * D ≠ 0 ∧ t * t * (t * t) - 3 * D * (t * t) + 1 ≠ 0 ∧ t * t - 3 * D ≠ 0 := by
              intro t D ht hD
              have t2 : t ≠ 0 := by
                intro h0
                rcases hd with hd | hd
                · exact e4 ⟨hd, by omega⟩
                · exact e2 (Or.inl ⟨hd, by omega⟩)
              have hsq := sq_pos t2
              rcases hd with hd | hd
              · have ht4 : 4 ≤ t * t := by
                  have h5 : t ≠ 1 := fun x => e5 ⟨hd, by omega⟩
                  have h6 : t ≠ -1 := fun x => e3 ⟨hd, by omega⟩
                  rcases Int.lt_or_le t 2 with h | h
                  · have := Int.mul_le_mul (show 2 ≤ -t by omega) (show 2 ≤ -t by omega) (by omega) (by omega)
                    rw [Int.neg_mul_neg] at this; omega
                  · have := Int.mul_le_mul h h (by omega) (by omega); omega
                have D1 : D = 1 := by omega
                subst D1
                generalize t * t = T at *
                have : T * T - 3 * T = T * (T - 3) := by grind
                have h7 : 0 < T * (T - 3) := Int.mul_pos (by omega) (by omega)
                refine ⟨t2, by omega, by omega, by omega, ?_⟩
                omega
              · have D1 : D = -1 := by omega
                subst D1
                generalize t * t = T at *
                have h7 : 0 < T * T := Int.mul_pos hsq hsq
                refine ⟨t2, by omega, by omega, by omega, by omega⟩
            obtain ⟨n2, n3, n4, n5, n6⟩ := hx (a + d) (a * d - b * c) rfl rfl
            have hDD : (a * d - b * c) * (a * d - b * c) = 1 := by rcases hd with e | e <;> rw [e] <;> rfl
            exact order_inf k h e1 z1 b1 _ _ rfl rfl n2 n3 n4 n5 n6 hDD
theorem spec_l02Kind_eq (k : Nat) (a b c d : Int) (h : matB a b c d = true) : spec_l02Kind.f (k + 7) a b c d = some (kindV a b c d) := by
  unfold spec_l02Kind.f kindV spec_l02Det.f
  simp only [spec_l02Order_eq k a b c d h, Option.bind_some, (det_wrap (matB_iff.mp h).1).1]
  split
  · rfl
  · split <;> rfl
theorem impl_Mat_isReflection_eq (k : Nat) (a b c d : Int) (h : matB a b c d = true) : impl_Mat_isReflection.f (k + 4) a b c d = some (decide (kindV a b c d = -2)) := by
  have ho := ordV_nonneg a b c d
  unfold impl_Mat_isReflection.f kindV impl_Mat_det.f
  simp only [impl_Mat_order_eq k a b c d h, Option.bind_some, (det_wrap (matB_iff.mp h).1).1]
  rcases (matB_iff.mp h).2 with e | e <;> rw [e]
  · simp; omega
  · simp; by_cases h2 : ordV a b c d = 2 <;> simp [h2]
theorem spec_axis_tail (k : Nat) (x y : Int) (hk : 2000 ≤ k) (hx : -1001 ≤ x ∧ x ≤ 1001) (hy : -1001 ≤ y ∧ y ≤ 1001) (h0 : ¬ (x = 0 ∧ y = 0)) : spec_l02Axis.j0 (k + 1) x y = some (norm1 x y) := by
  rw [spec_l02Axis.j0]; unfold norm1
  have hg := Int.gcd_eq_zero_iff (a := x) (b := y)
  rw [spec_l01Divisor_eq k x y (by omega) (by omega) (by omega)]
  simp only [Option.bind_some]
  rw [if_neg (by omega), tdiv_of_dvd (Int.gcd_dvd_left x y), tdiv_of_dvd (Int.gcd_dvd_right x y)]
  have b1 := Int.natAbs_ediv_le_natAbs x (Int.gcd x y)
  have b2 := Int.natAbs_ediv_le_natAbs y (Int.gcd x y)
  generalize x / (Int.gcd x y : Int) = p at *
  generalize y / (Int.gcd x y : Int) = q at *
  rw [wrap_id (x := p) (by omega) (by omega), wrap_id (x := q) (by omega) (by omega), spec_l01Less_eq]
  simp only [Option.bind_some, decide_eq_true_eq, spec_l01Scale.f]
  split
  · rw [Int.neg_one_mul, Int.neg_one_mul, wrap_id (by omega) (by omega), wrap_id (by omega) (by omega)]
  · rfl
theorem spec_l02Axis_eq (k : Nat) (hk : 2000 ≤ k) {a b c d : Int} (h : matB a b c d = true) (hk2 : kindV a b c d = -2) : spec_l02Axis.f (k + 1) a b c d = some (axisV a b c d) := by
  obtain ⟨hs, hd⟩ := matB_iff.mp h
  rw [smallB_iff] at hs
  unfold spec_l02Axis.f axisV
  rw [wrap_id (x := a + 1) (by omega) (by omega), wrap_id (x := d + 1) (by omega) (by omega)]
  simp only [Bool.and_eq_true, beq_iff_eq]
  split
  · rename_i hz
    refine spec_axis_tail k _ _ hk (by omega) (by omega) ?_
    rintro ⟨rfl, hz2⟩
    obtain ⟨hz1, rfl⟩ := hz
    have e1 : a = -1 := by omega
    have e2 : d = -1 := by omega
    subst e1; subst e2
    simp [kindV, ordV] at hk2
  · rename_i hz
    exact spec_axis_tail k _ _ hk (by omega) (by omega) hz
theorem spec_AxisOf_eq (k : Nat) (hk : 2000 ≤ k) (a b c d : Int) : spec_AxisOf.f (k + 7) a b c d = some (axisR a b c d) := by
  unfold spec_AxisOf.f axisR; simp only [spec_IsMat_eq, Option.bind_some, spec_l01Result_eq]
  split
  · rename_i h
    rw [spec_l02Kind_eq k a b c d h]
    simp only [Option.bind_some]
    split
    · rename_i h2; rw [spec_l02Axis_eq (k + 6) (by omega) h h2]; rfl
    · rfl
  · rfl
theorem impl_axis_tail (k : Nat) (x y : Int) (hk : 2000 ≤ k) (hx : -1001 ≤ x ∧ x ≤ 1001) (hy : -1001 ≤ y ∧ y ≤ 1001) (h0 : ¬ (x = 0 ∧ y = 0)) : impl_AxisOf.j0 (k + 4) x y = some (lim (norm1 x y).1 (norm1 x y).2) := by
  rw [impl_AxisOf.j0]; unfold norm1 impl_gcd.f
  have hg := Int.gcd_eq_zero_iff (a := x) (b := y)
  rw [impl_gcd_eq (k + 3) x y (by omega) (by omega) (by omega)]
  simp only [Option.bind_some]
  rw [if_neg (by omega), tdiv_of_dvd (Int.gcd_dvd_left x y), tdiv_of_dvd (Int.gcd_dvd_right x y)]
  have b1 := Int.natAbs_ediv_le_natAbs x (Int.gcd x y)
  have b2 := Int.natAbs_ediv_le_natAbs y (Int.gcd x y)
  generalize x / (Int.gcd x y : Int) = p at *
  generalize y / (Int.gcd x y : Int) = q at *
  rw [wrap_id (x := p) (by omega) (by omega), wrap_id (x := q) (by omega) (by omega), impl_compareVecs_eq]
  simp only [Option.bind_some, impl_Vec_times.f, impl_limited_eq, cmpv]
  by_cases hc : p < 0 ∨ (p = 0 ∧ q < 0)
  · rw [if_pos hc, if_pos hc, if_pos (by decide), Int.neg_one_mul, Int.neg_one_mul, wrap_id (by omega) (by omega), wrap_id (by omega) (by omega)]
  · rw [if_neg hc, if_neg hc, if_neg (by split <;> decide)]
theorem impl_AxisOf_eq (k : Nat) (hk : 2000 ≤ k) (a b c d : Int) : impl_AxisOf.f (k + 7) a b c d = some (axisR a b c d) := by
  unfold impl_AxisOf.f axisR; simp only [impl_IsMat_eq, Option.bind_some]
  split
  · rename_i h
    obtain ⟨hs, hd⟩ := matB_iff.mp h
    rw [impl_Mat_isReflection_eq (k + 3) a b c d h]
    simp only [Option.bind_some, decide_eq_true_eq]
    split
    · rename_i h2
      have e : a * d - b * c = -1 := by
        rcases hd with e | e
        · have := ordV_nonneg a b c d
          unfold kindV at h2; rw [if_pos e] at h2; omega
        · exact e
      have t : a + d = 0 := kind_refl' e (by rw [h2]; decide)
      rw [smallB_iff] at hs
      have ed : d = -a := by omega
      rw [wrap_id (x := 1 - a) (by omega) (by omega), wrap_id (x := 1 - d) (by omega) (by omega)]
      simp only [Bool.and_eq_true, beq_iff_eq]
      have hp := axis_par e t
      have hn : ¬ ((a + 1 = 0 ∧ c = 0) ∧ b = 0 ∧ d + 1 = 0) := by
        rintro ⟨⟨q1, rfl⟩, rfl, q2⟩; omega
      split
      · rename_i hz
        rw [impl_axis_tail (k + 3) _ _ (by omega) (by omega) (by omega) (by omega)]
        unfold axisV
        have e1 : 1 - d = a + 1 := by omega
        rw [if_neg (by omega), e1]
      · rename_i hz
        rw [impl_axis_tail (k + 3) _ _ (by omega) (by omega) (by omega) hz]
        unfold axisV
        by_cases hw : a + 1 = 0 ∧ c = 0
        · rw [if_pos hw]
          have e1 : 1 - a = d + 1 := by omega
          rw [e1]
        · rw [if_neg hw, norm1_par hw hz hp]
    · rfl
  · rfl
/-- A vector as the printed lists hold it. -/
def mkSV (v : Int × Int) : S28 := ⟨v.1, v.2⟩
theorem main (a0_0 : Int) (a0_1 : Int) (a0_2 : Int) (a0_3 : Int) (w0_0 : (Go.Lit.int .i64 a0_0).wf = true) (w0_1 : (Go.Lit.int .i64 a0_1).wf = true) (w0_2 : (Go.Lit.int .i64 a0_2).wf = true) (w0_3 : (Go.Lit.int .i64 a0_3).wf = true) : ∃ k, laws_FnExactAxisOf.f k a0_0 a0_1 a0_2 a0_3 = some true := by
  refine ⟨2000 + 7, ?_⟩
  unfold laws_FnExactAxisOf.f
  simp only [laws_toMat.f, Option.bind_some]
  rw [spec_AxisOf_eq _ (by decide), impl_AxisOf_eq _ (by decide)]
  simp [laws_eqVec.f]
end Go.Proofs.Ytpkjgcafbkfbgac.PureFnExactAxisOf

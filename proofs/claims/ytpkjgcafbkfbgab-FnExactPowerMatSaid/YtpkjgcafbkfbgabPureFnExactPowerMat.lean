/-
The law FnExactPowerMat, over numbers and lists alone: the printed functions of the program and of the reference answer alike. No condition but that each number is an int64.
-/
import Derived.Test.YtpkjgcafbkfbgabF9
import Derived.Test.YtpkjgcafbkfbgabSem
import Derived.Test.YtpkjgcafbkfbgabMth
namespace Go.Proofs.Ytpkjgcafbkfbgab.PureFnExactPowerMat
open Go.RowKit Go.Proofs.Ytpkjgcafbkfbgab.F Go.Proofs.YtpkjgcafbkfbgabW.PrintWords Go.Proofs.YtpkjgcafbkfbgabW.PrintLast Go.Proofs.YtpkjgcafbkfbgabW.PrintMore Go.Proofs.Ytpkjgcafbkfbgab.Sem Go.Proofs.Ytpkjgcafbkfbgab.Mth
set_option linter.unusedVariables false
set_option linter.unusedSimpArgs false
theorem spec_l01In_eq (a b c : Int) : spec_l01In.f a b c = some (decide (b ≤ a ∧ a ≤ c)) := by
  unfold spec_l01In.f; split <;> simp <;> omega
theorem impl_within_eq (a b c : Int) : impl_within.f a b c = some (decide (b ≤ a ∧ a ≤ c)) := by
  unfold impl_within.f; split <;> simp <;> omega
theorem spec_IsVec_eq (x y : Int) : spec_IsVec.f x y = some (vecB x y) := by
  unfold spec_IsVec.f vecB; simp only [spec_l01In_eq, Option.bind_some]; split <;> simp_all <;> omega
theorem impl_isCoordinate_eq (a : Int) : impl_isCoordinate.f a = some (decide (-1000 ≤ a ∧ a ≤ 1000)) := by
  unfold impl_isCoordinate.f; simp only [impl_within_eq, Option.bind_some]
theorem spec_l02Small_eq (a b c d : Int) : spec_l02Small.f a b c d = some (smallB a b c d) := by
  unfold spec_l02Small.f smallB; simp only [spec_IsVec_eq, Option.bind_some, vecB]; split <;> simp_all <;> omega
theorem impl_Mat_isSmall_eq (a b c d : Int) : impl_Mat_isSmall.f a b c d = some (smallB a b c d) := by
  unfold impl_Mat_isSmall.f smallB; simp only [impl_isCoordinate_eq, Option.bind_some, decide_eq_true_eq]
  by_cases h1 : -1000 ≤ a ∧ a ≤ 1000
  · rw [if_pos h1]
    by_cases h2 : -1000 ≤ b ∧ b ≤ 1000
    · rw [if_pos h2]
      by_cases h3 : -1000 ≤ c ∧ c ≤ 1000
      · rw [if_pos h3]
        by_cases h4 : -1000 ≤ d ∧ d ≤ 1000
        · rw [decide_eq_true h4, decide_eq_true (by omega)]
        · rw [decide_eq_false h4, decide_eq_false (by omega)]
      · rw [if_neg h3, decide_eq_false (by omega)]
    · rw [if_neg h2, decide_eq_false (by omega)]
  · rw [if_neg h1, decide_eq_false (by omega)]
theorem spec_IsMat_eq (a b c d : Int) : spec_IsMat.f a b c d = some (matB a b c d) := by
  unfold spec_IsMat.f matB spec_l02Det.f
  simp only [spec_l02Small_eq, Option.bind_some]
  cases h : smallB a b c d with
  | false => simp
  | true => rw [(det_wrap h).1]; simp; split <;> simp_all
theorem impl_IsMat_eq (a b c d : Int) : impl_IsMat.f a b c d = some (matB a b c d) := by
  unfold impl_IsMat.f matB impl_Mat_det.f
  simp only [impl_Mat_isSmall_eq, Option.bind_some]
  cases h : smallB a b c d with
  | false => simp
  | true => rw [(det_wrap h).1]; simp; split <;> simp_all
theorem spec_l02Multiply_eq {a b c d a' b' c' d' : Int} (h : smallB a b c d = true) (h' : smallB a' b' c' d' = true) : spec_l02Multiply.f a b c d a' b' c' d' = some (mul1 a b c d a' b' c' d') := by
  rw [smallB_iff] at h h'
  unfold spec_l02Multiply.f mul1
  rw [(lin_wrap 1000 (by omega) (by omega) (by omega) (by omega) (by omega) (by omega)).1, (lin_wrap 1000 (by omega) (by omega) (by omega) (by omega) (by omega) (by omega)).1,
    (lin_wrap 1000 (by omega) (by omega) (by omega) (by omega) (by omega) (by omega)).1, (lin_wrap 1000 (by omega) (by omega) (by omega) (by omega) (by omega) (by omega)).1]
theorem impl_Mat_times_eq {a b c d a' b' c' d' : Int} (h : smallB a b c d = true) (h' : smallB a' b' c' d' = true) : impl_Mat_times.f a b c d a' b' c' d' = some (mul1 a b c d a' b' c' d') := by
  rw [smallB_iff] at h h'
  unfold impl_Mat_times.f mul1
  rw [(lin_wrap 1000 (by omega) (by omega) (by omega) (by omega) (by omega) (by omega)).1, (lin_wrap 1000 (by omega) (by omega) (by omega) (by omega) (by omega) (by omega)).1,
    (lin_wrap 1000 (by omega) (by omega) (by omega) (by omega) (by omega) (by omega)).1, (lin_wrap 1000 (by omega) (by omega) (by omega) (by omega) (by omega) (by omega)).1]
theorem spec_pow_loop {a b c d : Int} (h : matB a b c d = true) : ∀ (n k : Nat) (i N p q r s : Int), smallB p q r s = true → i + n = N → 0 ≤ i → N ≤ 100 → n < k →
    spec_PowerMat.l0 k N i a b c d p q r s = some (powL a b c d n (p, q, r, s)) := by
  intro n
  induction n with
  | zero =>
    intro k i N p q r s hs hi h0 hN hk
    obtain ⟨k, rfl⟩ : ∃ m, k = m + 1 := ⟨k - 1, by omega⟩
    rw [spec_PowerMat.l0, if_neg (by omega)]; rfl
  | succ n ih =>
    intro k i N p q r s hs hi h0 hN hk
    obtain ⟨k, rfl⟩ : ∃ m, k = m + 1 := ⟨k - 1, by omega⟩
    rw [spec_PowerMat.l0, if_pos (by omega), spec_l02Multiply_eq (matB_iff.mp h).1 hs, wrap_id (x := i + 1) (by omega) (by omega)]
    simp only [Option.bind_some, spec_l02Small_eq, powL]
    split
    · rename_i hs'
      rw [ih k (i + 1) N _ _ _ _ hs' (by omega) (by omega) hN (by omega)]
    · rfl
theorem spec_PowerMat_eq (k : Nat) (hk : 101 ≤ k) (a b c d n : Int) : spec_PowerMat.f k a b c d n = some (powR a b c d n) := by
  unfold spec_PowerMat.f powR spec_l02Unit.f
  simp only [spec_IsMat_eq, spec_l01In_eq, Option.bind_some, decide_eq_true_eq]
  split
  · rename_i h
    split
    · rename_i hn
      exact spec_pow_loop h n.toNat k 0 n 1 0 0 1 (by decide) (by omega) (by omega) (by omega) (by omega)
    · rfl
  · rfl
theorem impl_pow_loop {a b c d : Int} (h : matB a b c d = true) : ∀ (n k : Nat) (i N x y : Int), smallB (x * a + y) (x * b) (x * c) (x * d + y) = true → i + n = N → 0 ≤ i → N ≤ 100 → n < k →
    impl_PowerMat.l0 k N i a b c d (x * a + y) (x * b) (x * c) (x * d + y) = some (powL a b c d n (x * a + y, x * b, x * c, x * d + y)) := by
  intro n
  induction n with
  | zero =>
    intro k i N x y hs hi h0 hN hk
    obtain ⟨k, rfl⟩ : ∃ m, k = m + 1 := ⟨k - 1, by omega⟩
    rw [impl_PowerMat.l0, if_neg (by omega)]; rfl
  | succ n ih =>
    intro k i N x y hs hi h0 hN hk
    obtain ⟨k, rfl⟩ : ∃ m, k = m + 1 := ⟨k - 1, by omega⟩
    rw [impl_PowerMat.l0, if_pos (by omega), impl_Mat_times_eq hs (matB_iff.mp h).1, wrap_id (x := i + 1) (by omega) (by omega), ← mul_comm1]
    simp only [Option.bind_some, impl_Mat_isSmall_eq, powL]
    rw [ch1]
    split
    · rename_i hs'
      exact ih k (i + 1) N _ _ hs' (by omega) (by omega) hN (by omega)
    · rfl
theorem impl_PowerMat_eq (k : Nat) (hk : 101 ≤ k) (a b c d n : Int) : impl_PowerMat.f k a b c d n = some (powR a b c d n) := by
  unfold impl_PowerMat.f powR impl_unit.f
  simp only [impl_IsMat_eq, impl_within_eq, Option.bind_some, decide_eq_true_eq]
  split
  · rename_i h
    split
    · rename_i hn
      have := impl_pow_loop h n.toNat k 0 n 0 1 (by rw [smallB_iff]; omega) (by omega) (by omega) (by omega) (by omega)
      simp only [Int.zero_mul, Int.zero_add] at this
      exact this
    · rfl
  · rfl
/-- A vector as the printed lists hold it. -/
def mkSV (v : Int × Int) : S41 := ⟨v.1, v.2⟩
def rowL (a b q : Int) : Nat → List S54
  | 0 => []
  | d + 1 => ⟨a, b, q⟩ :: rowL a (b + 1) q d
theorem rowL_len (a q : Int) : ∀ (d : Nat) (b : Int), (rowL a b q d).length = d := by
  intro d
  induction d with
  | zero => intro b; rfl
  | succ d ih => intro b; simp [rowL, ih]
def subL (n a : Int) : Nat → List S54
  | 0 => []
  | d + 1 => (if n % a = 0 then rowL a 0 (n / a) a.toNat else []) ++ subL n (a + 1) d
theorem subL_len (n : Int) : ∀ (d : Nat) (a : Int), 0 ≤ a → (subL n a d).length ≤ d * (a.toNat + d) := by
  intro d
  induction d with
  | zero => intro a _; simp [subL]
  | succ d ih =>
    intro a ha
    have h1 := ih (a + 1) (by omega)
    have e : (d + 1) * (a.toNat + (d + 1)) = d * ((a + 1).toNat + d) + (a.toNat + (d + 1)) := by
      rw [show (a + 1).toNat = a.toNat + 1 by omega, Nat.add_mul]; simp; rw [show a.toNat + 1 + d = a.toNat + (d + 1) by omega]
    rw [e]
    simp only [subL, List.length_append]
    split
    · rw [rowL_len]; omega
    · simp only [List.length_nil]; omega
def sublS (n : Int) : List S54 × Int := if 1 ≤ n ∧ n ≤ 64 then (subL n 1 n.toNat, 0) else ([], 2)
theorem sublS_len (n : Int) : (sublS n).1.length ≤ 5000 := by
  unfold sublS
  split
  · rename_i h
    have := subL_len n n.toNat 1 (by omega)
    have hm : n.toNat * (Int.toNat 1 + n.toNat) ≤ 64 * 65 := Nat.mul_le_mul (by omega) (by omega)
    simp only; omega
  · simp
theorem main (a0_0 : Int) (a0_1 : Int) (a0_2 : Int) (a0_3 : Int) (a1 : Int) (w0_0 : (Go.Lit.int .i64 a0_0).wf = true) (w0_1 : (Go.Lit.int .i64 a0_1).wf = true) (w0_2 : (Go.Lit.int .i64 a0_2).wf = true) (w0_3 : (Go.Lit.int .i64 a0_3).wf = true) (w1 : (Go.Lit.int .i64 a1).wf = true) : ∃ k, laws_FnExactPowerMat.f k a0_0 a0_1 a0_2 a0_3 a1 = some true := by
  refine ⟨101, ?_⟩
  unfold laws_FnExactPowerMat.f
  simp only [laws_toMat.f, Option.bind_some]
  rw [spec_PowerMat_eq _ (by decide), impl_PowerMat_eq _ (by decide)]
  simp [laws_eqMat.f]
end Go.Proofs.Ytpkjgcafbkfbgab.PureFnExactPowerMat

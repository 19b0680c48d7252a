/-
The law FnExactMultiplyMats, over numbers and lists alone: the printed functions of the program and of the reference answer alike. No condition but that each number is an int64.
-/
import Derived.Test.YtpkjgcafbkfbgaaF32
import Derived.Test.YtpkjgcafbkfbgaaSem
import Derived.Test.YtpkjgcafbkfbgaaMth
namespace Go.Proofs.Ytpkjgcafbkfbgaa.PureFnExactMultiplyMats
open Go.RowKit Go.Proofs.Ytpkjgcafbkfbgaa.F Go.Proofs.YtpkjgcafbkfbgaaW.PrintWords Go.Proofs.YtpkjgcafbkfbgaaW.PrintLast Go.Proofs.YtpkjgcafbkfbgaaW.PrintMore Go.Proofs.Ytpkjgcafbkfbgaa.Sem Go.Proofs.Ytpkjgcafbkfbgaa.Mth
set_option linter.unusedVariables false
set_option linter.unusedSimpArgs false
theorem spec_l01In_eq (a b c : Int) : spec_l01In.f a b c = some (decide (b ≤ a ∧ a ≤ c)) := by
  unfold spec_l01In.f; split <;> simp <;> omega
theorem impl_within_eq (a b c : Int) : impl_within.f a b c = some (decide (b ≤ a ∧ a ≤ c)) := by
  unfold impl_within.f; split <;> simp <;> omega
theorem spec_IsVec_eq (x y : Int) : spec_IsVec.f x y = some (vecB x y) := by
  unfold spec_IsVec.f vecB; simp only [spec_l01In_eq, Option.bind_some]; split <;> simp_all <;> omega
theorem impl_isCoordinate_eq (a : Int) : impl_isCoordinate.f a = some (decide (-1000 ≤ a ∧ a ≤ 1000)) := by
  unfold impl_isCoordinate.f; simp only [impl_within_eq, Option.bind_some]
theorem spec_l02Small_eq (a b c d : Int) : spec_l02Small.f a b c d = some (smallB a b c d) := by
  unfold spec_l02Small.f smallB; simp only [spec_IsVec_eq, Option.bind_some, vecB]; split <;> simp_all <;> omega
theorem impl_Mat_isSmall_eq (a b c d : Int) : impl_Mat_isSmall.f a b c d = some (smallB a b c d) := by
  unfold impl_Mat_isSmall.f smallB; simp only [impl_isCoordinate_eq, Option.bind_some, decide_eq_true_eq]
  by_cases h1 : -1000 ≤ a ∧ a ≤ 1000
  · rw [if_pos h1]
    by_cases h2 : -1000 ≤ b ∧ b ≤ 1000
    · rw [if_pos h2]
      by_cases h3 : -1000 ≤ c ∧ c ≤ 1000
      · rw [if_pos h3]
        by_cases h4 : -1000 ≤ d ∧ d ≤ 1000
        · rw [decide_eq_true h4, decide_eq_true (by omega)]
        · rw [decide_eq_false h4, decide_eq_false (by omega)]
      · rw [if_neg h3, decide_eq_false (by omega)]
    · rw [if_neg h2, decide_eq_false (by omega)]
  · rw [if_neg h1, decide_eq_false (by omega)]
theorem spec_IsMat_eq (a b c d : Int) : spec_IsMat.f a b c d = some (matB a b c d) := by
  unfold spec_IsMat.f matB spec_l02Det.f
  simp only [spec_l02Small_eq, Option.bind_some]
  cases h : smallB a b c d with
  | false => simp
  | true => rw [(det_wrap h).1]; simp; split <;> simp_all
theorem impl_IsMat_eq (a b c d : Int) : impl_IsMat.f a b c d = some (matB a b c d) := by
  unfold impl_IsMat.f matB impl_Mat_det.f
  simp only [impl_Mat_isSmall_eq, Option.bind_some]
  cases h : smallB a b c d with
  | false => simp
  | true => rw [(det_wrap h).1]; simp; split <;> simp_all
theorem spec_l02Multiply_eq {a b c d a' b' c' d' : Int} (h : smallB a b c d = true) (h' : smallB a' b' c' d' = true) : spec_l02Multiply.f a b c d a' b' c' d' = some (mul1 a b c d a' b' c' d') := by
  rw [smallB_iff] at h h'
  unfold spec_l02Multiply.f mul1
  rw [(lin_wrap 1000 (by omega) (by omega) (by omega) (by omega) (by omega) (by omega)).1, (lin_wrap 1000 (by omega) (by omega) (by omega) (by omega) (by omega) (by omega)).1,
    (lin_wrap 1000 (by omega) (by omega) (by omega) (by omega) (by omega) (by omega)).1, (lin_wrap 1000 (by omega) (by omega) (by omega) (by omega) (by omega) (by omega)).1]
theorem impl_Mat_times_eq {a b c d a' b' c' d' : Int} (h : smallB a b c d = true) (h' : smallB a' b' c' d' = true) : impl_Mat_times.f a b c d a' b' c' d' = some (mul1 a b c d a' b' c' d') := by
  rw [smallB_iff] at h h'
  unfold impl_Mat_times.f mul1
  rw [(lin_wrap 1000 (by omega) (by omega) (by omega) (by omega) (by omega) (by omega)).1, (lin_wrap 1000 (by omega) (by omega) (by omega) (by omega) (by omega) (by omega)).1,
    (lin_wrap 1000 (by omega) (by omega) (by omega) (by omega) (by omega) (by omega)).1, (lin_wrap 1000 (by omega) (by omega) (by omega) (by omega) (by omega) (by omega)).1]
theorem spec_l02Result_eq (m : Int × Int × Int × Int) : spec_l02Result.f m.1 m.2.1 m.2.2.1 m.2.2.2 = some (limM m) := by
  unfold spec_l02Result.f limM; simp only [spec_l02Small_eq, Option.bind_some]; split <;> rfl
theorem spec_MultiplyMats_eq (k : Nat) (a b c d a' b' c' d' : Int) : spec_MultiplyMats.f (k + 1) a b c d a' b' c' d' = some (mulR a b c d a' b' c' d') := by
  unfold spec_MultiplyMats.f mulR
  simp only [spec_IsMat_eq, Option.bind_some, spec_MultiplyMats.j0]
  cases h : matB a b c d with
  | false => simp
  | true =>
    cases h' : matB a' b' c' d' with
    | false => simp
    | true => simp [spec_l02Multiply_eq (matB_iff.mp h).1 (matB_iff.mp h').1, spec_l02Result_eq]
theorem impl_MultiplyMats_eq (k : Nat) (a b c d a' b' c' d' : Int) : impl_MultiplyMats.f (k + 1) a b c d a' b' c' d' = some (mulR a b c d a' b' c' d') := by
  unfold impl_MultiplyMats.f mulR
  simp only [impl_IsMat_eq, Option.bind_some, impl_MultiplyMats.j0]
  cases h : matB a b c d with
  | false => simp
  | true =>
    cases h' : matB a' b' c' d' with
    | false => simp
    | true =>
      simp only [impl_Mat_times_eq (matB_iff.mp h).1 (matB_iff.mp h').1, impl_Mat_isSmall_eq, limM, Option.bind_some, if_true, Bool.not_true, Bool.false_eq_true, if_false, and_self]
      split <;> rfl
theorem main (a0_0 : Int) (a0_1 : Int) (a0_2 : Int) (a0_3 : Int) (a1_0 : Int) (a1_1 : Int) (a1_2 : Int) (a1_3 : Int) (w0_0 : (Go.Lit.int .i64 a0_0).wf = true) (w0_1 : (Go.Lit.int .i64 a0_1).wf = true) (w0_2 : (Go.Lit.int .i64 a0_2).wf = true) (w0_3 : (Go.Lit.int .i64 a0_3).wf = true) (w1_0 : (Go.Lit.int .i64 a1_0).wf = true) (w1_1 : (Go.Lit.int .i64 a1_1).wf = true) (w1_2 : (Go.Lit.int .i64 a1_2).wf = true) (w1_3 : (Go.Lit.int .i64 a1_3).wf = true) : ∃ k, laws_FnExactMultiplyMats.f k a0_0 a0_1 a0_2 a0_3 a1_0 a1_1 a1_2 a1_3 = some true := by
  refine ⟨0 + 1, ?_⟩
  unfold laws_FnExactMultiplyMats.f
  simp only [laws_toMat.f, Option.bind_some]
  rw [spec_MultiplyMats_eq, impl_MultiplyMats_eq]
  simp [laws_eqMat.f]
end Go.Proofs.Ytpkjgcafbkfbgaa.PureFnExactMultiplyMats

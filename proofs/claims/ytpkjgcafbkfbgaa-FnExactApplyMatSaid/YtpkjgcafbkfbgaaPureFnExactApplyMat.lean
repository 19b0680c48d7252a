/-
The law FnExactApplyMat, over numbers and lists alone: the printed functions of the program and of the reference answer alike. No condition but that each number is an int64.
-/
import Derived.Test.YtpkjgcafbkfbgaaF34
import Derived.Test.YtpkjgcafbkfbgaaSem
import Derived.Test.YtpkjgcafbkfbgaaMth
namespace Go.Proofs.Ytpkjgcafbkfbgaa.PureFnExactApplyMat
open Go.RowKit Go.Proofs.Ytpkjgcafbkfbgaa.F Go.Proofs.YtpkjgcafbkfbgaaW.PrintWords Go.Proofs.YtpkjgcafbkfbgaaW.PrintLast Go.Proofs.YtpkjgcafbkfbgaaW.PrintMore Go.Proofs.Ytpkjgcafbkfbgaa.Sem Go.Proofs.Ytpkjgcafbkfbgaa.Mth
set_option linter.unusedVariables false
set_option linter.unusedSimpArgs false
theorem spec_l01In_eq (a b c : Int) : spec_l01In.f a b c = some (decide (b ≤ a ∧ a ≤ c)) := by
  unfold spec_l01In.f; split <;> simp <;> omega
theorem impl_within_eq (a b c : Int) : impl_within.f a b c = some (decide (b ≤ a ∧ a ≤ c)) := by
  unfold impl_within.f; split <;> simp <;> omega
theorem spec_IsVec_eq (x y : Int) : spec_IsVec.f x y = some (vecB x y) := by
  unfold spec_IsVec.f vecB; simp only [spec_l01In_eq, Option.bind_some]; split <;> simp_all <;> omega
theorem impl_isCoordinate_eq (a : Int) : impl_isCoordinate.f a = some (decide (-1000 ≤ a ∧ a ≤ 1000)) := by
  unfold impl_isCoordinate.f; simp only [impl_within_eq, Option.bind_some]
theorem impl_IsVec_eq (x y : Int) : impl_IsVec.f x y = some (vecB x y) := by
  unfold impl_IsVec.f vecB; simp only [impl_isCoordinate_eq, Option.bind_some]; split <;> simp_all <;> omega
theorem spec_l01Result_eq (x y : Int) : spec_l01Result.f x y = some (lim x y) := by
  unfold spec_l01Result.f lim; simp only [spec_IsVec_eq, Option.bind_some]; split <;> rfl
theorem impl_limited_eq (x y : Int) : impl_limited.f x y = some (lim x y) := by
  unfold impl_limited.f lim; simp only [impl_IsVec_eq, Option.bind_some]; split <;> rfl
theorem spec_l02Small_eq (a b c d : Int) : spec_l02Small.f a b c d = some (smallB a b c d) := by
  unfold spec_l02Small.f smallB; simp only [spec_IsVec_eq, Option.bind_some, vecB]; split <;> simp_all <;> omega
theorem impl_Mat_isSmall_eq (a b c d : Int) : impl_Mat_isSmall.f a b c d = some (smallB a b c d) := by
  unfold impl_Mat_isSmall.f smallB; simp only [impl_isCoordinate_eq, Option.bind_some, decide_eq_true_eq]
  by_cases h1 : -1000 ≤ a ∧ a ≤ 1000
  · rw [if_pos h1]
    by_cases h2 : -1000 ≤ b ∧ b ≤ 1000
    · rw [if_pos h2]
      by_cases h3 : -1000 ≤ c ∧ c ≤ 1000
      · rw [if_pos h3]
        by_cases h4 : -1000 ≤ d ∧ d ≤ 1000
        · rw [decide_eq_true h4, decide_eq_true (by omega)]
        · rw [decide_eq_false h4, decide_eq_false (by omega)]
      · rw [if_neg h3, decide_eq_false (by omega)]
    · rw [if_neg h2, decide_eq_false (by omega)]
  · rw [if_neg h1, decide_eq_false (by omega)]
theorem spec_IsMat_eq (a b c d : Int) : spec_IsMat.f a b c d = some (matB a b c d) := by
  unfold spec_IsMat.f matB spec_l02Det.f
  simp only [spec_l02Small_eq, Option.bind_some]
  cases h : smallB a b c d with
  | false => simp
  | true => rw [(det_wrap h).1]; simp; split <;> simp_all
theorem impl_IsMat_eq (a b c d : Int) : impl_IsMat.f a b c d = some (matB a b c d) := by
  unfold impl_IsMat.f matB impl_Mat_det.f
  simp only [impl_Mat_isSmall_eq, Option.bind_some]
  cases h : smallB a b c d with
  | false => simp
  | true => rw [(det_wrap h).1]; simp; split <;> simp_all
theorem spec_l02Apply_eq (A : Int) {a b c d x y : Int} (hA : 0 ≤ A) (hA2 : A ≤ 1000000000) (ha : -A ≤ a ∧ a ≤ A) (hb : -A ≤ b ∧ b ≤ A) (hc : -A ≤ c ∧ c ≤ A) (hd : -A ≤ d ∧ d ≤ A) (hx : -A ≤ x ∧ x ≤ A) (hy : -A ≤ y ∧ y ≤ A) :
    spec_l02Apply.f a b c d x y = some (a * x + b * y, c * x + d * y) := by
  unfold spec_l02Apply.f; rw [(lin_wrap A ha hb hx hy hA hA2).1, (lin_wrap A hc hd hx hy hA hA2).1]
theorem impl_Mat_apply_eq (A : Int) {a b c d x y : Int} (hA : 0 ≤ A) (hA2 : A ≤ 1000000000) (ha : -A ≤ a ∧ a ≤ A) (hb : -A ≤ b ∧ b ≤ A) (hc : -A ≤ c ∧ c ≤ A) (hd : -A ≤ d ∧ d ≤ A) (hx : -A ≤ x ∧ x ≤ A) (hy : -A ≤ y ∧ y ≤ A) :
    impl_Mat_apply.f a b c d x y = some (a * x + b * y, c * x + d * y) := by
  unfold impl_Mat_apply.f; rw [(lin_wrap A ha hb hx hy hA hA2).1, (lin_wrap A hc hd hx hy hA hA2).1]
theorem spec_ApplyMat_eq (k : Nat) (a b c d x y : Int) : spec_ApplyMat.f (k + 1) a b c d x y = some (appR a b c d x y) := by
  unfold spec_ApplyMat.f appR
  simp only [spec_IsMat_eq, spec_IsVec_eq, Option.bind_some, spec_ApplyMat.j0, spec_l01Result_eq]
  cases h : matB a b c d with
  | false => simp
  | true =>
    cases h' : vecB x y with
    | false => simp
    | true =>
      have h1 := smallB_iff.mp (matB_iff.mp h).1
      have h2 := vecB_iff.mp h'
      simp [spec_l02Apply_eq 1000 (by omega) (by omega) h1.1.1 h1.1.2 h1.2.1 h1.2.2 h2.1 h2.2]
theorem impl_ApplyMat_eq (k : Nat) (a b c d x y : Int) : impl_ApplyMat.f (k + 1) a b c d x y = some (appR a b c d x y) := by
  unfold impl_ApplyMat.f appR
  simp only [impl_IsMat_eq, impl_IsVec_eq, Option.bind_some, impl_ApplyMat.j0, impl_limited_eq]
  cases h : matB a b c d with
  | false => simp
  | true =>
    cases h' : vecB x y with
    | false => simp
    | true =>
      have h1 := smallB_iff.mp (matB_iff.mp h).1
      have h2 := vecB_iff.mp h'
      simp [impl_Mat_apply_eq 1000 (by omega) (by omega) h1.1.1 h1.1.2 h1.2.1 h1.2.2 h2.1 h2.2]
theorem main (a0_0 : Int) (a0_1 : Int) (a0_2 : Int) (a0_3 : Int) (a1_0 : Int) (a1_1 : Int) (w0_0 : (Go.Lit.int .i64 a0_0).wf = true) (w0_1 : (Go.Lit.int .i64 a0_1).wf = true) (w0_2 : (Go.Lit.int .i64 a0_2).wf = true) (w0_3 : (Go.Lit.int .i64 a0_3).wf = true) (w1_0 : (Go.Lit.int .i64 a1_0).wf = true) (w1_1 : (Go.Lit.int .i64 a1_1).wf = true) : ∃ k, laws_FnExactApplyMat.f k a0_0 a0_1 a0_2 a0_3 a1_0 a1_1 = some true := by
  refine ⟨0 + 1, ?_⟩
  unfold laws_FnExactApplyMat.f
  simp only [laws_toVec.f, laws_toMat.f, Option.bind_some]
  rw [spec_ApplyMat_eq, impl_ApplyMat_eq]
  simp [laws_eqVec.f]
end Go.Proofs.Ytpkjgcafbkfbgaa.PureFnExactApplyMat

/-
The law FnExactScaleVec, over numbers and lists alone: the printed functions of the program and of the reference answer alike. No condition but that each number is an int64.
-/
import Derived.Test.YtpkjgcafbkfbgaaF17
import Derived.Test.YtpkjgcafbkfbgaaSem
import Derived.Test.YtpkjgcafbkfbgaaMth
namespace Go.Proofs.Ytpkjgcafbkfbgaa.PureFnExactScaleVec
open Go.RowKit Go.Proofs.Ytpkjgcafbkfbgaa.F Go.Proofs.YtpkjgcafbkfbgaaW.PrintWords Go.Proofs.YtpkjgcafbkfbgaaW.PrintLast Go.Proofs.YtpkjgcafbkfbgaaW.PrintMore Go.Proofs.Ytpkjgcafbkfbgaa.Sem Go.Proofs.Ytpkjgcafbkfbgaa.Mth
set_option linter.unusedVariables false
set_option linter.unusedSimpArgs false
theorem spec_l01In_eq (a b c : Int) : spec_l01In.f a b c = some (decide (b ≤ a ∧ a ≤ c)) := by
  unfold spec_l01In.f; split <;> simp <;> omega
theorem impl_within_eq (a b c : Int) : impl_within.f a b c = some (decide (b ≤ a ∧ a ≤ c)) := by
  unfold impl_within.f; split <;> simp <;> omega
theorem spec_IsVec_eq (x y : Int) : spec_IsVec.f x y = some (vecB x y) := by
  unfold spec_IsVec.f vecB; simp only [spec_l01In_eq, Option.bind_some]; split <;> simp_all <;> omega
theorem impl_isCoordinate_eq (a : Int) : impl_isCoordinate.f a = some (decide (-1000 ≤ a ∧ a ≤ 1000)) := by
  unfold impl_isCoordinate.f; simp only [impl_within_eq, Option.bind_some]
theorem impl_IsVec_eq (x y : Int) : impl_IsVec.f x y = some (vecB x y) := by
  unfold impl_IsVec.f vecB; simp only [impl_isCoordinate_eq, Option.bind_some]; split <;> simp_all <;> omega
theorem spec_l01Result_eq (x y : Int) : spec_l01Result.f x y = some (lim x y) := by
  unfold spec_l01Result.f lim; simp only [spec_IsVec_eq, Option.bind_some]; split <;> rfl
theorem impl_limited_eq (x y : Int) : impl_limited.f x y = some (lim x y) := by
  unfold impl_limited.f lim; simp only [impl_IsVec_eq, Option.bind_some]; split <;> rfl
theorem spec_ScaleVec_eq (x y n : Int) : spec_ScaleVec.f x y n = some (scaleR x y n) := by
  unfold spec_ScaleVec.f scaleR
  simp only [spec_IsVec_eq, Option.bind_some, spec_l01In_eq, spec_l01Scale.f, spec_l01Result_eq, decide_eq_true_eq]
  split
  · split
    · rename_i h h'
      rw [vecB_iff] at h
      rw [wrap_mul (A := 1000) (B := 1000) (by omega) (by omega) (by omega) (by omega) (by omega) (by omega), wrap_mul (A := 1000) (B := 1000) (by omega) (by omega) (by omega) (by omega) (by omega) (by omega)]
    · rfl
  · rfl
theorem impl_ScaleVec_eq (x y n : Int) : impl_ScaleVec.f x y n = some (scaleR x y n) := by
  unfold impl_ScaleVec.f scaleR
  simp only [impl_IsVec_eq, Option.bind_some, impl_isCoordinate_eq, impl_Vec_times.f, impl_limited_eq, decide_eq_true_eq]
  split
  · split
    · rename_i h h'
      rw [vecB_iff] at h
      rw [wrap_mul (A := 1000) (B := 1000) (by omega) (by omega) (by omega) (by omega) (by omega) (by omega), wrap_mul (A := 1000) (B := 1000) (by omega) (by omega) (by omega) (by omega) (by omega) (by omega)]
    · rfl
  · rfl
theorem main (a0_0 : Int) (a0_1 : Int) (a1 : Int) (w0_0 : (Go.Lit.int .i64 a0_0).wf = true) (w0_1 : (Go.Lit.int .i64 a0_1).wf = true) (w1 : (Go.Lit.int .i64 a1).wf = true) : laws_FnExactScaleVec.f a0_0 a0_1 a1 = some true := by
  unfold laws_FnExactScaleVec.f
  simp only [laws_toVec.f, Option.bind_some]
  rw [spec_ScaleVec_eq, impl_ScaleVec_eq]
  simp [laws_eqVec.f]
end Go.Proofs.Ytpkjgcafbkfbgaa.PureFnExactScaleVec

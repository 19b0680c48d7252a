/-
The law FnExactNormOf, over numbers and lists alone: the printed functions of the program and of the reference answer alike. No condition but that each number is an int64.
-/
import Derived.Test.YtpkjgcafbkfbgaaF6
import Derived.Test.YtpkjgcafbkfbgaaSem
import Derived.Test.YtpkjgcafbkfbgaaMth
namespace Go.Proofs.Ytpkjgcafbkfbgaa.PureFnExactNormOf
open Go.RowKit Go.Proofs.Ytpkjgcafbkfbgaa.F Go.Proofs.YtpkjgcafbkfbgaaW.PrintWords Go.Proofs.YtpkjgcafbkfbgaaW.PrintLast Go.Proofs.YtpkjgcafbkfbgaaW.PrintMore Go.Proofs.Ytpkjgcafbkfbgaa.Sem Go.Proofs.Ytpkjgcafbkfbgaa.Mth
set_option linter.unusedVariables false
set_option linter.unusedSimpArgs false
theorem spec_l01In_eq (a b c : Int) : spec_l01In.f a b c = some (decide (b ≤ a ∧ a ≤ c)) := by
  unfold spec_l01In.f; split <;> simp <;> omega
theorem impl_within_eq (a b c : Int) : impl_within.f a b c = some (decide (b ≤ a ∧ a ≤ c)) := by
  unfold impl_within.f; split <;> simp <;> omega
theorem spec_IsVec_eq (x y : Int) : spec_IsVec.f x y = some (vecB x y) := by
  unfold spec_IsVec.f vecB; simp only [spec_l01In_eq, Option.bind_some]; split <;> simp_all <;> omega
theorem impl_isCoordinate_eq (a : Int) : impl_isCoordinate.f a = some (decide (-1000 ≤ a ∧ a ≤ 1000)) := by
  unfold impl_isCoordinate.f; simp only [impl_within_eq, Option.bind_some]
theorem impl_IsVec_eq (x y : Int) : impl_IsVec.f x y = some (vecB x y) := by
  unfold impl_IsVec.f vecB; simp only [impl_isCoordinate_eq, Option.bind_some]; split <;> simp_all <;> omega
theorem spec_IsFrame_eq (f : Int) : spec_IsFrame.f f = some (frameB f) := by
  unfold spec_IsFrame.f frameB
  by_cases h : f = 0
  · simp [h]
  · by_cases h' : f = 1 <;> simp [h, h']
theorem impl_IsFrame_eq (f : Int) : impl_IsFrame.f f = some (frameB f) := by
  unfold impl_IsFrame.f frameB; simp only [impl_within_eq, Option.bind_some]; congr 1; exact decide_eq_decide.mpr (by omega)
theorem spec_l04Norm_eq (f : Int) {x y : Int} (hf : f = 0 ∨ f = 1) (hx : -100000 ≤ x ∧ x ≤ 100000) (hy : -100000 ≤ y ∧ y ≤ 100000) : spec_l04Norm.f f x y = some (Nf f x y) := by
  have h1 := prod_bd hx.1 hx.2 hx.1 hx.2 (by omega)
  have h2 := prod_bd hy.1 hy.2 hy.1 hy.2 (by omega)
  have h3 := prod_bd hx.1 hx.2 hy.1 hy.2 (by omega)
  unfold spec_l04Norm.f Nf
  rw [wrap_id (x := x * x) (by omega) (by omega), wrap_id (x := y * y) (by omega) (by omega), wrap_id (x := x * y) (by omega) (by omega), wrap_id (x := x * x + y * y) (by omega) (by omega)]
  rcases hf with rfl | rfl
  · rw [if_neg (by omega), Int.zero_mul, Int.zero_mul]; congr 1; omega
  · rw [if_pos rfl, wrap_id (by omega) (by omega), Int.one_mul]; congr 1; omega
theorem impl_norm_eq (f : Int) {x y : Int} (hf : f = 0 ∨ f = 1) (hx : -100000 ≤ x ∧ x ≤ 100000) (hy : -100000 ≤ y ∧ y ≤ 100000) : impl_norm.f f x y = some (Nf f x y) := by
  have h1 := prod_bd hx.1 hx.2 hx.1 hx.2 (by omega)
  have h2 := prod_bd hy.1 hy.2 hy.1 hy.2 (by omega)
  have h3 := prod_bd hx.1 hx.2 hy.1 hy.2 (by omega)
  unfold impl_norm.f Nf
  rcases hf with rfl | rfl
  · simp only [Int.zero_mul]
    rw [wrap_id (x := x * x) (by omega) (by omega), wrap_id (x := y * y) (by omega) (by omega), wrap_id (x := 0) (by omega) (by omega), Int.zero_mul, wrap_id (x := 0) (by omega) (by omega), wrap_id (x := x * x + 0) (by omega) (by omega), wrap_id (by omega) (by omega)]
  · simp only [Int.one_mul]
    rw [wrap_id (x := x) (by omega) (by omega), wrap_id (x := x * x) (by omega) (by omega), wrap_id (x := y * y) (by omega) (by omega), wrap_id (x := x * y) (by omega) (by omega), wrap_id (x := x * x + x * y) (by omega) (by omega), wrap_id (by omega) (by omega)]
theorem frameB_iff {f : Int} : frameB f = true ↔ f = 0 ∨ f = 1 := by unfold frameB; exact decide_eq_true_iff
theorem spec_NormOf_eq (f x y : Int) : spec_NormOf.f f x y = some (normR f x y) := by
  unfold spec_NormOf.f normR
  simp only [spec_IsFrame_eq, spec_IsVec_eq, Option.bind_some]
  by_cases h : frameB f = true
  · by_cases h' : vecB x y = true
    · have h2 := vecB_iff.mp h'
      rw [if_pos h, if_pos h', spec_l04Norm_eq f (by simpa [frameB] using h) (by omega) (by omega), if_pos ⟨h, h'⟩]; rfl
    · rw [if_pos h, if_neg h', if_neg (fun x => h' x.2)]
  · rw [if_neg h, if_neg (fun x => h x.1)]
theorem impl_NormOf_eq (f x y : Int) : impl_NormOf.f f x y = some (normR f x y) := by
  unfold impl_NormOf.f normR
  simp only [impl_IsFrame_eq, impl_IsVec_eq, Option.bind_some]
  by_cases h : frameB f = true
  · by_cases h' : vecB x y = true
    · have h2 := vecB_iff.mp h'
      rw [if_pos h, if_pos h', impl_norm_eq f (by simpa [frameB] using h) (by omega) (by omega), if_pos ⟨h, h'⟩]; rfl
    · rw [if_pos h, if_neg h', if_neg (fun x => h' x.2)]
  · rw [if_neg h, if_neg (fun x => h x.1)]
theorem main (a0 : Int) (a1_0 : Int) (a1_1 : Int) (w0 : (Go.Lit.int .i64 a0).wf = true) (w1_0 : (Go.Lit.int .i64 a1_0).wf = true) (w1_1 : (Go.Lit.int .i64 a1_1).wf = true) : laws_FnExactNormOf.f a0 a1_0 a1_1 = some true := by
  unfold laws_FnExactNormOf.f
  simp only [laws_toVec.f, Option.bind_some]
  rw [spec_NormOf_eq, impl_NormOf_eq]
  simp
end Go.Proofs.Ytpkjgcafbkfbgaa.PureFnExactNormOf

/-
The law FnExactIsVec, over numbers and lists alone: the printed functions of the program and of the reference answer alike. No condition but that each number is an int64.
-/
import Derived.Test.YtalenihfajfdkaaF8
import Derived.Test.YtalenihfajfdkaaSem
import Derived.Test.YtalenihfajfdkaaMth
namespace Go.Proofs.Ytalenihfajfdkaa.PureFnExactIsVec
open Go.RowKit Go.Proofs.Ytalenihfajfdkaa.F Go.Proofs.YtalenihfajfdkaaW.PrintWords Go.Proofs.YtalenihfajfdkaaW.PrintLast Go.Proofs.YtalenihfajfdkaaW.PrintMore Go.Proofs.Ytalenihfajfdkaa.Sem Go.Proofs.Ytalenihfajfdkaa.Mth
set_option linter.unusedVariables false
set_option linter.unusedSimpArgs false
theorem spec_l01In_eq (a b c : Int) : spec_l01In.f a b c = some (decide (b ≤ a ∧ a ≤ c)) := by
  unfold spec_l01In.f; split <;> simp <;> omega
theorem impl_within_eq (a b c : Int) : impl_within.f a b c = some (decide (b ≤ a ∧ a ≤ c)) := by
  unfold impl_within.f; split <;> simp <;> omega
theorem spec_IsVec_eq (x y : Int) : spec_IsVec.f x y = some (vecB x y) := by
  unfold spec_IsVec.f vecB; simp only [spec_l01In_eq, Option.bind_some]; split <;> simp_all <;> omega
theorem impl_isCoordinate_eq (a : Int) : impl_isCoordinate.f a = some (decide (-1000 ≤ a ∧ a ≤ 1000)) := by
  unfold impl_isCoordinate.f; simp only [impl_within_eq, Option.bind_some]
theorem impl_IsVec_eq (x y : Int) : impl_IsVec.f x y = some (vecB x y) := by
  unfold impl_IsVec.f vecB; simp only [impl_isCoordinate_eq, Option.bind_some]; split <;> simp_all <;> omega
theorem main (a0_0 : Int) (a0_1 : Int) (w0_0 : (Go.Lit.int .i64 a0_0).wf = true) (w0_1 : (Go.Lit.int .i64 a0_1).wf = true) : laws_FnExactIsVec.f a0_0 a0_1 = some true := by
  unfold laws_FnExactIsVec.f
  simp only [laws_toVec.f, Option.bind_some]
  rw [spec_IsVec_eq, impl_IsVec_eq]
  simp
end Go.Proofs.Ytalenihfajfdkaa.PureFnExactIsVec

/-
The law FnExactIsFrame, over numbers and lists alone: the printed functions of the program and of the reference answer alike. No condition but that each number is an int64.
-/
import Derived.Test.YtalenihfajfdkaaF4
import Derived.Test.YtalenihfajfdkaaSem
import Derived.Test.YtalenihfajfdkaaMth
namespace Go.Proofs.Ytalenihfajfdkaa.PureFnExactIsFrame
open Go.RowKit Go.Proofs.Ytalenihfajfdkaa.F Go.Proofs.YtalenihfajfdkaaW.PrintWords Go.Proofs.YtalenihfajfdkaaW.PrintLast Go.Proofs.YtalenihfajfdkaaW.PrintMore Go.Proofs.Ytalenihfajfdkaa.Sem Go.Proofs.Ytalenihfajfdkaa.Mth
set_option linter.unusedVariables false
set_option linter.unusedSimpArgs false
theorem impl_within_eq (a b c : Int) : impl_within.f a b c = some (decide (b ≤ a ∧ a ≤ c)) := by
  unfold impl_within.f; split <;> simp <;> omega
theorem spec_IsFrame_eq (f : Int) : spec_IsFrame.f f = some (frameB f) := by
  unfold spec_IsFrame.f frameB
  by_cases h : f = 0
  · simp [h]
  · by_cases h' : f = 1 <;> simp [h, h']
theorem impl_IsFrame_eq (f : Int) : impl_IsFrame.f f = some (frameB f) := by
  unfold impl_IsFrame.f frameB; simp only [impl_within_eq, Option.bind_some]; congr 1; exact decide_eq_decide.mpr (by omega)
theorem main (a0 : Int) (w0 : (Go.Lit.int .i64 a0).wf = true) : laws_FnExactIsFrame.f a0 = some true := by
  unfold laws_FnExactIsFrame.f
  rw [spec_IsFrame_eq, impl_IsFrame_eq]
  simp
end Go.Proofs.Ytalenihfajfdkaa.PureFnExactIsFrame

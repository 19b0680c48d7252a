/-
The law FnExactIsLattice, over numbers and lists alone: the printed functions of the program and of the reference answer alike. No condition but that each number is an int64.
-/
import Derived.Test.YtalenihfajfdkaaF10
import Derived.Test.YtalenihfajfdkaaSem
import Derived.Test.YtalenihfajfdkaaMth
namespace Go.Proofs.Ytalenihfajfdkaa.PureFnExactIsLattice
open Go.RowKit Go.Proofs.Ytalenihfajfdkaa.F Go.Proofs.YtalenihfajfdkaaW.PrintWords Go.Proofs.YtalenihfajfdkaaW.PrintLast Go.Proofs.YtalenihfajfdkaaW.PrintMore Go.Proofs.Ytalenihfajfdkaa.Sem Go.Proofs.Ytalenihfajfdkaa.Mth
set_option linter.unusedVariables false
set_option linter.unusedSimpArgs false
theorem spec_l01In_eq (a b c : Int) : spec_l01In.f a b c = some (decide (b ≤ a ∧ a ≤ c)) := by
  unfold spec_l01In.f; split <;> simp <;> omega
theorem impl_within_eq (a b c : Int) : impl_within.f a b c = some (decide (b ≤ a ∧ a ≤ c)) := by
  unfold impl_within.f; split <;> simp <;> omega
theorem spec_IsLattice_eq (a b c : Int) (h1 : -9223372036854775808 ≤ a) (h2 : a < 9223372036854775808) : spec_IsLattice.f a b c = some (latB a b c) := by
  unfold spec_IsLattice.f latB; simp only [spec_l01In_eq, Option.bind_some]
  by_cases ha : 1 ≤ a ∧ a ≤ 64
  · by_cases hc : 1 ≤ c ∧ c ≤ 64
    · rw [wrap_id (x := a - 1) (by omega) (by omega), wrap_mul (A := 64) (B := 64) (by omega) (by omega) (by omega) (by omega) (by omega) (by omega)]
      simp only [ha, hc, and_self, decide_true, if_true]
      by_cases hb : 0 ≤ b ∧ b ≤ a - 1 <;> simp [hb]
    · simp [ha]; split <;> simp_all <;> omega
  · simp; split <;> simp_all <;> omega
theorem impl_IsLattice_eq (a b c : Int) (h1 : -9223372036854775808 ≤ a) (h2 : a < 9223372036854775808) : impl_IsLattice.f a b c = some (latB a b c) := by
  unfold impl_IsLattice.f latB impl_Lattice_index.f; simp only [impl_within_eq, Option.bind_some]
  by_cases ha : 1 ≤ a ∧ a ≤ 64
  · by_cases hc : 1 ≤ c ∧ c ≤ 64
    · rw [wrap_id (x := a - 1) (by omega) (by omega), wrap_mul (A := 64) (B := 64) (by omega) (by omega) (by omega) (by omega) (by omega) (by omega)]
      simp only [ha, hc, and_self, decide_true, if_true]
      by_cases hb : 0 ≤ b ∧ b ≤ a - 1 <;> simp [hb]
    · simp [ha]; split <;> simp_all <;> omega
  · simp; split <;> simp_all <;> omega
theorem main (a0_0 : Int) (a0_1 : Int) (a0_2 : Int) (w0_0 : (Go.Lit.int .i64 a0_0).wf = true) (w0_1 : (Go.Lit.int .i64 a0_1).wf = true) (w0_2 : (Go.Lit.int .i64 a0_2).wf = true) : laws_FnExactIsLattice.f a0_0 a0_1 a0_2 = some true := by
  unfold laws_FnExactIsLattice.f
  simp only [laws_toLattice.f, Option.bind_some]
  rw [spec_IsLattice_eq _ _ _ (wf_bd w0_0).1 (wf_bd w0_0).2, impl_IsLattice_eq _ _ _ (wf_bd w0_0).1 (wf_bd w0_0).2]
  simp
end Go.Proofs.Ytalenihfajfdkaa.PureFnExactIsLattice

/-
The law FnExactAddVecs, over numbers and lists alone: the printed functions of the program and of the reference answer alike. No condition but that each number is an int64.
-/
import Derived.Test.YtpkjgcafbkfbgaaF13
import Derived.Test.YtpkjgcafbkfbgaaSem
import Derived.Test.YtpkjgcafbkfbgaaMth
namespace Go.Proofs.Ytpkjgcafbkfbgaa.PureFnExactAddVecs
open Go.RowKit Go.Proofs.Ytpkjgcafbkfbgaa.F Go.Proofs.YtpkjgcafbkfbgaaW.PrintWords Go.Proofs.YtpkjgcafbkfbgaaW.PrintLast Go.Proofs.YtpkjgcafbkfbgaaW.PrintMore Go.Proofs.Ytpkjgcafbkfbgaa.Sem Go.Proofs.Ytpkjgcafbkfbgaa.Mth
set_option linter.unusedVariables false
set_option linter.unusedSimpArgs false
theorem spec_l01In_eq (a b c : Int) : spec_l01In.f a b c = some (decide (b ≤ a ∧ a ≤ c)) := by
  unfold spec_l01In.f; split <;> simp <;> omega
theorem impl_within_eq (a b c : Int) : impl_within.f a b c = some (decide (b ≤ a ∧ a ≤ c)) := by
  unfold impl_within.f; split <;> simp <;> omega
theorem spec_IsVec_eq (x y : Int) : spec_IsVec.f x y = some (vecB x y) := by
  unfold spec_IsVec.f vecB; simp only [spec_l01In_eq, Option.bind_some]; split <;> simp_all <;> omega
theorem impl_isCoordinate_eq (a : Int) : impl_isCoordinate.f a = some (decide (-1000 ≤ a ∧ a ≤ 1000)) := by
  unfold impl_isCoordinate.f; simp only [impl_within_eq, Option.bind_some]
theorem impl_IsVec_eq (x y : Int) : impl_IsVec.f x y = some (vecB x y) := by
  unfold impl_IsVec.f vecB; simp only [impl_isCoordinate_eq, Option.bind_some]; split <;> simp_all <;> omega
theorem spec_l01Result_eq (x y : Int) : spec_l01Result.f x y = some (lim x y) := by
  unfold spec_l01Result.f lim; simp only [spec_IsVec_eq, Option.bind_some]; split <;> rfl
theorem impl_limited_eq (x y : Int) : impl_limited.f x y = some (lim x y) := by
  unfold impl_limited.f lim; simp only [impl_IsVec_eq, Option.bind_some]; split <;> rfl
theorem spec_AddVecs_eq (k : Nat) (ux uy vx vy : Int) : spec_AddVecs.f (k + 1) ux uy vx vy = some (addR ux uy vx vy) := by
  unfold spec_AddVecs.f addR
  simp only [spec_IsVec_eq, Option.bind_some, spec_AddVecs.j0, spec_l01Add.f, spec_l01Result_eq]
  cases h : vecB ux uy <;> cases h' : vecB vx vy <;> simp
  rw [vecB_iff] at h h'
  rw [wrap_id (by omega) (by omega), wrap_id (by omega) (by omega)]
theorem impl_AddVecs_eq (k : Nat) (ux uy vx vy : Int) : impl_AddVecs.f (k + 1) ux uy vx vy = some (addR ux uy vx vy) := by
  unfold impl_AddVecs.f addR
  simp only [impl_IsVec_eq, Option.bind_some, impl_AddVecs.j0, impl_Vec_add.f, impl_limited_eq]
  cases h : vecB ux uy <;> cases h' : vecB vx vy <;> simp
  rw [vecB_iff] at h h'
  rw [wrap_id (by omega) (by omega), wrap_id (by omega) (by omega)]
theorem spec_l01Add_eq {ux uy vx vy : Int} (h1 : -1000000000000000000 ≤ ux + vx ∧ ux + vx ≤ 1000000000000000000) (h2 : -1000000000000000000 ≤ uy + vy ∧ uy + vy ≤ 1000000000000000000) : spec_l01Add.f ux uy vx vy = some (ux + vx, uy + vy) := by
  unfold spec_l01Add.f; rw [wrap_id (by omega) (by omega), wrap_id (by omega) (by omega)]
theorem impl_Vec_add_eq {ux uy vx vy : Int} (h1 : -1000000000000000000 ≤ ux + vx ∧ ux + vx ≤ 1000000000000000000) (h2 : -1000000000000000000 ≤ uy + vy ∧ uy + vy ≤ 1000000000000000000) : impl_Vec_add.f ux uy vx vy = some (ux + vx, uy + vy) := by
  unfold impl_Vec_add.f; rw [wrap_id (by omega) (by omega), wrap_id (by omega) (by omega)]
theorem main (a0_0 : Int) (a0_1 : Int) (a1_0 : Int) (a1_1 : Int) (w0_0 : (Go.Lit.int .i64 a0_0).wf = true) (w0_1 : (Go.Lit.int .i64 a0_1).wf = true) (w1_0 : (Go.Lit.int .i64 a1_0).wf = true) (w1_1 : (Go.Lit.int .i64 a1_1).wf = true) : ∃ k, laws_FnExactAddVecs.f k a0_0 a0_1 a1_0 a1_1 = some true := by
  refine ⟨0 + 1, ?_⟩
  unfold laws_FnExactAddVecs.f
  simp only [laws_toVec.f, Option.bind_some]
  rw [spec_AddVecs_eq, impl_AddVecs_eq]
  simp [laws_eqVec.f]
end Go.Proofs.Ytpkjgcafbkfbgaa.PureFnExactAddVecs

/-
The law FnExactDetOf, over numbers and lists alone: the printed functions of the program and of the reference answer alike. No condition but that each number is an int64.
-/
import Derived.Test.YtalenihfajfdkabF2
import Derived.Test.YtalenihfajfdkabSem
import Derived.Test.YtalenihfajfdkabMth
namespace Go.Proofs.Ytalenihfajfdkab.PureFnExactDetOf
open Go.RowKit Go.Proofs.Ytalenihfajfdkab.F Go.Proofs.YtalenihfajfdkabW.PrintWords Go.Proofs.YtalenihfajfdkabW.PrintLast Go.Proofs.YtalenihfajfdkabW.PrintMore Go.Proofs.Ytalenihfajfdkab.Sem Go.Proofs.Ytalenihfajfdkab.Mth
set_option linter.unusedVariables false
set_option linter.unusedSimpArgs false
theorem spec_l01In_eq (a b c : Int) : spec_l01In.f a b c = some (decide (b ≤ a ∧ a ≤ c)) := by
  unfold spec_l01In.f; split <;> simp <;> omega
theorem impl_within_eq (a b c : Int) : impl_within.f a b c = some (decide (b ≤ a ∧ a ≤ c)) := by
  unfold impl_within.f; split <;> simp <;> omega
theorem spec_IsVec_eq (x y : Int) : spec_IsVec.f x y = some (vecB x y) := by
  unfold spec_IsVec.f vecB; simp only [spec_l01In_eq, Option.bind_some]; split <;> simp_all <;> omega
theorem impl_isCoordinate_eq (a : Int) : impl_isCoordinate.f a = some (decide (-1000 ≤ a ∧ a ≤ 1000)) := by
  unfold impl_isCoordinate.f; simp only [impl_within_eq, Option.bind_some]
theorem impl_IsVec_eq (x y : Int) : impl_IsVec.f x y = some (vecB x y) := by
  unfold impl_IsVec.f vecB; simp only [impl_isCoordinate_eq, Option.bind_some]; split <;> simp_all <;> omega
theorem spec_DetOf_eq (ux uy vx vy : Int) : spec_DetOf.f ux uy vx vy = some (detR ux uy vx vy) := by
  unfold spec_DetOf.f detR spec_l01Det.f
  simp only [spec_IsVec_eq, Option.bind_some]
  cases h : vecB ux uy with
  | false => simp
  | true =>
    cases h' : vecB vx vy with
    | false => simp
    | true =>
      rw [vecB_iff] at h h'
      have := (det_wrap (a := ux) (b := uy) (c := vx) (d := vy) (by rw [smallB_iff]; omega)).1
      simp [this]
theorem impl_DetOf_eq (ux uy vx vy : Int) : impl_DetOf.f ux uy vx vy = some (detR ux uy vx vy) := by
  unfold impl_DetOf.f detR impl_det.f
  simp only [impl_IsVec_eq, Option.bind_some]
  cases h : vecB ux uy with
  | false => simp
  | true =>
    cases h' : vecB vx vy with
    | false => simp
    | true =>
      rw [vecB_iff] at h h'
      have := (det_wrap (a := ux) (b := uy) (c := vx) (d := vy) (by rw [smallB_iff]; omega)).1
      simp [this]
theorem main (a0_0 : Int) (a0_1 : Int) (a1_0 : Int) (a1_1 : Int) (w0_0 : (Go.Lit.int .i64 a0_0).wf = true) (w0_1 : (Go.Lit.int .i64 a0_1).wf = true) (w1_0 : (Go.Lit.int .i64 a1_0).wf = true) (w1_1 : (Go.Lit.int .i64 a1_1).wf = true) : laws_FnExactDetOf.f a0_0 a0_1 a1_0 a1_1 = some true := by
  unfold laws_FnExactDetOf.f
  simp only [laws_toVec.f, Option.bind_some]
  rw [spec_DetOf_eq, impl_DetOf_eq]
  simp
end Go.Proofs.Ytalenihfajfdkab.PureFnExactDetOf

/-
The law FnExactCompareVecs, over numbers and lists alone: the printed functions of the program and of the reference answer alike. No condition but that each number is an int64.
-/
import Derived.Test.YtpkjgcafbkfbgaaF8
import Derived.Test.YtpkjgcafbkfbgaaSem
import Derived.Test.YtpkjgcafbkfbgaaMth
namespace Go.Proofs.Ytpkjgcafbkfbgaa.PureFnExactCompareVecs
open Go.RowKit Go.Proofs.Ytpkjgcafbkfbgaa.F Go.Proofs.YtpkjgcafbkfbgaaW.PrintWords Go.Proofs.YtpkjgcafbkfbgaaW.PrintLast Go.Proofs.YtpkjgcafbkfbgaaW.PrintMore Go.Proofs.Ytpkjgcafbkfbgaa.Sem Go.Proofs.Ytpkjgcafbkfbgaa.Mth
set_option linter.unusedVariables false
set_option linter.unusedSimpArgs false
theorem spec_l01In_eq (a b c : Int) : spec_l01In.f a b c = some (decide (b ≤ a ∧ a ≤ c)) := by
  unfold spec_l01In.f; split <;> simp <;> omega
theorem impl_within_eq (a b c : Int) : impl_within.f a b c = some (decide (b ≤ a ∧ a ≤ c)) := by
  unfold impl_within.f; split <;> simp <;> omega
theorem spec_IsVec_eq (x y : Int) : spec_IsVec.f x y = some (vecB x y) := by
  unfold spec_IsVec.f vecB; simp only [spec_l01In_eq, Option.bind_some]; split <;> simp_all <;> omega
theorem impl_isCoordinate_eq (a : Int) : impl_isCoordinate.f a = some (decide (-1000 ≤ a ∧ a ≤ 1000)) := by
  unfold impl_isCoordinate.f; simp only [impl_within_eq, Option.bind_some]
theorem impl_IsVec_eq (x y : Int) : impl_IsVec.f x y = some (vecB x y) := by
  unfold impl_IsVec.f vecB; simp only [impl_isCoordinate_eq, Option.bind_some]; split <;> simp_all <;> omega
theorem spec_l01Less_eq (ux uy vx vy : Int) : spec_l01Less.f ux uy vx vy = some (decide (ux < vx ∨ (ux = vx ∧ uy < vy))) := by
  unfold spec_l01Less.f
  by_cases h1 : ux < vx
  · rw [if_pos h1, decide_eq_true (Or.inl h1)]
  · rw [if_neg h1]
    by_cases h2 : ux = vx
    · rw [if_pos h2]; congr 1; exact decide_eq_decide.mpr (by omega)
    · rw [if_neg h2, decide_eq_false (by omega)]
theorem spec_CompareVecs_eq (k : Nat) (ux uy vx vy : Int) : spec_CompareVecs.f (k + 1) ux uy vx vy = some (cmpR ux uy vx vy) := by
  unfold spec_CompareVecs.f cmpR cmpv
  simp only [spec_IsVec_eq, Option.bind_some, spec_CompareVecs.j0, spec_l01Less_eq]
  cases h : vecB ux uy <;> cases h' : vecB vx vy <;> simp
  split
  · rfl
  · split
    · rw [if_neg (by omega)]
    · rw [if_pos (by omega)]
theorem impl_compareVecs_eq (k : Nat) (ux uy vx vy : Int) : impl_compareVecs.f (k + 3) ux uy vx vy = some (cmpv ux uy vx vy) := by
  unfold impl_compareVecs.f impl_compareNumbers.f cmpv
  simp only [impl_compareNumbers.l0, List.length_cons, List.length_nil]
  simp [rd, wrap64]
  by_cases h1 : ux = vx
  · subst h1
    by_cases h2 : uy = vy
    · subst h2; simp
    · rw [if_neg h2]
      by_cases h3 : uy < vy <;> simp [h2, h3]
  · by_cases h2 : ux < vx <;> simp [h1, h2]
theorem impl_CompareVecs_eq (k : Nat) (ux uy vx vy : Int) : impl_CompareVecs.f (k + 3) ux uy vx vy = some (cmpR ux uy vx vy) := by
  unfold impl_CompareVecs.f cmpR
  simp only [impl_IsVec_eq, Option.bind_some, impl_compareVecs_eq]
  cases h : vecB ux uy <;> cases h' : vecB vx vy <;> simp
theorem main (a0_0 : Int) (a0_1 : Int) (a1_0 : Int) (a1_1 : Int) (w0_0 : (Go.Lit.int .i64 a0_0).wf = true) (w0_1 : (Go.Lit.int .i64 a0_1).wf = true) (w1_0 : (Go.Lit.int .i64 a1_0).wf = true) (w1_1 : (Go.Lit.int .i64 a1_1).wf = true) : ∃ k, laws_FnExactCompareVecs.f k a0_0 a0_1 a1_0 a1_1 = some true := by
  refine ⟨2 + 1, ?_⟩
  unfold laws_FnExactCompareVecs.f
  simp only [laws_toVec.f, Option.bind_some]
  rw [spec_CompareVecs_eq, impl_CompareVecs_eq 0]
  simp
end Go.Proofs.Ytpkjgcafbkfbgaa.PureFnExactCompareVecs

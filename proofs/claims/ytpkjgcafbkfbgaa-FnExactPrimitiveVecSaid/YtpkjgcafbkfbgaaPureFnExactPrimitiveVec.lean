/-
The law FnExactPrimitiveVec, over numbers and lists alone: the printed functions of the program and of the reference answer alike. No condition but that each number is an int64.
-/
import Derived.Test.YtpkjgcafbkfbgaaF15
import Derived.Test.YtpkjgcafbkfbgaaSem
import Derived.Test.YtpkjgcafbkfbgaaMth
namespace Go.Proofs.Ytpkjgcafbkfbgaa.PureFnExactPrimitiveVec
open Go.RowKit Go.Proofs.Ytpkjgcafbkfbgaa.F Go.Proofs.YtpkjgcafbkfbgaaW.PrintWords Go.Proofs.YtpkjgcafbkfbgaaW.PrintLast Go.Proofs.YtpkjgcafbkfbgaaW.PrintMore Go.Proofs.Ytpkjgcafbkfbgaa.Sem Go.Proofs.Ytpkjgcafbkfbgaa.Mth
set_option linter.unusedVariables false
set_option linter.unusedSimpArgs false
theorem spec_l01In_eq (a b c : Int) : spec_l01In.f a b c = some (decide (b ≤ a ∧ a ≤ c)) := by
  unfold spec_l01In.f; split <;> simp <;> omega
theorem impl_within_eq (a b c : Int) : impl_within.f a b c = some (decide (b ≤ a ∧ a ≤ c)) := by
  unfold impl_within.f; split <;> simp <;> omega
theorem spec_IsVec_eq (x y : Int) : spec_IsVec.f x y = some (vecB x y) := by
  unfold spec_IsVec.f vecB; simp only [spec_l01In_eq, Option.bind_some]; split <;> simp_all <;> omega
theorem impl_isCoordinate_eq (a : Int) : impl_isCoordinate.f a = some (decide (-1000 ≤ a ∧ a ≤ 1000)) := by
  unfold impl_isCoordinate.f; simp only [impl_within_eq, Option.bind_some]
theorem impl_IsVec_eq (x y : Int) : impl_IsVec.f x y = some (vecB x y) := by
  unfold impl_IsVec.f vecB; simp only [impl_isCoordinate_eq, Option.bind_some]; split <;> simp_all <;> omega
theorem impl_gcd_eq : ∀ (k : Nat) (a b : Int), b.natAbs < k → a.natAbs < 9223372036854775808 → b.natAbs < 9223372036854775808 → impl_gcd.l0 k a b = some (Int.gcd a b : Int) := by
  intro k
  induction k with
  | zero => intro a b h; omega
  | succ k ih =>
    intro a b h ha hb
    unfold impl_gcd.l0
    by_cases h0 : b = 0
    · subst h0; rw [if_pos rfl, mx_abs (by omega) (by omega), Int.gcd_zero_right]
    · rw [if_neg h0]
      have h1 := Int.natAbs_tmod a b
      have h2 := Nat.mod_lt a.natAbs (show 0 < b.natAbs by omega)
      rw [ih b (a.tmod b) (by omega) (by omega) (by omega), gcd_tmod]
theorem spec_l01Divisor_eq : ∀ (k : Nat) (a b : Int), b.natAbs < k → a.natAbs < 9223372036854775808 → b.natAbs < 9223372036854775808 → spec_l01Divisor.f k a b = some (Int.gcd a b : Int) := by
  intro k
  induction k with
  | zero => intro a b h; omega
  | succ k ih =>
    intro a b h ha hb
    unfold spec_l01Divisor.f
    by_cases h0 : b = 0
    · subst h0; rw [if_pos rfl, mx_abs (by omega) (by omega), Int.gcd_zero_right]
    · rw [if_neg h0]
      have h1 := Int.natAbs_tmod a b
      have h2 := Nat.mod_lt a.natAbs (show 0 < b.natAbs by omega)
      rw [ih b (a.tmod b) (by omega) (by omega) (by omega), gcd_tmod]; rfl
theorem spec_PrimitiveVec_eq (k : Nat) (hk : 1001 ≤ k) (x y : Int) : spec_PrimitiveVec.f k x y = some (primR x y) := by
  unfold spec_PrimitiveVec.f primR
  simp only [spec_IsVec_eq, Option.bind_some]
  cases h : vecB x y with
  | false => simp
  | true =>
    rw [vecB_iff] at h
    have hg := Int.gcd_eq_zero_iff (a := x) (b := y)
    rw [spec_l01Divisor_eq k x y (by omega) (by omega) (by omega)]
    simp only [if_true, Option.bind_some]
    by_cases h0 : x = 0 ∧ y = 0
    · rw [if_pos (by omega), if_pos h0]
    · rw [if_neg (by omega), if_neg h0, tdiv_of_dvd (Int.gcd_dvd_left x y), tdiv_of_dvd (Int.gcd_dvd_right x y)]
      have b1 := Int.natAbs_ediv_le_natAbs x (Int.gcd x y)
      have b2 := Int.natAbs_ediv_le_natAbs y (Int.gcd x y)
      rw [wrap_id (by omega) (by omega), wrap_id (by omega) (by omega)]
theorem impl_PrimitiveVec_eq (k : Nat) (hk : 1001 ≤ k) (x y : Int) : impl_PrimitiveVec.f k x y = some (primR x y) := by
  unfold impl_PrimitiveVec.f primR
  simp only [impl_IsVec_eq, Option.bind_some]
  cases h : vecB x y with
  | false => simp
  | true =>
    rw [vecB_iff] at h
    have hg := Int.gcd_eq_zero_iff (a := x) (b := y)
    unfold impl_gcd.f
    rw [impl_gcd_eq k x y (by omega) (by omega) (by omega)]
    simp only [if_true, Option.bind_some]
    by_cases h0 : x = 0 ∧ y = 0
    · rw [if_pos (by omega), if_pos h0]
    · rw [if_neg (by omega), if_neg h0, tdiv_of_dvd (Int.gcd_dvd_left x y), tdiv_of_dvd (Int.gcd_dvd_right x y)]
      have b1 := Int.natAbs_ediv_le_natAbs x (Int.gcd x y)
      have b2 := Int.natAbs_ediv_le_natAbs y (Int.gcd x y)
      rw [wrap_id (by omega) (by omega), wrap_id (by omega) (by omega)]
theorem main (a0_0 : Int) (a0_1 : Int) (w0_0 : (Go.Lit.int .i64 a0_0).wf = true) (w0_1 : (Go.Lit.int .i64 a0_1).wf = true) : ∃ k, laws_FnExactPrimitiveVec.f k a0_0 a0_1 = some true := by
  refine ⟨1001, ?_⟩
  unfold laws_FnExactPrimitiveVec.f
  simp only [laws_toVec.f, Option.bind_some]
  rw [spec_PrimitiveVec_eq _ (by decide), impl_PrimitiveVec_eq _ (by decide)]
  simp [laws_eqVec.f]
end Go.Proofs.Ytpkjgcafbkfbgaa.PureFnExactPrimitiveVec

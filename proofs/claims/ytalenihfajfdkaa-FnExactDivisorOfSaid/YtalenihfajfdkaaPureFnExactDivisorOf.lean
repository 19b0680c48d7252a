/-
The law FnExactDivisorOf, over numbers and lists alone: the printed functions of the program and of the reference answer alike. No condition but that each number is an int64.
-/
import Derived.Test.YtalenihfajfdkaaF12
import Derived.Test.YtalenihfajfdkaaSem
import Derived.Test.YtalenihfajfdkaaMth
namespace Go.Proofs.Ytalenihfajfdkaa.PureFnExactDivisorOf
open Go.RowKit Go.Proofs.Ytalenihfajfdkaa.F Go.Proofs.YtalenihfajfdkaaW.PrintWords Go.Proofs.YtalenihfajfdkaaW.PrintLast Go.Proofs.YtalenihfajfdkaaW.PrintMore Go.Proofs.Ytalenihfajfdkaa.Sem Go.Proofs.Ytalenihfajfdkaa.Mth
set_option linter.unusedVariables false
set_option linter.unusedSimpArgs false
theorem spec_l01In_eq (a b c : Int) : spec_l01In.f a b c = some (decide (b ≤ a ∧ a ≤ c)) := by
  unfold spec_l01In.f; split <;> simp <;> omega
theorem impl_within_eq (a b c : Int) : impl_within.f a b c = some (decide (b ≤ a ∧ a ≤ c)) := by
  unfold impl_within.f; split <;> simp <;> omega
theorem impl_gcd_eq : ∀ (k : Nat) (a b : Int), b.natAbs < k → a.natAbs < 9223372036854775808 → b.natAbs < 9223372036854775808 → impl_gcd.l0 k a b = some (Int.gcd a b : Int) := by
  intro k
  induction k with
  | zero => intro a b h; omega
  | succ k ih =>
    intro a b h ha hb
    unfold impl_gcd.l0
    by_cases h0 : b = 0
    · subst h0; rw [if_pos rfl, mx_abs (by omega) (by omega), Int.gcd_zero_right]
    · rw [if_neg h0]
      have h1 := Int.natAbs_tmod a b
      have h2 := Nat.mod_lt a.natAbs (show 0 < b.natAbs by omega)
      rw [ih b (a.tmod b) (by omega) (by omega) (by omega), gcd_tmod]
theorem spec_l01Divisor_eq : ∀ (k : Nat) (a b : Int), b.natAbs < k → a.natAbs < 9223372036854775808 → b.natAbs < 9223372036854775808 → spec_l01Divisor.f k a b = some (Int.gcd a b : Int) := by
  intro k
  induction k with
  | zero => intro a b h; omega
  | succ k ih =>
    intro a b h ha hb
    unfold spec_l01Divisor.f
    by_cases h0 : b = 0
    · subst h0; rw [if_pos rfl, mx_abs (by omega) (by omega), Int.gcd_zero_right]
    · rw [if_neg h0]
      have h1 := Int.natAbs_tmod a b
      have h2 := Nat.mod_lt a.natAbs (show 0 < b.natAbs by omega)
      rw [ih b (a.tmod b) (by omega) (by omega) (by omega), gcd_tmod]; rfl
theorem spec_DivisorOf_eq (k : Nat) (hk : 1000001 ≤ k) (a b : Int) : spec_DivisorOf.f k a b = some (divR a b) := by
  unfold spec_DivisorOf.f divR
  simp only [spec_l01In_eq, Option.bind_some, decide_eq_true_eq]
  by_cases h1 : -1000000 ≤ a ∧ a ≤ 1000000
  · by_cases h2 : -1000000 ≤ b ∧ b ≤ 1000000
    · rw [if_pos h1, if_pos h2, spec_l01Divisor_eq k a b (by omega) (by omega) (by omega), if_pos ⟨h1, h2⟩]; rfl
    · rw [if_pos h1, if_neg h2, if_neg (fun x => h2 x.2)]
  · rw [if_neg h1, if_neg (fun x => h1 x.1)]
theorem impl_DivisorOf_eq (k : Nat) (hk : 1000001 ≤ k) (a b : Int) : impl_DivisorOf.f k a b = some (divR a b) := by
  unfold impl_DivisorOf.f divR
  simp only [impl_within_eq, Option.bind_some, decide_eq_true_eq]
  by_cases h1 : -1000000 ≤ a ∧ a ≤ 1000000
  · by_cases h2 : -1000000 ≤ b ∧ b ≤ 1000000
    · unfold impl_gcd.f; rw [if_pos h1, if_pos h2, impl_gcd_eq k a b (by omega) (by omega) (by omega), if_pos ⟨h1, h2⟩]; rfl
    · rw [if_pos h1, if_neg h2, if_neg (fun x => h2 x.2)]
  · rw [if_neg h1, if_neg (fun x => h1 x.1)]
theorem main (a0 : Int) (a1 : Int) (w0 : (Go.Lit.int .i64 a0).wf = true) (w1 : (Go.Lit.int .i64 a1).wf = true) : ∃ k, laws_FnExactDivisorOf.f k a0 a1 = some true := by
  refine ⟨1000001, ?_⟩
  unfold laws_FnExactDivisorOf.f
  rw [spec_DivisorOf_eq _ (by decide), impl_DivisorOf_eq _ (by decide)]
  simp
end Go.Proofs.Ytalenihfajfdkaa.PureFnExactDivisorOf

/-
The law FnJoins, over numbers and lists alone: the printed functions of the program and of the reference answer alike. No condition but that each number is an int64.
-/
import Derived.Test.YtjjbjaagfjljnaaF35
import GoSem.Claim
namespace Go.Proofs.Ytjjbjaagfjljnaa.PureFnJoins
open Go.RowKit Go.Proofs.Ytjjbjaagfjljnaa.F Go.Proofs.YtjjbjaagfjljnaaW.PrintWords Go.Proofs.YtjjbjaagfjljnaaW.PrintLast Go.Proofs.YtjjbjaagfjljnaaW.PrintMore
set_option linter.unusedVariables false
set_option linter.unusedSimpArgs false
theorem gcd_tmod (a b : Int) : Int.gcd b (a.tmod b) = Int.gcd a b := by
  unfold Int.gcd
  rw [Int.natAbs_tmod, Nat.gcd_comm a.natAbs, Nat.gcd_rec b.natAbs a.natAbs, Nat.gcd_comm]
theorem bezout_nat : ∀ (n : Nat) (a b : Int), b.natAbs ≤ n → ∃ s t : Int, (Int.gcd a b : Int) = s * a + t * b := by
  intro n
  induction n with
  | zero =>
    intro a b h
    have hb : b = 0 := by omega
    subst hb
    rcases Int.natAbs_eq a with h | h
    · exact ⟨1, 0, by rw [Int.gcd_zero_right]; omega⟩
    · exact ⟨-1, 0, by rw [Int.gcd_zero_right]; omega⟩
  | succ n ih =>
    intro a b h
    by_cases hb : b = 0
    · exact ih a b (by omega)
    · have h1 : (a.tmod b).natAbs ≤ n := by
        rw [Int.natAbs_tmod]
        have := Nat.mod_lt a.natAbs (show 0 < b.natAbs by omega)
        omega
      obtain ⟨s, t, e⟩ := ih b (a.tmod b) h1
      refine ⟨t, s - t * (a.tdiv b), ?_⟩
      rw [← gcd_tmod a b, e]
      have := Int.mul_tdiv_add_tmod a b
      grind
theorem bezout (a b : Int) : ∃ s t : Int, (Int.gcd a b : Int) = s * a + t * b := bezout_nat _ a b (Nat.le_refl _)
/-- A positive (or zero) number that divides both and is a sum of multiples of both is their divisor. -/
theorem gcd_unique {a b g : Int} (h0 : 0 ≤ g) (ha : g ∣ a) (hb : g ∣ b) (h : ∃ s t, g = s * a + t * b) : g = Int.gcd a b := by
  obtain ⟨s, t, e⟩ := h
  have h1 : g ∣ (Int.gcd a b : Int) := Int.dvd_coe_gcd ha hb
  have h2 : (Int.gcd a b : Int) ∣ g := by
    rw [e]
    exact Int.dvd_add (Int.dvd_mul_of_dvd_right (Int.gcd_dvd_left a b)) (Int.dvd_mul_of_dvd_right (Int.gcd_dvd_right a b))
  exact Int.dvd_antisymm h0 (by omega) h1 h2
/-- (x, y) is a sum of multiples of (a, 0) and (b, c). -/
def L (a b c x y : Int) : Prop := ∃ m n : Int, x = m * a + n * b ∧ y = n * c
theorem L_iff {a b c x y : Int} (hc : c ≠ 0) : L a b c x y ↔ (y % c = 0 ∧ (x - (y / c) * b) % a = 0) := by
  constructor
  · rintro ⟨m, n, rfl, rfl⟩
    refine ⟨Int.mul_emod_left n c, ?_⟩
    rw [Int.mul_ediv_cancel n hc]
    have : m * a + n * b - n * b = m * a := by omega
    rw [this]; exact Int.mul_emod_left m a
  · rintro ⟨h1, h2⟩
    obtain ⟨n, rfl⟩ := Int.dvd_of_emod_eq_zero h1
    rw [Int.mul_ediv_cancel_left n hc] at h2
    obtain ⟨m, hm⟩ := Int.dvd_of_emod_eq_zero h2
    exact ⟨m, n, by grind, by grind⟩
/-- Equal lattices in the given form are equal. -/
theorem L_unique {a b c a' b' c' : Int} (ha : 0 < a) (hc : 0 < c) (hb0 : 0 ≤ b) (hb : b < a) (ha' : 0 < a') (hc' : 0 < c') (hb0' : 0 ≤ b') (hb' : b' < a') (h : ∀ x y, L a b c x y ↔ L a' b' c' x y) : a = a' ∧ b = b' ∧ c = c' := by
  obtain ⟨m1, n1, e1, e2⟩ := (h a 0).mp ⟨1, 0, by omega, by omega⟩
  obtain ⟨m2, n2, e3, e4⟩ := (h b c).mp ⟨0, 1, by omega, by omega⟩
  obtain ⟨m3, n3, e5, e6⟩ := (h a' 0).mpr ⟨1, 0, by omega, by omega⟩
  obtain ⟨m4, n4, e7, e8⟩ := (h b' c').mpr ⟨0, 1, by omega, by omega⟩
  have z1 : n1 = 0 := by
    rcases Int.mul_eq_zero.mp e2.symm with h | h <;> omega
  have z3 : n3 = 0 := by
    rcases Int.mul_eq_zero.mp e6.symm with h | h <;> omega
  subst z1; subst z3
  have da : a' ∣ a := ⟨m1, by grind⟩
  have da' : a ∣ a' := ⟨m3, by grind⟩
  have dc : c' ∣ c := ⟨n2, by grind⟩
  have dc' : c ∣ c' := ⟨n4, by grind⟩
  have ea := Int.dvd_antisymm (by omega) (by omega) da' da
  have ec := Int.dvd_antisymm (by omega) (by omega) dc' dc
  subst ea; subst ec
  have hn : n2 = 1 := by
    have h1 : n2 * c = 1 * c := by omega
    exact Int.eq_of_mul_eq_mul_right (by omega) h1
  subst hn
  refine ⟨rfl, ?_, rfl⟩
  have hm : m2 = 0 := by
    rcases Int.lt_trichotomy m2 0 with h | h | h
    · have : m2 * a ≤ (-1) * a := Int.mul_le_mul_of_nonneg_right (by omega) (by omega)
      omega
    · exact h
    · have : 1 * a ≤ m2 * a := Int.mul_le_mul_of_nonneg_right (by omega) (by omega)
      omega
  subst hm
  omega
theorem L_rank {a b c ux uy vx vy : Int} (hu : L a b c ux uy) (hv : L a b c vx vy) (hd : ux * vy - uy * vx ≠ 0) : a ≠ 0 ∧ c ≠ 0 := by
  obtain ⟨m1, n1, e1, e2⟩ := hu
  obtain ⟨m2, n2, e3, e4⟩ := hv
  subst e1 e2 e3 e4
  constructor
  · rintro rfl; apply hd; grind
  · rintro rfl; apply hd; grind
/-- All sums of multiples of two vectors. -/
def S2 (px py vx vy x y : Int) : Prop := ∃ i j : Int, x = i * px + j * vx ∧ y = i * py + j * vy
theorem S2_step (px py vx vy k x y : Int) : S2 vx vy (px - k * vx) (py - k * vy) x y ↔ S2 px py vx vy x y := by
  constructor
  · rintro ⟨i, j, rfl, rfl⟩; exact ⟨j, i - j * k, by grind, by grind⟩
  · rintro ⟨i, j, rfl, rfl⟩; exact ⟨j + i * k, i, by grind, by grind⟩
/-- One vector more: what the divisor step does. -/
theorem L_more {low px py ux uy px' py' vx' low' : Int} (hs : ∀ x y, S2 px' py' vx' 0 x y ↔ S2 px py ux uy x y) (hg : low' = Int.gcd low vx') (x y : Int) :
    L low' px' py' x y ↔ ∃ j, L low px py (x - j * ux) (y - j * uy) := by
  constructor
  · rintro ⟨m, n, e1, e2⟩
    obtain ⟨s, t, e⟩ := bezout low vx'
    obtain ⟨i, j, e3, e4⟩ := (hs (x - m * s * low) y).mp ⟨n, m * t, by subst e1; rw [hg, e]; grind, by grind⟩
    exact ⟨j, m * s, i, by grind, by grind⟩
  · rintro ⟨j, m, n, e1, e2⟩
    obtain ⟨i', j', e3, e4⟩ := (hs (x - m * low) y).mpr ⟨n, j, by grind, by grind⟩
    have d1 : low' ∣ low := by rw [hg]; exact Int.gcd_dvd_left low vx'
    have d2 : low' ∣ vx' := by rw [hg]; exact Int.gcd_dvd_right low vx'
    obtain ⟨p, hp⟩ := d1
    obtain ⟨q, hq⟩ := d2
    exact ⟨m * p + j' * q, i', by grind, by grind⟩
theorem L_neg (a b c x y : Int) : L a (-b) (-c) x y ↔ L a b c x y := by
  constructor
  · rintro ⟨m, n, e1, e2⟩; exact ⟨m, -n, by grind, by grind⟩
  · rintro ⟨m, n, e1, e2⟩; exact ⟨m, -n, by grind, by grind⟩
theorem L_mod (a b c x y : Int) : L a (b % a) c x y ↔ L a b c x y := by
  constructor
  · rintro ⟨m, n, e1, e2⟩; rw [Int.emod_def] at e1; exact ⟨m - n * (b / a), n, by grind, by grind⟩
  · rintro ⟨m, n, e1, e2⟩; refine ⟨m + n * (b / a), n, ?_, e2⟩; rw [Int.emod_def]; grind
theorem L_zero (x y : Int) : L 0 0 0 x y ↔ x = 0 ∧ y = 0 := by
  constructor
  · rintro ⟨m, n, e1, e2⟩; exact ⟨by grind, by grind⟩
  · rintro ⟨rfl, rfl⟩; exact ⟨0, 0, by grind, by grind⟩
theorem L_add {a b c x y x' y' : Int} (h : L a b c x y) (h' : L a b c x' y') (i j : Int) : L a b c (i * x + j * x') (i * y + j * y') := by
  obtain ⟨m, n, rfl, rfl⟩ := h
  obtain ⟨m', n', rfl, rfl⟩ := h'
  exact ⟨i * m + j * m', i * n + j * n', by grind, by grind⟩
theorem pos_of_mul {a b : Int} (ha : 0 < a) (h : 0 < a * b) : 0 < b := by
  rcases Int.lt_trichotomy b 0 with h' | h' | h'
  · have := Int.mul_neg_of_pos_of_neg ha h'; omega
  · subst h'; omega
  · exact h'
/-- x ≡ r (a), x ≡ r' (a') has a solution exactly if the divisor of a, a' divides r - r'. -/
theorem crt (a a' r r' : Int) : (∃ m m' : Int, m * a + r = m' * a' + r') ↔ (Int.gcd a a' : Int) ∣ (r - r') := by
  constructor
  · rintro ⟨m, m', h⟩
    have : r - r' = m' * a' - m * a := by omega
    rw [this]
    exact Int.dvd_sub (Int.dvd_mul_of_dvd_right (Int.gcd_dvd_right a a')) (Int.dvd_mul_of_dvd_right (Int.gcd_dvd_left a a'))
  · rintro ⟨k, hk⟩
    obtain ⟨s, t, e⟩ := bezout a a'
    exact ⟨-(k * s), k * t, by rw [e] at hk; grind⟩
/-- What the join of two lattices is. -/
theorem join_is {a b c a' b' c' A B C : Int} (ha : 0 < a) (hc : 0 < c) (ha' : 0 < a') (hc' : 0 < c') (hA : 0 < A) (hC : 0 < C)
    (h : ∀ x y, L A B C x y ↔ ∃ m n m' n' : Int, x = m * a + n * b + m' * a' + n' * b' ∧ y = n * c + n' * c') :
    C = Int.gcd c c' ∧ A = Int.gcd (Int.gcd a a') ((c' / C) * b - (c / C) * b') := by
  obtain ⟨k1, k2, e1, e2⟩ := (h b c).mpr ⟨0, 1, 0, 0, by omega, by omega⟩
  obtain ⟨k3, k4, e3, e4⟩ := (h b' c').mpr ⟨0, 0, 0, 1, by omega, by omega⟩
  obtain ⟨m, n, m', n', e5, e6⟩ := (h B C).mp ⟨0, 1, by omega, by omega⟩
  obtain ⟨k5, k6, e7, e8⟩ := (h a 0).mpr ⟨1, 0, 0, 0, by omega, by omega⟩
  obtain ⟨k7, k8, e9, e10⟩ := (h a' 0).mpr ⟨0, 0, 1, 0, by omega, by omega⟩
  have hCg : C = Int.gcd c c' := gcd_unique (by omega) ⟨k2, by grind⟩ ⟨k4, by grind⟩ ⟨n, n', e6⟩
  refine ⟨hCg, ?_⟩
  have q1 : c / C = k2 := by rw [e2]; exact Int.mul_ediv_cancel _ (by omega)
  have q2 : c' / C = k4 := by rw [e4]; exact Int.mul_ediv_cancel _ (by omega)
  rw [q1, q2]
  have z6 : k6 = 0 := by rcases Int.mul_eq_zero.mp e8.symm with h | h <;> omega
  have z8 : k8 = 0 := by rcases Int.mul_eq_zero.mp e10.symm with h | h <;> omega
  subst z6; subst z8
  obtain ⟨k9, k10, e11, e12⟩ := (h (k4 * b - k2 * b') 0).mpr ⟨0, k4, 0, -k2, by grind, by grind⟩
  have z10 : k10 = 0 := by rcases Int.mul_eq_zero.mp e12.symm with h | h <;> omega
  subst z10
  refine gcd_unique (by omega) (Int.dvd_coe_gcd ⟨k5, by grind⟩ ⟨k7, by grind⟩) ⟨k9, by grind⟩ ?_
  obtain ⟨i, j, i', j', e13, e14⟩ := (h A 0).mp ⟨1, 0, by omega, by omega⟩
  obtain ⟨s, t, e⟩ := bezout a a'
  -- j k2 + j' k4 = 0, and n k2 + n' k4 = 1
  have r1 : n * k2 + n' * k4 = 1 := by
    have : (n * k2 + n' * k4) * C = 1 * C := by rw [Int.add_mul, Int.mul_assoc, Int.mul_assoc, ← e2, ← e4]; omega
    exact Int.eq_of_mul_eq_mul_right (by omega) this
  have r2 : j * k2 + j' * k4 = 0 := by
    have : (j * k2 + j' * k4) * C = 0 * C := by rw [Int.add_mul, Int.mul_assoc, Int.mul_assoc, ← e2, ← e4]; omega
    exact Int.eq_of_mul_eq_mul_right (by omega) this
  have ga : (Int.gcd a a' : Int) ∣ i * a + i' * a' := Int.dvd_add (Int.dvd_mul_of_dvd_right (Int.gcd_dvd_left a a')) (Int.dvd_mul_of_dvd_right (Int.gcd_dvd_right a a'))
  obtain ⟨q, hq⟩ := ga
  -- j = u k4, j' = - u k2 with u = j n' - j' n
  refine ⟨q, j * n' - j' * n, ?_⟩
  have w1 : j = (j * n' - j' * n) * k4 := by clear hq e13 e14 e11 e12 e7 e9 e1 e3 e5 e6 e2 e4 e h q1 q2; grind
  have w2 : j' = -((j * n' - j' * n) * k2) := by clear hq e13 e14 e11 e12 e7 e9 e1 e3 e5 e6 e2 e4 e h q1 q2 w1; grind
  have w3 : j * b + j' * b' = (j * n' - j' * n) * (k4 * b - k2 * b') := by
    generalize j * n' - j' * n = u at w1 w2 ⊢
    rw [w1, w2, Int.mul_sub, Int.neg_mul, Int.mul_assoc, Int.mul_assoc]; omega
  rw [Int.mul_comm q]
  omega
theorem coprime_of {C k2 k4 n n' : Int} (hC : C ≠ 0) (h : C = n * (k2 * C) + n' * (k4 * C)) : n * k2 + n' * k4 = 1 := by
  have : (n * k2 + n' * k4) * C = 1 * C := by rw [Int.add_mul, Int.mul_assoc, Int.mul_assoc]; omega
  exact Int.eq_of_mul_eq_mul_right hC this
theorem id1 {n n' k2 k4 n1 n2 : Int} (h : n * k2 + n' * k4 = 1) (f : n1 * k2 = n2 * k4) : n1 = (n1 * n' + n2 * n) * k4 ∧ n2 = (n1 * n' + n2 * n) * k2 := ⟨by grind, by grind⟩
theorem id3 (k k4 k2 b b' : Int) : k * k4 * b - k * k2 * b' = k * (k4 * b - k2 * b') := by grind
theorem id4 {g1 t1 s r k u : Int} (h : s * g1 + r * t1 = 1) (w : k * t1 = g1 * u) : k = g1 * (s * k + r * u) := by grind
theorem id5 (g1 x k4 C k2 : Int) : g1 * x * k4 * (C * k2) = g1 * (k2 * (k4 * C)) * x := by grind
theorem id6 (j g1 A t1 : Int) : j * g1 * (A * t1) = A * g1 * (j * t1) := by grind
theorem id7 (j g1 k2 k4 C : Int) : g1 * (k2 * (k4 * C)) * j = j * g1 * k4 * (C * k2) ∧ g1 * (k2 * (k4 * C)) * j = j * g1 * k2 * (C * k4) := ⟨by grind, by grind⟩
theorem id8 (A2 g1 k2 k4 C A : Int) : A2 * (g1 * (k2 * (k4 * C))) * (A * C) = (A2 * (A * g1)) * ((C * k2) * (C * k4)) := by grind
theorem id9 (a a' x y : Int) : a * a' * (x * y) = a * x * (a' * y) := by grind
/-- Which rows both lattices reach: the multiples of Y; and the product of the indices. -/
theorem meet_is {a b c a' b' c' A C : Int} (ha : 0 < a) (hc : 0 < c) (ha' : 0 < a') (hc' : 0 < c') (hA : 0 < A) (hC : 0 < C)
    (hCg : C = Int.gcd c c') (hAg : A = Int.gcd (Int.gcd a a') ((c' / C) * b - (c / C) * b')) :
    ∃ Y : Int, 0 < Y ∧ (∀ y, (∃ x, L a b c x y ∧ L a' b' c' x y) ↔ Y ∣ y) ∧ ∀ A2, A2 * Int.gcd a a' = a * a' → A2 * Y * (A * C) = (a * c) * (a' * c') := by
  have dc : C ∣ c := by rw [hCg]; exact Int.gcd_dvd_left c c'
  have dc' : C ∣ c' := by rw [hCg]; exact Int.gcd_dvd_right c c'
  obtain ⟨k2, e2⟩ := dc
  obtain ⟨k4, e4⟩ := dc'
  have q1 : c / C = k2 := by rw [e2]; exact Int.mul_ediv_cancel_left _ (by omega)
  have q2 : c' / C = k4 := by rw [e4]; exact Int.mul_ediv_cancel_left _ (by omega)
  rw [q1, q2] at hAg
  have p2 : 0 < k2 := pos_of_mul hC (by omega)
  have p4 : 0 < k4 := pos_of_mul hC (by omega)
  have hg0 : 0 < (Int.gcd a a' : Int) := by have := Int.gcd_pos_of_ne_zero_left a' (show a ≠ 0 by omega); omega
  have dA : A ∣ (Int.gcd a a' : Int) := by rw [hAg]; exact Int.gcd_dvd_left _ _
  have dt : A ∣ (k4 * b - k2 * b') := by rw [hAg]; exact Int.gcd_dvd_right _ _
  obtain ⟨s, r, eA⟩ := bezout (Int.gcd a a' : Int) (k4 * b - k2 * b')
  rw [← hAg] at eA
  obtain ⟨n, n', eC⟩ := bezout c c'
  rw [← hCg] at eC
  have hcrt := crt a a'
  generalize (Int.gcd a a' : Int) = g at *
  obtain ⟨g1, eg⟩ := dA
  obtain ⟨t1, et⟩ := dt
  have pg : 0 < g1 := pos_of_mul hA (by omega)
  have r1 : n * k2 + n' * k4 = 1 := coprime_of (C := C) (by omega) (by rw [Int.mul_comm k2, Int.mul_comm k4, ← e2, ← e4]; exact eC)
  have r2 : s * g1 + r * t1 = 1 := coprime_of (C := A) (by omega) (by rw [Int.mul_comm g1, Int.mul_comm t1, ← eg, ← et]; exact eA)
  refine ⟨g1 * (k2 * (k4 * C)), Int.mul_pos pg (Int.mul_pos p2 (Int.mul_pos p4 hC)), ?_, ?_⟩
  · intro y
    constructor
    · rintro ⟨x, ⟨m1, n1, f1, f2⟩, ⟨m2, n2, f3, f4⟩⟩
      have f5 : n1 * k2 = n2 * k4 := by
        have : (n1 * k2) * C = (n2 * k4) * C := by rw [Int.mul_assoc, Int.mul_assoc, Int.mul_comm k2, Int.mul_comm k4, ← e2, ← e4]; omega
        exact Int.eq_of_mul_eq_mul_right (by omega) this
      obtain ⟨w1, w2⟩ := id1 r1 f5
      generalize n1 * n' + n2 * n = k at w1 w2
      have d := (hcrt (n1 * b) (n2 * b')).mp ⟨m1, m2, by omega⟩
      have w3 : n1 * b - n2 * b' = k * (k4 * b - k2 * b') := by rw [w1, w2]; exact id3 _ _ _ _ _
      rw [w3, et] at d
      obtain ⟨u, hu⟩ := d
      rw [eg] at hu
      have w4 : k * t1 = g1 * u := by
        have : A * (k * t1) = A * (g1 * u) := by rw [← Int.mul_assoc, ← Int.mul_assoc, Int.mul_comm A k, Int.mul_assoc]; exact hu
        exact Int.eq_of_mul_eq_mul_left (by omega) this
      refine ⟨s * k + r * u, ?_⟩
      have w5 := id4 r2 w4
      generalize s * k + r * u = x at w5 ⊢
      rw [f2, w1, e2, w5]; exact id5 _ _ _ _ _
    · rintro ⟨j, rfl⟩
      obtain ⟨m1, m2, hm⟩ := (hcrt ((j * g1 * k4) * b) ((j * g1 * k2) * b')).mpr ⟨j * t1, by
        have : j * g1 * k4 * b - j * g1 * k2 * b' = j * g1 * (k4 * b - k2 * b') := id3 _ _ _ _ _
        rw [this, et, eg]; exact id6 _ _ _ _⟩
      exact ⟨m1 * a + (j * g1 * k4) * b, ⟨m1, j * g1 * k4, rfl, by rw [e2]; exact (id7 _ _ _ _ _).1⟩, ⟨m2, j * g1 * k2, hm, by rw [e4]; exact (id7 _ _ _ _ _).2⟩⟩
  · intro A2 h
    rw [eg] at h
    rw [id8, h, ← e2, ← e4]; exact id9 _ _ _ _
theorem tmod_cases (a n : Int) (hn : 0 < n) : (0 ≤ a ∧ a.tmod n = a % n) ∨ (a < 0 ∧ a.tmod n = -((-a) % n)) := by
  rcases Int.lt_or_le a 0 with h | h
  · refine Or.inr ⟨h, ?_⟩
    have : a.tmod n = -((-a).tmod n) := by rw [Int.neg_tmod, Int.neg_neg]
    rw [this, Int.tmod_eq_emod_of_nonneg (by omega)]
  · exact Or.inl ⟨h, Int.tmod_eq_emod_of_nonneg h⟩
theorem tmod_bounds (a n : Int) (hn : 0 < n) : -n < a.tmod n ∧ a.tmod n < n := by
  have h1 := Int.emod_nonneg a (show n ≠ 0 by omega)
  have h2 := Int.emod_lt_of_pos a hn
  have h3 := Int.emod_nonneg (-a) (show n ≠ 0 by omega)
  have h4 := Int.emod_lt_of_pos (-a) hn
  rcases tmod_cases a n hn with ⟨_, e⟩ | ⟨_, e⟩ <;> rw [e] <;> omega
theorem neg_emod_add (a n : Int) (hn : 0 < n) : a % n = (n - (-a) % n) % n := by
  have e := Int.mul_ediv_add_emod (-a) n
  have : n - (-a) % n = a + n * ((-a) / n + 1) := by rw [Int.mul_add]; omega
  rw [this, Int.add_mul_emod_self_left]
theorem mod_add (a n : Int) (hn : 0 < n) : (a.tmod n + n).tmod n = a % n := by
  have h1 := Int.emod_nonneg a (show n ≠ 0 by omega)
  have h2 := Int.emod_lt_of_pos a hn
  have h3 := Int.emod_nonneg (-a) (show n ≠ 0 by omega)
  have h4 := Int.emod_lt_of_pos (-a) hn
  rcases tmod_cases a n hn with ⟨_, e⟩ | ⟨_, e⟩ <;> rw [e, Int.tmod_eq_emod_of_nonneg (by omega)]
  · rw [Int.add_emod_right, Int.emod_emod]
  · rw [neg_emod_add a n hn]; congr 1; omega
theorem mod_if (a n : Int) (hn : 0 < n) : (if a.tmod n < 0 then a.tmod n + n else a.tmod n) = a % n := by
  have h1 := Int.emod_nonneg a (show n ≠ 0 by omega)
  have h3 := Int.emod_nonneg (-a) (show n ≠ 0 by omega)
  have h4 := Int.emod_lt_of_pos (-a) hn
  rcases tmod_cases a n hn with ⟨_, e⟩ | ⟨_, e⟩ <;> rw [e]
  · rw [if_neg (by omega)]
  · split
    · rw [neg_emod_add a n hn, Int.emod_eq_of_lt (a := n - (-a) % n) (b := n) (by omega) (by omega)]; omega
    · have : (-a) % n = 0 := by omega
      rw [neg_emod_add a n hn, this]; simp
theorem tdiv_row (y c : Int) (hc : 0 < c) : (y - y % c).tdiv c = y / c := by
  have e := Int.mul_ediv_add_emod y c
  have : y - y % c = c * (y / c) := by omega
  rw [this, Int.mul_tdiv_cancel_left _ (by omega)]
theorem tdiv_of_dvd {a b : Int} (h : b ∣ a) : a.tdiv b = a / b := Int.tdiv_eq_ediv_of_dvd h
theorem euclid {px py vx vy : Int} {M : Nat} (hv : vy ≠ 0) (hQ : px.natAbs * vy.natAbs + vx.natAbs * py.natAbs ≤ M) :
    (py.tdiv vy).natAbs ≤ py.natAbs ∧ (py.tdiv vy * vx).natAbs ≤ M ∧ (px - py.tdiv vy * vx).natAbs ≤ M ∧ (py.tdiv vy * vy).natAbs ≤ py.natAbs ∧
      (py - py.tdiv vy * vy).natAbs < vy.natAbs ∧ vx.natAbs * (py - py.tdiv vy * vy).natAbs + (px - py.tdiv vy * vx).natAbs * vy.natAbs ≤ M := by
  have hV : 0 < vy.natAbs := by omega
  have eK : (py.tdiv vy).natAbs = py.natAbs / vy.natAbs := Int.natAbs_tdiv py vy
  have e1 : py - py.tdiv vy * vy = py.tmod vy := by have := Int.mul_tdiv_add_tmod py vy; rw [Int.mul_comm] at this; omega
  have eR : (py.tmod vy).natAbs = py.natAbs % vy.natAbs := Int.natAbs_tmod py vy
  have e2 := Nat.div_add_mod py.natAbs vy.natAbs
  have h3 : (px - py.tdiv vy * vx).natAbs ≤ px.natAbs + (py.tdiv vy).natAbs * vx.natAbs := by
    have := Int.natAbs_sub_le px (py.tdiv vy * vx)
    rw [Int.natAbs_mul] at this; exact this
  have hK := Nat.div_le_self py.natAbs vy.natAbs
  have hR := Nat.mod_lt py.natAbs hV
  rw [e1, eR, Int.natAbs_mul, Int.natAbs_mul, eK]
  rw [eK] at h3
  generalize (px - py.tdiv vy * vx).natAbs = Z at *
  generalize py.natAbs / vy.natAbs = K at *
  generalize py.natAbs % vy.natAbs = R at *
  generalize py.natAbs = P at *
  generalize vy.natAbs = V at *
  generalize vx.natAbs = Y at *
  generalize px.natAbs = X at *
  have q : Y * R + (X + K * Y) * V = X * V + Y * P := by rw [← e2]; grind
  have q2 : Z * V ≤ (X + K * Y) * V := Nat.mul_le_mul_right V h3
  have q3 : X + K * Y ≤ (X + K * Y) * V := Nat.le_mul_of_pos_right _ hV
  have q4 : K * V ≤ P := by rw [Nat.mul_comm] ; omega
  have q5 : 0 ≤ Y * R := Nat.zero_le _
  have q6 : 0 ≤ X := Nat.zero_le _
  refine ⟨hK, ?_, ?_, q4, hR, ?_⟩
  · generalize K * Y = KY at *; omega
  · omega
  · omega
def latB (a b c : Int) : Bool := decide ((1 ≤ a ∧ a ≤ 64) ∧ (1 ≤ c ∧ c ≤ 64) ∧ (0 ≤ b ∧ b ≤ a - 1) ∧ a * c ≤ 64)
theorem wrap_id {x : Int} (h1 : -9223372036854775808 ≤ x) (h2 : x < 9223372036854775808) : wrap64 x = x := by unfold wrap64; omega
theorem prod_bd {a b A B : Int} (ha : -A ≤ a) (ha' : a ≤ A) (hb : -B ≤ b) (hb' : b ≤ B) (hA : 0 ≤ A) : -(A * B) ≤ a * b ∧ a * b ≤ A * B := by
  have h1 : (a * b).natAbs ≤ A.natAbs * B.natAbs := by rw [Int.natAbs_mul]; exact Nat.mul_le_mul (by omega) (by omega)
  have h2 : (A * B).natAbs = A.natAbs * B.natAbs := Int.natAbs_mul A B
  have h3 : 0 ≤ A * B := Int.mul_nonneg hA (by omega)
  omega
theorem latB_iff {a b c : Int} : latB a b c = true ↔ (1 ≤ a ∧ a ≤ 64) ∧ (1 ≤ c ∧ c ≤ 64) ∧ (0 ≤ b ∧ b ≤ a - 1) ∧ a * c ≤ 64 := by unfold latB; rw [decide_eq_true_iff]
/-- Products of small numbers need no wrapping. -/
theorem wrap_mul {a b A B : Int} (ha : -A ≤ a) (ha' : a ≤ A) (hb : -B ≤ b) (hb' : b ≤ B) (hA : 0 ≤ A) (h : A * B < 9223372036854775808) : wrap64 (a * b) = a * b := by
  have := prod_bd ha ha' hb hb' hA; exact wrap_id (by omega) (by omega)
theorem mx_abs {a : Int} (h1 : -9223372036854775808 < a) (h2 : a < 9223372036854775808) : mx a (wrap64 (-a)) = (a.natAbs : Int) := by
  rw [wrap_id (by omega) (by omega)]; unfold mx; split <;> omega
/-- The cell of a vector. -/
def redV (a b c x y : Int) : Int × Int := ((x - y / c * b) % a, y % c)
def hasB (a b c x y : Int) : Bool := (redV a b c x y).1 == 0 && (redV a b c x y).2 == 0
theorem hasB_iff {a b c x y : Int} (hc : c ≠ 0) : hasB a b c x y = true ↔ L a b c x y := by
  rw [L_iff hc]; unfold hasB redV; simp [and_comm]
theorem u8_bd {a : Int} (h : (Go.Lit.int .u8 a).wf = true) : 0 ≤ a ∧ a < 256 := by
  simp only [Go.Lit.wf, Bool.and_eq_true, decide_eq_true_eq] at h
  obtain ⟨h1, h2⟩ := h
  have e1 : Go.IntKind.min .u8 = 0 := by decide
  have e2 : Go.IntKind.max .u8 = 255 := by decide
  omega
/-- A reduced form of what some vectors span. -/
def Herm (sp : Int → Int → Prop) (A B C : Int) : Prop := 0 < A ∧ 0 < C ∧ 0 ≤ B ∧ B < A ∧ ∀ x y, L A B C x y ↔ sp x y
theorem Herm.unique {sp : Int → Int → Prop} {A B C A' B' C' : Int} (h : Herm sp A B C) (h' : Herm sp A' B' C') : A = A' ∧ B = B' ∧ C = C' :=
  L_unique h.1 h.2.1 h.2.2.1 h.2.2.2.1 h'.1 h'.2.1 h'.2.2.1 h'.2.2.2.1 fun x y => (h.2.2.2.2 x y).trans (h'.2.2.2.2 x y).symm
def sp4 (a b c a' b' c' : Int) : Int → Int → Prop := fun x y => ∃ m n m' n' : Int, x = m * a + n * b + m' * a' + n' * b' ∧ y = n * c + n' * c'
/-- One vector more joins the span. -/
def plus (l p q ux uy l' p' q' : Int) : Prop := ∀ x y, L l' p' q' x y ↔ ∃ j, L l p q (x - j * ux) (y - j * uy)
theorem plus_four {a b c a' b' c' l1 p1 q1 l2 p2 q2 l3 p3 q3 l4 p4 q4 : Int} (h1 : plus 0 0 0 a 0 l1 p1 q1) (h2 : plus l1 p1 q1 b c l2 p2 q2) (h3 : plus l2 p2 q2 a' 0 l3 p3 q3) (h4 : plus l3 p3 q3 b' c' l4 p4 q4) (x y : Int) :
    L l4 p4 q4 x y ↔ sp4 a b c a' b' c' x y := by
  rw [h4]
  constructor
  · rintro ⟨n', h⟩
    obtain ⟨m', h⟩ := (h3 _ _).mp h
    obtain ⟨n, h⟩ := (h2 _ _).mp h
    obtain ⟨m, h⟩ := (h1 _ _).mp h
    rw [L_zero] at h
    exact ⟨m, n, m', n', by omega, by omega⟩
  · rintro ⟨m, n, m', n', e1, e2⟩
    refine ⟨n', (h3 _ _).mpr ⟨m', (h2 _ _).mpr ⟨n, (h1 _ _).mpr ⟨m, ?_⟩⟩⟩⟩
    rw [L_zero]; omega
theorem gcd_le_bd {a b : Int} {M : Nat} (ha : a.natAbs ≤ M) (hb : b.natAbs ≤ M) : Int.gcd a b ≤ M := by
  by_cases h : a = 0
  · subst h; rw [Int.gcd_zero_left]; exact hb
  · exact Nat.le_trans (Int.gcd_le_natAbs_left (a := a) (b := b) h) ha
theorem le_mul_r {a c : Int} (ha : 0 ≤ a) (hc : 1 ≤ c) : a ≤ a * c := by
  have := Int.mul_le_mul_of_nonneg_left hc ha; omega
theorem le_mul_l {a c : Int} (hc : 0 ≤ c) (ha : 1 ≤ a) : c ≤ a * c := by
  have := Int.mul_le_mul_of_nonneg_right ha hc; omega
/-- Is a vector in both lattices? -/
def bothB (a b c a' b' c' x y : Int) : Bool := hasB a b c x y && hasB a' b' c' x y
/-- What the search for the meet of two lattices finds. -/
def MeetAt (a b c a' b' c' W X Y : Int) : Prop := (1 ≤ W ∧ 1 ≤ Y ∧ 0 ≤ X ∧ X < W) ∧ bothB a b c a' b' c' X Y = true ∧ (∀ x, 0 ≤ x → x < X → bothB a b c a' b' c' x Y = false) ∧
  (∀ x y, 1 ≤ y → y < Y → bothB a b c a' b' c' x y = false) ∧ bothB a b c a' b' c' W 0 = true ∧ (∀ x, 1 ≤ x → x < W → bothB a b c a' b' c' x 0 = false)
theorem bothB_iff {a b c a' b' c' x y : Int} (hc : c ≠ 0) (hc' : c' ≠ 0) : bothB a b c a' b' c' x y = true ↔ L a b c x y ∧ L a' b' c' x y := by
  unfold bothB; rw [Bool.and_eq_true, hasB_iff hc, hasB_iff hc']
theorem L_row {a b c x : Int} (hc : c ≠ 0) : L a b c x 0 ↔ a ∣ x := by
  constructor
  · rintro ⟨m, n, e1, e2⟩
    have hn : n = 0 := by rcases Int.mul_eq_zero.mp e2.symm with h | h; exact h; exact absurd h hc
    subst hn; exact ⟨m, by rw [e1, Int.mul_comm]; omega⟩
  · rintro ⟨m, rfl⟩; exact ⟨m, 0, by rw [Int.mul_comm]; omega, by omega⟩
/-- The first number with a property, below a bound. -/
theorem first_below (p : Int → Bool) : ∀ (n : Nat), p n = true → ∃ X : Int, 0 ≤ X ∧ X ≤ n ∧ p X = true ∧ ∀ x, 0 ≤ x → x < X → p x = false := by
  intro n
  induction n using Nat.strongRecOn with
  | ind n ih =>
    intro h
    by_cases hex : ∃ m : Nat, m < n ∧ p m = true
    · obtain ⟨m, hm, hp⟩ := hex
      obtain ⟨X, h1, h2, h3, h4⟩ := ih m hm hp
      exact ⟨X, h1, by omega, h3, h4⟩
    · refine ⟨n, by omega, by omega, h, fun x hx hlt => ?_⟩
      rcases hq : p x with _ | _
      · rfl
      · exact absurd ⟨x.toNat, by omega, by rw [show ((x.toNat : Nat) : Int) = x by omega]; exact hq⟩ hex
theorem meet_at {a b c a' b' c' A B C : Int} (hl : latB a b c = true) (hm : latB a' b' c' = true) (hh : Herm (sp4 a b c a' b' c') A B C) :
    ∃ W X Y, MeetAt a b c a' b' c' W X Y ∧ W * Y * (A * C) = (a * c) * (a' * c') ∧ W = a / Int.gcd a a' * a' ∧ W * Y ≤ 4096 := by
  have l1 := latB_iff.mp hl
  have l2 := latB_iff.mp hm
  obtain ⟨j1, j2⟩ := join_is (by omega) (by omega) (by omega) (by omega) hh.1 hh.2.1 (fun x y => hh.2.2.2.2 x y)
  obtain ⟨Y, y1, y2, y3⟩ := meet_is (a := a) (b := b) (c := c) (a' := a') (b' := b') (c' := c') (A := A) (C := C) (by omega) (by omega) (by omega) (by omega) hh.1 hh.2.1 j1 j2
  have hg : 0 < (Int.gcd a a' : Int) := by have := Int.gcd_pos_of_ne_zero_left a' (show a ≠ 0 by omega); omega
  have hW : a / Int.gcd a a' * a' * Int.gcd a a' = a * a' := by
    have := Int.ediv_mul_cancel (Int.gcd_dvd_left a a')
    rw [Int.mul_assoc, Int.mul_comm a', ← Int.mul_assoc, this]
  have hag : 0 < a / Int.gcd a a' := by
    have := Int.ediv_mul_cancel (Int.gcd_dvd_left a a')
    rw [Int.mul_comm] at this
    exact pos_of_mul hg (by omega)
  have hW0 : 0 < a / Int.gcd a a' * a' := Int.mul_pos hag (by omega)
  have hprod := y3 _ hW
  have d1 : a ∣ a / Int.gcd a a' * a' := by
    obtain ⟨q, hq⟩ := Int.gcd_dvd_right a a'
    refine ⟨q, ?_⟩
    have := Int.ediv_mul_cancel (Int.gcd_dvd_left a a')
    generalize (Int.gcd a a' : Int) = g at *
    rw [hq, ← Int.mul_assoc, this]
  have d2 : a' ∣ a / Int.gcd a a' * a' := ⟨a / Int.gcd a a', Int.mul_comm _ _⟩
  have hmin : ∀ x, 1 ≤ x → a ∣ x → a' ∣ x → a / Int.gcd a a' * a' ≤ x := by
    intro x hx p q
    have h1 : (Int.lcm a a' : Int) ∣ x := Int.coe_lcm_dvd p q
    have h2 : Int.gcd a a' * Int.lcm a a' = (a * a').natAbs := by rw [Int.gcd_mul_lcm, Int.natAbs_mul]
    have hp : 0 < a * a' := Int.mul_pos (by omega) (by omega)
    have h3 : (Int.lcm a a' : Int) * Int.gcd a a' = a / Int.gcd a a' * a' * Int.gcd a a' := by
      rw [hW, Int.mul_comm]
      have : ((Int.gcd a a' * Int.lcm a a' : Nat) : Int) = ((a * a').natAbs : Int) := by rw [h2]
      rw [Int.natCast_mul] at this; omega
    have h4 := Int.eq_of_mul_eq_mul_right (by omega) h3
    rw [← h4]
    exact Int.le_of_dvd (by omega) h1
  generalize hWe : a / Int.gcd a a' * a' = W at *
  have hc : c ≠ 0 := by omega
  have hc' : c' ≠ 0 := by omega
  have mW : L a b c W 0 := (L_row hc).mpr d1
  have mW' : L a' b' c' W 0 := (L_row hc').mpr d2
  obtain ⟨x0, hx1, hx2⟩ := (y2 Y).mpr (Int.dvd_refl Y)
  have e0 := Int.mul_ediv_add_emod x0 W
  have z1 := Int.emod_nonneg x0 (show W ≠ 0 by omega)
  have z2 := Int.emod_lt_of_pos x0 hW0
  have n1 : L a b c (x0 % W) Y := by
    have := L_add hx1 mW 1 (-(x0 / W))
    have r1 : 1 * x0 + -(x0 / W) * W = x0 % W := by rw [Int.neg_mul, Int.mul_comm (x0 / W)]; omega
    rw [r1] at this
    simpa using this
  have n2 : L a' b' c' (x0 % W) Y := by
    have := L_add hx2 mW' 1 (-(x0 / W))
    have r1 : 1 * x0 + -(x0 / W) * W = x0 % W := by rw [Int.neg_mul, Int.mul_comm (x0 / W)]; omega
    rw [r1] at this
    simpa using this
  have n3 : (fun x => bothB a b c a' b' c' x Y) (((x0 % W).toNat : Nat) : Int) = true := by
    have e : (((x0 % W).toNat : Nat) : Int) = x0 % W := by omega
    show bothB a b c a' b' c' (((x0 % W).toNat : Nat) : Int) Y = true
    rw [e]; exact (bothB_iff hc hc').mpr ⟨n1, n2⟩
  obtain ⟨X, k1, k2, k3, k4⟩ := first_below (fun x => bothB a b c a' b' c' x Y) (x0 % W).toNat n3
  have hAC : 0 < A * C := Int.mul_pos hh.1 hh.2.1
  have hWY : 0 < W * Y := Int.mul_pos hW0 y1
  have hle : (a * c) * (a' * c') ≤ 64 * 64 := Int.mul_le_mul l1.2.2.2 l2.2.2.2 (by have := Int.mul_pos (show 0 < a' by omega) (show 0 < c' by omega); omega) (by omega)
  have hle2 := le_mul_r (a := W * Y) (c := A * C) (by omega) (by omega)
  refine ⟨W, X, Y, ⟨⟨by omega, by omega, k1, by omega⟩, k3, k4, ?_, (bothB_iff hc hc').mpr ⟨mW, mW'⟩, ?_⟩, hprod, rfl, by omega⟩
  · intro x y h1 h2
    rcases hq : bothB a b c a' b' c' x y with _ | _
    · rfl
    · have := (y2 y).mp ⟨x, (bothB_iff hc hc').mp hq⟩
      have := Int.le_of_dvd (by omega) this
      omega
  · intro x h1 h2
    rcases hq : bothB a b c a' b' c' x 0 with _ | _
    · rfl
    · obtain ⟨p, q⟩ := (bothB_iff hc hc').mp hq
      have := hmin x h1 ((L_row hc).mp p) ((L_row hc').mp q)
      omega
theorem spec_l01In_eq (a b c : Int) : spec_l01In.f a b c = some (decide (b ≤ a ∧ a ≤ c)) := by
  unfold spec_l01In.f; split <;> simp <;> omega
theorem impl_within_eq (a b c : Int) : impl_within.f a b c = some (decide (b ≤ a ∧ a ≤ c)) := by
  unfold impl_within.f; split <;> simp <;> omega
theorem spec_IsLattice_eq (a b c : Int) (h1 : -9223372036854775808 ≤ a) (h2 : a < 9223372036854775808) : spec_IsLattice.f a b c = some (latB a b c) := by
  unfold spec_IsLattice.f latB; simp only [spec_l01In_eq, Option.bind_some]
  by_cases ha : 1 ≤ a ∧ a ≤ 64
  · by_cases hc : 1 ≤ c ∧ c ≤ 64
    · rw [wrap_id (x := a - 1) (by omega) (by omega), wrap_mul (A := 64) (B := 64) (by omega) (by omega) (by omega) (by omega) (by omega) (by omega)]
      simp only [ha, hc, and_self, decide_true, if_true]
      by_cases hb : 0 ≤ b ∧ b ≤ a - 1 <;> simp [hb]
    · simp [ha]; split <;> simp_all <;> omega
  · simp; split <;> simp_all <;> omega
theorem impl_IsLattice_eq (a b c : Int) (h1 : -9223372036854775808 ≤ a) (h2 : a < 9223372036854775808) : impl_IsLattice.f a b c = some (latB a b c) := by
  unfold impl_IsLattice.f latB impl_Lattice_index.f; simp only [impl_within_eq, Option.bind_some]
  by_cases ha : 1 ≤ a ∧ a ≤ 64
  · by_cases hc : 1 ≤ c ∧ c ≤ 64
    · rw [wrap_id (x := a - 1) (by omega) (by omega), wrap_mul (A := 64) (B := 64) (by omega) (by omega) (by omega) (by omega) (by omega) (by omega)]
      simp only [ha, hc, and_self, decide_true, if_true]
      by_cases hb : 0 ≤ b ∧ b ≤ a - 1 <;> simp [hb]
    · simp [ha]; split <;> simp_all <;> omega
  · simp; split <;> simp_all <;> omega
theorem impl_gcd_eq : ∀ (k : Nat) (a b : Int), b.natAbs < k → a.natAbs < 9223372036854775808 → b.natAbs < 9223372036854775808 → impl_gcd.l0 k a b = some (Int.gcd a b : Int) := by
  intro k
  induction k with
  | zero => intro a b h; omega
  | succ k ih =>
    intro a b h ha hb
    unfold impl_gcd.l0
    by_cases h0 : b = 0
    · subst h0; rw [if_pos rfl, mx_abs (by omega) (by omega), Int.gcd_zero_right]
    · rw [if_neg h0]
      have h1 := Int.natAbs_tmod a b
      have h2 := Nat.mod_lt a.natAbs (show 0 < b.natAbs by omega)
      rw [ih b (a.tmod b) (by omega) (by omega) (by omega), gcd_tmod]
theorem spec_l01Divisor_eq : ∀ (k : Nat) (a b : Int), b.natAbs < k → a.natAbs < 9223372036854775808 → b.natAbs < 9223372036854775808 → spec_l01Divisor.f k a b = some (Int.gcd a b : Int) := by
  intro k
  induction k with
  | zero => intro a b h; omega
  | succ k ih =>
    intro a b h ha hb
    unfold spec_l01Divisor.f
    by_cases h0 : b = 0
    · subst h0; rw [if_pos rfl, mx_abs (by omega) (by omega), Int.gcd_zero_right]
    · rw [if_neg h0]
      have h1 := Int.natAbs_tmod a b
      have h2 := Nat.mod_lt a.natAbs (show 0 < b.natAbs by omega)
      rw [ih b (a.tmod b) (by omega) (by omega) (by omega), gcd_tmod]; rfl
theorem spec_l01Mod_eq {a n : Int} (hn : 0 < n) (hn2 : n ≤ 1000000000000000000) : spec_l01Mod.f a n = some (a % n) := by
  unfold spec_l01Mod.f
  have hb := tmod_bounds a n hn
  rw [if_neg (by omega)]
  rw [wrap_id (by omega) (by omega)]
  have := mod_if a n hn
  split <;> rename_i h
  · rw [if_pos h] at this; rw [this]
  · rw [if_neg h] at this; rw [this]
theorem impl_mod_eq {a n : Int} (hn : 0 < n) (hn2 : n ≤ 1000000000000000000) : impl_mod.f a n = some (a % n) := by
  unfold impl_mod.f
  have hb := tmod_bounds a n hn
  rw [if_neg (by omega), wrap_id (by omega) (by omega), mod_add a n hn]
theorem reduce_bd {a b c x y : Int} (ha : 1 ≤ a ∧ a ≤ 64) (hc : 1 ≤ c ∧ c ≤ 64) (hb : 0 ≤ b ∧ b ≤ 63) (hx : -1000000 ≤ x ∧ x ≤ 1000000) (hy : -1000000 ≤ y ∧ y ≤ 1000000) :
    (0 ≤ y % c ∧ y % c < c) ∧ (-1000000 ≤ y / c ∧ y / c ≤ 1000000) ∧ (-63000000 ≤ y / c * b ∧ y / c * b ≤ 63000000) := by
  have h1 := Int.emod_nonneg y (show c ≠ 0 by omega)
  have h2 := Int.emod_lt_of_pos y (show 0 < c by omega)
  have h3 := Int.natAbs_ediv_le_natAbs y c
  have h4 := prod_bd (a := y / c) (b := b) (A := 1000000) (B := 63) (by omega) (by omega) (by omega) (by omega) (by omega)
  omega
theorem spec_l03Reduce_eq {a b c x y : Int} (ha : 1 ≤ a ∧ a ≤ 64) (hc : 1 ≤ c ∧ c ≤ 64) (hb : 0 ≤ b ∧ b ≤ 63) (hx : -1000000 ≤ x ∧ x ≤ 1000000) (hy : -1000000 ≤ y ∧ y ≤ 1000000) :
    spec_l03Reduce.f a b c x y = some (redV a b c x y) := by
  obtain ⟨h1, h2, h3⟩ := reduce_bd ha hc hb hx hy
  unfold spec_l03Reduce.f redV
  rw [spec_l01Mod_eq (by omega) (by omega)]
  simp only [Option.bind_some]
  rw [if_neg (by omega), wrap_id (x := y - y % c) (by omega) (by omega), tdiv_row y c (by omega), wrap_id (x := y / c) (by omega) (by omega), wrap_id (x := y / c * b) (by omega) (by omega), wrap_id (x := x - y / c * b) (by omega) (by omega), spec_l01Mod_eq (by omega) (by omega)]
  rfl
theorem reduce_bd' {a b c x y : Int} (ha : 1 ≤ a ∧ a ≤ 64) (hc : 1 ≤ c ∧ c ≤ 64) (hb : 0 ≤ b ∧ b ≤ 63) (hx : -1000000 ≤ x ∧ x ≤ 1000000) (hy : -1000000 ≤ y ∧ y ≤ 1000000) :
    (0 ≤ y % c ∧ y % c < c) ∧ (-1000000 ≤ y / c ∧ y / c ≤ 1000000) ∧ (-63000000 ≤ y / c * b ∧ y / c * b ≤ 63000000) := by
  have h1 := Int.emod_nonneg y (show c ≠ 0 by omega)
  have h2 := Int.emod_lt_of_pos y (show 0 < c by omega)
  have h3 := Int.natAbs_ediv_le_natAbs y c
  have h4 := prod_bd (a := y / c) (b := b) (A := 1000000) (B := 63) (by omega) (by omega) (by omega) (by omega) (by omega)
  omega
theorem impl_Lattice_reduce_eq {a b c x y : Int} (ha : 1 ≤ a ∧ a ≤ 64) (hc : 1 ≤ c ∧ c ≤ 64) (hb : 0 ≤ b ∧ b ≤ 63) (hx : -1000000 ≤ x ∧ x ≤ 1000000) (hy : -1000000 ≤ y ∧ y ≤ 1000000) :
    impl_Lattice_reduce.f a b c x y = some (redV a b c x y) := by
  obtain ⟨h1, h2, h3⟩ := reduce_bd' ha hc hb hx hy
  unfold impl_Lattice_reduce.f redV
  rw [impl_mod_eq (by omega) (by omega)]
  simp only [Option.bind_some]
  rw [if_neg (by omega), wrap_id (x := y - y % c) (by omega) (by omega), tdiv_row y c (by omega), wrap_id (x := y / c) (by omega) (by omega), wrap_id (x := y / c * b) (by omega) (by omega), wrap_id (x := x - y / c * b) (by omega) (by omega), impl_mod_eq (by omega) (by omega)]
  rfl
theorem spec_l03Has_eq {a b c x y : Int} (ha : 1 ≤ a ∧ a ≤ 64) (hc : 1 ≤ c ∧ c ≤ 64) (hb : 0 ≤ b ∧ b ≤ 63) (hx : -1000000 ≤ x ∧ x ≤ 1000000) (hy : -1000000 ≤ y ∧ y ≤ 1000000) :
    spec_l03Has.f a b c x y = some (hasB a b c x y) := by
  unfold spec_l03Has.f hasB
  rw [spec_l03Reduce_eq ha hc hb hx hy]; rfl
theorem impl_Lattice_has_eq {a b c x y : Int} (ha : 1 ≤ a ∧ a ≤ 64) (hc : 1 ≤ c ∧ c ≤ 64) (hb : 0 ≤ b ∧ b ≤ 63) (hx : -1000000 ≤ x ∧ x ≤ 1000000) (hy : -1000000 ≤ y ∧ y ≤ 1000000) :
    impl_Lattice_has.f a b c x y = some (hasB a b c x y) := by
  unfold impl_Lattice_has.f hasB
  rw [impl_Lattice_reduce_eq ha hc hb hx hy]; rfl
def rowL (a b q : Int) : Nat → List S66
  | 0 => []
  | d + 1 => ⟨a, b, q⟩ :: rowL a (b + 1) q d
theorem rowL_len (a q : Int) : ∀ (d : Nat) (b : Int), (rowL a b q d).length = d := by
  intro d
  induction d with
  | zero => intro b; rfl
  | succ d ih => intro b; simp [rowL, ih]
def subL (n a : Int) : Nat → List S66
  | 0 => []
  | d + 1 => (if n % a = 0 then rowL a 0 (n / a) a.toNat else []) ++ subL n (a + 1) d
theorem subL_len (n : Int) : ∀ (d : Nat) (a : Int), 0 ≤ a → (subL n a d).length ≤ d * (a.toNat + d) := by
  intro d
  induction d with
  | zero => intro a _; simp [subL]
  | succ d ih =>
    intro a ha
    have h1 := ih (a + 1) (by omega)
    have e : (d + 1) * (a.toNat + (d + 1)) = d * ((a + 1).toNat + d) + (a.toNat + (d + 1)) := by
      rw [show (a + 1).toNat = a.toNat + 1 by omega, Nat.add_mul]; simp; rw [show a.toNat + 1 + d = a.toNat + (d + 1) by omega]
    rw [e]
    simp only [subL, List.length_append]
    split
    · rw [rowL_len]; omega
    · simp only [List.length_nil]; omega
def sublS (n : Int) : List S66 × Int := if 1 ≤ n ∧ n ≤ 64 then (subL n 1 n.toNat, 0) else ([], 2)
theorem sublS_len (n : Int) : (sublS n).1.length ≤ 5000 := by
  unfold sublS
  split
  · rename_i h
    have := subL_len n n.toNat 1 (by omega)
    have hm : n.toNat * (Int.toNat 1 + n.toNat) ≤ 64 * 65 := Nat.mul_le_mul (by omega) (by omega)
    simp only; omega
  · simp
theorem spec_sub_row (n a : Int) (hn : 1 ≤ n ∧ n ≤ 64) (ha : 1 ≤ a ∧ a ≤ 64) (hd : n % a = 0) (K : Nat) (R : Option (List S66 × Int)) : ∀ (d : Nat) (b : Int) (out : List S66), 0 ≤ b → b + d = a → out.length + d ≤ 1000000 →
    (∀ k, K ≤ k → spec_SublatticesOf.l0 k n (out ++ rowL a b (n / a) d) (a + 1) = R) → ∀ k, K + d + 1 ≤ k → spec_SublatticesOf.l1 k n out a b = R := by
  have hq := Int.natAbs_ediv_le_natAbs n a
  have ht : n.tmod a = n % a := Int.tmod_eq_emod_of_nonneg (by omega)
  have ht2 : n.tdiv a = n / a := Int.tdiv_eq_ediv_of_nonneg (by omega)
  intro d
  induction d with
  | zero =>
    intro b out h0 hb hl hc k hk
    obtain ⟨k, rfl⟩ : ∃ m, k = m + 1 := ⟨k - 1, by omega⟩
    have := hc k (by omega)
    simp only [rowL, List.append_nil] at this
    rw [spec_SublatticesOf.l1, if_neg (by omega), ht, if_pos hd, if_neg (by omega), wrap_id (x := a + 1) (by omega) (by omega)]; exact this
  | succ d ih =>
    intro b out h0 hb hl hc k hk
    obtain ⟨k, rfl⟩ : ∃ m, k = m + 1 := ⟨k - 1, by omega⟩
    rw [spec_SublatticesOf.l1, if_neg (by omega), ht, if_pos hd, if_pos (by omega), if_pos (by omega), ht2, wrap_id (x := n / a) (by omega) (by omega), wrap_id (x := b + 1) (by omega) (by omega)]
    exact ih (b + 1) _ (by omega) (by omega) (by simp; omega) (fun k hk => by have := hc k hk; simpa [rowL] using this) k (by omega)
theorem spec_sub_all (n : Int) (hn : 1 ≤ n ∧ n ≤ 64) : ∀ (d : Nat) (a : Int) (out : List S66), 1 ≤ a → a + d = n + 1 → out.length + d * 64 ≤ 100000 →
    ∀ k, d * 66 + 1 ≤ k → spec_SublatticesOf.l0 k n out a = some (out ++ subL n a d, 0) := by
  intro d
  induction d with
  | zero =>
    intro a out h0 ha hl k hk
    obtain ⟨k, rfl⟩ : ∃ m, k = m + 1 := ⟨k - 1, by omega⟩
    rw [spec_SublatticesOf.l0, if_neg (by omega)]; simp [subL]
  | succ d ih =>
    intro a out h0 ha hl k hk
    obtain ⟨k, rfl⟩ : ∃ m, k = m + 1 := ⟨k - 1, by omega⟩
    have ht : n.tmod a = n % a := Int.tmod_eq_emod_of_nonneg (by omega)
    rw [spec_SublatticesOf.l0, if_pos (by omega)]
    by_cases hd : n % a = 0
    · refine spec_sub_row n a hn (by omega) hd (d * 66 + 1) _ a.toNat 0 out (by omega) (by omega) (by omega) (fun k hk => ?_) k (by omega)
      have := ih (a + 1) (out ++ rowL a 0 (n / a) a.toNat) (by omega) (by omega) (by simp [rowL_len]; omega) k hk
      rw [this]; simp [subL, hd]
    · obtain ⟨k, rfl⟩ : ∃ m, k = m + 1 := ⟨k - 1, by omega⟩
      rw [spec_SublatticesOf.l1, if_neg (by omega), ht, if_neg hd, wrap_id (x := a + 1) (by omega) (by omega), ih (a + 1) out (by omega) (by omega) (by omega) k (by omega)]
      simp [subL, hd]
theorem spec_SublatticesOf_eq (k : Nat) (hk : 5000 ≤ k) (n : Int) : spec_SublatticesOf.f k n = some (sublS n) := by
  unfold spec_SublatticesOf.f sublS
  simp only [spec_l01In_eq, Option.bind_some, decide_eq_true_eq]
  split
  · rename_i h
    rw [spec_sub_all n h n.toNat 1 [] (by omega) (by omega) (by simp; omega) k (by omega)]; simp
  · rfl
theorem impl_sub_row (n a : Int) (hn : 1 ≤ n ∧ n ≤ 64) (ha : 1 ≤ a ∧ a ≤ 64) (hd : n % a = 0) (K : Nat) (R : Option (List S66)) : ∀ (d : Nat) (b : Int) (out : List S66), 0 ≤ b → b + d = a → out.length + d ≤ 1000000 →
    (∀ k, K ≤ k → impl_sublattices.l0 k n (out ++ rowL a b (n / a) d) (a + 1) = R) → ∀ k, K + d + 1 ≤ k → impl_sublattices.l1 k n out a a b = R := by
  have hq := Int.natAbs_ediv_le_natAbs n a
  have ht : n.tmod a = n % a := Int.tmod_eq_emod_of_nonneg (by omega)
  have ht2 : n.tdiv a = n / a := Int.tdiv_eq_ediv_of_nonneg (by omega)
  intro d
  induction d with
  | zero =>
    intro b out h0 hb hl hc k hk
    obtain ⟨k, rfl⟩ : ∃ m, k = m + 1 := ⟨k - 1, by omega⟩
    have := hc k (by omega)
    simp only [rowL, List.append_nil] at this
    rw [impl_sublattices.l1, if_neg (by omega), wrap_id (x := a + 1) (by omega) (by omega)]; exact this
  | succ d ih =>
    intro b out h0 hb hl hc k hk
    obtain ⟨k, rfl⟩ : ∃ m, k = m + 1 := ⟨k - 1, by omega⟩
    rw [impl_sublattices.l1, if_pos (by omega), if_neg (by omega), ht, if_pos hd, if_pos (by omega), ht2, wrap_id (x := n / a) (by omega) (by omega), wrap_id (x := b + 1) (by omega) (by omega)]
    exact ih (b + 1) _ (by omega) (by omega) (by simp; omega) (fun k hk => by have := hc k hk; simpa [rowL] using this) k (by omega)
theorem impl_sub_skip (n a : Int) (hn : 1 ≤ n ∧ n ≤ 64) (ha : 1 ≤ a ∧ a ≤ 64) (hd : ¬ n % a = 0) (K : Nat) (R : Option (List S66)) (out : List S66) : ∀ (d : Nat) (b : Int), 0 ≤ b → b + d = a →
    (∀ k, K ≤ k → impl_sublattices.l0 k n out (a + 1) = R) → ∀ k, K + d + 1 ≤ k → impl_sublattices.l1 k n out a a b = R := by
  have ht : n.tmod a = n % a := Int.tmod_eq_emod_of_nonneg (by omega)
  intro d
  induction d with
  | zero =>
    intro b h0 hb hc k hk
    obtain ⟨k, rfl⟩ : ∃ m, k = m + 1 := ⟨k - 1, by omega⟩
    rw [impl_sublattices.l1, if_neg (by omega), wrap_id (x := a + 1) (by omega) (by omega)]; exact hc k (by omega)
  | succ d ih =>
    intro b h0 hb hc k hk
    obtain ⟨k, rfl⟩ : ∃ m, k = m + 1 := ⟨k - 1, by omega⟩
    rw [impl_sublattices.l1, if_pos (by omega), if_neg (by omega), ht, if_neg hd, wrap_id (x := b + 1) (by omega) (by omega)]
    exact ih (b + 1) (by omega) (by omega) hc k (by omega)
theorem impl_sub_all (n : Int) (hn : 1 ≤ n ∧ n ≤ 64) : ∀ (d : Nat) (a : Int) (out : List S66), 1 ≤ a → a + d = n + 1 → out.length + d * 64 ≤ 100000 →
    ∀ k, d * 66 + 1 ≤ k → impl_sublattices.l0 k n out a = some (out ++ subL n a d) := by
  intro d
  induction d with
  | zero =>
    intro a out h0 ha hl k hk
    obtain ⟨k, rfl⟩ : ∃ m, k = m + 1 := ⟨k - 1, by omega⟩
    rw [impl_sublattices.l0, if_neg (by omega)]; simp [subL]
  | succ d ih =>
    intro a out h0 ha hl k hk
    obtain ⟨k, rfl⟩ : ∃ m, k = m + 1 := ⟨k - 1, by omega⟩
    rw [impl_sublattices.l0, if_pos (by omega)]
    by_cases hd : n % a = 0
    · refine impl_sub_row n a hn (by omega) hd (d * 66 + 1) _ a.toNat 0 out (by omega) (by omega) (by omega) (fun k hk => ?_) k (by omega)
      have := ih (a + 1) (out ++ rowL a 0 (n / a) a.toNat) (by omega) (by omega) (by simp [rowL_len]; omega) k hk
      rw [this]; simp [subL, hd]
    · refine impl_sub_skip n a hn (by omega) hd (d * 66 + 1) _ out a.toNat 0 (by omega) (by omega) (fun k hk => ?_) k (by omega)
      rw [ih (a + 1) out (by omega) (by omega) (by omega) k hk]; simp [subL, hd]
theorem impl_SublatticesOf_eq (k : Nat) (hk : 5000 ≤ k) (n : Int) : impl_SublatticesOf.f k n = some (sublS n) := by
  unfold impl_SublatticesOf.f sublS impl_sublattices.f
  simp only [impl_within_eq, Option.bind_some, decide_eq_true_eq]
  split
  · rename_i h
    rw [impl_sub_all n h n.toNat 1 [] (by omega) (by omega) (by simp; omega) k (by omega)]; simp
  · rfl
theorem impl_euclid (l : List S25) (low len i : Int) : ∀ (n : Nat) (px py vx vy : Int) (M : Nat), M ≤ 10000000000000000 → vy.natAbs ≤ n → px.natAbs ≤ M → vx.natAbs ≤ M → py.natAbs ≤ 1000 → vy.natAbs ≤ 1000 →
    px.natAbs * vy.natAbs + vx.natAbs * py.natAbs ≤ M →
    ∃ px' py' vx', px'.natAbs ≤ M ∧ py'.natAbs ≤ 1000 ∧ vx'.natAbs ≤ M ∧ (∀ x y, S2 px' py' vx' 0 x y ↔ S2 px py vx vy x y) ∧
      ∀ (K : Nat) (R : Option (Int × Int × Int)), (∀ k, K ≤ k → impl_latticeOf.l1 k low l len i px' py' vx' 0 = R) → ∀ k, K + n ≤ k → impl_latticeOf.l1 k low l len i px py vx vy = R := by
  intro n
  induction n with
  | zero =>
    intro px py vx vy M hM hn h1 h2 h3 h4 hQ
    have h0 : vy = 0 := by omega
    subst h0
    exact ⟨px, py, vx, h1, h3, h2, fun x y => Iff.rfl, fun K R h k hk => h k (by omega)⟩
  | succ n ih =>
    intro px py vx vy M hM hn h1 h2 h3 h4 hQ
    by_cases h0 : vy = 0
    · subst h0
      exact ⟨px, py, vx, h1, h3, h2, fun x y => Iff.rfl, fun K R h k hk => h k (by omega)⟩
    · obtain ⟨e1, e2, e3, e4, e5, e6⟩ := euclid (px := px) (py := py) (vx := vx) h0 hQ
      obtain ⟨px', py', vx', b1, b2, b3, hs, hk⟩ := ih vx vy (px - py.tdiv vy * vx) (py - py.tdiv vy * vy) M hM (by omega) h2 e3 h4 (by omega) e6
      refine ⟨px', py', vx', b1, b2, b3, fun x y => (hs x y).trans (S2_step px py vx vy _ x y), fun K R h k hk' => ?_⟩
      obtain ⟨k, rfl⟩ : ∃ m, k = m + 1 := ⟨k - 1, by omega⟩
      rw [impl_latticeOf.l1, if_neg h0]
      unfold impl_Vec_times.f impl_Vec_add.f
      simp only [Option.bind_some]
      generalize py.tdiv vy = q at *
      rw [wrap_id (x := q) (by omega) (by omega), wrap_id (x := -q) (by omega) (by omega), Int.neg_mul, Int.neg_mul, wrap_id (x := -(q * vx)) (by omega) (by omega), wrap_id (x := -(q * vy)) (by omega) (by omega),
        ← Int.sub_eq_add_neg, ← Int.sub_eq_add_neg, wrap_id (x := px - q * vx) (by omega) (by omega), wrap_id (x := py - q * vy) (by omega) (by omega)]
      exact hk K R h k (by omega)
theorem impl_vec_step (l : List S25) (low len i ux uy px py : Int) (M : Nat) (hM : 1000 * M + 1000000 ≤ 10000000000000000) (hi : 0 ≤ i ∧ i ≤ 1000) (hl : low.natAbs ≤ M) (hl0 : 0 ≤ low) (hpx : px.natAbs ≤ M) (hpy : py.natAbs ≤ 1000) (hux : ux.natAbs ≤ 1000) (huy : uy.natAbs ≤ 1000) :
    ∃ low' px' py', low'.natAbs ≤ 1000 * M + 1000000 ∧ 0 ≤ low' ∧ px'.natAbs ≤ 1000 * M + 1000000 ∧ py'.natAbs ≤ 1000 ∧ plus low px py ux uy low' px' py' ∧
      ∀ (K : Nat) (R : Option (Int × Int × Int)), (∀ k, K ≤ k → impl_latticeOf.l0 k low' l len (i + 1) px' py' = R) → ∀ k, K + 1000 * M + 1003002 ≤ k → impl_latticeOf.l1 k low l len i px py ux uy = R := by
  have hq1 : px.natAbs * uy.natAbs ≤ M * 1000 := Nat.mul_le_mul hpx huy
  have hq2 : ux.natAbs * py.natAbs ≤ 1000 * 1000 := Nat.mul_le_mul hux hpy
  obtain ⟨px', py', vx', b1, b2, b3, hs, hk⟩ := impl_euclid l low len i 1000 px py ux uy (1000 * M + 1000000) hM huy (by omega) (by omega) hpy huy (by omega)
  have hg : Int.gcd low vx' ≤ 1000 * M + 1000000 := gcd_le_bd (by omega) b3
  refine ⟨(Int.gcd low vx' : Int), px', py', by omega, by omega, b1, b2, L_more hs rfl, fun K R h k hk' => ?_⟩
  refine hk (K + 1000 * M + 1000002) R (fun k hk'' => ?_) k (by omega)
  obtain ⟨k, rfl⟩ : ∃ m, k = m + 1 := ⟨k - 1, by omega⟩
  rw [impl_latticeOf.l1, if_pos rfl]
  unfold impl_gcd.f
  rw [impl_gcd_eq k low vx' (by omega) (by omega) (by omega), wrap_id (x := i + 1) (by omega) (by omega)]
  simp only [Option.bind_some]
  exact h k (by omega)
theorem impl_lattice_end (l : List S25) (low len px py : Int) (i : Int) (hi : ¬ i < len) (hl : 0 < low) (hl2 : low ≤ 1000000000000000000) (hp : px.natAbs ≤ 1000000000000000000) (hpy : py.natAbs ≤ 1000) (hy : py ≠ 0) :
    ∃ B C, 0 ≤ B ∧ B < low ∧ 0 < C ∧ (∀ x y, L low B C x y ↔ L low px py x y) ∧ ∀ k, 1 ≤ k → impl_latticeOf.l0 k low l len i px py = some (low, B, C) := by
  by_cases h : py < 0
  · refine ⟨(-px) % low, -py, Int.emod_nonneg _ (by omega), Int.emod_lt_of_pos _ hl, by omega, fun x y => (L_mod _ _ _ _ _).trans (L_neg _ _ _ _ _), fun k hk => ?_⟩
    obtain ⟨k, rfl⟩ : ∃ m, k = m + 1 := ⟨k - 1, by omega⟩
    rw [impl_latticeOf.l0, if_neg hi, if_pos h]
    unfold impl_Vec_times.f
    simp only [Option.bind_some]
    rw [Int.neg_one_mul, Int.neg_one_mul, wrap_id (x := -px) (by omega) (by omega), wrap_id (x := -py) (by omega) (by omega), impl_mod_eq hl hl2]; rfl
  · refine ⟨px % low, py, Int.emod_nonneg _ (by omega), Int.emod_lt_of_pos _ hl, by omega, fun x y => L_mod _ _ _ _ _, fun k hk => ?_⟩
    obtain ⟨k, rfl⟩ : ∃ m, k = m + 1 := ⟨k - 1, by omega⟩
    rw [impl_latticeOf.l0, if_neg hi, if_neg h, impl_mod_eq hl hl2]; rfl
theorem impl_latticeOf4 (a b c a' b' c' : Int) (h1 : 1 ≤ a ∧ a ≤ 64) (h2 : 0 ≤ b ∧ b ≤ 64) (h3 : 1 ≤ c ∧ c ≤ 64) (h1' : 1 ≤ a' ∧ a' ≤ 64) (h2' : 0 ≤ b' ∧ b' ≤ 64) (h3' : 1 ≤ c' ∧ c' ≤ 64) :
    ∃ A B C, Herm (sp4 a b c a' b' c') A B C ∧ ∀ k, 20000000000000000 ≤ k → impl_latticeOf.f k [⟨a, 0⟩, ⟨b, c⟩, ⟨a', 0⟩, ⟨b', c'⟩] = some (A, B, C) := by
  obtain ⟨l1, p1, q1, b1, b2, b3, b4, hp1, hk1⟩ := impl_vec_step [⟨a, 0⟩, ⟨b, c⟩, ⟨a', 0⟩, ⟨b', c'⟩] 0 4 0 a 0 0 0 0 (by omega) (by omega) (by simp) (by omega) (by simp) (by simp) (by omega) (by omega)
  obtain ⟨l2, p2, q2, c1, c2, c3, c4, hp2, hk2⟩ := impl_vec_step [⟨a, 0⟩, ⟨b, c⟩, ⟨a', 0⟩, ⟨b', c'⟩] l1 4 1 b c p1 q1 1000000 (by omega) (by omega) (by omega) b2 (by omega) b4 (by omega) (by omega)
  obtain ⟨l3, p3, q3, d1, d2, d3, d4, hp3, hk3⟩ := impl_vec_step [⟨a, 0⟩, ⟨b, c⟩, ⟨a', 0⟩, ⟨b', c'⟩] l2 4 2 a' 0 p2 q2 1001000000 (by omega) (by omega) (by omega) c2 (by omega) c4 (by omega) (by omega)
  obtain ⟨l4, p4, q4, e1, e2, e3, e4, hp4, hk4⟩ := impl_vec_step [⟨a, 0⟩, ⟨b, c⟩, ⟨a', 0⟩, ⟨b', c'⟩] l3 4 3 b' c' p3 q3 1001001000000 (by omega) (by omega) (by omega) d2 (by omega) d4 (by omega) (by omega)
  have hsp := plus_four hp1 hp2 hp3 hp4
  have hd : a * c - 0 * b ≠ 0 := by have := Int.mul_pos (show 0 < a by omega) (show 0 < c by omega); omega
  obtain ⟨r1, r2⟩ := L_rank ((hsp a 0).mpr ⟨1, 0, 0, 0, by omega, by omega⟩) ((hsp b c).mpr ⟨0, 1, 0, 0, by omega, by omega⟩) hd
  obtain ⟨B, C, f1, f2, f3, f4, hk5⟩ := impl_lattice_end [⟨a, 0⟩, ⟨b, c⟩, ⟨a', 0⟩, ⟨b', c'⟩] l4 4 p4 q4 4 (by omega) (by omega) (by omega) (by omega) e4 r2
  refine ⟨l4, B, C, ⟨by omega, f3, f1, f2, fun x y => (f4 x y).trans (hsp x y)⟩, fun k hk => ?_⟩
  unfold impl_latticeOf.f
  obtain ⟨k, rfl⟩ : ∃ m, k = m + 1 := ⟨k - 1, by omega⟩
  simp only [List.length_cons, List.length_nil]
  rw [impl_latticeOf.l0, if_pos (by decide), if_pos (by decide), if_pos (by simp)]
  refine hk1 1100000000000000 _ (fun k hk => ?_) k (by omega)
  obtain ⟨k, rfl⟩ : ∃ m, k = m + 1 := ⟨k - 1, by omega⟩
  rw [impl_latticeOf.l0, if_pos (by decide), if_pos (by decide), if_pos (by simp)]
  refine hk2 1010000000000000 _ (fun k hk => ?_) k (by omega)
  obtain ⟨k, rfl⟩ : ∃ m, k = m + 1 := ⟨k - 1, by omega⟩
  rw [impl_latticeOf.l0, if_pos (by decide), if_pos (by decide), if_pos (by simp)]
  refine hk3 1002000000000000 _ (fun k hk => ?_) k (by omega)
  obtain ⟨k, rfl⟩ : ∃ m, k = m + 1 := ⟨k - 1, by omega⟩
  rw [impl_latticeOf.l0, if_pos (by decide), if_pos (by decide), if_pos (by simp)]
  refine hk4 1 _ (fun k hk => ?_) k (by omega)
  exact hk5 k hk
theorem spec_euclid (l : List S25) (low i : Int) : ∀ (n : Nat) (px py vx vy : Int) (M : Nat), M ≤ 10000000000000000 → vy.natAbs ≤ n → px.natAbs ≤ M → vx.natAbs ≤ M → py.natAbs ≤ 1000 → vy.natAbs ≤ 1000 →
    px.natAbs * vy.natAbs + vx.natAbs * py.natAbs ≤ M →
    ∃ px' py' vx', px'.natAbs ≤ M ∧ py'.natAbs ≤ 1000 ∧ vx'.natAbs ≤ M ∧ (∀ x y, S2 px' py' vx' 0 x y ↔ S2 px py vx vy x y) ∧
      ∀ (K : Nat) (R : Option (Int × Int × Int)), (∀ k, K ≤ k → spec_l03Hermite.l1 k l low i px' py' vx' 0 = R) → ∀ k, K + n ≤ k → spec_l03Hermite.l1 k l low i px py vx vy = R := by
  intro n
  induction n with
  | zero =>
    intro px py vx vy M hM hn h1 h2 h3 h4 hQ
    have h0 : vy = 0 := by omega
    subst h0
    exact ⟨px, py, vx, h1, h3, h2, fun x y => Iff.rfl, fun K R h k hk => h k (by omega)⟩
  | succ n ih =>
    intro px py vx vy M hM hn h1 h2 h3 h4 hQ
    by_cases h0 : vy = 0
    · subst h0
      exact ⟨px, py, vx, h1, h3, h2, fun x y => Iff.rfl, fun K R h k hk => h k (by omega)⟩
    · obtain ⟨e1, e2, e3, e4, e5, e6⟩ := euclid (px := px) (py := py) (vx := vx) h0 hQ
      obtain ⟨px', py', vx', b1, b2, b3, hs, hk⟩ := ih vx vy (px - py.tdiv vy * vx) (py - py.tdiv vy * vy) M hM (by omega) h2 e3 h4 (by omega) e6
      refine ⟨px', py', vx', b1, b2, b3, fun x y => (hs x y).trans (S2_step px py vx vy _ x y), fun K R h k hk' => ?_⟩
      obtain ⟨k, rfl⟩ : ∃ m, k = m + 1 := ⟨k - 1, by omega⟩
      rw [spec_l03Hermite.l1, if_neg h0]
      generalize py.tdiv vy = q at *
      rw [wrap_id (x := q) (by omega) (by omega), wrap_id (x := q * vx) (by omega) (by omega), wrap_id (x := q * vy) (by omega) (by omega), wrap_id (x := px - q * vx) (by omega) (by omega), wrap_id (x := py - q * vy) (by omega) (by omega)]
      exact hk K R h k (by omega)
theorem plus_mod {l p q ux uy l' p' q' : Int} (h : plus l p q ux uy l' p' q') : plus l p q ux uy l' (p' % l') q' := fun x y => (L_mod _ _ _ _ _).trans (h x y)
theorem spec_vec_step (l : List S25) (low i ux uy px py : Int) (M : Nat) (hM : 1000 * M + 1000000 ≤ 10000000000000000) (hi : 0 ≤ i ∧ i ≤ 1000) (hl : low.natAbs ≤ M) (hl0 : 0 ≤ low) (hpx : px.natAbs ≤ M) (hpy : py.natAbs ≤ 1000) (hux : ux.natAbs ≤ 1000) (huy : uy.natAbs ≤ 1000) :
    ∃ low' px' py', low'.natAbs ≤ 1000 * M + 1000000 ∧ 0 ≤ low' ∧ px'.natAbs ≤ 1000 * M + 1000000 ∧ py'.natAbs ≤ 1000 ∧ plus low px py ux uy low' px' py' ∧
      ∀ (K : Nat) (R : Option (Int × Int × Int)), (∀ k, K ≤ k → spec_l03Hermite.l0 k l low' (i + 1) px' py' = R) → ∀ k, K + 1000 * M + 1003002 ≤ k → spec_l03Hermite.l1 k l low i px py ux uy = R := by
  have hq1 : px.natAbs * uy.natAbs ≤ M * 1000 := Nat.mul_le_mul hpx huy
  have hq2 : ux.natAbs * py.natAbs ≤ 1000 * 1000 := Nat.mul_le_mul hux hpy
  obtain ⟨px', py', vx', b1, b2, b3, hs, hk⟩ := spec_euclid l low i 1000 px py ux uy (1000 * M + 1000000) hM huy (by omega) (by omega) hpy huy (by omega)
  have hg : Int.gcd low vx' ≤ 1000 * M + 1000000 := gcd_le_bd (by omega) b3
  have hp : plus low px py ux uy (Int.gcd low vx' : Int) px' py' := L_more hs rfl
  by_cases hg0 : (Int.gcd low vx' : Int) > 0
  · have m1 := Int.emod_nonneg px' (show (Int.gcd low vx' : Int) ≠ 0 by omega)
    have m2 := Int.emod_lt_of_pos px' (show 0 < (Int.gcd low vx' : Int) by omega)
    refine ⟨(Int.gcd low vx' : Int), px' % (Int.gcd low vx' : Int), py', by omega, by omega, by omega, b2, plus_mod hp, fun K R h k hk' => ?_⟩
    refine hk (K + 1000 * M + 1000002) R (fun k hk'' => ?_) k (by omega)
    obtain ⟨k, rfl⟩ : ∃ m, k = m + 1 := ⟨k - 1, by omega⟩
    rw [spec_l03Hermite.l1, if_pos rfl, spec_l01Divisor_eq k low vx' (by omega) (by omega) (by omega), wrap_id (x := i + 1) (by omega) (by omega)]
    simp only [Option.bind_some]
    rw [if_pos hg0, spec_l01Mod_eq (by omega) (by omega)]
    exact h k (by omega)
  · refine ⟨(Int.gcd low vx' : Int), px', py', by omega, by omega, b1, b2, hp, fun K R h k hk' => ?_⟩
    refine hk (K + 1000 * M + 1000002) R (fun k hk'' => ?_) k (by omega)
    obtain ⟨k, rfl⟩ : ∃ m, k = m + 1 := ⟨k - 1, by omega⟩
    rw [spec_l03Hermite.l1, if_pos rfl, spec_l01Divisor_eq k low vx' (by omega) (by omega) (by omega), wrap_id (x := i + 1) (by omega) (by omega)]
    simp only [Option.bind_some]
    rw [if_neg hg0]
    exact h k (by omega)
theorem spec_lattice_end (l : List S25) (low px py : Int) (i : Int) (hi : ¬ i < (l.length : Int)) (hl : 0 < low) (hl2 : low ≤ 1000000000000000000) (hp : px.natAbs ≤ 1000000000000000000) (hpy : py.natAbs ≤ 1000) (hy : py ≠ 0) :
    ∃ B C, 0 ≤ B ∧ B < low ∧ 0 < C ∧ (∀ x y, L low B C x y ↔ L low px py x y) ∧ ∀ k, 1 ≤ k → spec_l03Hermite.l0 k l low i px py = some (low, B, C) := by
  by_cases h : py < 0
  · refine ⟨(-px) % low, -py, Int.emod_nonneg _ (by omega), Int.emod_lt_of_pos _ hl, by omega, fun x y => (L_mod _ _ _ _ _).trans (L_neg _ _ _ _ _), fun k hk => ?_⟩
    obtain ⟨k, rfl⟩ : ∃ m, k = m + 1 := ⟨k - 1, by omega⟩
    rw [spec_l03Hermite.l0, if_neg hi, if_pos h]
    unfold spec_l01Scale.f
    simp only [Option.bind_some]
    rw [if_pos (by omega), Int.neg_one_mul, Int.neg_one_mul, wrap_id (x := -px) (by omega) (by omega), wrap_id (x := -py) (by omega) (by omega), spec_l01Mod_eq hl hl2]; rfl
  · refine ⟨px % low, py, Int.emod_nonneg _ (by omega), Int.emod_lt_of_pos _ hl, by omega, fun x y => L_mod _ _ _ _ _, fun k hk => ?_⟩
    obtain ⟨k, rfl⟩ : ∃ m, k = m + 1 := ⟨k - 1, by omega⟩
    rw [spec_l03Hermite.l0, if_neg hi, if_neg h, if_pos (by omega), spec_l01Mod_eq hl hl2]; rfl
theorem spec_hermite4 (a b c a' b' c' : Int) (h1 : 1 ≤ a ∧ a ≤ 64) (h2 : 0 ≤ b ∧ b ≤ 64) (h3 : 1 ≤ c ∧ c ≤ 64) (h1' : 1 ≤ a' ∧ a' ≤ 64) (h2' : 0 ≤ b' ∧ b' ≤ 64) (h3' : 1 ≤ c' ∧ c' ≤ 64) :
    ∃ A B C, Herm (sp4 a b c a' b' c') A B C ∧ ∀ k, 20000000000000000 ≤ k → spec_l03Hermite.f k [⟨a, 0⟩, ⟨b, c⟩, ⟨a', 0⟩, ⟨b', c'⟩] = some (A, B, C) := by
  obtain ⟨l1, p1, q1, b1, b2, b3, b4, hp1, hk1⟩ := spec_vec_step [⟨a, 0⟩, ⟨b, c⟩, ⟨a', 0⟩, ⟨b', c'⟩] 0 0 a 0 0 0 0 (by omega) (by omega) (by simp) (by omega) (by simp) (by simp) (by omega) (by omega)
  obtain ⟨l2, p2, q2, c1, c2, c3, c4, hp2, hk2⟩ := spec_vec_step [⟨a, 0⟩, ⟨b, c⟩, ⟨a', 0⟩, ⟨b', c'⟩] l1 1 b c p1 q1 1000000 (by omega) (by omega) (by omega) b2 (by omega) b4 (by omega) (by omega)
  obtain ⟨l3, p3, q3, d1, d2, d3, d4, hp3, hk3⟩ := spec_vec_step [⟨a, 0⟩, ⟨b, c⟩, ⟨a', 0⟩, ⟨b', c'⟩] l2 2 a' 0 p2 q2 1001000000 (by omega) (by omega) (by omega) c2 (by omega) c4 (by omega) (by omega)
  obtain ⟨l4, p4, q4, e1, e2, e3, e4, hp4, hk4⟩ := spec_vec_step [⟨a, 0⟩, ⟨b, c⟩, ⟨a', 0⟩, ⟨b', c'⟩] l3 3 b' c' p3 q3 1001001000000 (by omega) (by omega) (by omega) d2 (by omega) d4 (by omega) (by omega)
  have hsp := plus_four hp1 hp2 hp3 hp4
  have hd : a * c - 0 * b ≠ 0 := by have := Int.mul_pos (show 0 < a by omega) (show 0 < c by omega); omega
  obtain ⟨r1, r2⟩ := L_rank ((hsp a 0).mpr ⟨1, 0, 0, 0, by omega, by omega⟩) ((hsp b c).mpr ⟨0, 1, 0, 0, by omega, by omega⟩) hd
  obtain ⟨B, C, f1, f2, f3, f4, hk5⟩ := spec_lattice_end [⟨a, 0⟩, ⟨b, c⟩, ⟨a', 0⟩, ⟨b', c'⟩] l4 p4 q4 4 (by simp) (by omega) (by omega) (by omega) e4 r2
  refine ⟨l4, B, C, ⟨by omega, f3, f1, f2, fun x y => (f4 x y).trans (hsp x y)⟩, fun k hk => ?_⟩
  unfold spec_l03Hermite.f
  obtain ⟨k, rfl⟩ : ∃ m, k = m + 1 := ⟨k - 1, by omega⟩
  rw [spec_l03Hermite.l0, if_pos (by simp), if_pos (by decide)]
  refine hk1 1100000000000000 _ (fun k hk => ?_) k (by omega)
  obtain ⟨k, rfl⟩ : ∃ m, k = m + 1 := ⟨k - 1, by omega⟩
  rw [spec_l03Hermite.l0, if_pos (by simp), if_pos (by decide)]
  refine hk2 1010000000000000 _ (fun k hk => ?_) k (by omega)
  obtain ⟨k, rfl⟩ : ∃ m, k = m + 1 := ⟨k - 1, by omega⟩
  rw [spec_l03Hermite.l0, if_pos (by simp), if_pos (by decide)]
  refine hk3 1002000000000000 _ (fun k hk => ?_) k (by omega)
  obtain ⟨k, rfl⟩ : ∃ m, k = m + 1 := ⟨k - 1, by omega⟩
  rw [spec_l03Hermite.l0, if_pos (by simp), if_pos (by decide)]
  refine hk4 1 _ (fun k hk => ?_) k (by omega)
  exact hk5 k hk
theorem spec_JoinLattices_is {a b c a' b' c' : Int} (hl : latB a b c = true) (hm : latB a' b' c' = true) :
    ∃ A B C, Herm (sp4 a b c a' b' c') A B C ∧ ∀ k, 20000000000000001 ≤ k → spec_JoinLattices.f k a b c a' b' c' = some (A, B, C, 0) := by
  have h1 := latB_iff.mp hl
  have h2 := latB_iff.mp hm
  obtain ⟨A, B, C, hh, hk⟩ := spec_hermite4 a b c a' b' c' h1.1 (by omega) h1.2.1 h2.1 (by omega) h2.2.1
  refine ⟨A, B, C, hh, fun k hk' => ?_⟩
  obtain ⟨k, rfl⟩ : ∃ m, k = m + 1 := ⟨k - 1, by omega⟩
  unfold spec_JoinLattices.f
  rw [spec_IsLattice_eq a b c (by omega) (by omega), spec_IsLattice_eq a' b' c' (by omega) (by omega), hl, hm]
  simp only [Option.bind_some, if_true, Bool.not_true, spec_JoinLattices.j0, Bool.false_eq_true, if_false, spec_l03Basis.f, List.length_cons, List.length_nil, List.cons_append, List.nil_append]
  rw [if_pos (by decide), hk k (by omega)]; rfl
theorem spec_JoinLattices_not (k : Nat) {a b c a' b' c' : Int} (w : -9223372036854775808 ≤ a ∧ a < 9223372036854775808) (w' : -9223372036854775808 ≤ a' ∧ a' < 9223372036854775808) (h : ¬ (latB a b c = true ∧ latB a' b' c' = true)) :
    spec_JoinLattices.f (k + 1) a b c a' b' c' = some (0, 0, 0, 1) := by
  unfold spec_JoinLattices.f
  rw [spec_IsLattice_eq a b c w.1 w.2, spec_IsLattice_eq a' b' c' w'.1 w'.2]
  simp only [Option.bind_some, spec_JoinLattices.j0]
  cases h1 : latB a b c <;> cases h2 : latB a' b' c' <;> simp_all
theorem impl_join_is {a b c a' b' c' : Int} (hl : latB a b c = true) (hm : latB a' b' c' = true) :
    ∃ A B C, Herm (sp4 a b c a' b' c') A B C ∧ ∀ k, 20000000000000000 ≤ k → impl_join.f k a b c a' b' c' = some (A, B, C) := by
  have h1 := latB_iff.mp hl
  have h2 := latB_iff.mp hm
  obtain ⟨A, B, C, hh, hk⟩ := impl_latticeOf4 a b c a' b' c' h1.1 (by omega) h1.2.1 h2.1 (by omega) h2.2.1
  refine ⟨A, B, C, hh, fun k hk' => ?_⟩
  unfold impl_join.f impl_Lattice_basis.f
  simp only [Option.bind_some]
  rw [hk k hk']; rfl
theorem impl_JoinLattices_is {a b c a' b' c' : Int} (hl : latB a b c = true) (hm : latB a' b' c' = true) :
    ∃ A B C, Herm (sp4 a b c a' b' c') A B C ∧ ∀ k, 20000000000000001 ≤ k → impl_JoinLattices.f k a b c a' b' c' = some (A, B, C, 0) := by
  have h1 := latB_iff.mp hl
  have h2 := latB_iff.mp hm
  obtain ⟨A, B, C, hh, hk⟩ := impl_join_is hl hm
  refine ⟨A, B, C, hh, fun k hk' => ?_⟩
  unfold impl_JoinLattices.f
  rw [impl_IsLattice_eq a b c (by omega) (by omega), impl_IsLattice_eq a' b' c' (by omega) (by omega), hl, hm]
  simp only [Option.bind_some, if_true]
  rw [hk k (by omega)]; rfl
theorem impl_JoinLattices_not (k : Nat) {a b c a' b' c' : Int} (w : -9223372036854775808 ≤ a ∧ a < 9223372036854775808) (w' : -9223372036854775808 ≤ a' ∧ a' < 9223372036854775808) (h : ¬ (latB a b c = true ∧ latB a' b' c' = true)) :
    impl_JoinLattices.f k a b c a' b' c' = some (0, 0, 0, 1) := by
  unfold impl_JoinLattices.f
  rw [impl_IsLattice_eq a b c w.1 w.2, impl_IsLattice_eq a' b' c' w'.1 w'.2]
  simp only [Option.bind_some]
  cases h1 : latB a b c <;> cases h2 : latB a' b' c' <;> simp_all
theorem impl_meet_step {a b c a' b' c' : Int} (hl : latB a b c = true) (hm : latB a' b' c' = true) (k : Nat) (W y x : Int) (hx : 0 ≤ x ∧ x ≤ 100000) (hy : 0 ≤ y ∧ y ≤ 100000) :
    impl_meet.l1 (k + 1) W y W x a b c a' b' c' = if x < W then (if bothB a b c a' b' c' x y = true then some (W, x, y) else impl_meet.l1 k W y W (x + 1) a b c a' b' c') else impl_meet.l0 k W (y + 1) a b c a' b' c' := by
  have h1 := latB_iff.mp hl
  have h2 := latB_iff.mp hm
  rw [impl_meet.l1, impl_Lattice_has_eq h1.1 h1.2.1 (by omega) (by omega) (by omega), impl_Lattice_has_eq h2.1 h2.2.1 (by omega) (by omega) (by omega), wrap_id (x := x + 1) (by omega) (by omega), wrap_id (x := y + 1) (by omega) (by omega)]
  simp only [Option.bind_some, bothB, Bool.and_eq_true]
  split
  · cases hasB a b c x y <;> cases hasB a' b' c' x y <;> simp
  · rfl
theorem impl_meet_skip {a b c a' b' c' : Int} (hl : latB a b c = true) (hm : latB a' b' c' = true) (W y : Int) (hW : W ≤ 5000) (hy : 0 ≤ y ∧ y ≤ 100000) (K : Nat) (R : Option (Int × Int × Int)) : ∀ (d : Nat) (x : Int), 0 ≤ x → x + d = W →
    (∀ z, x ≤ z → z < W → bothB a b c a' b' c' z y = false) → (∀ k, K ≤ k → impl_meet.l0 k W (y + 1) a b c a' b' c' = R) → ∀ k, K + d + 1 ≤ k → impl_meet.l1 k W y W x a b c a' b' c' = R := by
  intro d
  induction d with
  | zero =>
    intro x h0 hx hn hc k hk
    obtain ⟨k, rfl⟩ : ∃ m, k = m + 1 := ⟨k - 1, by omega⟩
    rw [impl_meet_step hl hm k W y x (by omega) hy, if_neg (by omega)]; exact hc k (by omega)
  | succ d ih =>
    intro x h0 hx hn hc k hk
    obtain ⟨k, rfl⟩ : ∃ m, k = m + 1 := ⟨k - 1, by omega⟩
    rw [impl_meet_step hl hm k W y x (by omega) hy, if_pos (by omega), hn x (by omega) (by omega), if_neg (by decide)]
    exact ih (x + 1) (by omega) (by omega) (fun z h1 h2 => hn z (by omega) h2) hc k (by omega)
theorem impl_meet_hit {a b c a' b' c' : Int} (hl : latB a b c = true) (hm : latB a' b' c' = true) (W y X : Int) (hW : W ≤ 5000) (hy : 0 ≤ y ∧ y ≤ 100000) (hX : X < W) (hb : bothB a b c a' b' c' X y = true) : ∀ (d : Nat) (x : Int), 0 ≤ x → x + d = X →
    (∀ z, x ≤ z → z < X → bothB a b c a' b' c' z y = false) → ∀ k, d + 1 ≤ k → impl_meet.l1 k W y W x a b c a' b' c' = some (W, X, y) := by
  intro d
  induction d with
  | zero =>
    intro x h0 hx hn k hk
    obtain ⟨k, rfl⟩ : ∃ m, k = m + 1 := ⟨k - 1, by omega⟩
    have hxX : x = X := by omega
    subst hxX
    rw [impl_meet_step hl hm k W y x (by omega) hy, if_pos (by omega), if_pos hb]
  | succ d ih =>
    intro x h0 hx hn k hk
    obtain ⟨k, rfl⟩ : ∃ m, k = m + 1 := ⟨k - 1, by omega⟩
    rw [impl_meet_step hl hm k W y x (by omega) hy, if_pos (by omega), hn x (by omega) (by omega), if_neg (by decide)]
    exact ih (x + 1) (by omega) (by omega) (fun z h1 h2 => hn z (by omega) h2) k (by omega)
theorem impl_meet_rows {a b c a' b' c' W X Y : Int} (hl : latB a b c = true) (hm : latB a' b' c' = true) (hW : W ≤ 5000) (hY : Y ≤ 5000) (h : MeetAt a b c a' b' c' W X Y) : ∀ (n : Nat) (y : Int), 1 ≤ y → y + n = Y →
    ∀ k, n * (W.toNat + 2) + W.toNat + 2 ≤ k → impl_meet.l0 k W y a b c a' b' c' = some (W, X, Y) := by
  obtain ⟨⟨q1, q2, q3, q4⟩, p1, p2, p3, _⟩ := h
  intro n
  induction n with
  | zero =>
    intro y hy he k hk
    obtain ⟨k, rfl⟩ : ∃ m, k = m + 1 := ⟨k - 1, by omega⟩
    have hyY : y = Y := by omega
    subst hyY
    rw [impl_meet.l0]
    exact impl_meet_hit hl hm W y X hW (by omega) q4 p1 X.toNat 0 (by omega) (by omega) p2 k (by omega)
  | succ n ih =>
    intro y hy he k hk
    obtain ⟨k, rfl⟩ : ∃ m, k = m + 1 := ⟨k - 1, by omega⟩
    rw [Nat.add_mul] at hk
    rw [impl_meet.l0]
    exact impl_meet_skip hl hm W y hW (by omega) (n * (W.toNat + 2) + W.toNat + 2) _ W.toNat 0 (by omega) (by omega) (fun z _ _ => p3 z y hy (by omega)) (fun k hk => ih (y + 1) (by omega) (by omega) k hk) k (by omega)
theorem rows_bd {W Y : Int} (h1 : 1 ≤ W) (h2 : 1 ≤ Y) (h : W * Y ≤ 4096) : W ≤ 4096 ∧ Y ≤ 4096 ∧ (Y - 1).toNat * (W.toNat + 2) + W.toNat + 2 ≤ 20000 := by
  have a1 := le_mul_r (a := W) (c := Y) (by omega) h2
  have a2 := le_mul_l (a := W) (c := Y) (by omega) h1
  refine ⟨by omega, by omega, ?_⟩
  have e1 : (((Y - 1).toNat * W.toNat : Nat) : Int) ≤ Y * W := by
    rw [Int.natCast_mul]
    exact Int.mul_le_mul (by omega) (by omega) (by omega) (by omega)
  rw [Int.mul_comm Y] at e1
  rw [Nat.mul_add]
  omega
theorem impl_meet_is {a b c a' b' c' W X Y : Int} (hl : latB a b c = true) (hm : latB a' b' c' = true) (h : MeetAt a b c a' b' c' W X Y) (hW : W = a / Int.gcd a a' * a') (hWY : W * Y ≤ 4096) (k : Nat) (hk : 20000 ≤ k) :
    impl_meet.f k a b c a' b' c' = some (W, X, Y) := by
  have h1 := latB_iff.mp hl
  have h2 := latB_iff.mp hm
  obtain ⟨⟨q1, q2, q3, q4⟩, _⟩ := id h
  obtain ⟨b1, b2, b3⟩ := rows_bd q1 q2 hWY
  unfold impl_meet.f impl_gcd.f
  rw [impl_gcd_eq k a a' (by omega) (by omega) (by omega)]
  have hg := Int.gcd_pos_of_ne_zero_left a' (show a ≠ 0 by omega)
  have hq := Int.natAbs_ediv_le_natAbs a (Int.gcd a a')
  simp only [Option.bind_some]
  rw [if_neg (by omega), tdiv_of_dvd (Int.gcd_dvd_left a a'), wrap_id (x := a / (Int.gcd a a' : Int)) (by omega) (by omega), ← hW, wrap_id (x := W) (by omega) (by omega)]
  exact impl_meet_rows hl hm (by omega) (by omega) h (Y - 1).toNat 1 (by omega) (by omega) k (by omega)
theorem impl_MeetLattices_is {a b c a' b' c' W X Y : Int} (hl : latB a b c = true) (hm : latB a' b' c' = true) (h : MeetAt a b c a' b' c' W X Y) (hW : W = a / Int.gcd a a' * a') (hWY : W * Y ≤ 4096)
    (hp : ∀ A B C, Herm (sp4 a b c a' b' c') A B C → W * Y * (A * C) = (a * c) * (a' * c')) (k : Nat) (hk : 20000000000000001 ≤ k) :
    impl_MeetLattices.f k a b c a' b' c' = some (if W * Y ≤ 64 then (W, X, Y, 0) else (0, 0, 0, 3)) := by
  have h1 := latB_iff.mp hl
  have h2 := latB_iff.mp hm
  obtain ⟨⟨q1, q2, q3, q4⟩, _⟩ := id h
  obtain ⟨b1, b2, b3⟩ := rows_bd q1 q2 hWY
  obtain ⟨k, rfl⟩ : ∃ m, k = m + 1 := ⟨k - 1, by omega⟩
  obtain ⟨A, B, C, hh, hj⟩ := impl_join_is hl hm
  have hpr := hp A B C hh
  have hAC : 0 < A * C := Int.mul_pos hh.1 hh.2.1
  have hac : 0 < a * c := Int.mul_pos (by omega) (by omega)
  have hac' : 0 < a' * c' := Int.mul_pos (by omega) (by omega)
  have hWY0 : 0 < W * Y := Int.mul_pos (by omega) (by omega)
  have hle : (a * c) * (a' * c') ≤ 64 * 64 := Int.mul_le_mul h1.2.2.2 h2.2.2.2 (by omega) (by omega)
  have hle2 := le_mul_l (a := W * Y) (c := A * C) (by omega) (by omega)
  unfold impl_MeetLattices.f
  rw [impl_IsLattice_eq a b c (by omega) (by omega), impl_IsLattice_eq a' b' c' (by omega) (by omega), hl, hm]
  simp only [Option.bind_some, if_true, Bool.not_true, impl_MeetLattices.j0, Bool.false_eq_true, if_false, impl_Lattice_index.f]
  rw [hj k (by omega)]
  simp only [Option.bind_some]
  rw [wrap_id (x := a * c) (by omega) (by omega), wrap_id (x := a' * c') (by omega) (by omega), wrap_id (x := A * C) (by omega) (by omega), ← hpr, wrap_id (x := W * Y * (A * C)) (by omega) (by omega), Int.mul_tdiv_cancel _ (by omega), if_neg (by omega), wrap_id (x := W * Y) (by omega) (by omega)]
  by_cases hg : W * Y ≤ 64
  · rw [if_neg (by omega), if_pos hg, impl_meet_is hl hm h hW hWY k (by omega)]; rfl
  · rw [if_pos (by omega), if_neg hg]
theorem impl_MeetLattices_not (k : Nat) {a b c a' b' c' : Int} (w : -9223372036854775808 ≤ a ∧ a < 9223372036854775808) (w' : -9223372036854775808 ≤ a' ∧ a' < 9223372036854775808) (h : ¬ (latB a b c = true ∧ latB a' b' c' = true)) :
    impl_MeetLattices.f (k + 1) a b c a' b' c' = some (0, 0, 0, 1) := by
  unfold impl_MeetLattices.f
  rw [impl_IsLattice_eq a b c w.1 w.2, impl_IsLattice_eq a' b' c' w'.1 w'.2]
  simp only [Option.bind_some, impl_MeetLattices.j0]
  cases h1 : latB a b c <;> cases h2 : latB a' b' c' <;> simp_all
theorem spec_l03Result_eq' (a b c : Int) (h1 : -9223372036854775808 ≤ a) (h2 : a < 9223372036854775808) : spec_l03Result.f a b c = some (if latB a b c = true then (a, b, c, 0) else (0, 0, 0, 3)) := by
  unfold spec_l03Result.f; simp only [spec_IsLattice_eq a b c h1 h2, Option.bind_some]; split <;> rfl
theorem spec_meet_step {a b c a' b' c' : Int} (hl : latB a b c = true) (hm : latB a' b' c' = true) (k : Nat) (W y x : Int) (hW : 1 ≤ W ∧ W ≤ 5000) (hx : 0 ≤ x ∧ x ≤ 100000) (hy : 0 ≤ y ∧ y ≤ 100000) :
    spec_MeetLattices.l2 (k + 1) W y x a b c a' b' c' = if x < W then (if bothB a b c a' b' c' x y = true then some (if latB W x y = true then (W, x, y, 0) else (0, 0, 0, 3)) else spec_MeetLattices.l2 k W y (x + 1) a b c a' b' c') else spec_MeetLattices.l1 k W (y + 1) a b c a' b' c' := by
  have h1 := latB_iff.mp hl
  have h2 := latB_iff.mp hm
  rw [spec_MeetLattices.l2, spec_l03Has_eq h1.1 h1.2.1 (by omega) (by omega) (by omega), spec_l03Has_eq h2.1 h2.2.1 (by omega) (by omega) (by omega), wrap_id (x := x + 1) (by omega) (by omega), wrap_id (x := y + 1) (by omega) (by omega), spec_l03Result_eq' W x y (by omega) (by omega)]
  simp only [Option.bind_some, bothB, Bool.and_eq_true]
  split
  · cases hasB a b c x y <;> cases hasB a' b' c' x y <;> simp
  · rfl
theorem spec_meet_skip {a b c a' b' c' : Int} (hl : latB a b c = true) (hm : latB a' b' c' = true) (W y : Int) (hW : 1 ≤ W ∧ W ≤ 5000) (hy : 0 ≤ y ∧ y ≤ 100000) (K : Nat) (R : Option (Int × Int × Int × Int)) : ∀ (d : Nat) (x : Int), 0 ≤ x → x + d = W →
    (∀ z, x ≤ z → z < W → bothB a b c a' b' c' z y = false) → (∀ k, K ≤ k → spec_MeetLattices.l1 k W (y + 1) a b c a' b' c' = R) → ∀ k, K + d + 1 ≤ k → spec_MeetLattices.l2 k W y x a b c a' b' c' = R := by
  intro d
  induction d with
  | zero =>
    intro x h0 hx hn hc k hk
    obtain ⟨k, rfl⟩ : ∃ m, k = m + 1 := ⟨k - 1, by omega⟩
    rw [spec_meet_step hl hm k W y x hW (by omega) hy, if_neg (by omega)]; exact hc k (by omega)
  | succ d ih =>
    intro x h0 hx hn hc k hk
    obtain ⟨k, rfl⟩ : ∃ m, k = m + 1 := ⟨k - 1, by omega⟩
    rw [spec_meet_step hl hm k W y x hW (by omega) hy, if_pos (by omega), hn x (by omega) (by omega), if_neg (by decide)]
    exact ih (x + 1) (by omega) (by omega) (fun z h1 h2 => hn z (by omega) h2) hc k (by omega)
theorem spec_meet_hit {a b c a' b' c' : Int} (hl : latB a b c = true) (hm : latB a' b' c' = true) (W y X : Int) (hW : 1 ≤ W ∧ W ≤ 5000) (hy : 0 ≤ y ∧ y ≤ 100000) (hX : X < W) (hb : bothB a b c a' b' c' X y = true) : ∀ (d : Nat) (x : Int), 0 ≤ x → x + d = X →
    (∀ z, x ≤ z → z < X → bothB a b c a' b' c' z y = false) → ∀ k, d + 1 ≤ k → spec_MeetLattices.l2 k W y x a b c a' b' c' = some (if latB W X y = true then (W, X, y, 0) else (0, 0, 0, 3)) := by
  intro d
  induction d with
  | zero =>
    intro x h0 hx hn k hk
    obtain ⟨k, rfl⟩ : ∃ m, k = m + 1 := ⟨k - 1, by omega⟩
    have hxX : x = X := by omega
    subst hxX
    rw [spec_meet_step hl hm k W y x hW (by omega) hy, if_pos (by omega), if_pos hb]
  | succ d ih =>
    intro x h0 hx hn k hk
    obtain ⟨k, rfl⟩ : ∃ m, k = m + 1 := ⟨k - 1, by omega⟩
    rw [spec_meet_step hl hm k W y x hW (by omega) hy, if_pos (by omega), hn x (by omega) (by omega), if_neg (by decide)]
    exact ih (x + 1) (by omega) (by omega) (fun z h1 h2 => hn z (by omega) h2) k (by omega)
theorem spec_meet_rows {a b c a' b' c' W X Y : Int} (hl : latB a b c = true) (hm : latB a' b' c' = true) (hW : W ≤ 5000) (hY : Y ≤ 5000) (h : MeetAt a b c a' b' c' W X Y) : ∀ (n : Nat) (y : Int), 1 ≤ y → y + n = Y →
    ∀ k, n * (W.toNat + 2) + W.toNat + 2 ≤ k → spec_MeetLattices.l1 k W y a b c a' b' c' = some (if latB W X Y = true then (W, X, Y, 0) else (0, 0, 0, 3)) := by
  obtain ⟨⟨q1, q2, q3, q4⟩, p1, p2, p3, _⟩ := h
  intro n
  induction n with
  | zero =>
    intro y hy he k hk
    obtain ⟨k, rfl⟩ : ∃ m, k = m + 1 := ⟨k - 1, by omega⟩
    have hyY : y = Y := by omega
    subst hyY
    rw [spec_MeetLattices.l1]
    exact spec_meet_hit hl hm W y X (by omega) (by omega) q4 p1 X.toNat 0 (by omega) (by omega) p2 k (by omega)
  | succ n ih =>
    intro y hy he k hk
    obtain ⟨k, rfl⟩ : ∃ m, k = m + 1 := ⟨k - 1, by omega⟩
    rw [Nat.add_mul] at hk
    rw [spec_MeetLattices.l1]
    exact spec_meet_skip hl hm W y (by omega) (by omega) (n * (W.toNat + 2) + W.toNat + 2) _ W.toNat 0 (by omega) (by omega) (fun z _ _ => p3 z y hy (by omega)) (fun k hk => ih (y + 1) (by omega) (by omega) k hk) k (by omega)
theorem spec_meet_first {a b c a' b' c' W X Y : Int} (hl : latB a b c = true) (hm : latB a' b' c' = true) (hW : W ≤ 5000) (h : MeetAt a b c a' b' c' W X Y) (K : Nat) (R : Option (Int × Int × Int × Int)) (hc : ∀ k, K ≤ k → spec_MeetLattices.l1 k W 1 a b c a' b' c' = R) :
    ∀ (n : Nat) (x : Int), 1 ≤ x → x + n = W → ∀ k, K + n + 1 ≤ k → spec_MeetLattices.l0 k x a b c a' b' c' = R := by
  have h1 := latB_iff.mp hl
  have h2 := latB_iff.mp hm
  obtain ⟨⟨q1, q2, q3, q4⟩, p1, p2, p3, p4, p5⟩ := h
  intro n
  induction n with
  | zero =>
    intro x hx he k hk
    obtain ⟨k, rfl⟩ : ∃ m, k = m + 1 := ⟨k - 1, by omega⟩
    have hxW : x = W := by omega
    subst hxW
    rw [spec_MeetLattices.l0, spec_l03Has_eq h1.1 h1.2.1 (by omega) (by omega) (by omega), spec_l03Has_eq h2.1 h2.2.1 (by omega) (by omega) (by omega)]
    unfold bothB at p4
    rw [Bool.and_eq_true] at p4
    simp only [Option.bind_some, p4.1, p4.2, if_true]
    exact hc k (by omega)
  | succ n ih =>
    intro x hx he k hk
    obtain ⟨k, rfl⟩ : ∃ m, k = m + 1 := ⟨k - 1, by omega⟩
    rw [spec_MeetLattices.l0, spec_l03Has_eq h1.1 h1.2.1 (by omega) (by omega) (by omega), spec_l03Has_eq h2.1 h2.2.1 (by omega) (by omega) (by omega), wrap_id (x := x + 1) (by omega) (by omega)]
    have hq := p5 x hx (by omega)
    unfold bothB at hq
    have hn := ih (x + 1) (by omega) (by omega) k (by omega)
    simp only [Option.bind_some]
    cases h3 : hasB a b c x 0 <;> cases h4 : hasB a' b' c' x 0 <;> simp_all
theorem rows_bd' {W Y : Int} (h1 : 1 ≤ W) (h2 : 1 ≤ Y) (h : W * Y ≤ 4096) : W ≤ 4096 ∧ Y ≤ 4096 ∧ (Y - 1).toNat * (W.toNat + 2) + W.toNat + 2 ≤ 20000 := by
  have a1 := le_mul_r (a := W) (c := Y) (by omega) h2
  have a2 := le_mul_l (a := W) (c := Y) (by omega) h1
  refine ⟨by omega, by omega, ?_⟩
  have e1 : (((Y - 1).toNat * W.toNat : Nat) : Int) ≤ Y * W := by
    rw [Int.natCast_mul]
    exact Int.mul_le_mul (by omega) (by omega) (by omega) (by omega)
  rw [Int.mul_comm Y] at e1
  rw [Nat.mul_add]
  omega
theorem spec_MeetLattices_is {a b c a' b' c' W X Y : Int} (hl : latB a b c = true) (hm : latB a' b' c' = true) (h : MeetAt a b c a' b' c' W X Y) (hWY : W * Y ≤ 4096) (k : Nat) (hk : 30000 ≤ k) :
    spec_MeetLattices.f k a b c a' b' c' = some (if W * Y ≤ 64 then (W, X, Y, 0) else (0, 0, 0, 3)) := by
  have h1 := latB_iff.mp hl
  have h2 := latB_iff.mp hm
  obtain ⟨⟨q1, q2, q3, q4⟩, _⟩ := id h
  obtain ⟨b1, b2, b3⟩ := rows_bd' q1 q2 hWY
  obtain ⟨k, rfl⟩ : ∃ m, k = m + 1 := ⟨k - 1, by omega⟩
  unfold spec_MeetLattices.f
  rw [spec_IsLattice_eq a b c (by omega) (by omega), spec_IsLattice_eq a' b' c' (by omega) (by omega), hl, hm]
  simp only [Option.bind_some, if_true, Bool.not_true, spec_MeetLattices.j0, Bool.false_eq_true, if_false]
  rw [spec_meet_first hl hm (by omega) h 20000 _ (fun k hk => spec_meet_rows hl hm (by omega) (by omega) h (Y - 1).toNat 1 (by omega) (by omega) k (by omega)) (W - 1).toNat 1 (by omega) (by omega) k (by omega)]
  have a1 := le_mul_r (a := W) (c := Y) (by omega) q2
  have a2 := le_mul_l (a := W) (c := Y) (by omega) q1
  by_cases hg : W * Y ≤ 64
  · rw [if_pos hg, if_pos (latB_iff.mpr ⟨by omega, by omega, by omega, hg⟩)]
  · rw [if_neg hg, if_neg (fun q => hg (latB_iff.mp q).2.2.2)]
theorem spec_MeetLattices_not (k : Nat) {a b c a' b' c' : Int} (w : -9223372036854775808 ≤ a ∧ a < 9223372036854775808) (w' : -9223372036854775808 ≤ a' ∧ a' < 9223372036854775808) (h : ¬ (latB a b c = true ∧ latB a' b' c' = true)) :
    spec_MeetLattices.f (k + 1) a b c a' b' c' = some (0, 0, 0, 1) := by
  unfold spec_MeetLattices.f
  rw [spec_IsLattice_eq a b c w.1 w.2, spec_IsLattice_eq a' b' c' w'.1 w'.2]
  simp only [Option.bind_some, spec_MeetLattices.j0]
  cases h1 : latB a b c <;> cases h2 : latB a' b' c' <;> simp_all
def St (l : List Int) (p s : Int) : Prop := (l.length : Int) ≤ 4096 ∧ (∀ x ∈ l, 0 ≤ x ∧ x < 256) ∧ 0 ≤ p ∧ p ≤ (l.length : Int) ∧ 0 ≤ s ∧ s < 2147483647
theorem rd_mem {l : List Int} {i : Int} (h0 : 0 ≤ i) (h1 : i < (l.length : Int)) : rd l i ∈ l := by
  unfold rd
  have h : i.toNat < l.length := by omega
  have e : l.getD i.toNat 0 = l[i.toNat] := by simp [List.getD, h]
  rw [e]
  exact List.getElem_mem h
theorem tm_bd {X n : Int} (hX : 0 ≤ X) (hn : 0 < n) : 0 ≤ Int.tmod X n ∧ Int.tmod X n < n := ⟨Int.tmod_nonneg n hX, Int.tmod_lt_of_pos X hn⟩
theorem next_eq {l : List Int} {p s : Int} (h : St l p s) (n : Int) : ∃ r p' s', spec_l01Next.f l p s n = some (r, p', s') ∧ St l p' s' ∧ 0 ≤ r ∧ (r < n ∨ r = 0) := by
  have h0 := h
  obtain ⟨hl, hb, hp0, hp1, hs0, hs1⟩ := h
  unfold spec_l01Next.f
  by_cases hn : n ≤ 1
  · rw [if_pos hn]; exact ⟨0, p, s, rfl, h0, by omega, .inr rfl⟩
  rw [if_neg hn]
  rw [wrap_id (x := s * 48271) (by omega) (by omega), wrap_id (x := s * 48271 + 67) (by omega) (by omega)]
  obtain ⟨a1, a2⟩ := tm_bd (X := s * 48271 + 67) (n := 2147483647) (by omega) (by decide)
  generalize Int.tmod (s * 48271 + 67) 2147483647 = S at a1 a2
  have q0 : 0 ≤ Int.tdiv S 37 ∧ Int.tdiv S 37 ≤ S := by rw [Int.tdiv_eq_ediv_of_nonneg a1]; omega
  have q1 : wrap64 (Int.tdiv S 37) = Int.tdiv S 37 := wrap_id (by omega) (by omega)
  by_cases hp : p < (l.length : Int)
  · rw [if_pos hp, if_pos hp0]
    have m := hb _ (rd_mem hp0 hp)
    rw [wrap_id (x := p + 1) (by omega) (by omega), wrap_id (x := p + 1 - 1) (by omega) (by omega), Int.add_sub_cancel]
    have w1 : wrap64 (rd l p) = rd l p := wrap_id (by omega) (by omega)
    rw [q1, w1, wrap_id (x := Int.tdiv S 37 + rd l p) (by omega) (by omega), if_neg (show ¬ n = 0 by omega), if_neg (show ¬ n = 0 by omega)]
    have t1 := tm_bd (X := rd l p) (n := n) m.1 (by omega)
    have t2 := tm_bd (X := Int.tdiv S 37 + rd l p) (n := n) (by omega) (by omega)
    have st : St l (p + 1) S := ⟨hl, hb, by omega, by omega, a1, a2⟩
    split
    · split
      · exact ⟨_, _, _, rfl, st, t1.1, .inl t1.2⟩
      · exact ⟨_, _, _, rfl, st, t2.1, .inl t2.2⟩
    · exact ⟨_, _, _, rfl, st, t2.1, .inl t2.2⟩
  · rw [if_neg hp, if_neg (show ¬ n = 0 by omega), q1]
    have t1 := tm_bd (X := Int.tdiv S 37) (n := n) (by omega) (by omega)
    exact ⟨_, _, _, rfl, ⟨hl, hb, hp0, hp1, a1, a2⟩, t1.1, .inl t1.2⟩
theorem from_loop {l : List Int} (hl : (l.length : Int) ≤ 4096) (hb : ∀ x ∈ l, 0 ≤ x ∧ x < 256) (p : Int) : ∀ (k : Nat) (i s : Int), 0 ≤ i → i ≤ 64 → 64 - i < (k : Int) → 0 ≤ s → s < 2147483647 →
    ∃ s', spec_l01From.l0 k l i l p s = some (l, p, s') ∧ 0 ≤ s' ∧ s' < 2147483647
  | 0, i, s, h0, h1, h2, _, _ => by omega
  | k + 1, i, s, h0, h1, h2, h3, h4 => by
    unfold spec_l01From.l0
    by_cases hi : i < (l.length : Int)
    · rw [if_pos hi]
      by_cases h6 : i < 64
      · rw [if_pos h6, if_pos h0]
        have m := hb _ (rd_mem h0 hi)
        rw [wrap_id (x := i + 1) (by omega) (by omega), wrap_id (x := rd l i) (by omega) (by omega), wrap_id (x := s * 73) (by omega) (by omega), wrap_id (x := s * 73 + rd l i) (by omega) (by omega)]
        have t := tm_bd (X := s * 73 + rd l i) (n := 2147483647) (by omega) (by decide)
        exact from_loop hl hb p k (i + 1) _ (by omega) (by omega) (by omega) t.1 t.2
      · rw [if_neg h6]; exact ⟨s, rfl, h3, h4⟩
    · rw [if_neg hi]; exact ⟨s, rfl, h3, h4⟩
theorem from_eq {l : List Int} (hl : (l.length : Int) ≤ 4096) (hb : ∀ x ∈ l, 0 ≤ x ∧ x < 256) (k : Nat) (hk : 65 ≤ k) : ∃ p s, spec_l01From.f k l = some (l, p, s) ∧ St l p s := by
  obtain ⟨s, e, h1, h2⟩ := from_loop hl hb 0 k 0 93001 (by omega) (by omega) (by omega) (by omega) (by omega)
  exact ⟨0, s, e, hl, hb, by omega, by omega, h1, h2⟩
theorem pick_eq {l : List Int} {p s : Int} (h : St l p s) (L : List Int) (hL : 0 < L.length) : ∃ v p' s', spec_l01Pick.f l p s L = some (v, p', s') ∧ St l p' s' ∧ v ∈ L := by
  unfold spec_l01Pick.f
  obtain ⟨r, p', s', e, hs, b1, b2⟩ := next_eq h (L.length : Int)
  rw [e]
  simp only [Option.bind_some]
  have hr : r < (L.length : Int) := by rcases b2 with b | b <;> omega
  rw [if_pos b1, if_pos hr]
  exact ⟨_, _, _, rfl, hs, rd_mem b1 hr⟩
theorem big_eq (l : List Int) : laws_big.f l = some (decide ((l.length : Int) > 4096)) := rfl
theorem draw3_eq {l : List Int} {p s : Int} (h : St l p s) : ∃ a b c p' s', spec_l03Draw.f l p s = some (a, b, c, p', s') ∧ St l p' s' ∧ (-100 ≤ a ∧ a ≤ 100) := by
  unfold spec_l03Draw.f
  obtain ⟨r1, p1, s1, e1, h1, b1, c1⟩ := next_eq h 6
  rw [e1]
  simp only [Option.bind_some]
  obtain ⟨r2, p2, s2, e2, h2, b2, c2⟩ := next_eq h1 6
  rw [e2]
  simp only [Option.bind_some]
  rw [wrap_id (x := 1 + r1) (by omega) (by omega)]
  obtain ⟨r3, p3, s3, e3, h3, b3, c3⟩ := next_eq h2 (1 + r1)
  rw [e3]
  simp only [Option.bind_some]
  obtain ⟨r4, p4, s4, e4, h4, b4, c4⟩ := next_eq h3 60
  rw [e4]
  simp only [Option.bind_some]
  split
  · obtain ⟨v, p5, s5, e5, h5, m5⟩ := pick_eq h4 [0, 64, 65, 8] (by decide)
    rw [e5]
    simp only [List.mem_cons, List.not_mem_nil, or_false] at m5
    exact ⟨_, _, _, _, _, rfl, h5, by omega⟩
  · split
    · obtain ⟨v, p5, s5, e5, h5, m5⟩ := pick_eq h4 [-1, 1 + r1, wrap64 (1 + r1 - 1)] (by simp)
      rw [e5]
      exact ⟨_, _, _, _, _, rfl, h5, by omega⟩
    · split
      · obtain ⟨v, p5, s5, e5, h5, m5⟩ := pick_eq h4 [8, 9] (by decide)
        rw [e5]
        exact ⟨_, _, _, _, _, rfl, h5, by omega⟩
      · exact ⟨_, _, _, _, _, rfl, h4, by omega⟩
theorem drawJoin_eq {l : List Int} (hl : (l.length : Int) ≤ 4096) (hb : ∀ x ∈ l, 0 ≤ x ∧ x < 256) (k : Nat) (hk : 65 ≤ k) : ∃ a b c a' b' c', spec_DrawJoinLattices.f k l = some (a, b, c, a', b', c') ∧ (-100 ≤ a ∧ a ≤ 100) ∧ (-100 ≤ a' ∧ a' ≤ 100) := by
  unfold spec_DrawJoinLattices.f
  obtain ⟨p, s, e, h⟩ := from_eq hl hb k hk
  rw [e]
  simp only [Option.bind_some]
  obtain ⟨a, b, c, p1, s1, e1, h1, k1⟩ := draw3_eq h
  rw [e1]
  simp only [Option.bind_some]
  obtain ⟨a', b', c', p2, s2, e2, h2, k2⟩ := draw3_eq h1
  rw [e2]
  exact ⟨_, _, _, _, _, _, rfl, k1, k2⟩
theorem drawMeet_eq {l : List Int} (hl : (l.length : Int) ≤ 4096) (hb : ∀ x ∈ l, 0 ≤ x ∧ x < 256) (k : Nat) (hk : 65 ≤ k) : ∃ a b c a' b' c', spec_DrawMeetLattices.f k l = some (a, b, c, a', b', c') ∧ (-100 ≤ a ∧ a ≤ 100) ∧ (-100 ≤ a' ∧ a' ≤ 100) := by
  unfold spec_DrawMeetLattices.f
  obtain ⟨a, b, c, a', b', c', e, k1, k2⟩ := drawJoin_eq hl hb k hk
  rw [e]
  exact ⟨_, _, _, _, _, _, rfl, k1, k2⟩
theorem drawSub_eq {l : List Int} (hl : (l.length : Int) ≤ 4096) (hb : ∀ x ∈ l, 0 ≤ x ∧ x < 256) (k : Nat) (hk : 65 ≤ k) : ∃ n, spec_DrawSublatticesOf.f k l = some n := by
  unfold spec_DrawSublatticesOf.f
  obtain ⟨p, s, e, h⟩ := from_eq hl hb k hk
  rw [e]
  simp only [Option.bind_some]
  obtain ⟨r1, p1, s1, e1, h1, b1, c1⟩ := next_eq h 12
  rw [e1]
  simp only [Option.bind_some]
  split
  · obtain ⟨v, p5, s5, e5, h5, m5⟩ := pick_eq h1 [0, 1, 64, 65] (by decide)
    rw [e5]
    exact ⟨_, rfl⟩
  · obtain ⟨r2, p2, s2, e2, h2, b2, c2⟩ := next_eq h1 20
    rw [e2]
    exact ⟨_, rfl⟩
theorem like9_loop (l : List S66) (hl : l.length ≤ 1000000) (k : Nat) : ∀ (t pre : List S66) (i : Int), l = pre ++ t → i = pre.length → laws_likeLattices9.l0 (k + t.length + 1) l l i = some true := by
  intro t
  induction t with
  | nil => intro pre i e hi; rw [laws_likeLattices9.l0, if_neg (by subst hi; subst e; simp)]
  | cons v t ih =>
    intro pre i e hi
    have hlen : l.length = pre.length + (t.length + 1) := by rw [e]; simp
    have hn := ih (pre ++ [v]) (i + 1) (by rw [e]; simp) (by rw [hi]; simp)
    rw [show k + (v :: t).length + 1 = (k + t.length + 1) + 1 by simp; omega, laws_likeLattices9.l0, if_pos (by omega), if_pos (by omega), if_pos (by omega), wrap_id (x := i + 1) (by omega) (by omega), if_neg (by simp)]
    exact hn
theorem like9_self (k : Nat) (l : List S66) (hl : l.length ≤ 1000000) (hk : l.length < k) : laws_likeLattices9.f k l l = some true := by
  unfold laws_likeLattices9.f
  rw [if_pos rfl]
  obtain ⟨j, rfl⟩ : ∃ j, k = j + l.length + 1 := ⟨k - l.length - 1, by omega⟩
  exact like9_loop l hl j l [] 0 rfl rfl
theorem joins_loop {x6 x10 n : Int} (T : List S66) (y1 y2 y3 y4 y5 y6 y7 y8 y9 z1 z2 z3 : Int) (hn : n ≤ 64) (k : Nat)
    (hR : (if x10 = 0 then (if x6 = 0 then (some ((wrap64 ((wrap64 ((wrap64 (y7 * y9)) * z1)) * z3)) == (wrap64 ((wrap64 ((wrap64 (y1 * y3)) * y4)) * y6)))) else (some false)) else (some true)) = some true) :
    ∀ (d : Nat) (x18 x19 : Int), x19 + d = n + 1 → 1 ≤ x19 → 0 ≤ x18 → x18 + 64 * d ≤ 100000 → (T.length : Int) = x18 + (subL n x19 d).length →
    laws_FnJoins.l0 (k + d + 1) x6 x10 n T x18 x19 y1 y2 y3 y4 y5 y6 y7 y8 y9 z1 z2 z3 = some true := by
  intro d
  induction d with
  | zero => intro x18 x19 h1 h2 h3 h4 h5; rw [laws_FnJoins.l0, if_neg (by omega), if_pos (by simpa [subL] using h5)]; exact hR
  | succ d ih =>
    intro x18 x19 h1 h2 h3 h4 h5
    rw [show k + (d + 1) + 1 = (k + d + 1) + 1 by omega, laws_FnJoins.l0, if_pos (by omega), if_neg (by omega), Int.tmod_eq_emod_of_nonneg (by omega), wrap_id (x := x18 + x19) (by omega) (by omega), wrap_id (x := x19 + 1) (by omega) (by omega)]
    rw [subL] at h5
    by_cases hd : n % x19 = 0
    · rw [if_pos hd] at h5 ⊢
      rw [List.length_append, rowL_len] at h5
      exact ih (x18 + x19) (x19 + 1) (by omega) (by omega) (by omega) (by omega) (by omega)
    · rw [if_neg hd] at h5 ⊢
      exact ih x18 (x19 + 1) (by omega) (by omega) (by omega) (by omega) (by simpa using h5)
theorem joins_prod {a b c a' b' c' A B C W X Y : Int} (hl : latB a b c = true) (hm : latB a' b' c' = true) (hh : Herm (sp4 a b c a' b' c') A B C) (hM : MeetAt a b c a' b' c' W X Y) (hp : W * Y * (A * C) = (a * c) * (a' * c')) :
    (wrap64 ((wrap64 ((wrap64 (A * C)) * W)) * Y) == wrap64 ((wrap64 ((wrap64 (a * c)) * a')) * c')) = true := by
  obtain ⟨⟨a1, a2⟩, ⟨c1, c2⟩, ⟨b1, b2⟩, hac⟩ := latB_iff.mp hl
  obtain ⟨⟨a1', a2'⟩, ⟨c1', c2'⟩, ⟨b1', b2'⟩, hac'⟩ := latB_iff.mp hm
  obtain ⟨⟨w1, y1, _, _⟩, _⟩ := hM
  have hA := hh.1
  have hC := hh.2.1
  have p1 : 1 ≤ a * c := Int.mul_pos (by omega) (by omega)
  have p2 : 1 ≤ a' * c' := Int.mul_pos (by omega) (by omega)
  have p3 : 1 ≤ A * C := Int.mul_pos (by omega) (by omega)
  have p4 : 1 ≤ W * Y := Int.mul_pos (by omega) (by omega)
  have q1 := prod_bd (a := a * c) (b := a' * c') (A := 64) (B := 64) (by omega) (by omega) (by omega) (by omega) (by omega)
  have q2 : A * C ≤ W * Y * (A * C) := le_mul_l (by omega) (by omega)
  have e1 : A * C * W * Y = W * Y * (A * C) := by grind
  have e2 : a * c * a' * c' = (a * c) * (a' * c') := by grind
  have p5 : 1 ≤ A * C * W := Int.mul_pos (by omega) (by omega)
  have q3 : A * C * W ≤ A * C * W * Y := le_mul_r (by omega) (by omega)
  have p6 : 1 ≤ a * c * a' := Int.mul_pos (by omega) (by omega)
  have q4 : a * c * a' ≤ a * c * a' * c' := le_mul_r (by omega) (by omega)
  rw [wrap_id (x := A * C) (by omega) (by omega), wrap_id (x := A * C * W) (by omega) (by omega), wrap_id (x := A * C * W * Y) (by omega) (by omega)]
  rw [wrap_id (x := a * c) (by omega) (by omega), wrap_id (x := a * c * a') (by omega) (by omega), wrap_id (x := a * c * a' * c') (by omega) (by omega)]
  rw [e1, e2, hp]; simp
/-- What join and meet answer together. -/
theorem joins_both {a b c a' b' c' : Int} (w : -9223372036854775808 ≤ a ∧ a < 9223372036854775808) (w' : -9223372036854775808 ≤ a' ∧ a' < 9223372036854775808) :
    ∃ A B C z W X Y y, (∀ k, 20000000000000001 ≤ k → spec_JoinLattices.f k a b c a' b' c' = some (A, B, C, z)) ∧ (∀ k, 20000000000000001 ≤ k → impl_JoinLattices.f k a b c a' b' c' = some (A, B, C, z)) ∧
      (∀ k, 20000000000000001 ≤ k → spec_MeetLattices.f k a b c a' b' c' = some (W, X, Y, y)) ∧ (∀ k, 20000000000000001 ≤ k → impl_MeetLattices.f k a b c a' b' c' = some (W, X, Y, y)) ∧
      (if y = 0 then (if z = 0 then (some ((wrap64 ((wrap64 ((wrap64 (A * C)) * W)) * Y)) == (wrap64 ((wrap64 ((wrap64 (a * c)) * a')) * c')))) else (some false)) else (some true)) = some true := by
  by_cases h : latB a b c = true ∧ latB a' b' c' = true
  · obtain ⟨A, B, C, hh, hk⟩ := spec_JoinLattices_is h.1 h.2
    obtain ⟨A', B', C', hh', hk'⟩ := impl_JoinLattices_is h.1 h.2
    obtain ⟨rfl, rfl, rfl⟩ := hh.unique hh'
    obtain ⟨W, X, Y, hM, hpr, hW, hWY⟩ := meet_at h.1 h.2 hh
    have hp : ∀ A' B' C', Herm (sp4 a b c a' b' c') A' B' C' → W * Y * (A' * C') = (a * c) * (a' * c') := fun A' B' C' h' => by
      obtain ⟨rfl, rfl, rfl⟩ := hh.unique h'; exact hpr
    have hS := fun k (hk : 20000000000000001 ≤ k) => spec_MeetLattices_is h.1 h.2 hM hWY k (by omega)
    have hI := fun k (hk : 20000000000000001 ≤ k) => impl_MeetLattices_is h.1 h.2 hM hW hWY hp k hk
    by_cases hq : W * Y ≤ 64
    · simp only [if_pos hq] at hS hI
      refine ⟨A, B, C, 0, W, X, Y, 0, hk, hk', hS, hI, ?_⟩
      rw [if_pos rfl, if_pos rfl, joins_prod h.1 h.2 hh hM hpr]
    · simp only [if_neg hq] at hS hI
      exact ⟨A, B, C, 0, 0, 0, 0, 3, hk, hk', hS, hI, by rw [if_neg (by decide)]⟩
  · refine ⟨0, 0, 0, 1, 0, 0, 0, 1, fun k hk => ?_, fun k hk => ?_, fun k hk => ?_, fun k hk => ?_, by rw [if_neg (by decide)]⟩
    · obtain ⟨k, rfl⟩ : ∃ m, k = m + 1 := ⟨k - 1, by omega⟩
      exact spec_JoinLattices_not k w w' h
    · exact impl_JoinLattices_not k w w' h
    · obtain ⟨k, rfl⟩ : ∃ m, k = m + 1 := ⟨k - 1, by omega⟩
      exact spec_MeetLattices_not k w w' h
    · obtain ⟨k, rfl⟩ : ∃ m, k = m + 1 := ⟨k - 1, by omega⟩
      exact impl_MeetLattices_not k w w' h
theorem joins_j0 {a b c a' b' c' A B C z W X Y y n : Int}
    (hR : (if y = 0 then (if z = 0 then (some ((wrap64 ((wrap64 ((wrap64 (A * C)) * W)) * Y)) == (wrap64 ((wrap64 ((wrap64 (a * c)) * a')) * c')))) else (some false)) else (some true)) = some true) (k : Nat) (hk : 100 ≤ k) :
    laws_FnJoins.j0 k z y n (sublS n).1 (sublS n).2 false a b c a' b' c' A B C W X Y = some true := by
  obtain ⟨k, rfl⟩ : ∃ m, k = m + 1 := ⟨k - 1, by omega⟩
  rw [laws_FnJoins.j0, if_neg (by decide)]
  unfold sublS
  by_cases h : 1 ≤ n ∧ n ≤ 64
  · rw [if_pos h, if_pos rfl]
    obtain ⟨j, rfl⟩ : ∃ j, k = j + n.toNat + 1 := ⟨k - n.toNat - 1, by omega⟩
    exact joins_loop _ a b c a' b' c' A B C W X Y h.2 j hR n.toNat 0 1 (by omega) (by omega) (by omega) (by omega) (by simp)
  · rw [if_neg h, if_neg (by decide)]; exact hR
theorem main (l0 : List Int) (hm0 : l0.length ≤ maxLen) (y0 : l0.length * 1 ≤ 140737488351232) (w0 : ∀ x ∈ l0, (Go.Lit.int .u8 x).wf = true) : ∃ k, laws_FnJoins.f k l0 = some true := by
  have hb : ∀ x ∈ l0, 0 ≤ x ∧ x < 256 := fun x hx => u8_bd (w0 x hx)
  by_cases hl : (l0.length : Int) ≤ 4096
  · obtain ⟨a, b, c, a', b', c', e1, k1, k2⟩ := drawMeet_eq hl hb (20000000000000001 + 1) (by decide)
    obtain ⟨n, e2⟩ := drawSub_eq hl hb (20000000000000001 + 1) (by decide)
    obtain ⟨A, B, C, z, W, X, Y, y, hS, hI, hS', hI', hR⟩ := joins_both (a := a) (b := b) (c := c) (a' := a') (b' := b') (c' := c') (by omega) (by omega)
    refine ⟨20000000000000001 + 1, ?_⟩
    have hj := joins_j0 (b := b) (b' := b') (B := B) (X := X) (n := n) hR (20000000000000001 + 1) (by decide)
    have hlen := sublS_len n
    unfold laws_FnJoins.f
    rw [big_eq, e1, e2, decide_eq_false (by omega)]
    simp only [Option.bind_some]
    rw [hS _ (by decide), hI _ (by decide), hS' _ (by decide), hI' _ (by decide), impl_SublatticesOf_eq _ (by decide), spec_SublatticesOf_eq _ (by decide)]
    simp only [Option.bind_some, Bool.false_eq_true, if_false, beq_self_eq_true, Bool.not_true, Bool.or_self, if_true]
    rw [like9_self _ _ (by omega) (by omega)]
    simp only [Option.bind_some, Bool.not_true]
    exact hj
  · refine ⟨1, ?_⟩
    unfold laws_FnJoins.f
    rw [big_eq, decide_eq_true (by omega)]
    rfl
end Go.Proofs.Ytjjbjaagfjljnaa.PureFnJoins

namespace Go.Proofs.Ytpkjgcafbkfbgac.Mth
set_option linter.unusedVariables false
/-! ### divisors -/
theorem gcd_tmod (a b : Int) : Int.gcd b (a.tmod b) = Int.gcd a b := by
  unfold Int.gcd
  rw [Int.natAbs_tmod, Nat.gcd_comm a.natAbs, Nat.gcd_rec b.natAbs a.natAbs, Nat.gcd_comm]
theorem bezout_nat : ∀ (n : Nat) (a b : Int), b.natAbs ≤ n → ∃ s t : Int, (Int.gcd a b : Int) = s * a + t * b := by
  intro n
  induction n with
  | zero =>
    intro a b h
    have hb : b = 0 := by omega
    subst hb
    rcases Int.natAbs_eq a with h | h
    · exact ⟨1, 0, by rw [Int.gcd_zero_right]; omega⟩
    · exact ⟨-1, 0, by rw [Int.gcd_zero_right]; omega⟩
  | succ n ih =>
    intro a b h
    by_cases hb : b = 0
    · exact ih a b (by omega)
    · have h1 : (a.tmod b).natAbs ≤ n := by
        rw [Int.natAbs_tmod]
        have := Nat.mod_lt a.natAbs (show 0 < b.natAbs by omega)
        omega
      obtain ⟨s, t, e⟩ := ih b (a.tmod b) h1
      refine ⟨t, s - t * (a.tdiv b), ?_⟩
      rw [← gcd_tmod a b, e]
      have := Int.mul_tdiv_add_tmod a b
      grind
theorem bezout (a b : Int) : ∃ s t : Int, (Int.gcd a b : Int) = s * a + t * b := bezout_nat _ a b (Nat.le_refl _)

/-- A positive (or zero) number that divides both and is a sum of multiples of both is their divisor. -/
theorem gcd_unique {a b g : Int} (h0 : 0 ≤ g) (ha : g ∣ a) (hb : g ∣ b) (h : ∃ s t, g = s * a + t * b) : g = Int.gcd a b := by
  obtain ⟨s, t, e⟩ := h
  have h1 : g ∣ (Int.gcd a b : Int) := Int.dvd_coe_gcd ha hb
  have h2 : (Int.gcd a b : Int) ∣ g := by
    rw [e]
    exact Int.dvd_add (Int.dvd_mul_of_dvd_right (Int.gcd_dvd_left a b)) (Int.dvd_mul_of_dvd_right (Int.gcd_dvd_right a b))
  exact Int.dvd_antisymm h0 (by omega) h1 h2

/-! ### lattices -/
/-- (x, y) is a sum of multiples of (a, 0) and (b, c). -/
def L (a b c x y : Int) : Prop := ∃ m n : Int, x = m * a + n * b ∧ y = n * c

theorem L_iff {a b c x y : Int} (hc : c ≠ 0) : L a b c x y ↔ (y % c = 0 ∧ (x - (y / c) * b) % a = 0) := by
  constructor
  · rintro ⟨m, n, rfl, rfl⟩
    refine ⟨Int.mul_emod_left n c, ?_⟩
    rw [Int.mul_ediv_cancel n hc]
    have : m * a + n * b - n * b = m * a := by omega
    rw [this]; exact Int.mul_emod_left m a
  · rintro ⟨h1, h2⟩
    obtain ⟨n, rfl⟩ := Int.dvd_of_emod_eq_zero h1
    rw [Int.mul_ediv_cancel_left n hc] at h2
    obtain ⟨m, hm⟩ := Int.dvd_of_emod_eq_zero h2
    exact ⟨m, n, by grind, by grind⟩

/-- Equal lattices in the given form are equal. -/
theorem L_unique {a b c a' b' c' : Int} (ha : 0 < a) (hc : 0 < c) (hb0 : 0 ≤ b) (hb : b < a) (ha' : 0 < a') (hc' : 0 < c') (hb0' : 0 ≤ b') (hb' : b' < a') (h : ∀ x y, L a b c x y ↔ L a' b' c' x y) : a = a' ∧ b = b' ∧ c = c' := by
  obtain ⟨m1, n1, e1, e2⟩ := (h a 0).mp ⟨1, 0, by omega, by omega⟩
  obtain ⟨m2, n2, e3, e4⟩ := (h b c).mp ⟨0, 1, by omega, by omega⟩
  obtain ⟨m3, n3, e5, e6⟩ := (h a' 0).mpr ⟨1, 0, by omega, by omega⟩
  obtain ⟨m4, n4, e7, e8⟩ := (h b' c').mpr ⟨0, 1, by omega, by omega⟩
  have z1 : n1 = 0 := by
    rcases Int.mul_eq_zero.mp e2.symm with h | h <;> omega
  have z3 : n3 = 0 := by
    rcases Int.mul_eq_zero.mp e6.symm with h | h <;> omega
  subst z1; subst z3
  have da : a' ∣ a := ⟨m1, by grind⟩
  have da' : a ∣ a' := ⟨m3, by grind⟩
  have dc : c' ∣ c := ⟨n2, by grind⟩
  have dc' : c ∣ c' := ⟨n4, by grind⟩
  have ea := Int.dvd_antisymm (by omega) (by omega) da' da
  have ec := Int.dvd_antisymm (by omega) (by omega) dc' dc
  subst ea; subst ec
  have hn : n2 = 1 := by
    have h1 : n2 * c = 1 * c := by omega
    exact Int.eq_of_mul_eq_mul_right (by omega) h1
  subst hn
  refine ⟨rfl, ?_, rfl⟩
  have hm : m2 = 0 := by
    rcases Int.lt_trichotomy m2 0 with h | h | h
    · have : m2 * a ≤ (-1) * a := Int.mul_le_mul_of_nonneg_right (by omega) (by omega)
      omega
    · exact h
    · have : 1 * a ≤ m2 * a := Int.mul_le_mul_of_nonneg_right (by omega) (by omega)
      omega
  subst hm
  omega

/-- The index: what spans the same lattice has the same determinant, up to its sign. -/
theorem L_index {a b c ux uy vx vy : Int} (ha : 0 < a) (hc : 0 < c) (h : ∀ x y, L a b c x y ↔ ∃ i j : Int, x = i * ux + j * vx ∧ y = i * uy + j * vy) :
    a * c = (ux * vy - uy * vx).natAbs := by
  obtain ⟨m1, n1, e1, e2⟩ := (h ux uy).mpr ⟨1, 0, by omega, by omega⟩
  obtain ⟨m2, n2, e3, e4⟩ := (h vx vy).mpr ⟨0, 1, by omega, by omega⟩
  obtain ⟨i1, j1, e5, e6⟩ := (h a 0).mp ⟨1, 0, by omega, by omega⟩
  obtain ⟨i2, j2, e7, e8⟩ := (h b c).mp ⟨0, 1, by omega, by omega⟩
  have d1 : (a * c) ∣ (ux * vy - uy * vx) := ⟨m1 * n2 - n1 * m2, by subst e1 e2 e3 e4; grind⟩
  have d2 : (ux * vy - uy * vx) ∣ (a * c) := ⟨i1 * j2 - j1 * i2, by grind⟩
  have hp : 0 < a * c := Int.mul_pos ha hc
  have d1' : (a * c) ∣ ((ux * vy - uy * vx).natAbs : Int) := Int.dvd_natAbs.mpr d1
  have d2' : ((ux * vy - uy * vx).natAbs : Int) ∣ (a * c) := Int.natAbs_dvd.mpr d2
  exact Int.dvd_antisymm (by omega) (by omega) d1' d2'

theorem L_rank {a b c ux uy vx vy : Int} (hu : L a b c ux uy) (hv : L a b c vx vy) (hd : ux * vy - uy * vx ≠ 0) : a ≠ 0 ∧ c ≠ 0 := by
  obtain ⟨m1, n1, e1, e2⟩ := hu
  obtain ⟨m2, n2, e3, e4⟩ := hv
  subst e1 e2 e3 e4
  constructor
  · rintro rfl; apply hd; grind
  · rintro rfl; apply hd; grind

/-- All sums of multiples of two vectors. -/
def S2 (px py vx vy x y : Int) : Prop := ∃ i j : Int, x = i * px + j * vx ∧ y = i * py + j * vy

theorem S2_step (px py vx vy k x y : Int) : S2 vx vy (px - k * vx) (py - k * vy) x y ↔ S2 px py vx vy x y := by
  constructor
  · rintro ⟨i, j, rfl, rfl⟩; exact ⟨j, i - j * k, by grind, by grind⟩
  · rintro ⟨i, j, rfl, rfl⟩; exact ⟨j + i * k, i, by grind, by grind⟩

/-- One vector more: what the divisor step does. -/
theorem L_more {low px py ux uy px' py' vx' low' : Int} (hs : ∀ x y, S2 px' py' vx' 0 x y ↔ S2 px py ux uy x y) (hg : low' = Int.gcd low vx') (x y : Int) :
    L low' px' py' x y ↔ ∃ j, L low px py (x - j * ux) (y - j * uy) := by
  constructor
  · rintro ⟨m, n, e1, e2⟩
    obtain ⟨s, t, e⟩ := bezout low vx'
    obtain ⟨i, j, e3, e4⟩ := (hs (x - m * s * low) y).mp ⟨n, m * t, by subst e1; rw [hg, e]; grind, by grind⟩
    exact ⟨j, m * s, i, by grind, by grind⟩
  · rintro ⟨j, m, n, e1, e2⟩
    obtain ⟨i', j', e3, e4⟩ := (hs (x - m * low) y).mpr ⟨n, j, by grind, by grind⟩
    have d1 : low' ∣ low := by rw [hg]; exact Int.gcd_dvd_left low vx'
    have d2 : low' ∣ vx' := by rw [hg]; exact Int.gcd_dvd_right low vx'
    obtain ⟨p, hp⟩ := d1
    obtain ⟨q, hq⟩ := d2
    exact ⟨m * p + j' * q, i', by grind, by grind⟩

theorem L_neg (a b c x y : Int) : L a (-b) (-c) x y ↔ L a b c x y := by
  constructor
  · rintro ⟨m, n, e1, e2⟩; exact ⟨m, -n, by grind, by grind⟩
  · rintro ⟨m, n, e1, e2⟩; exact ⟨m, -n, by grind, by grind⟩

theorem L_mod (a b c x y : Int) : L a (b % a) c x y ↔ L a b c x y := by
  constructor
  · rintro ⟨m, n, e1, e2⟩; rw [Int.emod_def] at e1; exact ⟨m - n * (b / a), n, by grind, by grind⟩
  · rintro ⟨m, n, e1, e2⟩; refine ⟨m + n * (b / a), n, ?_, e2⟩; rw [Int.emod_def]; grind

theorem L_zero (x y : Int) : L 0 0 0 x y ↔ x = 0 ∧ y = 0 := by
  constructor
  · rintro ⟨m, n, e1, e2⟩; exact ⟨by grind, by grind⟩
  · rintro ⟨rfl, rfl⟩; exact ⟨0, 0, by grind, by grind⟩

theorem L_add {a b c x y x' y' : Int} (h : L a b c x y) (h' : L a b c x' y') (i j : Int) : L a b c (i * x + j * x') (i * y + j * y') := by
  obtain ⟨m, n, rfl, rfl⟩ := h
  obtain ⟨m', n', rfl, rfl⟩ := h'
  exact ⟨i * m + j * m', i * n + j * n', by grind, by grind⟩

/-! ### join and meet -/
theorem pos_of_mul {a b : Int} (ha : 0 < a) (h : 0 < a * b) : 0 < b := by
  rcases Int.lt_trichotomy b 0 with h' | h' | h'
  · have := Int.mul_neg_of_pos_of_neg ha h'; omega
  · subst h'; omega
  · exact h'

/-- x ≡ r (a), x ≡ r' (a') has a solution exactly if the divisor of a, a' divides r - r'. -/
theorem crt (a a' r r' : Int) : (∃ m m' : Int, m * a + r = m' * a' + r') ↔ (Int.gcd a a' : Int) ∣ (r - r') := by
  constructor
  · rintro ⟨m, m', h⟩
    have : r - r' = m' * a' - m * a := by omega
    rw [this]
    exact Int.dvd_sub (Int.dvd_mul_of_dvd_right (Int.gcd_dvd_right a a')) (Int.dvd_mul_of_dvd_right (Int.gcd_dvd_left a a'))
  · rintro ⟨k, hk⟩
    obtain ⟨s, t, e⟩ := bezout a a'
    exact ⟨-(k * s), k * t, by rw [e] at hk; grind⟩

/-- What the join of two lattices is. -/
theorem join_is {a b c a' b' c' A B C : Int} (ha : 0 < a) (hc : 0 < c) (ha' : 0 < a') (hc' : 0 < c') (hA : 0 < A) (hC : 0 < C)
    (h : ∀ x y, L A B C x y ↔ ∃ m n m' n' : Int, x = m * a + n * b + m' * a' + n' * b' ∧ y = n * c + n' * c') :
    C = Int.gcd c c' ∧ A = Int.gcd (Int.gcd a a') ((c' / C) * b - (c / C) * b') := by
  obtain ⟨k1, k2, e1, e2⟩ := (h b c).mpr ⟨0, 1, 0, 0, by omega, by omega⟩
  obtain ⟨k3, k4, e3, e4⟩ := (h b' c').mpr ⟨0, 0, 0, 1, by omega, by omega⟩
  obtain ⟨m, n, m', n', e5, e6⟩ := (h B C).mp ⟨0, 1, by omega, by omega⟩
  obtain ⟨k5, k6, e7, e8⟩ := (h a 0).mpr ⟨1, 0, 0, 0, by omega, by omega⟩
  obtain ⟨k7, k8, e9, e10⟩ := (h a' 0).mpr ⟨0, 0, 1, 0, by omega, by omega⟩
  have hCg : C = Int.gcd c c' := gcd_unique (by omega) ⟨k2, by grind⟩ ⟨k4, by grind⟩ ⟨n, n', e6⟩
  refine ⟨hCg, ?_⟩
  have q1 : c / C = k2 := by rw [e2]; exact Int.mul_ediv_cancel _ (by omega)
  have q2 : c' / C = k4 := by rw [e4]; exact Int.mul_ediv_cancel _ (by omega)
  rw [q1, q2]
  have z6 : k6 = 0 := by rcases Int.mul_eq_zero.mp e8.symm with h | h <;> omega
  have z8 : k8 = 0 := by rcases Int.mul_eq_zero.mp e10.symm with h | h <;> omega
  subst z6; subst z8
  obtain ⟨k9, k10, e11, e12⟩ := (h (k4 * b - k2 * b') 0).mpr ⟨0, k4, 0, -k2, by grind, by grind⟩
  have z10 : k10 = 0 := by rcases Int.mul_eq_zero.mp e12.symm with h | h <;> omega
  subst z10
  refine gcd_unique (by omega) (Int.dvd_coe_gcd ⟨k5, by grind⟩ ⟨k7, by grind⟩) ⟨k9, by grind⟩ ?_
  obtain ⟨i, j, i', j', e13, e14⟩ := (h A 0).mp ⟨1, 0, by omega, by omega⟩
  obtain ⟨s, t, e⟩ := bezout a a'
  -- j k2 + j' k4 = 0, and n k2 + n' k4 = 1
  have r1 : n * k2 + n' * k4 = 1 := by
    have : (n * k2 + n' * k4) * C = 1 * C := by rw [Int.add_mul, Int.mul_assoc, Int.mul_assoc, ← e2, ← e4]; omega
    exact Int.eq_of_mul_eq_mul_right (by omega) this
  have r2 : j * k2 + j' * k4 = 0 := by
    have : (j * k2 + j' * k4) * C = 0 * C := by rw [Int.add_mul, Int.mul_assoc, Int.mul_assoc, ← e2, ← e4]; omega
    exact Int.eq_of_mul_eq_mul_right (by omega) this
  have ga : (Int.gcd a a' : Int) ∣ i * a + i' * a' := Int.dvd_add (Int.dvd_mul_of_dvd_right (Int.gcd_dvd_left a a')) (Int.dvd_mul_of_dvd_right (Int.gcd_dvd_right a a'))
  obtain ⟨q, hq⟩ := ga
  -- j = u k4, j' = - u k2 with u = j n' - j' n
  refine ⟨q, j * n' - j' * n, ?_⟩
  have w1 : j = (j * n' - j' * n) * k4 := by clear hq e13 e14 e11 e12 e7 e9 e1 e3 e5 e6 e2 e4 e h q1 q2; grind
  have w2 : j' = -((j * n' - j' * n) * k2) := by clear hq e13 e14 e11 e12 e7 e9 e1 e3 e5 e6 e2 e4 e h q1 q2 w1; grind
  have w3 : j * b + j' * b' = (j * n' - j' * n) * (k4 * b - k2 * b') := by
    generalize j * n' - j' * n = u at w1 w2 ⊢
    rw [w1, w2, Int.mul_sub, Int.neg_mul, Int.mul_assoc, Int.mul_assoc]; omega
  rw [Int.mul_comm q]
  omega

theorem coprime_of {C k2 k4 n n' : Int} (hC : C ≠ 0) (h : C = n * (k2 * C) + n' * (k4 * C)) : n * k2 + n' * k4 = 1 := by
  have : (n * k2 + n' * k4) * C = 1 * C := by rw [Int.add_mul, Int.mul_assoc, Int.mul_assoc]; omega
  exact Int.eq_of_mul_eq_mul_right hC this

theorem id1 {n n' k2 k4 n1 n2 : Int} (h : n * k2 + n' * k4 = 1) (f : n1 * k2 = n2 * k4) : n1 = (n1 * n' + n2 * n) * k4 ∧ n2 = (n1 * n' + n2 * n) * k2 := ⟨by grind, by grind⟩
theorem id3 (k k4 k2 b b' : Int) : k * k4 * b - k * k2 * b' = k * (k4 * b - k2 * b') := by grind
theorem id4 {g1 t1 s r k u : Int} (h : s * g1 + r * t1 = 1) (w : k * t1 = g1 * u) : k = g1 * (s * k + r * u) := by grind
theorem id5 (g1 x k4 C k2 : Int) : g1 * x * k4 * (C * k2) = g1 * (k2 * (k4 * C)) * x := by grind
theorem id6 (j g1 A t1 : Int) : j * g1 * (A * t1) = A * g1 * (j * t1) := by grind
theorem id7 (j g1 k2 k4 C : Int) : g1 * (k2 * (k4 * C)) * j = j * g1 * k4 * (C * k2) ∧ g1 * (k2 * (k4 * C)) * j = j * g1 * k2 * (C * k4) := ⟨by grind, by grind⟩
theorem id8 (A2 g1 k2 k4 C A : Int) : A2 * (g1 * (k2 * (k4 * C))) * (A * C) = (A2 * (A * g1)) * ((C * k2) * (C * k4)) := by grind
theorem id9 (a a' x y : Int) : a * a' * (x * y) = a * x * (a' * y) := by grind

/-- Which rows both lattices reach: the multiples of Y; and the product of the indices. -/
theorem meet_is {a b c a' b' c' A C : Int} (ha : 0 < a) (hc : 0 < c) (ha' : 0 < a') (hc' : 0 < c') (hA : 0 < A) (hC : 0 < C)
    (hCg : C = Int.gcd c c') (hAg : A = Int.gcd (Int.gcd a a') ((c' / C) * b - (c / C) * b')) :
    ∃ Y : Int, 0 < Y ∧ (∀ y, (∃ x, L a b c x y ∧ L a' b' c' x y) ↔ Y ∣ y) ∧ ∀ A2, A2 * Int.gcd a a' = a * a' → A2 * Y * (A * C) = (a * c) * (a' * c') := by
  have dc : C ∣ c := by rw [hCg]; exact Int.gcd_dvd_left c c'
  have dc' : C ∣ c' := by rw [hCg]; exact Int.gcd_dvd_right c c'
  obtain ⟨k2, e2⟩ := dc
  obtain ⟨k4, e4⟩ := dc'
  have q1 : c / C = k2 := by rw [e2]; exact Int.mul_ediv_cancel_left _ (by omega)
  have q2 : c' / C = k4 := by rw [e4]; exact Int.mul_ediv_cancel_left _ (by omega)
  rw [q1, q2] at hAg
  have p2 : 0 < k2 := pos_of_mul hC (by omega)
  have p4 : 0 < k4 := pos_of_mul hC (by omega)
  have hg0 : 0 < (Int.gcd a a' : Int) := by have := Int.gcd_pos_of_ne_zero_left a' (show a ≠ 0 by omega); omega
  have dA : A ∣ (Int.gcd a a' : Int) := by rw [hAg]; exact Int.gcd_dvd_left _ _
  have dt : A ∣ (k4 * b - k2 * b') := by rw [hAg]; exact Int.gcd_dvd_right _ _
  obtain ⟨s, r, eA⟩ := bezout (Int.gcd a a' : Int) (k4 * b - k2 * b')
  rw [← hAg] at eA
  obtain ⟨n, n', eC⟩ := bezout c c'
  rw [← hCg] at eC
  have hcrt := crt a a'
  generalize (Int.gcd a a' : Int) = g at *
  obtain ⟨g1, eg⟩ := dA
  obtain ⟨t1, et⟩ := dt
  have pg : 0 < g1 := pos_of_mul hA (by omega)
  have r1 : n * k2 + n' * k4 = 1 := coprime_of (C := C) (by omega) (by rw [Int.mul_comm k2, Int.mul_comm k4, ← e2, ← e4]; exact eC)
  have r2 : s * g1 + r * t1 = 1 := coprime_of (C := A) (by omega) (by rw [Int.mul_comm g1, Int.mul_comm t1, ← eg, ← et]; exact eA)
  refine ⟨g1 * (k2 * (k4 * C)), Int.mul_pos pg (Int.mul_pos p2 (Int.mul_pos p4 hC)), ?_, ?_⟩
  · intro y
    constructor
    · rintro ⟨x, ⟨m1, n1, f1, f2⟩, ⟨m2, n2, f3, f4⟩⟩
      have f5 : n1 * k2 = n2 * k4 := by
        have : (n1 * k2) * C = (n2 * k4) * C := by rw [Int.mul_assoc, Int.mul_assoc, Int.mul_comm k2, Int.mul_comm k4, ← e2, ← e4]; omega
        exact Int.eq_of_mul_eq_mul_right (by omega) this
      obtain ⟨w1, w2⟩ := id1 r1 f5
      generalize n1 * n' + n2 * n = k at w1 w2
      have d := (hcrt (n1 * b) (n2 * b')).mp ⟨m1, m2, by omega⟩
      have w3 : n1 * b - n2 * b' = k * (k4 * b - k2 * b') := by rw [w1, w2]; exact id3 _ _ _ _ _
      rw [w3, et] at d
      obtain ⟨u, hu⟩ := d
      rw [eg] at hu
      have w4 : k * t1 = g1 * u := by
        have : A * (k * t1) = A * (g1 * u) := by rw [← Int.mul_assoc, ← Int.mul_assoc, Int.mul_comm A k, Int.mul_assoc]; exact hu
        exact Int.eq_of_mul_eq_mul_left (by omega) this
      refine ⟨s * k + r * u, ?_⟩
      have w5 := id4 r2 w4
      generalize s * k + r * u = x at w5 ⊢
      rw [f2, w1, e2, w5]; exact id5 _ _ _ _ _
    · rintro ⟨j, rfl⟩
      obtain ⟨m1, m2, hm⟩ := (hcrt ((j * g1 * k4) * b) ((j * g1 * k2) * b')).mpr ⟨j * t1, by
        have : j * g1 * k4 * b - j * g1 * k2 * b' = j * g1 * (k4 * b - k2 * b') := id3 _ _ _ _ _
        rw [this, et, eg]; exact id6 _ _ _ _⟩
      exact ⟨m1 * a + (j * g1 * k4) * b, ⟨m1, j * g1 * k4, rfl, by rw [e2]; exact (id7 _ _ _ _ _).1⟩, ⟨m2, j * g1 * k2, hm, by rw [e4]; exact (id7 _ _ _ _ _).2⟩⟩
  · intro A2 h
    rw [eg] at h
    rw [id8, h, ← e2, ← e4]; exact id9 _ _ _ _

/-! ### norms and reduced bases -/
def Nf (f x y : Int) : Int := x * x + f * x * y + y * y
def Tf (f ux uy vx vy : Int) : Int := 2 * (ux * vx) + f * (ux * vy + uy * vx) + 2 * (uy * vy)

theorem sq_nn (x : Int) : 0 ≤ x * x := by
  rcases Int.le_total 0 x with h | h
  · exact Int.mul_nonneg h h
  · exact Int.mul_nonneg_of_nonpos_of_nonpos h h
theorem Nf_four (f x y : Int) (hf : f = 0 ∨ f = 1) : 3 * (x * x) ≤ 4 * Nf f x y ∧ 3 * (y * y) ≤ 4 * Nf f x y := by
  unfold Nf
  rcases hf with rfl | rfl
  · have := sq_nn x
    have := sq_nn y
    constructor <;> grind
  · have h1 := sq_nn (x + 2 * y)
    have h2 := sq_nn (2 * x + y)
    constructor <;> grind
theorem sq_pos {x : Int} (h : x ≠ 0) : 0 < x * x := by
  rcases Int.lt_or_gt_of_ne h with h | h
  · exact Int.mul_pos_of_neg_of_neg h h
  · exact Int.mul_pos h h
theorem Nf_pos {f x y : Int} (hf : f = 0 ∨ f = 1) (h : ¬ (x = 0 ∧ y = 0)) : 0 < Nf f x y := by
  obtain ⟨h1, h2⟩ := Nf_four f x y hf
  by_cases hx : x = 0
  · have := sq_pos (show y ≠ 0 from fun e => h ⟨hx, e⟩); omega
  · have := sq_pos hx; omega
theorem Nf_nonneg {f x y : Int} (hf : f = 0 ∨ f = 1) : 0 ≤ Nf f x y := by
  obtain ⟨h1, h2⟩ := Nf_four f x y hf
  have := sq_nn x; omega
theorem sq_bound {x m : Int} (hm : 0 ≤ m) (h : x * x < (m + 1) * (m + 1)) : -m ≤ x ∧ x ≤ m := by
  constructor
  · rcases Int.lt_or_le x (-m) with h' | h'
    · have := Int.mul_le_mul (show m + 1 ≤ -x by omega) (show m + 1 ≤ -x by omega) (by omega) (by omega)
      rw [Int.neg_mul_neg] at this; omega
    · exact h'
  · rcases Int.lt_or_le m x with h' | h'
    · have := Int.mul_le_mul (show m + 1 ≤ x by omega) (show m + 1 ≤ x by omega) (by omega) (by omega)
      omega
    · exact h'
theorem Nf_box {f x y N m : Int} (hf : f = 0 ∨ f = 1) (hm : 0 ≤ m) (h : Nf f x y ≤ N) (hN : 4 * N < 3 * ((m + 1) * (m + 1))) : (-m ≤ x ∧ x ≤ m) ∧ (-m ≤ y ∧ y ≤ m) := by
  obtain ⟨h1, h2⟩ := Nf_four f x y hf
  exact ⟨sq_bound hm (by omega), sq_bound hm (by omega)⟩
theorem NT (f ux uy vx vy : Int) : 4 * (Nf f ux uy * Nf f vx vy) = Tf f ux uy vx vy * Tf f ux uy vx vy + (4 - f * f) * ((ux * vy - uy * vx) * (ux * vy - uy * vx)) := by
  unfold Nf Tf; grind
theorem Nf_scale (f g x y : Int) : Nf f (g * x) (g * y) = (g * g) * Nf f x y := by unfold Nf; grind
theorem Tf_sub (f ux uy vx vy k : Int) : Tf f ux uy (vx - k * ux) (vy - k * uy) = Tf f ux uy vx vy - 2 * k * Nf f ux uy := by unfold Nf Tf; grind
theorem det_sub (ux uy vx vy k : Int) : ux * (vy - k * uy) - uy * (vx - k * ux) = ux * vy - uy * vx := by grind
theorem det_L (a b c m n s t : Int) : (m * a + n * b) * (s * c) - (n * c) * (-t * a + s * b) = (s * m + t * n) * (a * c) := by grind

/-- A shortest vector is completed to a basis by a vector that is nearly at right angles. -/
theorem completed {f a b c ux uy : Int} (hf : f = 0 ∨ f = 1) (ha : 0 < a) (hc : 0 < c) (hu : L a b c ux uy) (hu0 : ¬ (ux = 0 ∧ uy = 0))
    (hmin : ∀ x y, L a b c x y → ¬ (x = 0 ∧ y = 0) → Nf f ux uy ≤ Nf f x y) :
    ∃ vx vy, L a b c vx vy ∧ ux * vy - uy * vx = a * c ∧ -Nf f ux uy ≤ Tf f ux uy vx vy ∧ Tf f ux uy vx vy ≤ Nf f ux uy := by
  have hN := Nf_pos hf hu0
  obtain ⟨m, n, e1, e2⟩ := hu
  obtain ⟨s, t, eg⟩ := bezout m n
  have dm : (Int.gcd m n : Int) ∣ m := Int.gcd_dvd_left m n
  have dn : (Int.gcd m n : Int) ∣ n := Int.gcd_dvd_right m n
  have hg0 : 0 ≤ (Int.gcd m n : Int) := by omega
  generalize (Int.gcd m n : Int) = g at *
  obtain ⟨m', rfl⟩ := dm
  obtain ⟨n', rfl⟩ := dn
  have hg : g = 1 := by
    have q1 : ux = g * (m' * a + n' * b) := by rw [e1, Int.mul_add, Int.mul_assoc, Int.mul_assoc]
    have q2 : uy = g * (n' * c) := by rw [e2, Int.mul_assoc]
    have z : ¬ (m' * a + n' * b = 0 ∧ n' * c = 0) := by
      rintro ⟨z1, z2⟩
      rw [z1, Int.mul_zero] at q1; rw [z2, Int.mul_zero] at q2
      exact hu0 ⟨q1, q2⟩
    have le := hmin _ _ ⟨m', n', rfl, rfl⟩ z
    have hN' := Nf_pos hf z
    rw [q1, q2, Nf_scale] at le
    have hgp : g ≠ 0 := by rintro rfl; simp at q1 q2; exact hu0 ⟨q1, q2⟩
    rcases Int.lt_or_le g 2 with h | h
    · omega
    · have : 2 * 2 ≤ g * g := Int.mul_le_mul h h (by omega) (by omega)
      have : 4 * Nf f (m' * a + n' * b) (n' * c) ≤ (g * g) * Nf f (m' * a + n' * b) (n' * c) := Int.mul_le_mul_of_nonneg_right (by omega) (by omega)
      omega
  subst hg
  simp only [Int.one_mul] at *
  have hd : ux * (s * c) - uy * (-t * a + s * b) = a * c := by rw [e1, e2, det_L, ← eg, Int.one_mul]
  refine ⟨(-t * a + s * b) - ((Tf f ux uy (-t * a + s * b) (s * c) + Nf f ux uy) / (2 * Nf f ux uy)) * ux, s * c - ((Tf f ux uy (-t * a + s * b) (s * c) + Nf f ux uy) / (2 * Nf f ux uy)) * uy, ?_, ?_, ?_⟩
  · generalize (Tf f ux uy (-t * a + s * b) (s * c) + Nf f ux uy) / (2 * Nf f ux uy) = k
    rw [e1, e2]
    exact ⟨-t - k * m', s - k * n', by rw [Int.sub_mul, Int.sub_mul, Int.mul_add, Int.mul_assoc, Int.mul_assoc]; omega, by rw [Int.sub_mul, Int.mul_assoc]⟩
  · rw [det_sub]; exact hd
  · rw [Tf_sub]
    generalize Tf f ux uy (-t * a + s * b) (s * c) = T
    generalize Nf f ux uy = N at *
    have h1 := Int.mul_ediv_add_emod (T + N) (2 * N)
    have h2 := Int.emod_nonneg (T + N) (show 2 * N ≠ 0 by omega)
    have h3 := Int.emod_lt_of_pos (T + N) (show 0 < 2 * N by omega)
    generalize (T + N) / (2 * N) = k at *
    have h4 : 2 * N * k = 2 * k * N := by rw [Int.mul_assoc, Int.mul_comm N k, Int.mul_assoc]
    constructor <;> omega

theorem sq_le {T N : Int} (h1 : -N ≤ T) (h2 : T ≤ N) : T * T ≤ N * N := by
  have h := Int.mul_nonneg (show 0 ≤ N - T by omega) (show 0 ≤ N + T by omega)
  have : (N - T) * (N + T) = N * N - T * T := by grind
  omega

/-- How long a shortest vector and its complement are. -/
theorem bounds {f a b c ux uy vx vy : Int} (hf : f = 0 ∨ f = 1) (ha : 0 < a) (hc : 0 < c) (hac : a * c ≤ 64) (hu0 : ¬ (ux = 0 ∧ uy = 0))
    (hmin : ∀ x y, L a b c x y → ¬ (x = 0 ∧ y = 0) → Nf f ux uy ≤ Nf f x y) (hv : L a b c vx vy) (hd : ux * vy - uy * vx = a * c)
    (h1 : -Nf f ux uy ≤ Tf f ux uy vx vy) (h2 : Tf f ux uy vx vy ≤ Nf f ux uy) : Nf f ux uy ≤ 73 ∧ Nf f vx vy ≤ 4114 := by
  have hn : 0 < a * c := Int.mul_pos ha hc
  have hv0 : ¬ (vx = 0 ∧ vy = 0) := by rintro ⟨rfl, rfl⟩; simp at hd; omega
  have le := hmin vx vy hv hv0
  have hN := Nf_pos hf hu0
  have e := NT f ux uy vx vy
  rw [hd] at e
  have hT := sq_le h1 h2
  have hff : 0 ≤ f * f ∧ f * f ≤ 1 := by rcases hf with rfl | rfl <;> decide
  have hsq : (a * c) * (a * c) ≤ 64 * 64 := Int.mul_le_mul hac hac (by omega) (by omega)
  have hsq0 : 0 ≤ (a * c) * (a * c) := by have := sq_nn (a * c); omega
  generalize (a * c) * (a * c) = S at *
  generalize f * f = F at *
  have hS : (4 - F) * S ≤ 4 * S := Int.mul_le_mul_of_nonneg_right (by omega) hsq0
  generalize Tf f ux uy vx vy = T at *
  generalize Nf f ux uy = N at *
  generalize Nf f vx vy = M at *
  have k1 : N * N ≤ N * M := Int.mul_le_mul_of_nonneg_left le (by omega)
  have hN73 : N ≤ 73 := by
    rcases Int.lt_or_le 73 N with h | h
    · have : 74 * 74 ≤ N * N := Int.mul_le_mul (by omega) (by omega) (by omega) (by omega)
      omega
    · exact h
  refine ⟨hN73, ?_⟩
  rcases Int.lt_or_le 4114 M with h | h
  · have k2 : N * 4115 ≤ N * M := Int.mul_le_mul_of_nonneg_left (by omega) (by omega)
    have k3 : N * N ≤ N * 73 := Int.mul_le_mul_of_nonneg_left hN73 (by omega)
    omega
  · exact h

theorem exists_min_nat {α : Type} (P : α → Prop) (f : α → Int) (hf : ∀ x, P x → 0 ≤ f x) : ∀ (n : Nat) (x : α), P x → f x ≤ n → ∃ x, P x ∧ ∀ y, P y → f x ≤ f y := by
  intro n
  induction n with
  | zero => intro x hx h; exact ⟨x, hx, fun y hy => by have := hf y hy; omega⟩
  | succ n ih =>
    intro x hx h
    by_cases hex : ∃ y, P y ∧ f y ≤ n
    · obtain ⟨y, hy, hle⟩ := hex; exact ih y hy hle
    · exact ⟨x, hx, fun y hy => by have : ¬ f y ≤ n := fun hl => hex ⟨y, hy, hl⟩; omega⟩
theorem exists_min {α : Type} (P : α → Prop) (f : α → Int) (hf : ∀ x, P x → 0 ≤ f x) (h : ∃ x, P x) : ∃ x, P x ∧ ∀ y, P y → f x ≤ f y := by
  obtain ⟨x, hx⟩ := h
  exact exists_min_nat P f hf (f x).toNat x hx (by have := hf x hx; omega)

/-! ### parallel vectors -/
theorem unit_of {e : Int} (h : e ∣ 1) : e = 1 ∨ e = -1 := by
  have h1 := Int.natAbs_dvd_natAbs.mpr h
  have h2 : e.natAbs = 1 := Nat.dvd_one.mp h1
  omega
theorem par1 {s t p1 p2 q1 q2 : Int} (h : s * p1 + t * p2 = 1) (hp : p1 * q2 = p2 * q1) : q1 = (s * q1 + t * q2) * p1 ∧ q2 = (s * q1 + t * q2) * p2 := ⟨by grind, by grind⟩
theorem par2 {s t p1 p2 e : Int} (h : s * (e * p1) + t * (e * p2) = 1) : e * (s * p1 + t * p2) = 1 := by grind
theorem parallel {x1 y1 x2 y2 : Int} (h1 : ¬ (x1 = 0 ∧ y1 = 0)) (h2 : ¬ (x2 = 0 ∧ y2 = 0)) (hp : x1 * y2 = y1 * x2) :
    ∃ e : Int, (e = 1 ∨ e = -1) ∧ x2 / Int.gcd x2 y2 = e * (x1 / Int.gcd x1 y1) ∧ y2 / Int.gcd x2 y2 = e * (y1 / Int.gcd x1 y1) := by
  have g1 : 0 < (Int.gcd x1 y1 : Int) := by
    have := Int.gcd_pos_iff (a := x1) (b := y1); omega
  have g2 : 0 < (Int.gcd x2 y2 : Int) := by
    have := Int.gcd_pos_iff (a := x2) (b := y2); omega
  obtain ⟨s, t, e1⟩ := bezout x1 y1
  obtain ⟨s', t', e2⟩ := bezout x2 y2
  obtain ⟨p1, hp1⟩ := Int.gcd_dvd_left x1 y1
  obtain ⟨p2, hp2⟩ := Int.gcd_dvd_right x1 y1
  obtain ⟨q1, hq1⟩ := Int.gcd_dvd_left x2 y2
  obtain ⟨q2, hq2⟩ := Int.gcd_dvd_right x2 y2
  generalize (Int.gcd x1 y1 : Int) = g at *
  generalize (Int.gcd x2 y2 : Int) = g' at *
  have d1 : x1 / g = p1 := by rw [hp1]; exact Int.mul_ediv_cancel_left _ (by omega)
  have d2 : y1 / g = p2 := by rw [hp2]; exact Int.mul_ediv_cancel_left _ (by omega)
  have d3 : x2 / g' = q1 := by rw [hq1]; exact Int.mul_ediv_cancel_left _ (by omega)
  have d4 : y2 / g' = q2 := by rw [hq2]; exact Int.mul_ediv_cancel_left _ (by omega)
  rw [d1, d2, d3, d4]
  have u1 : s * p1 + t * p2 = 1 := coprime_of (C := g) (by omega) (by rw [Int.mul_comm p1, Int.mul_comm p2, ← hp1, ← hp2]; exact e1)
  have u2 : s' * q1 + t' * q2 = 1 := coprime_of (C := g') (by omega) (by rw [Int.mul_comm q1, Int.mul_comm q2, ← hq1, ← hq2]; exact e2)
  have pq : p1 * q2 = p2 * q1 := by
    have : (g * g') * (p1 * q2) = (g * g') * (p2 * q1) := by
      have w1 : (g * p1) * (g' * q2) = (g * g') * (p1 * q2) := by grind
      have w2 : (g * p2) * (g' * q1) = (g * g') * (p2 * q1) := by grind
      rw [← w1, ← w2, ← hp1, ← hp2, ← hq1, ← hq2]; exact hp
    have gg : 0 < g * g' := Int.mul_pos g1 g2
    exact Int.eq_of_mul_eq_mul_left (by omega) this
  obtain ⟨w1, w2⟩ := par1 u1 pq
  generalize s * q1 + t * q2 = e at *
  refine ⟨e, unit_of ?_, w1, w2⟩
  rw [w1, w2] at u2
  exact ⟨_, (par2 u2).symm⟩

/-! ### Go's remainder -/
theorem tmod_cases (a n : Int) (hn : 0 < n) : (0 ≤ a ∧ a.tmod n = a % n) ∨ (a < 0 ∧ a.tmod n = -((-a) % n)) := by
  rcases Int.lt_or_le a 0 with h | h
  · refine Or.inr ⟨h, ?_⟩
    have : a.tmod n = -((-a).tmod n) := by rw [Int.neg_tmod, Int.neg_neg]
    rw [this, Int.tmod_eq_emod_of_nonneg (by omega)]
  · exact Or.inl ⟨h, Int.tmod_eq_emod_of_nonneg h⟩
theorem tmod_bounds (a n : Int) (hn : 0 < n) : -n < a.tmod n ∧ a.tmod n < n := by
  have h1 := Int.emod_nonneg a (show n ≠ 0 by omega)
  have h2 := Int.emod_lt_of_pos a hn
  have h3 := Int.emod_nonneg (-a) (show n ≠ 0 by omega)
  have h4 := Int.emod_lt_of_pos (-a) hn
  rcases tmod_cases a n hn with ⟨_, e⟩ | ⟨_, e⟩ <;> rw [e] <;> omega
theorem neg_emod_add (a n : Int) (hn : 0 < n) : a % n = (n - (-a) % n) % n := by
  have e := Int.mul_ediv_add_emod (-a) n
  have : n - (-a) % n = a + n * ((-a) / n + 1) := by rw [Int.mul_add]; omega
  rw [this, Int.add_mul_emod_self_left]
theorem mod_add (a n : Int) (hn : 0 < n) : (a.tmod n + n).tmod n = a % n := by
  have h1 := Int.emod_nonneg a (show n ≠ 0 by omega)
  have h2 := Int.emod_lt_of_pos a hn
  have h3 := Int.emod_nonneg (-a) (show n ≠ 0 by omega)
  have h4 := Int.emod_lt_of_pos (-a) hn
  rcases tmod_cases a n hn with ⟨_, e⟩ | ⟨_, e⟩ <;> rw [e, Int.tmod_eq_emod_of_nonneg (by omega)]
  · rw [Int.add_emod_right, Int.emod_emod]
  · rw [neg_emod_add a n hn]; congr 1; omega
theorem mod_if (a n : Int) (hn : 0 < n) : (if a.tmod n < 0 then a.tmod n + n else a.tmod n) = a % n := by
  have h1 := Int.emod_nonneg a (show n ≠ 0 by omega)
  have h3 := Int.emod_nonneg (-a) (show n ≠ 0 by omega)
  have h4 := Int.emod_lt_of_pos (-a) hn
  rcases tmod_cases a n hn with ⟨_, e⟩ | ⟨_, e⟩ <;> rw [e]
  · rw [if_neg (by omega)]
  · split
    · rw [neg_emod_add a n hn, Int.emod_eq_of_lt (a := n - (-a) % n) (b := n) (by omega) (by omega)]; omega
    · have : (-a) % n = 0 := by omega
      rw [neg_emod_add a n hn, this]; simp
theorem tdiv_row (y c : Int) (hc : 0 < c) : (y - y % c).tdiv c = y / c := by
  have e := Int.mul_ediv_add_emod y c
  have : y - y % c = c * (y / c) := by omega
  rw [this, Int.mul_tdiv_cancel_left _ (by omega)]
theorem tdiv_of_dvd {a b : Int} (h : b ∣ a) : a.tdiv b = a / b := Int.tdiv_eq_ediv_of_dvd h

theorem euclid {px py vx vy : Int} {M : Nat} (hv : vy ≠ 0) (hQ : px.natAbs * vy.natAbs + vx.natAbs * py.natAbs ≤ M) :
    (py.tdiv vy).natAbs ≤ py.natAbs ∧ (py.tdiv vy * vx).natAbs ≤ M ∧ (px - py.tdiv vy * vx).natAbs ≤ M ∧ (py.tdiv vy * vy).natAbs ≤ py.natAbs ∧
      (py - py.tdiv vy * vy).natAbs < vy.natAbs ∧ vx.natAbs * (py - py.tdiv vy * vy).natAbs + (px - py.tdiv vy * vx).natAbs * vy.natAbs ≤ M := by
  have hV : 0 < vy.natAbs := by omega
  have eK : (py.tdiv vy).natAbs = py.natAbs / vy.natAbs := Int.natAbs_tdiv py vy
  have e1 : py - py.tdiv vy * vy = py.tmod vy := by have := Int.mul_tdiv_add_tmod py vy; rw [Int.mul_comm] at this; omega
  have eR : (py.tmod vy).natAbs = py.natAbs % vy.natAbs := Int.natAbs_tmod py vy
  have e2 := Nat.div_add_mod py.natAbs vy.natAbs
  have h3 : (px - py.tdiv vy * vx).natAbs ≤ px.natAbs + (py.tdiv vy).natAbs * vx.natAbs := by
    have := Int.natAbs_sub_le px (py.tdiv vy * vx)
    rw [Int.natAbs_mul] at this; exact this
  have hK := Nat.div_le_self py.natAbs vy.natAbs
  have hR := Nat.mod_lt py.natAbs hV
  rw [e1, eR, Int.natAbs_mul, Int.natAbs_mul, eK]
  rw [eK] at h3
  generalize (px - py.tdiv vy * vx).natAbs = Z at *
  generalize py.natAbs / vy.natAbs = K at *
  generalize py.natAbs % vy.natAbs = R at *
  generalize py.natAbs = P at *
  generalize vy.natAbs = V at *
  generalize vx.natAbs = Y at *
  generalize px.natAbs = X at *
  have q : Y * R + (X + K * Y) * V = X * V + Y * P := by rw [← e2]; grind
  have q2 : Z * V ≤ (X + K * Y) * V := Nat.mul_le_mul_right V h3
  have q3 : X + K * Y ≤ (X + K * Y) * V := Nat.le_mul_of_pos_right _ hV
  have q4 : K * V ≤ P := by rw [Nat.mul_comm] ; omega
  have q5 : 0 ≤ Y * R := Nat.zero_le _
  have q6 : 0 ≤ X := Nat.zero_le _
  refine ⟨hK, ?_, ?_, q4, hR, ?_⟩
  · generalize K * Y = KY at *; omega
  · omega
  · omega

/-! ### lists in order -/
theorem sorted_eq {α : Type} (lt : α → α → Prop) (irr : ∀ a, ¬ lt a a) (tr : ∀ a b c, lt a b → lt b c → lt a c) :
    ∀ l1 l2 : List α, l1.Pairwise lt → l2.Pairwise lt → (∀ x, x ∈ l1 ↔ x ∈ l2) → l1 = l2 := by
  intro l1
  induction l1 with
  | nil =>
    intro l2 _ _ h
    cases l2 with
    | nil => rfl
    | cons b t => exact absurd ((h b).mpr (List.mem_cons_self ..)) (by simp)
  | cons a s ih =>
    intro l2 h1 h2 h
    cases l2 with
    | nil => exact absurd ((h a).mp (List.mem_cons_self ..)) (by simp)
    | cons b t =>
      rw [List.pairwise_cons] at h1 h2
      have hab : a = b := by
        rcases List.mem_cons.mp ((h a).mp (List.mem_cons_self ..)) with e | e
        · exact e
        · rcases List.mem_cons.mp ((h b).mpr (List.mem_cons_self ..)) with e' | e'
          · exact e'.symm
          · exact absurd (tr _ _ _ (h1.1 b e') (h2.1 a e)) (irr a)
      subst hab
      congr 1
      refine ih t h1.2 h2.2 fun x => ⟨fun hx => ?_, fun hx => ?_⟩
      · rcases List.mem_cons.mp ((h x).mp (List.mem_cons_of_mem _ hx)) with e | e
        · subst e; exact absurd (h1.1 x hx) (irr x)
        · exact e
      · rcases List.mem_cons.mp ((h x).mpr (List.mem_cons_of_mem _ hx)) with e | e
        · subst e; exact absurd (h2.1 x hx) (irr x)
        · exact e

/-- The order of vectors. -/
def lx (p q : Int × Int) : Prop := p.1 < q.1 ∨ (p.1 = q.1 ∧ p.2 < q.2)
theorem lx_irr (a : Int × Int) : ¬ lx a a := by unfold lx; omega
theorem lx_tr (a b c : Int × Int) : lx a b → lx b c → lx a c := by unfold lx; omega
theorem lx_tri (a b : Int × Int) : lx a b ∨ a = b ∨ lx b a := by
  obtain ⟨a1, a2⟩ := a
  obtain ⟨b1, b2⟩ := b
  simp only [lx, Prod.mk.injEq]; omega

def rowF (x y : Int) : Nat → List (Int × Int)
  | 0 => []
  | d + 1 => (x, y) :: rowF x (y + 1) d
def boxF (lo : Int) (w : Nat) (x : Int) : Nat → List (Int × Int)
  | 0 => []
  | d + 1 => rowF x lo w ++ boxF lo w (x + 1) d
theorem mem_rowF (x : Int) : ∀ (d : Nat) (y : Int) (v : Int × Int), v ∈ rowF x y d ↔ v.1 = x ∧ y ≤ v.2 ∧ v.2 < y + d := by
  intro d
  induction d with
  | zero => intro y v; simp only [rowF, List.not_mem_nil, false_iff]; omega
  | succ d ih =>
    intro y v
    obtain ⟨v1, v2⟩ := v
    simp only [rowF, List.mem_cons, ih, Prod.mk.injEq]; omega
theorem rowF_sorted (x : Int) : ∀ (d : Nat) (y : Int), (rowF x y d).Pairwise lx := by
  intro d
  induction d with
  | zero => intro y; simp [rowF]
  | succ d ih =>
    intro y
    simp only [rowF, List.pairwise_cons]
    refine ⟨fun v hv => ?_, ih _⟩
    rw [mem_rowF] at hv
    unfold lx; simp only; omega
theorem mem_boxF (lo : Int) (w : Nat) : ∀ (d : Nat) (x : Int) (v : Int × Int), v ∈ boxF lo w x d ↔ (x ≤ v.1 ∧ v.1 < x + d) ∧ (lo ≤ v.2 ∧ v.2 < lo + w) := by
  intro d
  induction d with
  | zero => intro x v; simp only [boxF, List.not_mem_nil, false_iff]; omega
  | succ d ih =>
    intro x v
    simp only [boxF, List.mem_append, ih, mem_rowF]; omega
theorem boxF_sorted (lo : Int) (w : Nat) : ∀ (d : Nat) (x : Int), (boxF lo w x d).Pairwise lx := by
  intro d
  induction d with
  | zero => intro x; simp [boxF]
  | succ d ih =>
    intro x
    simp only [boxF, List.pairwise_append]
    refine ⟨rowF_sorted _ _ _, ih _, fun a ha b hb => ?_⟩
    rw [mem_rowF] at ha
    rw [mem_boxF] at hb
    unfold lx; omega
theorem rowF_len (x : Int) : ∀ (d : Nat) (y : Int), (rowF x y d).length = d := by
  intro d
  induction d with
  | zero => intro y; rfl
  | succ d ih => intro y; simp [rowF, ih]
theorem boxF_len (lo : Int) (w : Nat) : ∀ (d : Nat) (x : Int), (boxF lo w x d).length = d * w := by
  intro d
  induction d with
  | zero => intro x; simp [boxF]
  | succ d ih => intro x; simp [boxF, ih, rowF_len, Nat.add_mul]; omega
/-- All vectors with numbers from -n to n, in order. -/
def box (n : Nat) : List (Int × Int) := boxF (-n) (2 * n + 1) (-n) (2 * n + 1)
theorem mem_box (n : Nat) (v : Int × Int) : v ∈ box n ↔ (-(n : Int) ≤ v.1 ∧ v.1 ≤ n) ∧ (-(n : Int) ≤ v.2 ∧ v.2 ≤ n) := by
  unfold box; rw [mem_boxF]; omega
theorem box_sorted (n : Nat) : (box n).Pairwise lx := boxF_sorted _ _ _ _
theorem filter_box (p q : Int × Int → Bool) (m n : Nat) (hp : ∀ v, p v = true → v ∈ box m) (hq : ∀ v, q v = true → v ∈ box n) (h : ∀ v, p v = q v) : (box m).filter p = (box n).filter q := by
  refine sorted_eq lx lx_irr lx_tr _ _ ((box_sorted m).filter _) ((box_sorted n).filter _) fun v => ?_
  rw [List.mem_filter, List.mem_filter, h v]
  constructor
  · rintro ⟨_, h2⟩; exact ⟨hq v h2, h2⟩
  · rintro ⟨_, h2⟩; exact ⟨hp v (by rw [h v]; exact h2), h2⟩

/-- The last of the best of a list: the choice step by step. -/
def best (p : Int × Int → Bool) (f : Int × Int → Int) : List (Int × Int) → Option (Int × Int) → Option (Int × Int)
  | [], b => b
  | v :: l, b => best p f l (if p v = true then (match b with | none => some v | some u => if f v ≤ f u then some v else some u) else b)
/-- What is the best of a list so far: least, and the last of the least. -/
def isBest (p : Int × Int → Bool) (f : Int × Int → Int) (l : List (Int × Int)) : Option (Int × Int) → Prop
  | none => ∀ v ∈ l, p v = false
  | some u => u ∈ l ∧ p u = true ∧ ∀ v ∈ l, p v = true → f u < f v ∨ (f u = f v ∧ (v = u ∨ lx v u))
theorem best_is (p : Int × Int → Bool) (f : Int × Int → Int) : ∀ (l d : List (Int × Int)) (b : Option (Int × Int)), (d ++ l).Pairwise lx → isBest p f d b → isBest p f (d ++ l) (best p f l b) := by
  intro l
  induction l with
  | nil => intro d b _ h; simpa [best] using h
  | cons v l ih =>
    intro d b hs h
    have e : d ++ v :: l = (d ++ [v]) ++ l := by simp
    rw [e] at hs ⊢
    refine ih (d ++ [v]) _ hs ?_
    have hd : ∀ u ∈ d, lx u v := by
      intro u hu
      have := (List.pairwise_append.mp (List.pairwise_append.mp hs).1).2.2 u hu v (by simp)
      exact this
    by_cases hp : p v = true
    · rw [if_pos hp]
      cases b with
      | none =>
        refine ⟨by simp, hp, fun u hu hpu => ?_⟩
        rcases List.mem_append.mp hu with hu | hu
        · exact absurd hpu (by rw [h u hu]; simp)
        · simp at hu; subst hu; exact Or.inr ⟨rfl, Or.inl rfl⟩
      | some u0 =>
        obtain ⟨m0, p0, h0⟩ := h
        simp only
        by_cases hf : f v ≤ f u0
        · rw [if_pos hf]
          refine ⟨by simp, hp, fun u hu hpu => ?_⟩
          rcases List.mem_append.mp hu with hu | hu
          · have := hd u hu
            rcases h0 u hu hpu with h1 | ⟨h1, _⟩
            · exact Or.inl (by omega)
            · rcases Int.lt_or_eq_of_le hf with h2 | h2
              · exact Or.inl (by omega)
              · exact Or.inr ⟨by omega, Or.inr this⟩
          · simp at hu; subst hu; exact Or.inr ⟨rfl, Or.inl rfl⟩
        · rw [if_neg hf]
          refine ⟨by simp [m0], p0, fun u hu hpu => ?_⟩
          rcases List.mem_append.mp hu with hu | hu
          · exact h0 u hu hpu
          · simp at hu; subst hu; exact Or.inl (by omega)
    · rw [if_neg hp]
      cases b with
      | none =>
        intro u hu
        rcases List.mem_append.mp hu with hu | hu
        · exact h u hu
        · simp at hu; subst hu; simpa using hp
      | some u0 =>
        obtain ⟨m0, p0, h0⟩ := h
        refine ⟨by simp [m0], p0, fun u hu hpu => ?_⟩
        rcases List.mem_append.mp hu with hu | hu
        · exact h0 u hu hpu
        · simp at hu; subst hu; exact absurd hpu hp
/-- Two lists in order, each with the least vectors, have the same best one. -/
theorem best_unique {p : Int × Int → Bool} {f : Int × Int → Int} {l1 l2 : List (Int × Int)} {b1 b2 : Option (Int × Int)} (h1 : isBest p f l1 b1) (h2 : isBest p f l2 b2)
    {w : Int × Int} (hw : p w = true) (hmin : ∀ v, p v = true → f v ≤ f w → v ∈ l1 ∧ v ∈ l2) : b1 = b2 ∧ ∃ u, b1 = some u ∧ p u = true ∧ f u ≤ f w := by
  obtain ⟨w1, w2⟩ := hmin w hw (Int.le_refl _)
  cases b1 with
  | none => exact absurd hw (by rw [h1 w w1]; simp)
  | some u1 =>
    cases b2 with
    | none => exact absurd hw (by rw [h2 w w2]; simp)
    | some u2 =>
      obtain ⟨m1, p1, k1⟩ := h1
      obtain ⟨m2, p2, k2⟩ := h2
      have f1 : f u1 ≤ f w := by rcases k1 w w1 hw with h | ⟨h, _⟩ <;> omega
      have f2 : f u2 ≤ f w := by rcases k2 w w2 hw with h | ⟨h, _⟩ <;> omega
      have q1 := k1 u2 (hmin u2 p2 f2).1 p2
      have q2 := k2 u1 (hmin u1 p1 f1).2 p1
      refine ⟨?_, u1, rfl, p1, f1⟩
      rcases q1 with q1 | ⟨_, q1 | q1⟩
      · rcases q2 with q2 | ⟨q2, _⟩ <;> omega
      · rw [q1]
      · rcases q2 with q2 | ⟨_, q2 | q2⟩
        · omega
        · rw [q2]
        · exact absurd (lx_tr _ _ _ q1 q2) (lx_irr _)
end Go.Proofs.Ytpkjgcafbkfbgac.Mth

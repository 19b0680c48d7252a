/-
The law FnBases, over numbers and lists alone: the printed functions of the program and of the reference answer alike. No condition but that each number is an int64.
-/
import Derived.Test.YtcjchihnopmplaaY21
import GoSem.Claim

namespace Go.Proofs.Ytcjchihnopmplaa.PureFnBases
open Go.RowKit Go.Proofs.Ytcjchihnopmplaa.F Go.Proofs.YtcjchihnopmplaaW.PrintWords Go.Proofs.YtcjchihnopmplaaW.PrintLast Go.Proofs.YtcjchihnopmplaaW.PrintMore
set_option linter.unusedVariables false
set_option linter.unusedSimpArgs false
theorem gcd_tmod (a b : Int) : Int.gcd b (a.tmod b) = Int.gcd a b := by
  unfold Int.gcd
  rw [Int.natAbs_tmod, Nat.gcd_comm a.natAbs, Nat.gcd_rec b.natAbs a.natAbs, Nat.gcd_comm]
theorem bezout_nat : ∀ (n : Nat) (a b : Int), b.natAbs ≤ n → ∃ s t : Int, (Int.gcd a b : Int) = s * a + t * b := by
  intro n
  induction n with
  | zero =>
    intro a b h
    have hb : b = 0 := by omega
    subst hb
    rcases Int.natAbs_eq a with h | h
    · exact ⟨1, 0, by rw [Int.gcd_zero_right]; omega⟩
    · exact ⟨-1, 0, by rw [Int.gcd_zero_right]; omega⟩
  | succ n ih =>
    intro a b h
    by_cases hb : b = 0
    · exact ih a b (by omega)
    · have h1 : (a.tmod b).natAbs ≤ n := by
        rw [Int.natAbs_tmod]
        have := Nat.mod_lt a.natAbs (show 0 < b.natAbs by omega)
        omega
      obtain ⟨s, t, e⟩ := ih b (a.tmod b) h1
      refine ⟨t, s - t * (a.tdiv b), ?_⟩
      rw [← gcd_tmod a b, e]
      have := Int.mul_tdiv_add_tmod a b
      grind
theorem bezout (a b : Int) : ∃ s t : Int, (Int.gcd a b : Int) = s * a + t * b := bezout_nat _ a b (Nat.le_refl _)
/-- (x, y) is a sum of multiples of (a, 0) and (b, c). -/
def L (a b c x y : Int) : Prop := ∃ m n : Int, x = m * a + n * b ∧ y = n * c
theorem L_iff {a b c x y : Int} (hc : c ≠ 0) : L a b c x y ↔ (y % c = 0 ∧ (x - (y / c) * b) % a = 0) := by
  constructor
  · rintro ⟨m, n, rfl, rfl⟩
    refine ⟨Int.mul_emod_left n c, ?_⟩
    rw [Int.mul_ediv_cancel n hc]
    have : m * a + n * b - n * b = m * a := by omega
    rw [this]; exact Int.mul_emod_left m a
  · rintro ⟨h1, h2⟩
    obtain ⟨n, rfl⟩ := Int.dvd_of_emod_eq_zero h1
    rw [Int.mul_ediv_cancel_left n hc] at h2
    obtain ⟨m, hm⟩ := Int.dvd_of_emod_eq_zero h2
    exact ⟨m, n, by grind, by grind⟩
/-- The index: what spans the same lattice has the same determinant, up to its sign. -/
theorem L_index {a b c ux uy vx vy : Int} (ha : 0 < a) (hc : 0 < c) (h : ∀ x y, L a b c x y ↔ ∃ i j : Int, x = i * ux + j * vx ∧ y = i * uy + j * vy) :
    a * c = (ux * vy - uy * vx).natAbs := by
  obtain ⟨m1, n1, e1, e2⟩ := (h ux uy).mpr ⟨1, 0, by omega, by omega⟩
  obtain ⟨m2, n2, e3, e4⟩ := (h vx vy).mpr ⟨0, 1, by omega, by omega⟩
  obtain ⟨i1, j1, e5, e6⟩ := (h a 0).mp ⟨1, 0, by omega, by omega⟩
  obtain ⟨i2, j2, e7, e8⟩ := (h b c).mp ⟨0, 1, by omega, by omega⟩
  have d1 : (a * c) ∣ (ux * vy - uy * vx) := ⟨m1 * n2 - n1 * m2, by subst e1 e2 e3 e4; grind⟩
  have d2 : (ux * vy - uy * vx) ∣ (a * c) := ⟨i1 * j2 - j1 * i2, by grind⟩
  have hp : 0 < a * c := Int.mul_pos ha hc
  have d1' : (a * c) ∣ ((ux * vy - uy * vx).natAbs : Int) := Int.dvd_natAbs.mpr d1
  have d2' : ((ux * vy - uy * vx).natAbs : Int) ∣ (a * c) := Int.natAbs_dvd.mpr d2
  exact Int.dvd_antisymm (by omega) (by omega) d1' d2'
theorem L_rank {a b c ux uy vx vy : Int} (hu : L a b c ux uy) (hv : L a b c vx vy) (hd : ux * vy - uy * vx ≠ 0) : a ≠ 0 ∧ c ≠ 0 := by
  obtain ⟨m1, n1, e1, e2⟩ := hu
  obtain ⟨m2, n2, e3, e4⟩ := hv
  subst e1 e2 e3 e4
  constructor
  · rintro rfl; apply hd; grind
  · rintro rfl; apply hd; grind
/-- All sums of multiples of two vectors. -/
def S2 (px py vx vy x y : Int) : Prop := ∃ i j : Int, x = i * px + j * vx ∧ y = i * py + j * vy
theorem S2_step (px py vx vy k x y : Int) : S2 vx vy (px - k * vx) (py - k * vy) x y ↔ S2 px py vx vy x y := by
  constructor
  · rintro ⟨i, j, rfl, rfl⟩; exact ⟨j, i - j * k, by grind, by grind⟩
  · rintro ⟨i, j, rfl, rfl⟩; exact ⟨j + i * k, i, by grind, by grind⟩
/-- One vector more: what the divisor step does. -/
theorem L_more {low px py ux uy px' py' vx' low' : Int} (hs : ∀ x y, S2 px' py' vx' 0 x y ↔ S2 px py ux uy x y) (hg : low' = Int.gcd low vx') (x y : Int) :
    L low' px' py' x y ↔ ∃ j, L low px py (x - j * ux) (y - j * uy) := by
  constructor
  · rintro ⟨m, n, e1, e2⟩
    obtain ⟨s, t, e⟩ := bezout low vx'
    obtain ⟨i, j, e3, e4⟩ := (hs (x - m * s * low) y).mp ⟨n, m * t, by subst e1; rw [hg, e]; grind, by grind⟩
    exact ⟨j, m * s, i, by grind, by grind⟩
  · rintro ⟨j, m, n, e1, e2⟩
    obtain ⟨i', j', e3, e4⟩ := (hs (x - m * low) y).mpr ⟨n, j, by grind, by grind⟩
    have d1 : low' ∣ low := by rw [hg]; exact Int.gcd_dvd_left low vx'
    have d2 : low' ∣ vx' := by rw [hg]; exact Int.gcd_dvd_right low vx'
    obtain ⟨p, hp⟩ := d1
    obtain ⟨q, hq⟩ := d2
    exact ⟨m * p + j' * q, i', by grind, by grind⟩
theorem L_neg (a b c x y : Int) : L a (-b) (-c) x y ↔ L a b c x y := by
  constructor
  · rintro ⟨m, n, e1, e2⟩; exact ⟨m, -n, by grind, by grind⟩
  · rintro ⟨m, n, e1, e2⟩; exact ⟨m, -n, by grind, by grind⟩
theorem L_mod (a b c x y : Int) : L a (b % a) c x y ↔ L a b c x y := by
  constructor
  · rintro ⟨m, n, e1, e2⟩; rw [Int.emod_def] at e1; exact ⟨m - n * (b / a), n, by grind, by grind⟩
  · rintro ⟨m, n, e1, e2⟩; refine ⟨m + n * (b / a), n, ?_, e2⟩; rw [Int.emod_def]; grind
theorem L_zero (x y : Int) : L 0 0 0 x y ↔ x = 0 ∧ y = 0 := by
  constructor
  · rintro ⟨m, n, e1, e2⟩; exact ⟨by grind, by grind⟩
  · rintro ⟨rfl, rfl⟩; exact ⟨0, 0, by grind, by grind⟩
theorem L_add {a b c x y x' y' : Int} (h : L a b c x y) (h' : L a b c x' y') (i j : Int) : L a b c (i * x + j * x') (i * y + j * y') := by
  obtain ⟨m, n, rfl, rfl⟩ := h
  obtain ⟨m', n', rfl, rfl⟩ := h'
  exact ⟨i * m + j * m', i * n + j * n', by grind, by grind⟩
def Nf (f x y : Int) : Int := x * x + f * x * y + y * y
def Tf (f ux uy vx vy : Int) : Int := 2 * (ux * vx) + f * (ux * vy + uy * vx) + 2 * (uy * vy)
theorem sq_nn (x : Int) : 0 ≤ x * x := by
  rcases Int.le_total 0 x with h | h
  · exact Int.mul_nonneg h h
  · exact Int.mul_nonneg_of_nonpos_of_nonpos h h
theorem Nf_four (f x y : Int) (hf : f = 0 ∨ f = 1) : 3 * (x * x) ≤ 4 * Nf f x y ∧ 3 * (y * y) ≤ 4 * Nf f x y := by
  unfold Nf
  rcases hf with rfl | rfl
  · have := sq_nn x
    have := sq_nn y
    constructor <;> grind
  · have h1 := sq_nn (x + 2 * y)
    have h2 := sq_nn (2 * x + y)
    constructor <;> grind
theorem sq_pos {x : Int} (h : x ≠ 0) : 0 < x * x := by
  rcases Int.lt_or_gt_of_ne h with h | h
  · exact Int.mul_pos_of_neg_of_neg h h
  · exact Int.mul_pos h h
theorem Nf_pos {f x y : Int} (hf : f = 0 ∨ f = 1) (h : ¬ (x = 0 ∧ y = 0)) : 0 < Nf f x y := by
  obtain ⟨h1, h2⟩ := Nf_four f x y hf
  by_cases hx : x = 0
  · have := sq_pos (show y ≠ 0 from fun e => h ⟨hx, e⟩); omega
  · have := sq_pos hx; omega
theorem Nf_nonneg {f x y : Int} (hf : f = 0 ∨ f = 1) : 0 ≤ Nf f x y := by
  obtain ⟨h1, h2⟩ := Nf_four f x y hf
  have := sq_nn x; omega
theorem sq_bound {x m : Int} (hm : 0 ≤ m) (h : x * x < (m + 1) * (m + 1)) : -m ≤ x ∧ x ≤ m := by
  constructor
  · rcases Int.lt_or_le x (-m) with h' | h'
    · have := Int.mul_le_mul (show m + 1 ≤ -x by omega) (show m + 1 ≤ -x by omega) (by omega) (by omega)
      rw [Int.neg_mul_neg] at this; omega
    · exact h'
  · rcases Int.lt_or_le m x with h' | h'
    · have := Int.mul_le_mul (show m + 1 ≤ x by omega) (show m + 1 ≤ x by omega) (by omega) (by omega)
      omega
    · exact h'
theorem Nf_box {f x y N m : Int} (hf : f = 0 ∨ f = 1) (hm : 0 ≤ m) (h : Nf f x y ≤ N) (hN : 4 * N < 3 * ((m + 1) * (m + 1))) : (-m ≤ x ∧ x ≤ m) ∧ (-m ≤ y ∧ y ≤ m) := by
  obtain ⟨h1, h2⟩ := Nf_four f x y hf
  exact ⟨sq_bound hm (by omega), sq_bound hm (by omega)⟩
theorem NT (f ux uy vx vy : Int) : 4 * (Nf f ux uy * Nf f vx vy) = Tf f ux uy vx vy * Tf f ux uy vx vy + (4 - f * f) * ((ux * vy - uy * vx) * (ux * vy - uy * vx)) := by
  unfold Nf Tf; grind
theorem Nf_scale (f g x y : Int) : Nf f (g * x) (g * y) = (g * g) * Nf f x y := by unfold Nf; grind
theorem Tf_sub (f ux uy vx vy k : Int) : Tf f ux uy (vx - k * ux) (vy - k * uy) = Tf f ux uy vx vy - 2 * k * Nf f ux uy := by unfold Nf Tf; grind
theorem det_sub (ux uy vx vy k : Int) : ux * (vy - k * uy) - uy * (vx - k * ux) = ux * vy - uy * vx := by grind
theorem det_L (a b c m n s t : Int) : (m * a + n * b) * (s * c) - (n * c) * (-t * a + s * b) = (s * m + t * n) * (a * c) := by grind
/-- A shortest vector is completed to a basis by a vector that is nearly at right angles. -/
theorem completed {f a b c ux uy : Int} (hf : f = 0 ∨ f = 1) (ha : 0 < a) (hc : 0 < c) (hu : L a b c ux uy) (hu0 : ¬ (ux = 0 ∧ uy = 0))
    (hmin : ∀ x y, L a b c x y → ¬ (x = 0 ∧ y = 0) → Nf f ux uy ≤ Nf f x y) :
    ∃ vx vy, L a b c vx vy ∧ ux * vy - uy * vx = a * c ∧ -Nf f ux uy ≤ Tf f ux uy vx vy ∧ Tf f ux uy vx vy ≤ Nf f ux uy := by
  have hN := Nf_pos hf hu0
  obtain ⟨m, n, e1, e2⟩ := hu
  obtain ⟨s, t, eg⟩ := bezout m n
  have dm : (Int.gcd m n : Int) ∣ m := Int.gcd_dvd_left m n
  have dn : (Int.gcd m n : Int) ∣ n := Int.gcd_dvd_right m n
  have hg0 : 0 ≤ (Int.gcd m n : Int) := by omega
  generalize (Int.gcd m n : Int) = g at *
  obtain ⟨m', rfl⟩ := dm
  obtain ⟨n', rfl⟩ := dn
  have hg : g = 1 := by
    have q1 : ux = g * (m' * a + n' * b) := by rw [e1, Int.mul_add, Int.mul_assoc, Int.mul_assoc]
    have q2 : uy = g * (n' * c) := by rw [e2, Int.mul_assoc]
    have z : ¬ (m' * a + n' * b = 0 ∧ n' * c = 0) := by
      rintro ⟨z1, z2⟩
      rw [z1, Int.mul_zero] at q1; rw [z2, Int.mul_zero] at q2
      exact hu0 ⟨q1, q2⟩
    have le := hmin _ _ ⟨m', n', rfl, rfl⟩ z
    have hN' := Nf_pos hf z
    rw [q1, q2, Nf_scale] at le
    have hgp : g ≠ 0 := by rintro rfl; simp at q1 q2; exact hu0 ⟨q1, q2⟩
    rcases Int.lt_or_le g 2 with h | h
    · omega
    · have : 2 * 2 ≤ g * g := Int.mul_le_mul h h (by omega) (by omega)
      have : 4 * Nf f (m' * a + n' * b) (n' * c) ≤ (g * g) * Nf f (m' * a + n' * b) (n' * c) := Int.mul_le_mul_of_nonneg_right (by omega) (by omega)
      omega
  subst hg
  simp only [Int.one_mul] at *
  have hd : ux * (s * c) - uy * (-t * a + s * b) = a * c := by rw [e1, e2, det_L, ← eg, Int.one_mul]
  refine ⟨(-t * a + s * b) - ((Tf f ux uy (-t * a + s * b) (s * c) + Nf f ux uy) / (2 * Nf f ux uy)) * ux, s * c - ((Tf f ux uy (-t * a + s * b) (s * c) + Nf f ux uy) / (2 * Nf f ux uy)) * uy, ?_, ?_, ?_⟩
  · generalize (Tf f ux uy (-t * a + s * b) (s * c) + Nf f ux uy) / (2 * Nf f ux uy) = k
    rw [e1, e2]
    exact ⟨-t - k * m', s - k * n', by rw [Int.sub_mul, Int.sub_mul, Int.mul_add, Int.mul_assoc, Int.mul_assoc]; omega, by rw [Int.sub_mul, Int.mul_assoc]⟩
  · rw [det_sub]; exact hd
  · rw [Tf_sub]
    generalize Tf f ux uy (-t * a + s * b) (s * c) = T
    generalize Nf f ux uy = N at *
    have h1 := Int.mul_ediv_add_emod (T + N) (2 * N)
    have h2 := Int.emod_nonneg (T + N) (show 2 * N ≠ 0 by omega)
    have h3 := Int.emod_lt_of_pos (T + N) (show 0 < 2 * N by omega)
    generalize (T + N) / (2 * N) = k at *
    have h4 : 2 * N * k = 2 * k * N := by rw [Int.mul_assoc, Int.mul_comm N k, Int.mul_assoc]
    constructor <;> omega
theorem sq_le {T N : Int} (h1 : -N ≤ T) (h2 : T ≤ N) : T * T ≤ N * N := by
  have h := Int.mul_nonneg (show 0 ≤ N - T by omega) (show 0 ≤ N + T by omega)
  have : (N - T) * (N + T) = N * N - T * T := by grind
  omega
/-- How long a shortest vector and its complement are. -/
theorem bounds {f a b c ux uy vx vy : Int} (hf : f = 0 ∨ f = 1) (ha : 0 < a) (hc : 0 < c) (hac : a * c ≤ 64) (hu0 : ¬ (ux = 0 ∧ uy = 0))
    (hmin : ∀ x y, L a b c x y → ¬ (x = 0 ∧ y = 0) → Nf f ux uy ≤ Nf f x y) (hv : L a b c vx vy) (hd : ux * vy - uy * vx = a * c)
    (h1 : -Nf f ux uy ≤ Tf f ux uy vx vy) (h2 : Tf f ux uy vx vy ≤ Nf f ux uy) : Nf f ux uy ≤ 73 ∧ Nf f vx vy ≤ 4114 := by
  have hn : 0 < a * c := Int.mul_pos ha hc
  have hv0 : ¬ (vx = 0 ∧ vy = 0) := by rintro ⟨rfl, rfl⟩; simp at hd; omega
  have le := hmin vx vy hv hv0
  have hN := Nf_pos hf hu0
  have e := NT f ux uy vx vy
  rw [hd] at e
  have hT := sq_le h1 h2
  have hff : 0 ≤ f * f ∧ f * f ≤ 1 := by rcases hf with rfl | rfl <;> decide
  have hsq : (a * c) * (a * c) ≤ 64 * 64 := Int.mul_le_mul hac hac (by omega) (by omega)
  have hsq0 : 0 ≤ (a * c) * (a * c) := by have := sq_nn (a * c); omega
  generalize (a * c) * (a * c) = S at *
  generalize f * f = F at *
  have hS : (4 - F) * S ≤ 4 * S := Int.mul_le_mul_of_nonneg_right (by omega) hsq0
  generalize Tf f ux uy vx vy = T at *
  generalize Nf f ux uy = N at *
  generalize Nf f vx vy = M at *
  have k1 : N * N ≤ N * M := Int.mul_le_mul_of_nonneg_left le (by omega)
  have hN73 : N ≤ 73 := by
    rcases Int.lt_or_le 73 N with h | h
    · have : 74 * 74 ≤ N * N := Int.mul_le_mul (by omega) (by omega) (by omega) (by omega)
      omega
    · exact h
  refine ⟨hN73, ?_⟩
  rcases Int.lt_or_le 4114 M with h | h
  · have k2 : N * 4115 ≤ N * M := Int.mul_le_mul_of_nonneg_left (by omega) (by omega)
    have k3 : N * N ≤ N * 73 := Int.mul_le_mul_of_nonneg_left hN73 (by omega)
    omega
  · exact h
theorem exists_min_nat {α : Type} (P : α → Prop) (f : α → Int) (hf : ∀ x, P x → 0 ≤ f x) : ∀ (n : Nat) (x : α), P x → f x ≤ n → ∃ x, P x ∧ ∀ y, P y → f x ≤ f y := by
  intro n
  induction n with
  | zero => intro x hx h; exact ⟨x, hx, fun y hy => by have := hf y hy; omega⟩
  | succ n ih =>
    intro x hx h
    by_cases hex : ∃ y, P y ∧ f y ≤ n
    · obtain ⟨y, hy, hle⟩ := hex; exact ih y hy hle
    · exact ⟨x, hx, fun y hy => by have : ¬ f y ≤ n := fun hl => hex ⟨y, hy, hl⟩; omega⟩
theorem exists_min {α : Type} (P : α → Prop) (f : α → Int) (hf : ∀ x, P x → 0 ≤ f x) (h : ∃ x, P x) : ∃ x, P x ∧ ∀ y, P y → f x ≤ f y := by
  obtain ⟨x, hx⟩ := h
  exact exists_min_nat P f hf (f x).toNat x hx (by have := hf x hx; omega)
theorem tmod_cases (a n : Int) (hn : 0 < n) : (0 ≤ a ∧ a.tmod n = a % n) ∨ (a < 0 ∧ a.tmod n = -((-a) % n)) := by
  rcases Int.lt_or_le a 0 with h | h
  · refine Or.inr ⟨h, ?_⟩
    have : a.tmod n = -((-a).tmod n) := by rw [Int.neg_tmod, Int.neg_neg]
    rw [this, Int.tmod_eq_emod_of_nonneg (by omega)]
  · exact Or.inl ⟨h, Int.tmod_eq_emod_of_nonneg h⟩
theorem tmod_bounds (a n : Int) (hn : 0 < n) : -n < a.tmod n ∧ a.tmod n < n := by
  have h1 := Int.emod_nonneg a (show n ≠ 0 by omega)
  have h2 := Int.emod_lt_of_pos a hn
  have h3 := Int.emod_nonneg (-a) (show n ≠ 0 by omega)
  have h4 := Int.emod_lt_of_pos (-a) hn
  rcases tmod_cases a n hn with ⟨_, e⟩ | ⟨_, e⟩ <;> rw [e] <;> omega
theorem neg_emod_add (a n : Int) (hn : 0 < n) : a % n = (n - (-a) % n) % n := by
  have e := Int.mul_ediv_add_emod (-a) n
  have : n - (-a) % n = a + n * ((-a) / n + 1) := by rw [Int.mul_add]; omega
  rw [this, Int.add_mul_emod_self_left]
theorem mod_add (a n : Int) (hn : 0 < n) : (a.tmod n + n).tmod n = a % n := by
  have h1 := Int.emod_nonneg a (show n ≠ 0 by omega)
  have h2 := Int.emod_lt_of_pos a hn
  have h3 := Int.emod_nonneg (-a) (show n ≠ 0 by omega)
  have h4 := Int.emod_lt_of_pos (-a) hn
  rcases tmod_cases a n hn with ⟨_, e⟩ | ⟨_, e⟩ <;> rw [e, Int.tmod_eq_emod_of_nonneg (by omega)]
  · rw [Int.add_emod_right, Int.emod_emod]
  · rw [neg_emod_add a n hn]; congr 1; omega
theorem mod_if (a n : Int) (hn : 0 < n) : (if a.tmod n < 0 then a.tmod n + n else a.tmod n) = a % n := by
  have h1 := Int.emod_nonneg a (show n ≠ 0 by omega)
  have h3 := Int.emod_nonneg (-a) (show n ≠ 0 by omega)
  have h4 := Int.emod_lt_of_pos (-a) hn
  rcases tmod_cases a n hn with ⟨_, e⟩ | ⟨_, e⟩ <;> rw [e]
  · rw [if_neg (by omega)]
  · split
    · rw [neg_emod_add a n hn, Int.emod_eq_of_lt (a := n - (-a) % n) (b := n) (by omega) (by omega)]; omega
    · have : (-a) % n = 0 := by omega
      rw [neg_emod_add a n hn, this]; simp
theorem tdiv_row (y c : Int) (hc : 0 < c) : (y - y % c).tdiv c = y / c := by
  have e := Int.mul_ediv_add_emod y c
  have : y - y % c = c * (y / c) := by omega
  rw [this, Int.mul_tdiv_cancel_left _ (by omega)]
theorem euclid {px py vx vy : Int} {M : Nat} (hv : vy ≠ 0) (hQ : px.natAbs * vy.natAbs + vx.natAbs * py.natAbs ≤ M) :
    (py.tdiv vy).natAbs ≤ py.natAbs ∧ (py.tdiv vy * vx).natAbs ≤ M ∧ (px - py.tdiv vy * vx).natAbs ≤ M ∧ (py.tdiv vy * vy).natAbs ≤ py.natAbs ∧
      (py - py.tdiv vy * vy).natAbs < vy.natAbs ∧ vx.natAbs * (py - py.tdiv vy * vy).natAbs + (px - py.tdiv vy * vx).natAbs * vy.natAbs ≤ M := by
  have hV : 0 < vy.natAbs := by omega
  have eK : (py.tdiv vy).natAbs = py.natAbs / vy.natAbs := Int.natAbs_tdiv py vy
  have e1 : py - py.tdiv vy * vy = py.tmod vy := by have := Int.mul_tdiv_add_tmod py vy; rw [Int.mul_comm] at this; omega
  have eR : (py.tmod vy).natAbs = py.natAbs % vy.natAbs := Int.natAbs_tmod py vy
  have e2 := Nat.div_add_mod py.natAbs vy.natAbs
  have h3 : (px - py.tdiv vy * vx).natAbs ≤ px.natAbs + (py.tdiv vy).natAbs * vx.natAbs := by
    have := Int.natAbs_sub_le px (py.tdiv vy * vx)
    rw [Int.natAbs_mul] at this; exact this
  have hK := Nat.div_le_self py.natAbs vy.natAbs
  have hR := Nat.mod_lt py.natAbs hV
  rw [e1, eR, Int.natAbs_mul, Int.natAbs_mul, eK]
  rw [eK] at h3
  generalize (px - py.tdiv vy * vx).natAbs = Z at *
  generalize py.natAbs / vy.natAbs = K at *
  generalize py.natAbs % vy.natAbs = R at *
  generalize py.natAbs = P at *
  generalize vy.natAbs = V at *
  generalize vx.natAbs = Y at *
  generalize px.natAbs = X at *
  have q : Y * R + (X + K * Y) * V = X * V + Y * P := by rw [← e2]; grind
  have q2 : Z * V ≤ (X + K * Y) * V := Nat.mul_le_mul_right V h3
  have q3 : X + K * Y ≤ (X + K * Y) * V := Nat.le_mul_of_pos_right _ hV
  have q4 : K * V ≤ P := by rw [Nat.mul_comm] ; omega
  have q5 : 0 ≤ Y * R := Nat.zero_le _
  have q6 : 0 ≤ X := Nat.zero_le _
  refine ⟨hK, ?_, ?_, q4, hR, ?_⟩
  · generalize K * Y = KY at *; omega
  · omega
  · omega
theorem sorted_eq {α : Type} (lt : α → α → Prop) (irr : ∀ a, ¬ lt a a) (tr : ∀ a b c, lt a b → lt b c → lt a c) :
    ∀ l1 l2 : List α, l1.Pairwise lt → l2.Pairwise lt → (∀ x, x ∈ l1 ↔ x ∈ l2) → l1 = l2 := by
  intro l1
  induction l1 with
  | nil =>
    intro l2 _ _ h
    cases l2 with
    | nil => rfl
    | cons b t => exact absurd ((h b).mpr (List.mem_cons_self ..)) (by simp)
  | cons a s ih =>
    intro l2 h1 h2 h
    cases l2 with
    | nil => exact absurd ((h a).mp (List.mem_cons_self ..)) (by simp)
    | cons b t =>
      rw [List.pairwise_cons] at h1 h2
      have hab : a = b := by
        rcases List.mem_cons.mp ((h a).mp (List.mem_cons_self ..)) with e | e
        · exact e
        · rcases List.mem_cons.mp ((h b).mpr (List.mem_cons_self ..)) with e' | e'
          · exact e'.symm
          · exact absurd (tr _ _ _ (h1.1 b e') (h2.1 a e)) (irr a)
      subst hab
      congr 1
      refine ih t h1.2 h2.2 fun x => ⟨fun hx => ?_, fun hx => ?_⟩
      · rcases List.mem_cons.mp ((h x).mp (List.mem_cons_of_mem _ hx)) with e | e
        · subst e; exact absurd (h1.1 x hx) (irr x)
        · exact e
      · rcases List.mem_cons.mp ((h x).mpr (List.mem_cons_of_mem _ hx)) with e | e
        · subst e; exact absurd (h2.1 x hx) (irr x)
        · exact e
/-- The order of vectors. -/
def lx (p q : Int × Int) : Prop := p.1 < q.1 ∨ (p.1 = q.1 ∧ p.2 < q.2)
theorem lx_irr (a : Int × Int) : ¬ lx a a := by unfold lx; omega
theorem lx_tr (a b c : Int × Int) : lx a b → lx b c → lx a c := by unfold lx; omega
def rowF (x y : Int) : Nat → List (Int × Int)
  | 0 => []
  | d + 1 => (x, y) :: rowF x (y + 1) d
def boxF (lo : Int) (w : Nat) (x : Int) : Nat → List (Int × Int)
  | 0 => []
  | d + 1 => rowF x lo w ++ boxF lo w (x + 1) d
theorem mem_rowF (x : Int) : ∀ (d : Nat) (y : Int) (v : Int × Int), v ∈ rowF x y d ↔ v.1 = x ∧ y ≤ v.2 ∧ v.2 < y + d := by
  intro d
  induction d with
  | zero => intro y v; simp only [rowF, List.not_mem_nil, false_iff]; omega
  | succ d ih =>
    intro y v
    obtain ⟨v1, v2⟩ := v
    simp only [rowF, List.mem_cons, ih, Prod.mk.injEq]; omega
theorem rowF_sorted (x : Int) : ∀ (d : Nat) (y : Int), (rowF x y d).Pairwise lx := by
  intro d
  induction d with
  | zero => intro y; simp [rowF]
  | succ d ih =>
    intro y
    simp only [rowF, List.pairwise_cons]
    refine ⟨fun v hv => ?_, ih _⟩
    rw [mem_rowF] at hv
    unfold lx; simp only; omega
theorem mem_boxF (lo : Int) (w : Nat) : ∀ (d : Nat) (x : Int) (v : Int × Int), v ∈ boxF lo w x d ↔ (x ≤ v.1 ∧ v.1 < x + d) ∧ (lo ≤ v.2 ∧ v.2 < lo + w) := by
  intro d
  induction d with
  | zero => intro x v; simp only [boxF, List.not_mem_nil, false_iff]; omega
  | succ d ih =>
    intro x v
    simp only [boxF, List.mem_append, ih, mem_rowF]; omega
theorem boxF_sorted (lo : Int) (w : Nat) : ∀ (d : Nat) (x : Int), (boxF lo w x d).Pairwise lx := by
  intro d
  induction d with
  | zero => intro x; simp [boxF]
  | succ d ih =>
    intro x
    simp only [boxF, List.pairwise_append]
    refine ⟨rowF_sorted _ _ _, ih _, fun a ha b hb => ?_⟩
    rw [mem_rowF] at ha
    rw [mem_boxF] at hb
    unfold lx; omega
theorem rowF_len (x : Int) : ∀ (d : Nat) (y : Int), (rowF x y d).length = d := by
  intro d
  induction d with
  | zero => intro y; rfl
  | succ d ih => intro y; simp [rowF, ih]
theorem boxF_len (lo : Int) (w : Nat) : ∀ (d : Nat) (x : Int), (boxF lo w x d).length = d * w := by
  intro d
  induction d with
  | zero => intro x; simp [boxF]
  | succ d ih => intro x; simp [boxF, ih, rowF_len, Nat.add_mul]; omega
/-- All vectors with numbers from -n to n, in order. -/
def box (n : Nat) : List (Int × Int) := boxF (-n) (2 * n + 1) (-n) (2 * n + 1)
theorem mem_box (n : Nat) (v : Int × Int) : v ∈ box n ↔ (-(n : Int) ≤ v.1 ∧ v.1 ≤ n) ∧ (-(n : Int) ≤ v.2 ∧ v.2 ≤ n) := by
  unfold box; rw [mem_boxF]; omega
theorem box_sorted (n : Nat) : (box n).Pairwise lx := boxF_sorted _ _ _ _
theorem filter_box (p q : Int × Int → Bool) (m n : Nat) (hp : ∀ v, p v = true → v ∈ box m) (hq : ∀ v, q v = true → v ∈ box n) (h : ∀ v, p v = q v) : (box m).filter p = (box n).filter q := by
  refine sorted_eq lx lx_irr lx_tr _ _ ((box_sorted m).filter _) ((box_sorted n).filter _) fun v => ?_
  rw [List.mem_filter, List.mem_filter, h v]
  constructor
  · rintro ⟨_, h2⟩; exact ⟨hq v h2, h2⟩
  · rintro ⟨_, h2⟩; exact ⟨hp v (by rw [h v]; exact h2), h2⟩
/-- The last of the best of a list: the choice step by step. -/
def best (p : Int × Int → Bool) (f : Int × Int → Int) : List (Int × Int) → Option (Int × Int) → Option (Int × Int)
  | [], b => b
  | v :: l, b => best p f l (if p v = true then (match b with | none => some v | some u => if f v ≤ f u then some v else some u) else b)
/-- What is the best of a list so far: least, and the last of the least. -/
def isBest (p : Int × Int → Bool) (f : Int × Int → Int) (l : List (Int × Int)) : Option (Int × Int) → Prop
  | none => ∀ v ∈ l, p v = false
  | some u => u ∈ l ∧ p u = true ∧ ∀ v ∈ l, p v = true → f u < f v ∨ (f u = f v ∧ (v = u ∨ lx v u))
theorem best_is (p : Int × Int → Bool) (f : Int × Int → Int) : ∀ (l d : List (Int × Int)) (b : Option (Int × Int)), (d ++ l).Pairwise lx → isBest p f d b → isBest p f (d ++ l) (best p f l b) := by
  intro l
  induction l with
  | nil => intro d b _ h; simpa [best] using h
  | cons v l ih =>
    intro d b hs h
    have e : d ++ v :: l = (d ++ [v]) ++ l := by simp
    rw [e] at hs ⊢
    refine ih (d ++ [v]) _ hs ?_
    have hd : ∀ u ∈ d, lx u v := by
      intro u hu
      have := (List.pairwise_append.mp (List.pairwise_append.mp hs).1).2.2 u hu v (by simp)
      exact this
    by_cases hp : p v = true
    · rw [if_pos hp]
      cases b with
      | none =>
        refine ⟨by simp, hp, fun u hu hpu => ?_⟩
        rcases List.mem_append.mp hu with hu | hu
        · exact absurd hpu (by rw [h u hu]; simp)
        · simp at hu; subst hu; exact Or.inr ⟨rfl, Or.inl rfl⟩
      | some u0 =>
        obtain ⟨m0, p0, h0⟩ := h
        simp only
        by_cases hf : f v ≤ f u0
        · rw [if_pos hf]
          refine ⟨by simp, hp, fun u hu hpu => ?_⟩
          rcases List.mem_append.mp hu with hu | hu
          · have := hd u hu
            rcases h0 u hu hpu with h1 | ⟨h1, _⟩
            · exact Or.inl (by omega)
            · rcases Int.lt_or_eq_of_le hf with h2 | h2
              · exact Or.inl (by omega)
              · exact Or.inr ⟨by omega, Or.inr this⟩
          · simp at hu; subst hu; exact Or.inr ⟨rfl, Or.inl rfl⟩
        · rw [if_neg hf]
          refine ⟨by simp [m0], p0, fun u hu hpu => ?_⟩
          rcases List.mem_append.mp hu with hu | hu
          · exact h0 u hu hpu
          · simp at hu; subst hu; exact Or.inl (by omega)
    · rw [if_neg hp]
      cases b with
      | none =>
        intro u hu
        rcases List.mem_append.mp hu with hu | hu
        · exact h u hu
        · simp at hu; subst hu; simpa using hp
      | some u0 =>
        obtain ⟨m0, p0, h0⟩ := h
        refine ⟨by simp [m0], p0, fun u hu hpu => ?_⟩
        rcases List.mem_append.mp hu with hu | hu
        · exact h0 u hu hpu
        · simp at hu; subst hu; exact absurd hpu hp
/-- Two lists in order, each with the least vectors, have the same best one. -/
theorem best_unique {p : Int × Int → Bool} {f : Int × Int → Int} {l1 l2 : List (Int × Int)} {b1 b2 : Option (Int × Int)} (h1 : isBest p f l1 b1) (h2 : isBest p f l2 b2)
    {w : Int × Int} (hw : p w = true) (hmin : ∀ v, p v = true → f v ≤ f w → v ∈ l1 ∧ v ∈ l2) : b1 = b2 ∧ ∃ u, b1 = some u ∧ p u = true ∧ f u ≤ f w := by
  obtain ⟨w1, w2⟩ := hmin w hw (Int.le_refl _)
  cases b1 with
  | none => exact absurd hw (by rw [h1 w w1]; simp)
  | some u1 =>
    cases b2 with
    | none => exact absurd hw (by rw [h2 w w2]; simp)
    | some u2 =>
      obtain ⟨m1, p1, k1⟩ := h1
      obtain ⟨m2, p2, k2⟩ := h2
      have f1 : f u1 ≤ f w := by rcases k1 w w1 hw with h | ⟨h, _⟩ <;> omega
      have f2 : f u2 ≤ f w := by rcases k2 w w2 hw with h | ⟨h, _⟩ <;> omega
      have q1 := k1 u2 (hmin u2 p2 f2).1 p2
      have q2 := k2 u1 (hmin u1 p1 f1).2 p1
      refine ⟨?_, u1, rfl, p1, f1⟩
      rcases q1 with q1 | ⟨_, q1 | q1⟩
      · rcases q2 with q2 | ⟨q2, _⟩ <;> omega
      · rw [q1]
      · rcases q2 with q2 | ⟨_, q2 | q2⟩
        · omega
        · rw [q2]
        · exact absurd (lx_tr _ _ _ q1 q2) (lx_irr _)
def vecB (x y : Int) : Bool := decide (-1000 ≤ x ∧ x ≤ 1000 ∧ -1000 ≤ y ∧ y ≤ 1000)
def smallB (a b c d : Int) : Bool := decide ((-1000 ≤ a ∧ a ≤ 1000 ∧ -1000 ≤ b ∧ b ≤ 1000) ∧ -1000 ≤ c ∧ c ≤ 1000 ∧ -1000 ≤ d ∧ d ≤ 1000)
def matB (a b c d : Int) : Bool := smallB a b c d && (a * d - b * c == 1 || a * d - b * c == -1)
def latB (a b c : Int) : Bool := decide ((1 ≤ a ∧ a ≤ 64) ∧ (1 ≤ c ∧ c ≤ 64) ∧ (0 ≤ b ∧ b ≤ a - 1) ∧ a * c ≤ 64)
theorem wrap_id {x : Int} (h1 : -9223372036854775808 ≤ x) (h2 : x < 9223372036854775808) : wrap64 x = x := by unfold wrap64; omega
theorem prod_bd {a b A B : Int} (ha : -A ≤ a) (ha' : a ≤ A) (hb : -B ≤ b) (hb' : b ≤ B) (hA : 0 ≤ A) : -(A * B) ≤ a * b ∧ a * b ≤ A * B := by
  have h1 : (a * b).natAbs ≤ A.natAbs * B.natAbs := by rw [Int.natAbs_mul]; exact Nat.mul_le_mul (by omega) (by omega)
  have h2 : (A * B).natAbs = A.natAbs * B.natAbs := Int.natAbs_mul A B
  have h3 : 0 ≤ A * B := Int.mul_nonneg hA (by omega)
  omega
theorem vecB_iff {x y : Int} : vecB x y = true ↔ (-1000 ≤ x ∧ x ≤ 1000) ∧ (-1000 ≤ y ∧ y ≤ 1000) := by unfold vecB; rw [decide_eq_true_iff]; omega
theorem smallB_iff {a b c d : Int} : smallB a b c d = true ↔ ((-1000 ≤ a ∧ a ≤ 1000) ∧ (-1000 ≤ b ∧ b ≤ 1000)) ∧ (-1000 ≤ c ∧ c ≤ 1000) ∧ (-1000 ≤ d ∧ d ≤ 1000) := by unfold smallB; rw [decide_eq_true_iff]; omega
theorem matB_iff {a b c d : Int} : matB a b c d = true ↔ smallB a b c d = true ∧ (a * d - b * c = 1 ∨ a * d - b * c = -1) := by unfold matB; simp
theorem latB_iff {a b c : Int} : latB a b c = true ↔ (1 ≤ a ∧ a ≤ 64) ∧ (1 ≤ c ∧ c ≤ 64) ∧ (0 ≤ b ∧ b ≤ a - 1) ∧ a * c ≤ 64 := by unfold latB; rw [decide_eq_true_iff]
/-- Products of small numbers need no wrapping. -/
theorem wrap_mul {a b A B : Int} (ha : -A ≤ a) (ha' : a ≤ A) (hb : -B ≤ b) (hb' : b ≤ B) (hA : 0 ≤ A) (h : A * B < 9223372036854775808) : wrap64 (a * b) = a * b := by
  have := prod_bd ha ha' hb hb' hA; exact wrap_id (by omega) (by omega)
theorem det_wrap {a b c d : Int} (h : smallB a b c d = true) : wrap64 (wrap64 (a * d) - wrap64 (b * c)) = a * d - b * c ∧ (-2000000 ≤ a * d - b * c ∧ a * d - b * c ≤ 2000000) := by
  rw [smallB_iff] at h
  have h1 := prod_bd (A := 1000) (B := 1000) h.1.1.1 h.1.1.2 h.2.2.1 h.2.2.2 (by omega)
  have h2 := prod_bd (A := 1000) (B := 1000) h.1.2.1 h.1.2.2 h.2.1.1 h.2.1.2 (by omega)
  rw [wrap_id (x := a * d) (by omega) (by omega), wrap_id (x := b * c) (by omega) (by omega), wrap_id (by omega) (by omega)]
  omega
/-- a x + b y for small numbers. -/
theorem lin_wrap {a b x y : Int} (A : Int) (ha : -A ≤ a ∧ a ≤ A) (hb : -A ≤ b ∧ b ≤ A) (hx : -A ≤ x ∧ x ≤ A) (hy : -A ≤ y ∧ y ≤ A) (hA : 0 ≤ A) (hA2 : A ≤ 1000000000) :
    wrap64 (wrap64 (a * x) + wrap64 (b * y)) = a * x + b * y ∧ (-(2 * (A * A)) ≤ a * x + b * y ∧ a * x + b * y ≤ 2 * (A * A)) := by
  have h1 := prod_bd ha.1 ha.2 hx.1 hx.2 hA
  have h2 := prod_bd hb.1 hb.2 hy.1 hy.2 hA
  have h3 : A * A ≤ 1000000000 * 1000000000 := Int.mul_le_mul hA2 hA2 hA (by omega)
  rw [wrap_id (x := a * x) (by omega) (by omega), wrap_id (x := b * y) (by omega) (by omega), wrap_id (by omega) (by omega)]
  omega
theorem mx_abs {a : Int} (h1 : -9223372036854775808 < a) (h2 : a < 9223372036854775808) : mx a (wrap64 (-a)) = (a.natAbs : Int) := by
  rw [wrap_id (by omega) (by omega)]; unfold mx; split <;> omega
def frameB (f : Int) : Bool := decide (f = 0 ∨ f = 1)
/-- The cell of a vector. -/
def redV (a b c x y : Int) : Int × Int := ((x - y / c * b) % a, y % c)
def hasB (a b c x y : Int) : Bool := (redV a b c x y).1 == 0 && (redV a b c x y).2 == 0
theorem hasB_iff {a b c x y : Int} (hc : c ≠ 0) : hasB a b c x y = true ↔ L a b c x y := by
  rw [L_iff hc]; unfold hasB redV; simp [and_comm]
theorem u8_bd {a : Int} (h : (Go.Lit.int .u8 a).wf = true) : 0 ≤ a ∧ a < 256 := by
  simp only [Go.Lit.wf, Bool.and_eq_true, decide_eq_true_eq] at h
  obtain ⟨h1, h2⟩ := h
  have e1 : Go.IntKind.min .u8 = 0 := by decide
  have e2 : Go.IntKind.max .u8 = 255 := by decide
  omega
/-- A reduced form of what some vectors span. -/
def Herm (sp : Int → Int → Prop) (A B C : Int) : Prop := 0 < A ∧ 0 < C ∧ 0 ≤ B ∧ B < A ∧ ∀ x y, L A B C x y ↔ sp x y
def sp2 (ux uy vx vy : Int) : Int → Int → Prop := fun x y => ∃ i j : Int, x = i * ux + j * vx ∧ y = i * uy + j * vy
theorem Herm.index {A B C ux uy vx vy : Int} (h : Herm (sp2 ux uy vx vy) A B C) : A * C = (ux * vy - uy * vx).natAbs := L_index h.1 h.2.1 h.2.2.2.2
/-- One vector more joins the span. -/
def plus (l p q ux uy l' p' q' : Int) : Prop := ∀ x y, L l' p' q' x y ↔ ∃ j, L l p q (x - j * ux) (y - j * uy)
theorem plus_two {l p q l' p' q' ux uy vx vy : Int} (h1 : plus 0 0 0 ux uy l p q) (h2 : plus l p q vx vy l' p' q') (x y : Int) : L l' p' q' x y ↔ sp2 ux uy vx vy x y := by
  rw [h2]
  constructor
  · rintro ⟨j, h⟩
    obtain ⟨i, h⟩ := (h1 _ _).mp h
    rw [L_zero] at h
    exact ⟨i, j, by omega, by omega⟩
  · rintro ⟨i, j, e1, e2⟩
    refine ⟨j, (h1 _ _).mpr ⟨i, ?_⟩⟩
    rw [L_zero]; omega
theorem gcd_le_bd {a b : Int} {M : Nat} (ha : a.natAbs ≤ M) (hb : b.natAbs ≤ M) : Int.gcd a b ≤ M := by
  by_cases h : a = 0
  · subst h; rw [Int.gcd_zero_left]; exact hb
  · exact Nat.le_trans (Int.gcd_le_natAbs_left (a := a) (b := b) h) ha
theorem le_mul_r {a c : Int} (ha : 0 ≤ a) (hc : 1 ≤ c) : a ≤ a * c := by
  have := Int.mul_le_mul_of_nonneg_left hc ha; omega
theorem le_mul_l {a c : Int} (hc : 0 ≤ c) (ha : 1 ≤ a) : c ≤ a * c := by
  have := Int.mul_le_mul_of_nonneg_right ha hc; omega
theorem L_row {a b c x : Int} (hc : c ≠ 0) : L a b c x 0 ↔ a ∣ x := by
  constructor
  · rintro ⟨m, n, e1, e2⟩
    have hn : n = 0 := by rcases Int.mul_eq_zero.mp e2.symm with h | h; exact h; exact absurd h hc
    subst hn; exact ⟨m, by rw [e1, Int.mul_comm]; omega⟩
  · rintro ⟨m, rfl⟩; exact ⟨m, 0, by rw [Int.mul_comm]; omega, by omega⟩
theorem spec_l01In_eq (a b c : Int) : spec_l01In.f a b c = some (decide (b ≤ a ∧ a ≤ c)) := by
  unfold spec_l01In.f; split <;> simp <;> omega
theorem impl_within_eq (a b c : Int) : impl_within.f a b c = some (decide (b ≤ a ∧ a ≤ c)) := by
  unfold impl_within.f; split <;> simp <;> omega
theorem impl_isCoordinate_eq (a : Int) : impl_isCoordinate.f a = some (decide (-1000 ≤ a ∧ a ≤ 1000)) := by
  unfold impl_isCoordinate.f; simp only [impl_within_eq, Option.bind_some]
theorem impl_IsVec_eq (x y : Int) : impl_IsVec.f x y = some (vecB x y) := by
  unfold impl_IsVec.f vecB; simp only [impl_isCoordinate_eq, Option.bind_some]; split <;> simp_all <;> omega
theorem spec_IsLattice_eq (a b c : Int) (h1 : -9223372036854775808 ≤ a) (h2 : a < 9223372036854775808) : spec_IsLattice.f a b c = some (latB a b c) := by
  unfold spec_IsLattice.f latB; simp only [spec_l01In_eq, Option.bind_some]
  by_cases ha : 1 ≤ a ∧ a ≤ 64
  · by_cases hc : 1 ≤ c ∧ c ≤ 64
    · rw [wrap_id (x := a - 1) (by omega) (by omega), wrap_mul (A := 64) (B := 64) (by omega) (by omega) (by omega) (by omega) (by omega) (by omega)]
      simp only [ha, hc, and_self, decide_true, if_true]
      by_cases hb : 0 ≤ b ∧ b ≤ a - 1 <;> simp [hb]
    · simp [ha]; split <;> simp_all <;> omega
  · simp; split <;> simp_all <;> omega
theorem impl_IsLattice_eq (a b c : Int) (h1 : -9223372036854775808 ≤ a) (h2 : a < 9223372036854775808) : impl_IsLattice.f a b c = some (latB a b c) := by
  unfold impl_IsLattice.f latB impl_Lattice_index.f; simp only [impl_within_eq, Option.bind_some]
  by_cases ha : 1 ≤ a ∧ a ≤ 64
  · by_cases hc : 1 ≤ c ∧ c ≤ 64
    · rw [wrap_id (x := a - 1) (by omega) (by omega), wrap_mul (A := 64) (B := 64) (by omega) (by omega) (by omega) (by omega) (by omega) (by omega)]
      simp only [ha, hc, and_self, decide_true, if_true]
      by_cases hb : 0 ≤ b ∧ b ≤ a - 1 <;> simp [hb]
    · simp [ha]; split <;> simp_all <;> omega
  · simp; split <;> simp_all <;> omega
theorem spec_l02Apply_eq (A : Int) {a b c d x y : Int} (hA : 0 ≤ A) (hA2 : A ≤ 1000000000) (ha : -A ≤ a ∧ a ≤ A) (hb : -A ≤ b ∧ b ≤ A) (hc : -A ≤ c ∧ c ≤ A) (hd : -A ≤ d ∧ d ≤ A) (hx : -A ≤ x ∧ x ≤ A) (hy : -A ≤ y ∧ y ≤ A) :
    spec_l02Apply.f a b c d x y = some (a * x + b * y, c * x + d * y) := by
  unfold spec_l02Apply.f; rw [(lin_wrap A ha hb hx hy hA hA2).1, (lin_wrap A hc hd hx hy hA hA2).1]
theorem impl_Mat_apply_eq (A : Int) {a b c d x y : Int} (hA : 0 ≤ A) (hA2 : A ≤ 1000000000) (ha : -A ≤ a ∧ a ≤ A) (hb : -A ≤ b ∧ b ≤ A) (hc : -A ≤ c ∧ c ≤ A) (hd : -A ≤ d ∧ d ≤ A) (hx : -A ≤ x ∧ x ≤ A) (hy : -A ≤ y ∧ y ≤ A) :
    impl_Mat_apply.f a b c d x y = some (a * x + b * y, c * x + d * y) := by
  unfold impl_Mat_apply.f; rw [(lin_wrap A ha hb hx hy hA hA2).1, (lin_wrap A hc hd hx hy hA hA2).1]
theorem spec_IsFrame_eq (f : Int) : spec_IsFrame.f f = some (frameB f) := by
  unfold spec_IsFrame.f frameB
  by_cases h : f = 0
  · simp [h]
  · by_cases h' : f = 1 <;> simp [h, h']
theorem impl_IsFrame_eq (f : Int) : impl_IsFrame.f f = some (frameB f) := by
  unfold impl_IsFrame.f frameB; simp only [impl_within_eq, Option.bind_some]; congr 1; exact decide_eq_decide.mpr (by omega)
theorem spec_l04Norm_eq (f : Int) {x y : Int} (hf : f = 0 ∨ f = 1) (hx : -100000 ≤ x ∧ x ≤ 100000) (hy : -100000 ≤ y ∧ y ≤ 100000) : spec_l04Norm.f f x y = some (Nf f x y) := by
  have h1 := prod_bd hx.1 hx.2 hx.1 hx.2 (by omega)
  have h2 := prod_bd hy.1 hy.2 hy.1 hy.2 (by omega)
  have h3 := prod_bd hx.1 hx.2 hy.1 hy.2 (by omega)
  unfold spec_l04Norm.f Nf
  rw [wrap_id (x := x * x) (by omega) (by omega), wrap_id (x := y * y) (by omega) (by omega), wrap_id (x := x * y) (by omega) (by omega), wrap_id (x := x * x + y * y) (by omega) (by omega)]
  rcases hf with rfl | rfl
  · rw [if_neg (by omega), Int.zero_mul, Int.zero_mul]; congr 1; omega
  · rw [if_pos rfl, wrap_id (by omega) (by omega), Int.one_mul]; congr 1; omega
theorem impl_norm_eq (f : Int) {x y : Int} (hf : f = 0 ∨ f = 1) (hx : -100000 ≤ x ∧ x ≤ 100000) (hy : -100000 ≤ y ∧ y ≤ 100000) : impl_norm.f f x y = some (Nf f x y) := by
  have h1 := prod_bd hx.1 hx.2 hx.1 hx.2 (by omega)
  have h2 := prod_bd hy.1 hy.2 hy.1 hy.2 (by omega)
  have h3 := prod_bd hx.1 hx.2 hy.1 hy.2 (by omega)
  unfold impl_norm.f Nf
  rcases hf with rfl | rfl
  · simp only [Int.zero_mul]
    rw [wrap_id (x := x * x) (by omega) (by omega), wrap_id (x := y * y) (by omega) (by omega), wrap_id (x := 0) (by omega) (by omega), Int.zero_mul, wrap_id (x := 0) (by omega) (by omega), wrap_id (x := x * x + 0) (by omega) (by omega), wrap_id (by omega) (by omega)]
  · simp only [Int.one_mul]
    rw [wrap_id (x := x) (by omega) (by omega), wrap_id (x := x * x) (by omega) (by omega), wrap_id (x := y * y) (by omega) (by omega), wrap_id (x := x * y) (by omega) (by omega), wrap_id (x := x * x + x * y) (by omega) (by omega), wrap_id (by omega) (by omega)]
theorem frameB_iff {f : Int} : frameB f = true ↔ f = 0 ∨ f = 1 := by unfold frameB; exact decide_eq_true_iff
theorem impl_gcd_eq : ∀ (k : Nat) (a b : Int), b.natAbs < k → a.natAbs < 9223372036854775808 → b.natAbs < 9223372036854775808 → impl_gcd.l0 k a b = some (Int.gcd a b : Int) := by
  intro k
  induction k with
  | zero => intro a b h; omega
  | succ k ih =>
    intro a b h ha hb
    unfold impl_gcd.l0
    by_cases h0 : b = 0
    · subst h0; rw [if_pos rfl, mx_abs (by omega) (by omega), Int.gcd_zero_right]
    · rw [if_neg h0]
      have h1 := Int.natAbs_tmod a b
      have h2 := Nat.mod_lt a.natAbs (show 0 < b.natAbs by omega)
      rw [ih b (a.tmod b) (by omega) (by omega) (by omega), gcd_tmod]
theorem spec_l01Divisor_eq : ∀ (k : Nat) (a b : Int), b.natAbs < k → a.natAbs < 9223372036854775808 → b.natAbs < 9223372036854775808 → spec_l01Divisor.f k a b = some (Int.gcd a b : Int) := by
  intro k
  induction k with
  | zero => intro a b h; omega
  | succ k ih =>
    intro a b h ha hb
    unfold spec_l01Divisor.f
    by_cases h0 : b = 0
    · subst h0; rw [if_pos rfl, mx_abs (by omega) (by omega), Int.gcd_zero_right]
    · rw [if_neg h0]
      have h1 := Int.natAbs_tmod a b
      have h2 := Nat.mod_lt a.natAbs (show 0 < b.natAbs by omega)
      rw [ih b (a.tmod b) (by omega) (by omega) (by omega), gcd_tmod]; rfl
theorem spec_l01Mod_eq {a n : Int} (hn : 0 < n) (hn2 : n ≤ 1000000000000000000) : spec_l01Mod.f a n = some (a % n) := by
  unfold spec_l01Mod.f
  have hb := tmod_bounds a n hn
  rw [if_neg (by omega)]
  rw [wrap_id (by omega) (by omega)]
  have := mod_if a n hn
  split <;> rename_i h
  · rw [if_pos h] at this; rw [this]
  · rw [if_neg h] at this; rw [this]
theorem impl_mod_eq {a n : Int} (hn : 0 < n) (hn2 : n ≤ 1000000000000000000) : impl_mod.f a n = some (a % n) := by
  unfold impl_mod.f
  have hb := tmod_bounds a n hn
  rw [if_neg (by omega), wrap_id (by omega) (by omega), mod_add a n hn]
theorem reduce_bd {a b c x y : Int} (ha : 1 ≤ a ∧ a ≤ 64) (hc : 1 ≤ c ∧ c ≤ 64) (hb : 0 ≤ b ∧ b ≤ 63) (hx : -1000000 ≤ x ∧ x ≤ 1000000) (hy : -1000000 ≤ y ∧ y ≤ 1000000) :
    (0 ≤ y % c ∧ y % c < c) ∧ (-1000000 ≤ y / c ∧ y / c ≤ 1000000) ∧ (-63000000 ≤ y / c * b ∧ y / c * b ≤ 63000000) := by
  have h1 := Int.emod_nonneg y (show c ≠ 0 by omega)
  have h2 := Int.emod_lt_of_pos y (show 0 < c by omega)
  have h3 := Int.natAbs_ediv_le_natAbs y c
  have h4 := prod_bd (a := y / c) (b := b) (A := 1000000) (B := 63) (by omega) (by omega) (by omega) (by omega) (by omega)
  omega
theorem spec_l03Reduce_eq {a b c x y : Int} (ha : 1 ≤ a ∧ a ≤ 64) (hc : 1 ≤ c ∧ c ≤ 64) (hb : 0 ≤ b ∧ b ≤ 63) (hx : -1000000 ≤ x ∧ x ≤ 1000000) (hy : -1000000 ≤ y ∧ y ≤ 1000000) :
    spec_l03Reduce.f a b c x y = some (redV a b c x y) := by
  obtain ⟨h1, h2, h3⟩ := reduce_bd ha hc hb hx hy
  unfold spec_l03Reduce.f redV
  rw [spec_l01Mod_eq (by omega) (by omega)]
  simp only [Option.bind_some]
  rw [if_neg (by omega), wrap_id (x := y - y % c) (by omega) (by omega), tdiv_row y c (by omega), wrap_id (x := y / c) (by omega) (by omega), wrap_id (x := y / c * b) (by omega) (by omega), wrap_id (x := x - y / c * b) (by omega) (by omega), spec_l01Mod_eq (by omega) (by omega)]
  rfl
theorem reduce_bd' {a b c x y : Int} (ha : 1 ≤ a ∧ a ≤ 64) (hc : 1 ≤ c ∧ c ≤ 64) (hb : 0 ≤ b ∧ b ≤ 63) (hx : -1000000 ≤ x ∧ x ≤ 1000000) (hy : -1000000 ≤ y ∧ y ≤ 1000000) :
    (0 ≤ y % c ∧ y % c < c) ∧ (-1000000 ≤ y / c ∧ y / c ≤ 1000000) ∧ (-63000000 ≤ y / c * b ∧ y / c * b ≤ 63000000) := by
  have h1 := Int.emod_nonneg y (show c ≠ 0 by omega)
  have h2 := Int.emod_lt_of_pos y (show 0 < c by omega)
  have h3 := Int.natAbs_ediv_le_natAbs y c
  have h4 := prod_bd (a := y / c) (b := b) (A := 1000000) (B := 63) (by omega) (by omega) (by omega) (by omega) (by omega)
  omega
theorem impl_Lattice_reduce_eq {a b c x y : Int} (ha : 1 ≤ a ∧ a ≤ 64) (hc : 1 ≤ c ∧ c ≤ 64) (hb : 0 ≤ b ∧ b ≤ 63) (hx : -1000000 ≤ x ∧ x ≤ 1000000) (hy : -1000000 ≤ y ∧ y ≤ 1000000) :
    impl_Lattice_reduce.f a b c x y = some (redV a b c x y) := by
  obtain ⟨h1, h2, h3⟩ := reduce_bd' ha hc hb hx hy
  unfold impl_Lattice_reduce.f redV
  rw [impl_mod_eq (by omega) (by omega)]
  simp only [Option.bind_some]
  rw [if_neg (by omega), wrap_id (x := y - y % c) (by omega) (by omega), tdiv_row y c (by omega), wrap_id (x := y / c) (by omega) (by omega), wrap_id (x := y / c * b) (by omega) (by omega), wrap_id (x := x - y / c * b) (by omega) (by omega), impl_mod_eq (by omega) (by omega)]
  rfl
theorem spec_l03Has_eq {a b c x y : Int} (ha : 1 ≤ a ∧ a ≤ 64) (hc : 1 ≤ c ∧ c ≤ 64) (hb : 0 ≤ b ∧ b ≤ 63) (hx : -1000000 ≤ x ∧ x ≤ 1000000) (hy : -1000000 ≤ y ∧ y ≤ 1000000) :
    spec_l03Has.f a b c x y = some (hasB a b c x y) := by
  unfold spec_l03Has.f hasB
  rw [spec_l03Reduce_eq ha hc hb hx hy]; rfl
theorem impl_Lattice_has_eq {a b c x y : Int} (ha : 1 ≤ a ∧ a ≤ 64) (hc : 1 ≤ c ∧ c ≤ 64) (hb : 0 ≤ b ∧ b ≤ 63) (hx : -1000000 ≤ x ∧ x ≤ 1000000) (hy : -1000000 ≤ y ∧ y ≤ 1000000) :
    impl_Lattice_has.f a b c x y = some (hasB a b c x y) := by
  unfold impl_Lattice_has.f hasB
  rw [impl_Lattice_reduce_eq ha hc hb hx hy]; rfl
/-- A vector as the printed lists hold it. -/
def mkSV (v : Int × Int) : S47 := ⟨v.1, v.2⟩
theorem impl_euclid (l : List S47) (low len i : Int) : ∀ (n : Nat) (px py vx vy : Int) (M : Nat), M ≤ 10000000000000000 → vy.natAbs ≤ n → px.natAbs ≤ M → vx.natAbs ≤ M → py.natAbs ≤ 1000 → vy.natAbs ≤ 1000 →
    px.natAbs * vy.natAbs + vx.natAbs * py.natAbs ≤ M →
    ∃ px' py' vx', px'.natAbs ≤ M ∧ py'.natAbs ≤ 1000 ∧ vx'.natAbs ≤ M ∧ (∀ x y, S2 px' py' vx' 0 x y ↔ S2 px py vx vy x y) ∧
      ∀ (K : Nat) (R : Option (Int × Int × Int)), (∀ k, K ≤ k → impl_latticeOf.l1 k low l len i px' py' vx' 0 = R) → ∀ k, K + n ≤ k → impl_latticeOf.l1 k low l len i px py vx vy = R := by
  intro n
  induction n with
  | zero =>
    intro px py vx vy M hM hn h1 h2 h3 h4 hQ
    have h0 : vy = 0 := by omega
    subst h0
    exact ⟨px, py, vx, h1, h3, h2, fun x y => Iff.rfl, fun K R h k hk => h k (by omega)⟩
  | succ n ih =>
    intro px py vx vy M hM hn h1 h2 h3 h4 hQ
    by_cases h0 : vy = 0
    · subst h0
      exact ⟨px, py, vx, h1, h3, h2, fun x y => Iff.rfl, fun K R h k hk => h k (by omega)⟩
    · obtain ⟨e1, e2, e3, e4, e5, e6⟩ := euclid (px := px) (py := py) (vx := vx) h0 hQ
      obtain ⟨px', py', vx', b1, b2, b3, hs, hk⟩ := ih vx vy (px - py.tdiv vy * vx) (py - py.tdiv vy * vy) M hM (by omega) h2 e3 h4 (by omega) e6
      refine ⟨px', py', vx', b1, b2, b3, fun x y => (hs x y).trans (S2_step px py vx vy _ x y), fun K R h k hk' => ?_⟩
      obtain ⟨k, rfl⟩ : ∃ m, k = m + 1 := ⟨k - 1, by omega⟩
      rw [impl_latticeOf.l1, if_neg h0]
      unfold impl_Vec_times.f impl_Vec_add.f
      simp only [Option.bind_some]
      generalize py.tdiv vy = q at *
      rw [wrap_id (x := q) (by omega) (by omega), wrap_id (x := -q) (by omega) (by omega), Int.neg_mul, Int.neg_mul, wrap_id (x := -(q * vx)) (by omega) (by omega), wrap_id (x := -(q * vy)) (by omega) (by omega),
        ← Int.sub_eq_add_neg, ← Int.sub_eq_add_neg, wrap_id (x := px - q * vx) (by omega) (by omega), wrap_id (x := py - q * vy) (by omega) (by omega)]
      exact hk K R h k (by omega)
theorem impl_vec_step (l : List S47) (low len i ux uy px py : Int) (M : Nat) (hM : 1000 * M + 1000000 ≤ 10000000000000000) (hi : 0 ≤ i ∧ i ≤ 1000) (hl : low.natAbs ≤ M) (hl0 : 0 ≤ low) (hpx : px.natAbs ≤ M) (hpy : py.natAbs ≤ 1000) (hux : ux.natAbs ≤ 1000) (huy : uy.natAbs ≤ 1000) :
    ∃ low' px' py', low'.natAbs ≤ 1000 * M + 1000000 ∧ 0 ≤ low' ∧ px'.natAbs ≤ 1000 * M + 1000000 ∧ py'.natAbs ≤ 1000 ∧ plus low px py ux uy low' px' py' ∧
      ∀ (K : Nat) (R : Option (Int × Int × Int)), (∀ k, K ≤ k → impl_latticeOf.l0 k low' l len (i + 1) px' py' = R) → ∀ k, K + 1000 * M + 1003002 ≤ k → impl_latticeOf.l1 k low l len i px py ux uy = R := by
  have hq1 : px.natAbs * uy.natAbs ≤ M * 1000 := Nat.mul_le_mul hpx huy
  have hq2 : ux.natAbs * py.natAbs ≤ 1000 * 1000 := Nat.mul_le_mul hux hpy
  obtain ⟨px', py', vx', b1, b2, b3, hs, hk⟩ := impl_euclid l low len i 1000 px py ux uy (1000 * M + 1000000) hM huy (by omega) (by omega) hpy huy (by omega)
  have hg : Int.gcd low vx' ≤ 1000 * M + 1000000 := gcd_le_bd (by omega) b3
  refine ⟨(Int.gcd low vx' : Int), px', py', by omega, by omega, b1, b2, L_more hs rfl, fun K R h k hk' => ?_⟩
  refine hk (K + 1000 * M + 1000002) R (fun k hk'' => ?_) k (by omega)
  obtain ⟨k, rfl⟩ : ∃ m, k = m + 1 := ⟨k - 1, by omega⟩
  rw [impl_latticeOf.l1, if_pos rfl]
  unfold impl_gcd.f
  rw [impl_gcd_eq k low vx' (by omega) (by omega) (by omega), wrap_id (x := i + 1) (by omega) (by omega)]
  simp only [Option.bind_some]
  exact h k (by omega)
theorem impl_lattice_end (l : List S47) (low len px py : Int) (i : Int) (hi : ¬ i < len) (hl : 0 < low) (hl2 : low ≤ 1000000000000000000) (hp : px.natAbs ≤ 1000000000000000000) (hpy : py.natAbs ≤ 1000) (hy : py ≠ 0) :
    ∃ B C, 0 ≤ B ∧ B < low ∧ 0 < C ∧ (∀ x y, L low B C x y ↔ L low px py x y) ∧ ∀ k, 1 ≤ k → impl_latticeOf.l0 k low l len i px py = some (low, B, C) := by
  by_cases h : py < 0
  · refine ⟨(-px) % low, -py, Int.emod_nonneg _ (by omega), Int.emod_lt_of_pos _ hl, by omega, fun x y => (L_mod _ _ _ _ _).trans (L_neg _ _ _ _ _), fun k hk => ?_⟩
    obtain ⟨k, rfl⟩ : ∃ m, k = m + 1 := ⟨k - 1, by omega⟩
    rw [impl_latticeOf.l0, if_neg hi, if_pos h]
    unfold impl_Vec_times.f
    simp only [Option.bind_some]
    rw [Int.neg_one_mul, Int.neg_one_mul, wrap_id (x := -px) (by omega) (by omega), wrap_id (x := -py) (by omega) (by omega), impl_mod_eq hl hl2]; rfl
  · refine ⟨px % low, py, Int.emod_nonneg _ (by omega), Int.emod_lt_of_pos _ hl, by omega, fun x y => L_mod _ _ _ _ _, fun k hk => ?_⟩
    obtain ⟨k, rfl⟩ : ∃ m, k = m + 1 := ⟨k - 1, by omega⟩
    rw [impl_latticeOf.l0, if_neg hi, if_neg h, impl_mod_eq hl hl2]; rfl
theorem impl_latticeOf2 (u v : S47) (h1 : u.f0.natAbs ≤ 1000) (h2 : u.f1.natAbs ≤ 1000) (h3 : v.f0.natAbs ≤ 1000) (h4 : v.f1.natAbs ≤ 1000) (hd : u.f0 * v.f1 - u.f1 * v.f0 ≠ 0) :
    ∃ A B C, Herm (sp2 u.f0 u.f1 v.f0 v.f1) A B C ∧ ∀ k, 1003100000 ≤ k → impl_latticeOf.f k [u, v] = some (A, B, C) := by
  obtain ⟨l1, p1, q1, b1, b2, b3, b4, hp1, hk1⟩ := impl_vec_step [u, v] 0 2 0 u.f0 u.f1 0 0 0 (by omega) (by omega) (by simp) (by omega) (by simp) (by simp) h1 h2
  obtain ⟨l2, p2, q2, c1, c2, c3, c4, hp2, hk2⟩ := impl_vec_step [u, v] l1 2 1 v.f0 v.f1 p1 q1 1000000 (by omega) (by omega) (by omega) b2 (by omega) b4 h3 h4
  have hsp := plus_two hp1 hp2
  obtain ⟨r1, r2⟩ := L_rank ((hsp u.f0 u.f1).mpr ⟨1, 0, by omega, by omega⟩) ((hsp v.f0 v.f1).mpr ⟨0, 1, by omega, by omega⟩) hd
  obtain ⟨B, C, e1, e2, e3, e4, hk3⟩ := impl_lattice_end [u, v] l2 2 p2 q2 2 (by omega) (by omega) (by omega) (by omega) c4 r2
  refine ⟨l2, B, C, ⟨by omega, e3, e1, e2, fun x y => (e4 x y).trans (hsp x y)⟩, fun k hk => ?_⟩
  unfold impl_latticeOf.f
  obtain ⟨k, rfl⟩ : ∃ m, k = m + 1 := ⟨k - 1, by omega⟩
  simp only [List.length_cons, List.length_nil]
  rw [impl_latticeOf.l0, if_pos (by decide), if_pos (by decide), if_pos (by simp)]
  refine hk1 1001003100 _ (fun k hk => ?_) k (by omega)
  obtain ⟨k, rfl⟩ : ∃ m, k = m + 1 := ⟨k - 1, by omega⟩
  rw [impl_latticeOf.l0, if_pos (by decide), if_pos (by decide), if_pos (by simp)]
  refine hk2 1 _ (fun k hk => ?_) k (by omega)
  exact hk3 k hk
theorem spec_euclid (l : List S47) (low i : Int) : ∀ (n : Nat) (px py vx vy : Int) (M : Nat), M ≤ 10000000000000000 → vy.natAbs ≤ n → px.natAbs ≤ M → vx.natAbs ≤ M → py.natAbs ≤ 1000 → vy.natAbs ≤ 1000 →
    px.natAbs * vy.natAbs + vx.natAbs * py.natAbs ≤ M →
    ∃ px' py' vx', px'.natAbs ≤ M ∧ py'.natAbs ≤ 1000 ∧ vx'.natAbs ≤ M ∧ (∀ x y, S2 px' py' vx' 0 x y ↔ S2 px py vx vy x y) ∧
      ∀ (K : Nat) (R : Option (Int × Int × Int)), (∀ k, K ≤ k → spec_l03Hermite.l1 k l low i px' py' vx' 0 = R) → ∀ k, K + n ≤ k → spec_l03Hermite.l1 k l low i px py vx vy = R := by
  intro n
  induction n with
  | zero =>
    intro px py vx vy M hM hn h1 h2 h3 h4 hQ
    have h0 : vy = 0 := by omega
    subst h0
    exact ⟨px, py, vx, h1, h3, h2, fun x y => Iff.rfl, fun K R h k hk => h k (by omega)⟩
  | succ n ih =>
    intro px py vx vy M hM hn h1 h2 h3 h4 hQ
    by_cases h0 : vy = 0
    · subst h0
      exact ⟨px, py, vx, h1, h3, h2, fun x y => Iff.rfl, fun K R h k hk => h k (by omega)⟩
    · obtain ⟨e1, e2, e3, e4, e5, e6⟩ := euclid (px := px) (py := py) (vx := vx) h0 hQ
      obtain ⟨px', py', vx', b1, b2, b3, hs, hk⟩ := ih vx vy (px - py.tdiv vy * vx) (py - py.tdiv vy * vy) M hM (by omega) h2 e3 h4 (by omega) e6
      refine ⟨px', py', vx', b1, b2, b3, fun x y => (hs x y).trans (S2_step px py vx vy _ x y), fun K R h k hk' => ?_⟩
      obtain ⟨k, rfl⟩ : ∃ m, k = m + 1 := ⟨k - 1, by omega⟩
      rw [spec_l03Hermite.l1, if_neg h0]
      generalize py.tdiv vy = q at *
      rw [wrap_id (x := q) (by omega) (by omega), wrap_id (x := q * vx) (by omega) (by omega), wrap_id (x := q * vy) (by omega) (by omega), wrap_id (x := px - q * vx) (by omega) (by omega), wrap_id (x := py - q * vy) (by omega) (by omega)]
      exact hk K R h k (by omega)
theorem plus_mod {l p q ux uy l' p' q' : Int} (h : plus l p q ux uy l' p' q') : plus l p q ux uy l' (p' % l') q' := fun x y => (L_mod _ _ _ _ _).trans (h x y)
theorem spec_vec_step (l : List S47) (low i ux uy px py : Int) (M : Nat) (hM : 1000 * M + 1000000 ≤ 10000000000000000) (hi : 0 ≤ i ∧ i ≤ 1000) (hl : low.natAbs ≤ M) (hl0 : 0 ≤ low) (hpx : px.natAbs ≤ M) (hpy : py.natAbs ≤ 1000) (hux : ux.natAbs ≤ 1000) (huy : uy.natAbs ≤ 1000) :
    ∃ low' px' py', low'.natAbs ≤ 1000 * M + 1000000 ∧ 0 ≤ low' ∧ px'.natAbs ≤ 1000 * M + 1000000 ∧ py'.natAbs ≤ 1000 ∧ plus low px py ux uy low' px' py' ∧
      ∀ (K : Nat) (R : Option (Int × Int × Int)), (∀ k, K ≤ k → spec_l03Hermite.l0 k l low' (i + 1) px' py' = R) → ∀ k, K + 1000 * M + 1003002 ≤ k → spec_l03Hermite.l1 k l low i px py ux uy = R := by
  have hq1 : px.natAbs * uy.natAbs ≤ M * 1000 := Nat.mul_le_mul hpx huy
  have hq2 : ux.natAbs * py.natAbs ≤ 1000 * 1000 := Nat.mul_le_mul hux hpy
  obtain ⟨px', py', vx', b1, b2, b3, hs, hk⟩ := spec_euclid l low i 1000 px py ux uy (1000 * M + 1000000) hM huy (by omega) (by omega) hpy huy (by omega)
  have hg : Int.gcd low vx' ≤ 1000 * M + 1000000 := gcd_le_bd (by omega) b3
  have hp : plus low px py ux uy (Int.gcd low vx' : Int) px' py' := L_more hs rfl
  by_cases hg0 : (Int.gcd low vx' : Int) > 0
  · have m1 := Int.emod_nonneg px' (show (Int.gcd low vx' : Int) ≠ 0 by omega)
    have m2 := Int.emod_lt_of_pos px' (show 0 < (Int.gcd low vx' : Int) by omega)
    refine ⟨(Int.gcd low vx' : Int), px' % (Int.gcd low vx' : Int), py', by omega, by omega, by omega, b2, plus_mod hp, fun K R h k hk' => ?_⟩
    refine hk (K + 1000 * M + 1000002) R (fun k hk'' => ?_) k (by omega)
    obtain ⟨k, rfl⟩ : ∃ m, k = m + 1 := ⟨k - 1, by omega⟩
    rw [spec_l03Hermite.l1, if_pos rfl, spec_l01Divisor_eq k low vx' (by omega) (by omega) (by omega), wrap_id (x := i + 1) (by omega) (by omega)]
    simp only [Option.bind_some]
    rw [if_pos hg0, spec_l01Mod_eq (by omega) (by omega)]
    exact h k (by omega)
  · refine ⟨(Int.gcd low vx' : Int), px', py', by omega, by omega, b1, b2, hp, fun K R h k hk' => ?_⟩
    refine hk (K + 1000 * M + 1000002) R (fun k hk'' => ?_) k (by omega)
    obtain ⟨k, rfl⟩ : ∃ m, k = m + 1 := ⟨k - 1, by omega⟩
    rw [spec_l03Hermite.l1, if_pos rfl, spec_l01Divisor_eq k low vx' (by omega) (by omega) (by omega), wrap_id (x := i + 1) (by omega) (by omega)]
    simp only [Option.bind_some]
    rw [if_neg hg0]
    exact h k (by omega)
theorem spec_lattice_end (l : List S47) (low px py : Int) (i : Int) (hi : ¬ i < (l.length : Int)) (hl : 0 < low) (hl2 : low ≤ 1000000000000000000) (hp : px.natAbs ≤ 1000000000000000000) (hpy : py.natAbs ≤ 1000) (hy : py ≠ 0) :
    ∃ B C, 0 ≤ B ∧ B < low ∧ 0 < C ∧ (∀ x y, L low B C x y ↔ L low px py x y) ∧ ∀ k, 1 ≤ k → spec_l03Hermite.l0 k l low i px py = some (low, B, C) := by
  by_cases h : py < 0
  · refine ⟨(-px) % low, -py, Int.emod_nonneg _ (by omega), Int.emod_lt_of_pos _ hl, by omega, fun x y => (L_mod _ _ _ _ _).trans (L_neg _ _ _ _ _), fun k hk => ?_⟩
    obtain ⟨k, rfl⟩ : ∃ m, k = m + 1 := ⟨k - 1, by omega⟩
    rw [spec_l03Hermite.l0, if_neg hi, if_pos h]
    unfold spec_l01Scale.f
    simp only [Option.bind_some]
    rw [if_pos (by omega), Int.neg_one_mul, Int.neg_one_mul, wrap_id (x := -px) (by omega) (by omega), wrap_id (x := -py) (by omega) (by omega), spec_l01Mod_eq hl hl2]; rfl
  · refine ⟨px % low, py, Int.emod_nonneg _ (by omega), Int.emod_lt_of_pos _ hl, by omega, fun x y => L_mod _ _ _ _ _, fun k hk => ?_⟩
    obtain ⟨k, rfl⟩ : ∃ m, k = m + 1 := ⟨k - 1, by omega⟩
    rw [spec_l03Hermite.l0, if_neg hi, if_neg h, if_pos (by omega), spec_l01Mod_eq hl hl2]; rfl
theorem spec_hermite2 (u v : S47) (h1 : u.f0.natAbs ≤ 1000) (h2 : u.f1.natAbs ≤ 1000) (h3 : v.f0.natAbs ≤ 1000) (h4 : v.f1.natAbs ≤ 1000) (hd : u.f0 * v.f1 - u.f1 * v.f0 ≠ 0) :
    ∃ A B C, Herm (sp2 u.f0 u.f1 v.f0 v.f1) A B C ∧ ∀ k, 1003100000 ≤ k → spec_l03Hermite.f k [u, v] = some (A, B, C) := by
  obtain ⟨l1, p1, q1, b1, b2, b3, b4, hp1, hk1⟩ := spec_vec_step [u, v] 0 0 u.f0 u.f1 0 0 0 (by omega) (by omega) (by simp) (by omega) (by simp) (by simp) h1 h2
  obtain ⟨l2, p2, q2, c1, c2, c3, c4, hp2, hk2⟩ := spec_vec_step [u, v] l1 1 v.f0 v.f1 p1 q1 1000000 (by omega) (by omega) (by omega) b2 (by omega) b4 h3 h4
  have hsp := plus_two hp1 hp2
  obtain ⟨r1, r2⟩ := L_rank ((hsp u.f0 u.f1).mpr ⟨1, 0, by omega, by omega⟩) ((hsp v.f0 v.f1).mpr ⟨0, 1, by omega, by omega⟩) hd
  obtain ⟨B, C, e1, e2, e3, e4, hk3⟩ := spec_lattice_end [u, v] l2 p2 q2 2 (by simp) (by omega) (by omega) (by omega) c4 r2
  refine ⟨l2, B, C, ⟨by omega, e3, e1, e2, fun x y => (e4 x y).trans (hsp x y)⟩, fun k hk => ?_⟩
  unfold spec_l03Hermite.f
  obtain ⟨k, rfl⟩ : ∃ m, k = m + 1 := ⟨k - 1, by omega⟩
  rw [spec_l03Hermite.l0, if_pos (by simp), if_pos (by decide)]
  refine hk1 1001003100 _ (fun k hk => ?_) k (by omega)
  obtain ⟨k, rfl⟩ : ∃ m, k = m + 1 := ⟨k - 1, by omega⟩
  rw [spec_l03Hermite.l0, if_pos (by simp), if_pos (by decide)]
  refine hk2 1 _ (fun k hk => ?_) k (by omega)
  exact hk3 k hk
theorem impl_LatticeOf_is {ux uy vx vy : Int} (hu : vecB ux uy = true) (hv : vecB vx vy = true) (hd : ux * vy - uy * vx ≠ 0) :
    ∃ A B C, Herm (sp2 ux uy vx vy) A B C ∧ ∀ k, 1003100001 ≤ k → impl_LatticeOf.f k ux uy vx vy = some (if latB A B C = true then (A, B, C, 0) else (0, 0, 0, 3)) := by
  have h1 := vecB_iff.mp hu
  have h2 := vecB_iff.mp hv
  have hw := (det_wrap (a := ux) (b := uy) (c := vx) (d := vy) (by rw [smallB_iff]; omega))
  obtain ⟨A, B, C, hh, hk⟩ := impl_latticeOf2 ⟨ux, uy⟩ ⟨vx, vy⟩ (by simp only; omega) (by simp only; omega) (by simp only; omega) (by simp only; omega) hd
  refine ⟨A, B, C, hh, fun k hk' => ?_⟩
  obtain ⟨k, rfl⟩ : ∃ m, k = m + 1 := ⟨k - 1, by omega⟩
  have hi := hh.index
  simp only at hi
  have hA := hh.1
  have hC := hh.2.1
  have hAC : A ≤ A * C := le_mul_r (by omega) (by omega)
  have hCA : C ≤ A * C := le_mul_l (by omega) (by omega)
  unfold impl_LatticeOf.f
  simp only [impl_IsVec_eq, hu, hv, Option.bind_some, if_true, Bool.not_true, impl_LatticeOf.j0, Bool.false_eq_true, if_false, impl_det.f, hw.1]
  rw [if_neg hd, mx_abs (by omega) (by omega)]
  by_cases hg : latB A B C = true
  · have hl := latB_iff.mp hg
    rw [if_pos hg, if_neg (by omega), hk k (by omega)]; rfl
  · have hb1 := hh.2.2.1
    have hb2 := hh.2.2.2.1
    have : ¬ A * C ≤ 64 := fun hq => hg (latB_iff.mpr ⟨by omega, by omega, by omega, hq⟩)
    rw [if_neg hg, if_pos (by omega)]
def pm0 : List S51 := [⟨-1, 0, 0, -1⟩, ⟨-1, 0, 0, 1⟩, ⟨0, -1, -1, 0⟩, ⟨0, -1, 1, 0⟩, ⟨0, 1, -1, 0⟩, ⟨0, 1, 1, 0⟩, ⟨1, 0, 0, -1⟩, ⟨1, 0, 0, 1⟩]
def pm1 : List S51 := [⟨-1, -1, 0, 1⟩, ⟨-1, -1, 1, 0⟩, ⟨-1, 0, 0, -1⟩, ⟨-1, 0, 1, 1⟩, ⟨0, -1, -1, 0⟩, ⟨0, -1, 1, 1⟩, ⟨0, 1, -1, -1⟩, ⟨0, 1, 1, 0⟩, ⟨1, 0, -1, -1⟩, ⟨1, 0, 0, 1⟩, ⟨1, 1, -1, 0⟩, ⟨1, 1, 0, -1⟩]
def pmL (f : Int) : List S51 := if f = 0 then pm0 else pm1
theorem pmL_len (f : Int) : (pmL f).length ≤ 12 := by unfold pmL; split <;> decide
def keepsB (f a b c d : Int) : Bool := Nf f a c == 1 && Nf f b d == 1 && Nf f (a + b) (c + d) == 2 + f
theorem pm_mem (f a b c d : Int) (hf : f = 0 ∨ f = 1) : (smallB a b c d = true ∧ keepsB f a b c d = true) ↔ (⟨a, b, c, d⟩ : S51) ∈ pmL f := by
  constructor
  · rintro ⟨hs, hk⟩
    have hk' := hk
    unfold keepsB at hk'
    simp only [Bool.and_eq_true, beq_iff_eq] at hk'
    obtain ⟨⟨h1, h2⟩, h3⟩ := hk'
    have b1 := Nf_box (m := 1) (N := 1) hf (by omega) (show Nf f a c ≤ 1 by omega) (by omega)
    have b2 := Nf_box (m := 1) (N := 1) hf (by omega) (show Nf f b d ≤ 1 by omega) (by omega)
    have ha : a = -1 ∨ a = 0 ∨ a = 1 := by omega
    have hb : b = -1 ∨ b = 0 ∨ b = 1 := by omega
    have hc : c = -1 ∨ c = 0 ∨ c = 1 := by omega
    have hd : d = -1 ∨ d = 0 ∨ d = 1 := by omega
    clear h1 h2 h3 b1 b2 hs
    rcases hf with rfl | rfl
    · rcases ha with rfl | rfl | rfl <;> rcases hb with rfl | rfl | rfl <;> rcases hc with rfl | rfl | rfl <;> rcases hd with rfl | rfl | rfl <;> first | (exfalso; revert hk; decide) | simp [pmL, pm0]
    · rcases ha with rfl | rfl | rfl <;> rcases hb with rfl | rfl | rfl <;> rcases hc with rfl | rfl | rfl <;> rcases hd with rfl | rfl | rfl <;> first | (exfalso; revert hk; decide) | simp [pmL, pm1]
  · intro h
    rcases hf with rfl | rfl
    · simp only [pmL, pm0, if_true, List.mem_cons, S51.mk.injEq, List.not_mem_nil, or_false] at h
      rcases h with ⟨rfl, rfl, rfl, rfl⟩ | ⟨rfl, rfl, rfl, rfl⟩ | ⟨rfl, rfl, rfl, rfl⟩ | ⟨rfl, rfl, rfl, rfl⟩ | ⟨rfl, rfl, rfl, rfl⟩ | ⟨rfl, rfl, rfl, rfl⟩ | ⟨rfl, rfl, rfl, rfl⟩ | ⟨rfl, rfl, rfl, rfl⟩ <;> decide
    · have e : pmL 1 = pm1 := by unfold pmL; rw [if_neg (by decide)]
      rw [e] at h
      simp only [pm1, List.mem_cons, S51.mk.injEq, List.not_mem_nil, or_false] at h
      rcases h with ⟨rfl, rfl, rfl, rfl⟩ | ⟨rfl, rfl, rfl, rfl⟩ | ⟨rfl, rfl, rfl, rfl⟩ | ⟨rfl, rfl, rfl, rfl⟩ | ⟨rfl, rfl, rfl, rfl⟩ | ⟨rfl, rfl, rfl, rfl⟩ | ⟨rfl, rfl, rfl, rfl⟩ | ⟨rfl, rfl, rfl, rfl⟩ | ⟨rfl, rfl, rfl, rfl⟩ | ⟨rfl, rfl, rfl, rfl⟩ | ⟨rfl, rfl, rfl, rfl⟩ | ⟨rfl, rfl, rfl, rfl⟩ <;> decide
/-- What a point matrix is: its numbers and its determinant. -/
theorem pm_facts {f a b c d : Int} (hf : f = 0 ∨ f = 1) (h : (⟨a, b, c, d⟩ : S51) ∈ pmL f) : (-1 ≤ a ∧ a ≤ 1) ∧ (-1 ≤ b ∧ b ≤ 1) ∧ (-1 ≤ c ∧ c ≤ 1) ∧ (-1 ≤ d ∧ d ≤ 1) ∧ (a * d - b * c = 1 ∨ a * d - b * c = -1) := by
  rcases hf with rfl | rfl
  · simp only [pmL, pm0, if_true, List.mem_cons, S51.mk.injEq, List.not_mem_nil, or_false] at h
    rcases h with ⟨rfl, rfl, rfl, rfl⟩ | ⟨rfl, rfl, rfl, rfl⟩ | ⟨rfl, rfl, rfl, rfl⟩ | ⟨rfl, rfl, rfl, rfl⟩ | ⟨rfl, rfl, rfl, rfl⟩ | ⟨rfl, rfl, rfl, rfl⟩ | ⟨rfl, rfl, rfl, rfl⟩ | ⟨rfl, rfl, rfl, rfl⟩ <;> decide
  · have e : pmL 1 = pm1 := by unfold pmL; rw [if_neg (by decide)]
    rw [e] at h
    simp only [pm1, List.mem_cons, S51.mk.injEq, List.not_mem_nil, or_false] at h
    rcases h with ⟨rfl, rfl, rfl, rfl⟩ | ⟨rfl, rfl, rfl, rfl⟩ | ⟨rfl, rfl, rfl, rfl⟩ | ⟨rfl, rfl, rfl, rfl⟩ | ⟨rfl, rfl, rfl, rfl⟩ | ⟨rfl, rfl, rfl, rfl⟩ | ⟨rfl, rfl, rfl, rfl⟩ | ⟨rfl, rfl, rfl, rfl⟩ | ⟨rfl, rfl, rfl, rfl⟩ | ⟨rfl, rfl, rfl, rfl⟩ | ⟨rfl, rfl, rfl, rfl⟩ | ⟨rfl, rfl, rfl, rfl⟩ <;> decide
/-- Is a matrix a point matrix of a frame? -/
def pmB (f a b c d : Int) : Bool := frameB f && matB a b c d && keepsB f a b c d
theorem pmB_iff {f a b c d : Int} : pmB f a b c d = true ↔ (f = 0 ∨ f = 1) ∧ (⟨a, b, c, d⟩ : S51) ∈ pmL f := by
  unfold pmB
  simp only [Bool.and_eq_true]
  constructor
  · rintro ⟨⟨h1, h2⟩, h3⟩
    have hf : f = 0 ∨ f = 1 := by simpa [frameB] using h1
    exact ⟨hf, (pm_mem f a b c d hf).mp ⟨(matB_iff.mp h2).1, h3⟩⟩
  · rintro ⟨hf, h⟩
    obtain ⟨h1, h2⟩ := (pm_mem f a b c d hf).mpr h
    have h3 := pm_facts hf h
    exact ⟨⟨by simpa [frameB] using hf, matB_iff.mpr ⟨h1, h3.2.2.2.2⟩⟩, h2⟩
set_option maxRecDepth 100000 in
theorem impl_pm0 (k : Nat) : impl_pointMats.f (k + 82) 0 = some pm0 := by kernel_rfl
set_option maxRecDepth 100000 in
theorem impl_pm1 (k : Nat) : impl_pointMats.f (k + 82) 1 = some pm1 := by kernel_rfl
theorem impl_pointMats_eq (k : Nat) (hk : 82 ≤ k) {f : Int} (hf : f = 0 ∨ f = 1) : impl_pointMats.f k f = some (pmL f) := by
  obtain ⟨k, rfl⟩ : ∃ m, k = m + 82 := ⟨k - 82, by omega⟩
  rcases hf with rfl | rfl
  · rw [impl_pm0]; rfl
  · rw [impl_pm1]; rfl
set_option maxRecDepth 100000 in
theorem spec_pm0 (k : Nat) : spec_l04Mats.f (k + 82) 0 = some pm0 := by kernel_rfl
set_option maxRecDepth 100000 in
theorem spec_pm1 (k : Nat) : spec_l04Mats.f (k + 82) 1 = some pm1 := by kernel_rfl
theorem spec_l04Mats_eq (k : Nat) (hk : 82 ≤ k) {f : Int} (hf : f = 0 ∨ f = 1) : spec_l04Mats.f k f = some (pmL f) := by
  obtain ⟨k, rfl⟩ : ∃ m, k = m + 82 := ⟨k - 82, by omega⟩
  rcases hf with rfl | rfl
  · rw [spec_pm0]; rfl
  · rw [spec_pm1]; rfl
theorem rd_mat_at (pre : List S51) (v : S51) (t : List S51) (i : Int) (hi : i = pre.length) : rd_T51 (pre ++ v :: t) i = v := by
  subst hi; unfold rd_T51; simp
theorem mat_index (a b c d : Int) : ∀ (t pre : List S51) (k : Nat) (n : Int), n = ((pre ++ t).length : Int) → (pre ++ t).length ≤ 1000 → t.length < k →
    ∃ j, impl_Mat_151.l0 k (pre ++ t) n (pre.length : Int) a b c d = some j ∧ (0 ≤ j ↔ (⟨a, b, c, d⟩ : S51) ∈ t) := by
  intro t
  induction t with
  | nil =>
    intro pre k n hn hl hk
    obtain ⟨k, rfl⟩ : ∃ m, k = m + 1 := ⟨k - 1, by omega⟩
    refine ⟨-1, ?_, by simp⟩
    rw [impl_Mat_151.l0, if_neg (by rw [hn]; simp)]
  | cons x t ih =>
    intro pre k n hn hl hk
    obtain ⟨k, rfl⟩ : ∃ m, k = m + 1 := ⟨k - 1, by omega⟩
    simp only [List.length_append, List.length_cons] at hn hl hk
    rw [impl_Mat_151.l0, if_pos (by omega), if_pos (by omega), if_pos (by simp; omega), rd_mat_at pre x t _ rfl, wrap_id (x := (pre.length : Int) + 1) (by omega) (by omega)]
    obtain ⟨x0, x1, x2, x3⟩ := x
    by_cases h : a = x0 ∧ b = x1 ∧ c = x2 ∧ d = x3
    · refine ⟨(pre.length : Int), ?_, ?_⟩
      · rw [if_pos (by simpa using h)]
      · obtain ⟨rfl, rfl, rfl, rfl⟩ := h; simp
    · rw [if_neg (by simpa using h)]
      obtain ⟨j, h1, h2⟩ := ih (pre ++ [⟨x0, x1, x2, x3⟩]) k n (by simp; omega) (by simp; omega) (by omega)
      refine ⟨j, ?_, ?_⟩
      · rw [← h1]; simp
      · rw [h2]; simp only [List.mem_cons, S51.mk.injEq]
        constructor
        · intro q; exact Or.inr q
        · rintro (q | q)
          · exact absurd q h
          · exact q
theorem impl_IsPointMat_eq (k : Nat) (hk : 82 ≤ k) (f a b c d : Int) : impl_IsPointMat.f k f a b c d = some (pmB f a b c d) := by
  unfold impl_IsPointMat.f impl_Mat_122.f impl_Mat_151.f
  simp only [impl_IsFrame_eq, Option.bind_some]
  by_cases h1 : frameB f = true
  · have hf : f = 0 ∨ f = 1 := by simpa [frameB] using h1
    have hl := pmL_len f
    rw [if_pos h1, impl_pointMats_eq k hk hf]
    simp only [Option.bind_some]
    obtain ⟨j, h2, h3⟩ := mat_index a b c d (pmL f) [] k ((pmL f).length : Int) rfl (by simp; omega) (by omega)
    simp only [List.nil_append, List.length_nil] at h2
    rw [show ((0 : Nat) : Int) = 0 from rfl] at h2
    rw [h2]
    simp only [Option.bind_some]
    congr 1
    rw [Bool.eq_iff_iff, pmB_iff, decide_eq_true_iff]
    constructor
    · intro q; exact ⟨hf, h3.mp q⟩
    · intro q; exact h3.mpr q.2
  · rw [if_neg h1]
    unfold pmB
    simp [h1]
def St (l : List Int) (p s : Int) : Prop := (l.length : Int) ≤ 4096 ∧ (∀ x ∈ l, 0 ≤ x ∧ x < 256) ∧ 0 ≤ p ∧ p ≤ (l.length : Int) ∧ 0 ≤ s ∧ s < 2147483647
theorem rd_mem {l : List Int} {i : Int} (h0 : 0 ≤ i) (h1 : i < (l.length : Int)) : rd l i ∈ l := by
  unfold rd
  have h : i.toNat < l.length := by omega
  have e : l.getD i.toNat 0 = l[i.toNat] := by simp [List.getD, h]
  rw [e]
  exact List.getElem_mem h
theorem tm_bd {X n : Int} (hX : 0 ≤ X) (hn : 0 < n) : 0 ≤ Int.tmod X n ∧ Int.tmod X n < n := ⟨Int.tmod_nonneg n hX, Int.tmod_lt_of_pos X hn⟩
theorem next_eq {l : List Int} {p s : Int} (h : St l p s) (n : Int) : ∃ r p' s', spec_l01Next.f l p s n = some (r, p', s') ∧ St l p' s' ∧ 0 ≤ r ∧ (r < n ∨ r = 0) := by
  have h0 := h
  obtain ⟨hl, hb, hp0, hp1, hs0, hs1⟩ := h
  unfold spec_l01Next.f
  by_cases hn : n ≤ 1
  · rw [if_pos hn]; exact ⟨0, p, s, rfl, h0, by omega, .inr rfl⟩
  rw [if_neg hn]
  rw [wrap_id (x := s * 48271) (by omega) (by omega), wrap_id (x := s * 48271 + 67) (by omega) (by omega)]
  obtain ⟨a1, a2⟩ := tm_bd (X := s * 48271 + 67) (n := 2147483647) (by omega) (by decide)
  generalize Int.tmod (s * 48271 + 67) 2147483647 = S at a1 a2
  have q0 : 0 ≤ Int.tdiv S 37 ∧ Int.tdiv S 37 ≤ S := by rw [Int.tdiv_eq_ediv_of_nonneg a1]; omega
  have q1 : wrap64 (Int.tdiv S 37) = Int.tdiv S 37 := wrap_id (by omega) (by omega)
  by_cases hp : p < (l.length : Int)
  · rw [if_pos hp, if_pos hp0]
    have m := hb _ (rd_mem hp0 hp)
    rw [wrap_id (x := p + 1) (by omega) (by omega), wrap_id (x := p + 1 - 1) (by omega) (by omega), Int.add_sub_cancel]
    have w1 : wrap64 (rd l p) = rd l p := wrap_id (by omega) (by omega)
    rw [q1, w1, wrap_id (x := Int.tdiv S 37 + rd l p) (by omega) (by omega), if_neg (show ¬ n = 0 by omega), if_neg (show ¬ n = 0 by omega)]
    have t1 := tm_bd (X := rd l p) (n := n) m.1 (by omega)
    have t2 := tm_bd (X := Int.tdiv S 37 + rd l p) (n := n) (by omega) (by omega)
    have st : St l (p + 1) S := ⟨hl, hb, by omega, by omega, a1, a2⟩
    split
    · split
      · exact ⟨_, _, _, rfl, st, t1.1, .inl t1.2⟩
      · exact ⟨_, _, _, rfl, st, t2.1, .inl t2.2⟩
    · exact ⟨_, _, _, rfl, st, t2.1, .inl t2.2⟩
  · rw [if_neg hp, if_neg (show ¬ n = 0 by omega), q1]
    have t1 := tm_bd (X := Int.tdiv S 37) (n := n) (by omega) (by omega)
    exact ⟨_, _, _, rfl, ⟨hl, hb, hp0, hp1, a1, a2⟩, t1.1, .inl t1.2⟩
theorem from_loop {l : List Int} (hl : (l.length : Int) ≤ 4096) (hb : ∀ x ∈ l, 0 ≤ x ∧ x < 256) (p : Int) : ∀ (k : Nat) (i s : Int), 0 ≤ i → i ≤ 64 → 64 - i < (k : Int) → 0 ≤ s → s < 2147483647 →
    ∃ s', spec_l01From.l0 k l i l p s = some (l, p, s') ∧ 0 ≤ s' ∧ s' < 2147483647
  | 0, i, s, h0, h1, h2, _, _ => by omega
  | k + 1, i, s, h0, h1, h2, h3, h4 => by
    unfold spec_l01From.l0
    by_cases hi : i < (l.length : Int)
    · rw [if_pos hi]
      by_cases h6 : i < 64
      · rw [if_pos h6, if_pos h0]
        have m := hb _ (rd_mem h0 hi)
        rw [wrap_id (x := i + 1) (by omega) (by omega), wrap_id (x := rd l i) (by omega) (by omega), wrap_id (x := s * 73) (by omega) (by omega), wrap_id (x := s * 73 + rd l i) (by omega) (by omega)]
        have t := tm_bd (X := s * 73 + rd l i) (n := 2147483647) (by omega) (by decide)
        exact from_loop hl hb p k (i + 1) _ (by omega) (by omega) (by omega) t.1 t.2
      · rw [if_neg h6]; exact ⟨s, rfl, h3, h4⟩
    · rw [if_neg hi]; exact ⟨s, rfl, h3, h4⟩
theorem from_eq {l : List Int} (hl : (l.length : Int) ≤ 4096) (hb : ∀ x ∈ l, 0 ≤ x ∧ x < 256) (k : Nat) (hk : 65 ≤ k) : ∃ p s, spec_l01From.f k l = some (l, p, s) ∧ St l p s := by
  obtain ⟨s, e, h1, h2⟩ := from_loop hl hb 0 k 0 93001 (by omega) (by omega) (by omega) (by omega) (by omega)
  exact ⟨0, s, e, hl, hb, by omega, by omega, h1, h2⟩
theorem pick_eq {l : List Int} {p s : Int} (h : St l p s) (L : List Int) (hL : 0 < L.length) : ∃ v p' s', spec_l01Pick.f l p s L = some (v, p', s') ∧ St l p' s' ∧ v ∈ L := by
  unfold spec_l01Pick.f
  obtain ⟨r, p', s', e, hs, b1, b2⟩ := next_eq h (L.length : Int)
  rw [e]
  simp only [Option.bind_some]
  have hr : r < (L.length : Int) := by rcases b2 with b | b <;> omega
  rw [if_pos b1, if_pos hr]
  exact ⟨_, _, _, rfl, hs, rd_mem b1 hr⟩
theorem big_eq (l : List Int) : laws_big.f l = some (decide ((l.length : Int) > 4096)) := rfl
def frLat (f a b c : Int) : Bool := frameB f && latB a b c
theorem spec_l04Code_eq (f a b c : Int) (w : -9223372036854775808 ≤ a ∧ a < 9223372036854775808) : spec_l04Code.f f a b c = some (if frLat f a b c = true then 0 else 1) := by
  unfold spec_l04Code.f frLat
  simp only [spec_IsFrame_eq, spec_IsLattice_eq a b c w.1 w.2, Option.bind_some]
  cases frameB f <;> cases latB a b c <;> rfl
theorem impl_frameCode_eq (f a b c : Int) (w : -9223372036854775808 ≤ a ∧ a < 9223372036854775808) : impl_frameCode.f f a b c = some (if frLat f a b c = true then 0 else 1) := by
  unfold impl_frameCode.f frLat
  simp only [impl_IsFrame_eq, impl_IsLattice_eq a b c w.1 w.2, Option.bind_some]
  cases frameB f <;> cases latB a b c <;> rfl
theorem impl_around_row (n x : Int) (hn : 0 ≤ n ∧ n ≤ 200) (k : Nat) : ∀ (d : Nat) (y : Int) (out : List S47), y + d = n + 1 → -200 ≤ y → out.length + d ≤ 1000000 →
    impl_vecsAround.l1 (k + d + 1) n out x y = impl_vecsAround.l0 k n (out ++ (rowF x y d).map mkSV) (wrap64 (x + 1)) := by
  intro d
  induction d with
  | zero => intro y out h0 hy hl; rw [impl_vecsAround.l1, if_neg (by omega)]; simp [rowF]
  | succ d ih =>
    intro y out h0 hy hl
    rw [show k + (d + 1) + 1 = (k + d + 1) + 1 by omega, impl_vecsAround.l1, if_pos (by omega), if_pos (by omega), wrap_id (x := y + 1) (by omega) (by omega), ih (y + 1) _ (by omega) (by omega) (by simp; omega)]
    simp [rowF, mkSV]
theorem impl_around_box (n : Nat) (hn : n ≤ 200) (k : Nat) : ∀ (d : Nat) (x : Int) (out : List S47), x + d = n + 1 → -200 ≤ x → out.length + d * (2 * n + 1) ≤ 900000 →
    impl_vecsAround.l0 (k + d * (2 * n + 1 + 2) + 1) n out x = some (out ++ (boxF (-n) (2 * n + 1) x d).map mkSV) := by
  intro d
  induction d with
  | zero => intro x out h0 hx hl; rw [impl_vecsAround.l0, if_neg (by omega)]; simp [boxF]
  | succ d ih =>
    intro x out h0 hx hl
    have e : k + (d + 1) * (2 * n + 1 + 2) + 1 = ((k + d * (2 * n + 1 + 2) + 1) + (2 * n + 1) + 1) + 1 := by rw [Nat.add_mul]; omega
    rw [Nat.add_mul] at hl
    rw [e, impl_vecsAround.l0, if_pos (by omega), wrap_id (x := -(n : Int)) (by omega) (by omega), impl_around_row n x (by omega) _ (2 * n + 1) (-n) out (by omega) (by omega) (by omega), wrap_id (x := x + 1) (by omega) (by omega), ih (x + 1) _ (by omega) (by omega) (by simp [rowF_len]; omega)]
    simp [boxF]
theorem impl_vecsAround_eq (n : Nat) (hn : n ≤ 200) (k : Nat) (hk : 200000 ≤ k) : impl_vecsAround.f k n = some ((box n).map mkSV) := by
  unfold impl_vecsAround.f box
  have h1 : (2 * n + 1) * (2 * n + 1 + 2) ≤ 401 * 403 := Nat.mul_le_mul (by omega) (by omega)
  have h2 : (2 * n + 1) * (2 * n + 1) ≤ 401 * 401 := Nat.mul_le_mul (by omega) (by omega)
  obtain ⟨j, rfl⟩ : ∃ j, k = j + (2 * n + 1) * (2 * n + 1 + 2) + 1 := ⟨k - (2 * n + 1) * (2 * n + 1 + 2) - 1, by omega⟩
  rw [wrap_id (x := -(n : Int)) (by omega) (by omega), impl_around_box n hn j (2 * n + 1) (-n) [] (by omega) (by omega) (by simp; omega)]; simp
def nearP (f N : Int) (v : Int × Int) : Bool := decide (Nf f v.1 v.2 ≤ N)
theorem spec_near_row (f N n x : Int) (hf : f = 0 ∨ f = 1) (hn : 0 ≤ n ∧ n ≤ 200) (hx : -200 ≤ x ∧ x ≤ 200) (k : Nat) : ∀ (d : Nat) (y : Int) (out : List S47), y + d = n + 1 → -200 ≤ y → out.length + d ≤ 1000000 →
    spec_l04Near.l1 (k + d + 1) f N n out x y = spec_l04Near.l0 k f N n (out ++ ((rowF x y d).filter (nearP f N)).map mkSV) (wrap64 (x + 1)) := by
  intro d
  induction d with
  | zero => intro y out h0 hy hl; rw [spec_l04Near.l1, if_neg (by omega)]; simp [rowF]
  | succ d ih =>
    intro y out h0 hy hl
    rw [show k + (d + 1) + 1 = (k + d + 1) + 1 by omega, spec_l04Near.l1, if_pos (by omega), spec_l04Norm_eq f hf (by omega) (by omega)]
    simp only [Option.bind_some]
    rw [wrap_id (x := y + 1) (by omega) (by omega)]
    by_cases hN : Nf f x y ≤ N
    · rw [if_pos hN, if_pos (by omega), ih (y + 1) _ (by omega) (by omega) (by simp; omega)]
      have e : nearP f N (x, y) = true := by simp [nearP, hN]
      simp [rowF, e, mkSV]
    · rw [if_neg hN, ih (y + 1) _ (by omega) (by omega) (by omega)]
      have e : nearP f N (x, y) = false := by simp [nearP, hN]
      simp [rowF, e]
theorem filter_row_len (f N x : Int) (d : Nat) (y : Int) : ((rowF x y d).filter (nearP f N)).length ≤ d := by
  have := List.length_filter_le (nearP f N) (rowF x y d)
  rw [rowF_len] at this; exact this
theorem spec_near_box (f N : Int) (hf : f = 0 ∨ f = 1) (n : Nat) (hn : n ≤ 200) (k : Nat) : ∀ (d : Nat) (x : Int) (out : List S47), x + d = n + 1 → -200 ≤ x → out.length + d * (2 * n + 1) ≤ 900000 →
    spec_l04Near.l0 (k + d * (2 * n + 1 + 2) + 1) f N n out x = some (out ++ ((boxF (-n) (2 * n + 1) x d).filter (nearP f N)).map mkSV) := by
  intro d
  induction d with
  | zero => intro x out h0 hx hl; rw [spec_l04Near.l0, if_neg (by omega)]; simp [boxF]
  | succ d ih =>
    intro x out h0 hx hl
    have e : k + (d + 1) * (2 * n + 1 + 2) + 1 = ((k + d * (2 * n + 1 + 2) + 1) + (2 * n + 1) + 1) + 1 := by rw [Nat.add_mul]; omega
    rw [Nat.add_mul] at hl
    have hr := filter_row_len f N x (2 * n + 1) (-n)
    rw [e, spec_l04Near.l0, if_pos (by omega), wrap_id (x := -(n : Int)) (by omega) (by omega), spec_near_row f N n x hf (by omega) (by omega) _ (2 * n + 1) (-n) out (by omega) (by omega) (by omega), wrap_id (x := x + 1) (by omega) (by omega), ih (x + 1) _ (by omega) (by omega) (by simp; omega)]
    simp [boxF]
theorem spec_l04Near_eq (f N : Int) (hf : f = 0 ∨ f = 1) (n : Nat) (hn : n ≤ 200) (k : Nat) (hk : 200000 ≤ k) : spec_l04Near.f k f N n = some (((box n).filter (nearP f N)).map mkSV) := by
  unfold spec_l04Near.f box
  have h1 : (2 * n + 1) * (2 * n + 1 + 2) ≤ 401 * 403 := Nat.mul_le_mul (by omega) (by omega)
  have h2 : (2 * n + 1) * (2 * n + 1) ≤ 401 * 401 := Nat.mul_le_mul (by omega) (by omega)
  obtain ⟨j, rfl⟩ : ∃ j, k = j + (2 * n + 1) * (2 * n + 1 + 2) + 1 := ⟨k - (2 * n + 1) * (2 * n + 1 + 2) - 1, by omega⟩
  rw [wrap_id (x := -(n : Int)) (by omega) (by omega), spec_near_box f N hf n hn j (2 * n + 1) (-n) [] (by omega) (by omega) (by simp; omega)]; simp
def smallL (l : List (Int × Int)) : Prop := ∀ v ∈ l, (-200 ≤ v.1 ∧ v.1 ≤ 200) ∧ (-200 ≤ v.2 ∧ v.2 ≤ 200)
theorem rd_map_at (pre : List S47) (v : Int × Int) (t : List S47) (i : Int) (hi : i = pre.length) : rd_T47 (pre ++ mkSV v :: t) i = mkSV v := by
  subst hi; unfold rd_T47; simp
def leastF (p : Int × Int → Bool) (g : Int × Int → Int) : List (Int × Int) → Int → Int
  | [], m => m
  | v :: l, m => leastF p g l (if p v = true ∧ g v < m then g v else m)
def inP (f a b c : Int) (v : Int × Int) : Bool := decide (Nf f v.1 v.2 > 0) && hasB a b c v.1 v.2
def nF (f : Int) (v : Int × Int) : Int := Nf f v.1 v.2
theorem spec_least {f a b c : Int} (hf : f = 0 ∨ f = 1) (ha : 1 ≤ a ∧ a ≤ 64) (hc : 1 ≤ c ∧ c ≤ 64) (hb : 0 ≤ b ∧ b ≤ 63) (T : List S47) (hT : T.length ≤ 1000000) (k : Nat) :
    ∀ (l : List (Int × Int)) (pre : List S47) (m i : Int), T = pre ++ l.map mkSV → i = pre.length → smallL l →
    spec_l04Shortest.l0 (k + l.length + 1) f T m i a b c = spec_l04Shortest.l1 k f T (leastF (inP f a b c) (nF f) l m) [] 0 a b c := by
  intro l
  induction l with
  | nil => intro pre m i e hi hs; rw [spec_l04Shortest.l0, if_neg (by subst hi; subst e; simp)]; rfl
  | cons v l ih =>
    intro pre m i e hi hs
    have hv := hs v (by simp)
    have hlen : T.length = pre.length + (l.length + 1) := by rw [e]; simp
    have hr : rd_T47 T i = mkSV v := by rw [e]; exact rd_map_at pre v _ i hi
    have hn := ih (pre ++ [mkSV v]) (if inP f a b c v = true ∧ nF f v < m then nF f v else m) (i + 1) (by rw [e]; simp) (by rw [hi]; simp) (fun u hu => hs u (by simp [hu]))
    rw [show k + (v :: l).length + 1 = (k + l.length + 1) + 1 by simp; omega, spec_l04Shortest.l0, if_pos (by omega), if_pos (by omega), hr, wrap_id (x := i + 1) (by omega) (by omega)]
    rw [show (mkSV v).f0 = v.1 from rfl, show (mkSV v).f1 = v.2 from rfl, spec_l04Norm_eq f hf (by omega) (by omega), spec_l03Has_eq ha hc hb (by omega) (by omega)]
    simp only [Option.bind_some]
    rw [leastF, ← hn]
    unfold inP nF
    by_cases h1 : Nf f v.1 v.2 > 0
    · rw [if_pos h1]
      by_cases h2 : Nf f v.1 v.2 < m
      · rw [if_pos h2]
        by_cases h3 : hasB a b c v.1 v.2 = true
        · simp [h1, h2, h3]
        · simp [h1, h2, h3]
      · rw [if_neg h2]; simp [h2]
    · rw [if_neg h1]; simp [h1]
theorem spec_pick {f a b c : Int} (hf : f = 0 ∨ f = 1) (ha : 1 ≤ a ∧ a ≤ 64) (hc : 1 ≤ c ∧ c ≤ 64) (hb : 0 ≤ b ∧ b ≤ 63) (T : List S47) (hT : T.length ≤ 1000000) (k : Nat) (m : Int) :
    ∀ (l : List (Int × Int)) (pre out : List S47) (i : Int), T = pre ++ l.map mkSV → i = pre.length → smallL l → out.length ≤ pre.length →
    spec_l04Shortest.l1 (k + l.length + 1) f T m out i a b c = some (out ++ (l.filter (fun v => (nF f v == m) && hasB a b c v.1 v.2)).map mkSV) := by
  intro l
  induction l with
  | nil => intro pre out i e hi hs ho; rw [spec_l04Shortest.l1, if_neg (by subst hi; subst e; simp)]; simp
  | cons v l ih =>
    intro pre out i e hi hs ho
    have hv := hs v (by simp)
    have hlen : T.length = pre.length + (l.length + 1) := by rw [e]; simp
    have hr : rd_T47 T i = mkSV v := by rw [e]; exact rd_map_at pre v _ i hi
    have hn := fun o (h : o.length ≤ pre.length + 1) => ih (pre ++ [mkSV v]) o (i + 1) (by rw [e]; simp) (by rw [hi]; simp) (fun u hu => hs u (by simp [hu])) (by simpa using h)
    rw [show k + (v :: l).length + 1 = (k + l.length + 1) + 1 by simp; omega, spec_l04Shortest.l1, if_pos (by omega), if_pos (by omega), hr, wrap_id (x := i + 1) (by omega) (by omega)]
    rw [show (mkSV v).f0 = v.1 from rfl, show (mkSV v).f1 = v.2 from rfl, spec_l04Norm_eq f hf (by omega) (by omega), spec_l03Has_eq ha hc hb (by omega) (by omega)]
    simp only [Option.bind_some]
    by_cases h1 : Nf f v.1 v.2 = m
    · rw [if_pos h1]
      by_cases h3 : hasB a b c v.1 v.2 = true
      · rw [if_pos h3, if_pos (by omega), hn _ (by simp; omega)]
        simp [nF, h1, h3, mkSV]
      · rw [if_neg h3, hn _ (by omega)]; simp [nF, h1, h3]
    · rw [if_neg h1, hn _ (by omega)]; simp [nF, h1]
theorem least_is (p : Int × Int → Bool) (g : Int × Int → Int) : ∀ (l : List (Int × Int)) (m : Int), leastF p g l m ≤ m ∧ (∀ v ∈ l, p v = true → leastF p g l m ≤ g v) ∧ (leastF p g l m = m ∨ ∃ v ∈ l, p v = true ∧ leastF p g l m = g v) := by
  intro l
  induction l with
  | nil => intro m; exact ⟨Int.le_refl _, by simp, .inl rfl⟩
  | cons v l ih =>
    intro m
    rw [leastF]
    by_cases h : p v = true ∧ g v < m
    · rw [if_pos h]
      obtain ⟨h1, h2, h3⟩ := ih (g v)
      refine ⟨by omega, fun u hu hp => ?_, ?_⟩
      · rcases List.mem_cons.mp hu with rfl | hu
        · exact h1
        · exact h2 u hu hp
      · rcases h3 with h3 | ⟨u, hu, hp, he⟩
        · exact .inr ⟨v, by simp, h.1, h3⟩
        · exact .inr ⟨u, by simp [hu], hp, he⟩
    · rw [if_neg h]
      obtain ⟨h1, h2, h3⟩ := ih m
      refine ⟨h1, fun u hu hp => ?_, ?_⟩
      · rcases List.mem_cons.mp hu with rfl | hu
        · have : ¬ g u < m := fun hl => h ⟨hp, hl⟩
          omega
        · exact h2 u hu hp
      · rcases h3 with h3 | ⟨u, hu, hp, he⟩
        · exact .inl h3
        · exact .inr ⟨u, by simp [hu], hp, he⟩
def pickF (p : Int × Int → Bool) (g : Int × Int → Int) : List (Int × Int) → List (Int × Int) → Int → List (Int × Int)
  | [], o, m => o
  | v :: l, o, m => if p v = true ∧ ¬ (m > 0 ∧ g v > m) then (if g v = m then pickF p g l (o ++ [v]) m else pickF p g l [v] (g v)) else pickF p g l o m
theorem pick_is (p : Int × Int → Bool) (g : Int × Int → Int) (hg : ∀ v, p v = true → 0 < g v) {M : Int} (hM : 0 < M) (hmin : ∀ v, p v = true → M ≤ g v) : ∀ (l d o : List (Int × Int)) (m : Int),
    (∃ v ∈ d ++ l, p v = true ∧ g v = M) →
    ((m = 0 ∧ o = [] ∧ ∀ v ∈ d, p v = false) ∨ (0 < m ∧ (∀ v ∈ d, p v = true → m ≤ g v) ∧ (∃ v ∈ d, p v = true ∧ g v = m) ∧ o = d.filter (fun v => (g v == m) && p v))) →
    pickF p g l o m = (d ++ l).filter (fun v => (g v == M) && p v) := by
  intro l
  induction l with
  | nil =>
    intro d o m ⟨v, hv, hp, he⟩ h
    simp only [List.append_nil] at hv ⊢
    rw [pickF]
    rcases h with ⟨_, _, h⟩ | ⟨h1, h2, ⟨u, hu, hpu, hgu⟩, h4⟩
    · rw [h v hv] at hp; exact absurd hp (by decide)
    · have := h2 v hv hp
      have := hmin u hpu
      have : m = M := by omega
      subst this; exact h4
  | cons v l ih =>
    intro d o m hex h
    have e : d ++ v :: l = (d ++ [v]) ++ l := by simp
    rw [e] at hex ⊢
    rw [pickF]
    by_cases hp : p v = true
    · have hgv := hg v hp
      by_cases hm : m > 0 ∧ g v > m
      · rw [if_neg (fun q => q.2 hm)]
        refine ih (d ++ [v]) o m hex ?_
        rcases h with ⟨h1, _⟩ | ⟨h1, h2, ⟨u, hu, hpu, hgu⟩, h4⟩
        · omega
        · refine .inr ⟨h1, fun w hw hpw => ?_, ⟨u, by simp [hu], hpu, hgu⟩, ?_⟩
          · rcases List.mem_append.mp hw with hw | hw
            · exact h2 w hw hpw
            · simp at hw; subst hw; omega
          · rw [List.filter_append, h4]
            have : (g v == m) = false := by simp; omega
            simp [this]
      · rw [if_pos ⟨hp, hm⟩]
        by_cases hE : g v = m
        · rw [if_pos hE]
          refine ih (d ++ [v]) _ m hex ?_
          rcases h with ⟨h1, _⟩ | ⟨h1, h2, ⟨u, hu, hpu, hgu⟩, h4⟩
          · omega
          · refine .inr ⟨h1, fun w hw hpw => ?_, ⟨u, by simp [hu], hpu, hgu⟩, ?_⟩
            · rcases List.mem_append.mp hw with hw | hw
              · exact h2 w hw hpw
              · simp at hw; subst hw; omega
            · rw [List.filter_append, h4]; simp [hE, hp]
        · rw [if_neg hE]
          refine ih (d ++ [v]) _ (g v) hex ?_
          refine .inr ⟨hgv, fun w hw hpw => ?_, ⟨v, by simp, hp, rfl⟩, ?_⟩
          · rcases List.mem_append.mp hw with hw | hw
            · rcases h with ⟨h1, _, h3⟩ | ⟨h1, h2, _⟩
              · rw [h3 w hw] at hpw; exact absurd hpw (by decide)
              · have := h2 w hw hpw; omega
            · simp at hw; subst hw; omega
          · rw [List.filter_append]
            have hz : d.filter (fun w => (g w == g v) && p w) = [] := by
              rw [List.filter_eq_nil_iff]
              intro w hw hq
              simp only [Bool.and_eq_true, beq_iff_eq] at hq
              rcases h with ⟨h1, _, h3⟩ | ⟨h1, h2, _⟩
              · rw [h3 w hw] at hq; exact absurd hq.2 (by decide)
              · have := h2 w hw hq.2; omega
            rw [hz]; simp [hp]
    · rw [if_neg (fun q => hp q.1)]
      refine ih (d ++ [v]) o m hex ?_
      have hpf : p v = false := by simpa using hp
      rcases h with ⟨h1, h2, h3⟩ | ⟨h1, h2, ⟨u, hu, hpu, hgu⟩, h4⟩
      · refine .inl ⟨h1, h2, fun w hw => ?_⟩
        rcases List.mem_append.mp hw with hw | hw
        · exact h3 w hw
        · simp at hw; subst hw; exact hpf
      · refine .inr ⟨h1, fun w hw hpw => ?_, ⟨u, by simp [hu], hpu, hgu⟩, ?_⟩
        · rcases List.mem_append.mp hw with hw | hw
          · exact h2 w hw hpw
          · simp at hw; subst hw; exact absurd hpw hp
        · rw [List.filter_append, h4]; simp [hpf]
theorem impl_pick {f a b c : Int} (hf : f = 0 ∨ f = 1) (ha : 1 ≤ a ∧ a ≤ 64) (hc : 1 ≤ c ∧ c ≤ 64) (hb : 0 ≤ b ∧ b ≤ 63) (T : List S47) (hT : T.length ≤ 1000000) (k : Nat) :
    ∀ (l : List (Int × Int)) (pre : List S47) (o : List (Int × Int)) (m i : Int), T = pre ++ l.map mkSV → i = pre.length → smallL l → o.length ≤ pre.length →
    impl_shortestVecs.l0 (k + 2 * l.length + 1) f (o.map mkSV) m T (T.length : Int) i a b c = some ((pickF (inP f a b c) (nF f) l o m).map mkSV) := by
  intro l
  induction l with
  | nil => intro pre o m i e hi hs ho; rw [impl_shortestVecs.l0, if_neg (by subst hi; subst e; simp)]; rfl
  | cons v l ih =>
    intro pre o m i e hi hs ho
    have hv := hs v (by simp)
    have hlen : T.length = pre.length + (l.length + 1) := by rw [e]; simp
    have hr : rd_T47 T i = mkSV v := by rw [e]; exact rd_map_at pre v _ i hi
    have hn := fun o m (h : o.length ≤ pre.length + 1) => ih (pre ++ [mkSV v]) o m (i + 1) (by rw [e]; simp) (by rw [hi]; simp) (fun u hu => hs u (by simp [hu])) (by simpa using h)
    rw [show k + 2 * (v :: l).length + 1 = ((k + 2 * l.length + 1) + 1) + 1 by simp; omega, impl_shortestVecs.l0, if_pos (by omega), if_pos (by omega), if_pos (by omega), hr]
    rw [show (mkSV v).f0 = v.1 from rfl, show (mkSV v).f1 = v.2 from rfl, impl_norm_eq f hf (by omega) (by omega), impl_Lattice_has_eq ha hc hb (by omega) (by omega)]
    simp only [Option.bind_some]
    have hpos := Nf_nonneg (f := f) (x := v.1) (y := v.2) hf
    have go : ∀ q : Bool, impl_shortestVecs.j1 (k + 2 * l.length + 1 + 1) f (o.map mkSV) m (Nf f v.1 v.2) T (T.length : Int) i q a b c v.1 v.2 = if q = true then some ((pickF (inP f a b c) (nF f) l o m).map mkSV) else if Nf f v.1 v.2 = m then some ((pickF (inP f a b c) (nF f) l (o ++ [v]) m).map mkSV) else some ((pickF (inP f a b c) (nF f) l [v] (Nf f v.1 v.2)).map mkSV) := by
      intro q
      rw [impl_shortestVecs.j1, wrap_id (x := i + 1) (by omega) (by omega)]
      cases q with
      | true => rw [if_pos rfl, if_pos rfl, hn o m (by omega)]
      | false =>
        simp only [Bool.false_eq_true, if_false]
        by_cases hE : Nf f v.1 v.2 = m
        · rw [if_pos hE, if_pos hE, if_pos (by simp; omega), ← hn (o ++ [v]) m (by simp; omega)]; simp [mkSV]
        · rw [if_neg hE, if_neg hE, if_pos (by simp), ← hn [v] (Nf f v.1 v.2) (by simp)]; simp [mkSV]
    simp only [go]
    rw [pickF]
    unfold inP nF
    by_cases h1 : Nf f v.1 v.2 = 0
    · simp [h1]
    · have h1' : Nf f v.1 v.2 > 0 := by omega
      rw [if_neg h1]
      by_cases h3 : hasB a b c v.1 v.2 = true
      · rw [if_pos h3]
        by_cases h4 : m > 0
        · rw [if_pos h4]
          by_cases h5 : Nf f v.1 v.2 > m
          · simp [h1', h3, h4, h5]
          · simp only [h1', h3, h4, h5, decide_true, decide_false, Bool.and_self, Bool.false_eq_true, if_false, true_and, not_false_eq_true, and_self, if_true]
            split <;> rfl
        · rw [if_neg h4]
          simp only [h1', h3, h4, decide_true, Bool.and_self, Bool.false_eq_true, if_false, false_and, not_false_eq_true, and_self, if_true]
          split <;> rfl
      · rw [if_neg h3]
        have h3' : hasB a b c v.1 v.2 = false := by simpa using h3
        simp [h3']
theorem inP_iff {f a b c : Int} (hf : f = 0 ∨ f = 1) (hc : c ≠ 0) (v : Int × Int) : inP f a b c v = true ↔ L a b c v.1 v.2 ∧ ¬ (v.1 = 0 ∧ v.2 = 0) := by
  unfold inP
  rw [Bool.and_eq_true, hasB_iff hc, decide_eq_true_eq]
  constructor
  · rintro ⟨h1, h2⟩
    refine ⟨h2, ?_⟩
    rintro ⟨e1, e2⟩
    rw [e1, e2] at h1
    simp [Nf] at h1
  · rintro ⟨h1, h2⟩
    exact ⟨Nf_pos hf h2, h1⟩
theorem lat_min {f a b c : Int} (hf : f = 0 ∨ f = 1) (ha : 1 ≤ a) (hc : 1 ≤ c) (hac : a * c ≤ 64) : ∃ M, 0 < M ∧ M ≤ 73 ∧ M ≤ a * a ∧ (∃ u, inP f a b c u = true ∧ nF f u = M) ∧ (∀ v, inP f a b c v = true → M ≤ nF f v) := by
  have hc0 : c ≠ 0 := by omega
  have h0 : inP f a b c (a, 0) = true := (inP_iff hf hc0 _).mpr ⟨⟨1, 0, by simp, by simp⟩, by simp; omega⟩
  obtain ⟨u, hu, hmin⟩ := exists_min (fun v : Int × Int => inP f a b c v = true) (nF f) (fun v _ => Nf_nonneg hf) ⟨_, h0⟩
  obtain ⟨hL, hu0⟩ := (inP_iff hf hc0 u).mp hu
  have hmin' : ∀ x y, L a b c x y → ¬ (x = 0 ∧ y = 0) → Nf f u.1 u.2 ≤ Nf f x y := fun x y h1 h2 => hmin (x, y) ((inP_iff hf hc0 (x, y)).mpr ⟨h1, h2⟩)
  obtain ⟨vx, vy, hv, hd, k1, k2⟩ := completed hf (by omega) (by omega) hL hu0 hmin'
  have hb := bounds hf (by omega) (by omega) hac hu0 hmin' hv hd k1 k2
  refine ⟨nF f u, Nf_pos hf hu0, hb.1, ?_, ⟨u, hu, rfl⟩, hmin⟩
  have h := hmin (a, 0) h0
  have e : nF f (a, 0) = a * a := by unfold nF Nf; simp
  omega
theorem small_box (n : Nat) (hn : n ≤ 200) : smallL (box n) := by
  intro v hv; rw [mem_box] at hv; omega
theorem box_len (n : Nat) : (box n).length = (2 * n + 1) * (2 * n + 1) := boxF_len _ _ _ _
theorem shortest_both {f a b c : Int} (hf : f = 0 ∨ f = 1) (hl : latB a b c = true) : ∃ (M : Int) (l : List (Int × Int)), l.length ≤ 625 ∧ 0 < M ∧ (∀ v, inP f a b c v = true → M ≤ nF f v) ∧ l ≠ [] ∧ (∀ v ∈ l, inP f a b c v = true ∧ nF f v = M) ∧
    (∀ k, 400000 ≤ k → spec_l04Shortest.f k f a b c = some (l.map mkSV)) ∧ (∀ k, 400000 ≤ k → impl_shortestVecs.f k f a b c = some (l.map mkSV)) := by
  obtain ⟨⟨a1, a2⟩, ⟨c1, c2⟩, ⟨b1, b2⟩, hac⟩ := latB_iff.mp hl
  obtain ⟨M, m1, m2, m3, ⟨u, hu, hM⟩, hmin⟩ := lat_min (b := b) hf a1 c1 hac
  have haa := prod_bd (a := a) (b := a) (A := 64) (B := 64) (by omega) (by omega) (by omega) (by omega) (by omega)
  have inb : ∀ v : Int × Int, nF f v = M → (-9 ≤ v.1 ∧ v.1 ≤ 9) ∧ (-9 ≤ v.2 ∧ v.2 ≤ 9) := fun v hv => Nf_box (N := 73) hf (by omega) (by unfold nF at hv; omega) (by omega)
  have mem_of : ∀ (n : Nat), 9 ≤ n → ∀ v : Int × Int, nF f v = M → v ∈ box n := fun n hn v hv => by
    have := inb v hv
    rw [mem_box]; omega
  refine ⟨M, (box 12).filter (fun v => (nF f v == M) && inP f a b c v), ?_, m1, hmin, ?_, ?_, fun k hk => ?_, fun k hk => ?_⟩
  · have := List.length_filter_le (fun v => (nF f v == M) && inP f a b c v) (box 12)
    rw [box_len] at this; omega
  · intro he
    rw [List.filter_eq_nil_iff] at he
    exact he u (mem_of 12 (by omega) u hM) (by simp [hM, hu])
  · intro v hv
    rw [List.mem_filter] at hv
    simp only [Bool.and_eq_true, beq_iff_eq] at hv
    exact ⟨hv.2.2, hv.2.1⟩
  · unfold spec_l04Shortest.f
    rw [wrap_id (x := a * a) (by omega) (by omega), show (128 : Int) = ((128 : Nat) : Int) from rfl, spec_l04Near_eq f (a * a) hf 128 (by omega) k (by omega)]
    simp only [Option.bind_some]
    have hlen := List.length_filter_le (nearP f (a * a)) (box 128)
    rw [box_len] at hlen
    have hsm : smallL ((box 128).filter (nearP f (a * a))) := fun v hv => small_box 128 (by omega) v (List.mem_filter.mp hv).1
    have key : ((box 128).filter (nearP f (a * a))).filter (fun v => (nF f v == M) && hasB a b c v.1 v.2) = (box 12).filter (fun v => (nF f v == M) && inP f a b c v) := by
      rw [List.filter_filter]
      refine filter_box _ _ 128 12 (fun v hv => ?_) (fun v hv => ?_) (fun v => ?_)
      · simp only [Bool.and_eq_true, beq_iff_eq] at hv
        exact mem_of 128 (by omega) v hv.1.1
      · simp only [Bool.and_eq_true, beq_iff_eq] at hv
        exact mem_of 12 (by omega) v hv.1
      · by_cases hE : nF f v = M
        · have e1 : nearP f (a * a) v = true := by unfold nearP; unfold nF at hE; simp; omega
          have e2 : decide (Nf f v.1 v.2 > 0) = true := by unfold nF at hE; simp; omega
          simp [hE, e1, inP, e2]
        · have e : (nF f v == M) = false := by simpa using hE
          show (((nF f v == M) && hasB a b c v.1 v.2) && nearP f (a * a) v) = ((nF f v == M) && inP f a b c v)
          rw [e]; rfl
    have hin : ∀ v, inP f a b c v = true → nF f v = M → v ∈ (box 128).filter (nearP f (a * a)) := fun v hv hE => by
      rw [List.mem_filter]
      refine ⟨mem_of 128 (by omega) v hE, ?_⟩
      unfold nearP; unfold nF at hE; simp; omega
    generalize (box 128).filter (nearP f (a * a)) = LL at *
    obtain ⟨j, rfl⟩ : ∃ j, k = (j + LL.length + 1) + LL.length + 1 := ⟨k - 2 * LL.length - 2, by omega⟩
    rw [spec_least hf (by omega) (by omega) (by omega) (LL.map mkSV) (by simp; omega) _ LL [] (a * a) 0 (by simp) (by simp) hsm]
    have hleast : leastF (inP f a b c) (nF f) LL (a * a) = M := by
      obtain ⟨h1, h2, h3⟩ := least_is (inP f a b c) (nF f) LL (a * a)
      have h4 := h2 u (hin u hu hM) hu
      rcases h3 with h3 | ⟨w, hw, hpw, hew⟩
      · omega
      · have := hmin w hpw; omega
    rw [hleast, spec_pick hf (by omega) (by omega) (by omega) (LL.map mkSV) (by simp; omega) j M LL [] [] 0 (by simp) (by simp) hsm (by simp), key]
    simp
  · unfold impl_shortestVecs.f
    rw [show (12 : Int) = ((12 : Nat) : Int) from rfl, impl_vecsAround_eq 12 (by omega) k (by omega)]
    simp only [Option.bind_some]
    have hlen := box_len 12
    obtain ⟨j, rfl⟩ : ∃ j, k = j + 2 * (box 12).length + 1 := ⟨k - 2 * (box 12).length - 1, by omega⟩
    have := impl_pick hf (by omega) (by omega) (by omega) ((box 12).map mkSV) (by simp; omega) j (box 12) [] [] 0 0 (by simp) (by simp) (small_box 12 (by omega)) (by simp) (a := a) (b := b) (c := c)
    try simp only [List.map_nil] at this
    rw [this, pick_is (inP f a b c) (nF f) (fun v hv => Nf_pos hf ((inP_iff hf (by omega) v).mp hv).2) m1 hmin (box 12) [] [] 0 ⟨u, by simpa using mem_of 12 (by omega) u hM, hu, hM⟩ (.inl ⟨rfl, rfl, by simp⟩)]
    simp
def pB (a b c ux uy : Int) (v : Int × Int) : Bool := decide (ux * v.2 - uy * v.1 = a * c) && hasB a b c v.1 v.2
theorem best_cons (p : Int × Int → Bool) (g : Int × Int → Int) (v : Int × Int) (l : List (Int × Int)) (b : Option (Int × Int)) :
    best p g (v :: l) b = best p g l (if p v = true then (match b with | none => some v | some u => if g v ≤ g u then some v else some u) else b) := rfl
def vO (b : Option (Int × Int)) : Int × Int := b.getD (0, 0)
theorem det_small {a b c d : Int} (ha : -1000 ≤ a ∧ a ≤ 1000) (hb : -1000 ≤ b ∧ b ≤ 1000) (hc : -1000 ≤ c ∧ c ≤ 1000) (hd : -1000 ≤ d ∧ d ≤ 1000) : spec_l01Det.f a b c d = some (a * d - b * c) ∧ impl_det.f a b c d = some (a * d - b * c) := by
  have h1 := prod_bd (a := a) (b := d) (A := 1000) (B := 1000) (by omega) (by omega) (by omega) (by omega) (by omega)
  have h2 := prod_bd (a := b) (b := c) (A := 1000) (B := 1000) (by omega) (by omega) (by omega) (by omega) (by omega)
  unfold spec_l01Det.f impl_det.f
  rw [wrap_id (x := a * d) (by omega) (by omega), wrap_id (x := b * c) (by omega) (by omega), wrap_id (x := a * d - b * c) (by omega) (by omega)]
  exact ⟨rfl, rfl⟩
def okO (b : Option (Int × Int)) : Prop := ∀ v, b = some v → (-200 ≤ v.1 ∧ v.1 ≤ 200) ∧ (-200 ≤ v.2 ∧ v.2 ≤ 200)
theorem spec_red_loop {f a b c ux uy : Int} (hf : f = 0 ∨ f = 1) (ha : 1 ≤ a ∧ a ≤ 64) (hc : 1 ≤ c ∧ c ≤ 64) (hb : 0 ≤ b ∧ b ≤ 63) (hux : -200 ≤ ux ∧ ux ≤ 200) (huy : -200 ≤ uy ∧ uy ≤ 200) (T : List S47) (hT : T.length ≤ 1000000) (k : Nat) :
    ∀ (l : List (Int × Int)) (pre : List S47) (o : Option (Int × Int)) (i : Int), T = pre ++ l.map mkSV → i = pre.length → smallL l → okO o →
    spec_ReducedBasis.l0 (k + l.length + 1) f o.isSome T i a b c ux uy (vO o).1 (vO o).2 = some (ux, uy, (vO (best (pB a b c ux uy) (nF f) l o)).1, (vO (best (pB a b c ux uy) (nF f) l o)).2, 0) := by
  intro l
  induction l with
  | nil => intro pre o i e hi hs ho; rw [spec_ReducedBasis.l0, if_neg (by subst hi; subst e; simp)]; rfl
  | cons v l ih =>
    intro pre o i e hi hs ho
    have hv := hs v (by simp)
    have hlen : T.length = pre.length + (l.length + 1) := by rw [e]; simp
    have hr : rd_T47 T i = mkSV v := by rw [e]; exact rd_map_at pre v _ i hi
    have hn := fun o ho => ih (pre ++ [mkSV v]) o (i + 1) (by rw [e]; simp) (by rw [hi]; simp) (fun u hu => hs u (by simp [hu])) ho
    have hok : okO (some v) := fun w hw => by cases hw; exact hv
    have wac := prod_bd (a := a) (b := c) (A := 64) (B := 64) (by omega) (by omega) (by omega) (by omega) (by omega)
    rw [show k + (v :: l).length + 1 = (k + l.length + 1) + 1 by simp; omega, spec_ReducedBasis.l0, if_pos (by omega), if_pos (by omega), hr, wrap_id (x := i + 1) (by omega) (by omega), wrap_id (x := a * c) (by omega) (by omega)]
    rw [show (mkSV v).f0 = v.1 from rfl, show (mkSV v).f1 = v.2 from rfl, (det_small (a := ux) (b := uy) (c := v.1) (d := v.2) (by omega) (by omega) (by omega) (by omega)).1, spec_l04Norm_eq f hf (by omega) (by omega), spec_l03Has_eq ha hc hb (by omega) (by omega)]
    simp only [Option.bind_some]
    rw [best_cons]
    unfold pB
    by_cases h1 : ux * v.2 - uy * v.1 = a * c
    · rw [if_pos h1]
      by_cases h2 : hasB a b c v.1 v.2 = true
      · rw [if_pos h2]
        simp only [h1, h2, decide_true, Bool.and_self, if_true]
        cases o with
        | none => exact hn (some v) hok
        | some u =>
          have hu := ho u rfl
          simp only [Option.isSome_some, if_true]
          rw [show vO (some u) = u from rfl, spec_l04Norm_eq f hf (by omega) (by omega)]
          simp only [Option.bind_some]
          by_cases h3 : Nf f v.1 v.2 ≤ Nf f u.1 u.2
          · rw [if_pos h3, if_pos (show nF f v ≤ nF f u from h3)]
            exact hn (some v) hok
          · rw [if_neg h3, if_neg (show ¬ nF f v ≤ nF f u from h3)]
            exact hn (some u) ho
      · rw [if_neg h2]
        have h2' : hasB a b c v.1 v.2 = false := by simpa using h2
        simp only [h1, h2', decide_true, Bool.and_false, Bool.false_eq_true, if_false]
        exact hn o ho
    · rw [if_neg h1]
      simp only [h1, decide_false, Bool.false_and, Bool.false_eq_true, if_false]
      exact hn o ho
def nO (f : Int) (b : Option (Int × Int)) : Int := match b with | none => 0 | some v => nF f v
theorem impl_red_loop {f a b c ux uy : Int} (hf : f = 0 ∨ f = 1) (ha : 1 ≤ a ∧ a ≤ 64) (hc : 1 ≤ c ∧ c ≤ 64) (hb : 0 ≤ b ∧ b ≤ 63) (hux : -200 ≤ ux ∧ ux ≤ 200) (huy : -200 ≤ uy ∧ uy ≤ 200) (T : List S47) (hT : T.length ≤ 1000000) (k : Nat) :
    ∀ (l : List (Int × Int)) (pre : List S47) (o : Option (Int × Int)) (i : Int), T = pre ++ l.map mkSV → i = pre.length → smallL l → (∀ v, o = some v → 0 < nF f v) →
    impl_reducedBasis.l0 (k + l.length + 1) f (nO f o) T (T.length : Int) i a b c ux uy (vO o).1 (vO o).2 = some (ux, uy, (vO (best (pB a b c ux uy) (nF f) l o)).1, (vO (best (pB a b c ux uy) (nF f) l o)).2) := by
  intro l
  induction l with
  | nil => intro pre o i e hi hs ho; rw [impl_reducedBasis.l0, if_neg (by subst hi; subst e; simp)]; rfl
  | cons v l ih =>
    intro pre o i e hi hs ho
    have hv := hs v (by simp)
    have hlen : T.length = pre.length + (l.length + 1) := by rw [e]; simp
    have hr : rd_T47 T i = mkSV v := by rw [e]; exact rd_map_at pre v _ i hi
    have hn := fun o ho => ih (pre ++ [mkSV v]) o (i + 1) (by rw [e]; simp) (by rw [hi]; simp) (fun u hu => hs u (by simp [hu])) ho
    have wac := prod_bd (a := a) (b := c) (A := 64) (B := 64) (by omega) (by omega) (by omega) (by omega) (by omega)
    have hpos : 0 < a * c := Int.mul_pos (by omega) (by omega)
    rw [show k + (v :: l).length + 1 = (k + l.length + 1) + 1 by simp; omega, impl_reducedBasis.l0, if_pos (by omega), if_pos (by omega), if_pos (by omega), hr, wrap_id (x := i + 1) (by omega) (by omega)]
    rw [show (mkSV v).f0 = v.1 from rfl, show (mkSV v).f1 = v.2 from rfl, (det_small (a := ux) (b := uy) (c := v.1) (d := v.2) (by omega) (by omega) (by omega) (by omega)).2, impl_norm_eq f hf (by omega) (by omega), impl_Lattice_has_eq ha hc hb (by omega) (by omega)]
    unfold impl_Lattice_index.f
    rw [wrap_id (x := a * c) (by omega) (by omega)]
    simp only [Option.bind_some]
    rw [best_cons]
    unfold pB
    by_cases h1 : ux * v.2 - uy * v.1 = a * c
    · have hv0 : ¬ (v.1 = 0 ∧ v.2 = 0) := by
        rintro ⟨e1, e2⟩
        rw [e1, e2] at h1
        simp at h1; omega
      have hnv : 0 < nF f v := Nf_pos hf hv0
      have hok : ∀ w, some v = some w → 0 < nF f w := fun w hw => by cases hw; exact hnv
      rw [if_pos h1]
      cases o with
      | none =>
        rw [show nO f none = 0 from rfl, if_pos rfl]
        by_cases h2 : hasB a b c v.1 v.2 = true
        · rw [if_pos h2]
          simp only [h1, h2, decide_true, Bool.and_self, if_true]
          exact hn (some v) hok
        · rw [if_neg h2]
          have h2' : hasB a b c v.1 v.2 = false := by simpa using h2
          simp only [h1, h2', decide_true, Bool.and_false, Bool.false_eq_true, if_false]
          exact hn none ho
      | some u =>
        have hu := ho u rfl
        rw [show nO f (some u) = nF f u from rfl, if_neg (show ¬ nF f u = 0 by omega)]
        by_cases h3 : nF f v ≤ nF f u
        · rw [if_pos (show Nf f v.1 v.2 ≤ nF f u from h3)]
          by_cases h2 : hasB a b c v.1 v.2 = true
          · rw [if_pos h2]
            simp only [h1, h2, h3, decide_true, Bool.and_self, if_true]
            exact hn (some v) hok
          · rw [if_neg h2]
            have h2' : hasB a b c v.1 v.2 = false := by simpa using h2
            simp only [h1, h2', decide_true, Bool.and_false, Bool.false_eq_true, if_false]
            exact hn (some u) ho
        · rw [if_neg (show ¬ Nf f v.1 v.2 ≤ nF f u from h3)]
          by_cases h2 : hasB a b c v.1 v.2 = true
          · simp only [h1, h2, h3, decide_true, Bool.and_self, if_true, if_false]
            exact hn (some u) ho
          · have h2' : hasB a b c v.1 v.2 = false := by simpa using h2
            simp only [h1, h2', decide_true, Bool.and_false, Bool.false_eq_true, if_false]
            exact hn (some u) ho
    · rw [if_neg h1]
      simp only [h1, decide_false, Bool.false_and, Bool.false_eq_true, if_false]
      exact hn o ho
theorem rd_last (l : List (Int × Int)) (hl : l ≠ []) : rd_T47 (l.map mkSV) ((l.length : Int) - 1) = mkSV (l.getLast hl) := by
  have e : l.map mkSV = (l.dropLast.map mkSV) ++ mkSV (l.getLast hl) :: [] := by
    conv => lhs; rw [← List.dropLast_concat_getLast hl]
    simp
  have hp : 0 < l.length := List.length_pos_iff.mpr hl
  rw [e]
  exact rd_map_at _ _ _ _ (by simp; omega)
theorem draw3_eq {l : List Int} {p s : Int} (h : St l p s) : ∃ a b c p' s', spec_l03Draw.f l p s = some (a, b, c, p', s') ∧ St l p' s' ∧ (-100 ≤ a ∧ a ≤ 100) := by
  unfold spec_l03Draw.f
  obtain ⟨r1, p1, s1, e1, h1, b1, c1⟩ := next_eq h 6
  rw [e1]
  simp only [Option.bind_some]
  obtain ⟨r2, p2, s2, e2, h2, b2, c2⟩ := next_eq h1 6
  rw [e2]
  simp only [Option.bind_some]
  rw [wrap_id (x := 1 + r1) (by omega) (by omega)]
  obtain ⟨r3, p3, s3, e3, h3, b3, c3⟩ := next_eq h2 (1 + r1)
  rw [e3]
  simp only [Option.bind_some]
  obtain ⟨r4, p4, s4, e4, h4, b4, c4⟩ := next_eq h3 60
  rw [e4]
  simp only [Option.bind_some]
  split
  · obtain ⟨v, p5, s5, e5, h5, m5⟩ := pick_eq h4 [0, 64, 65, 8] (by decide)
    rw [e5]
    simp only [List.mem_cons, List.not_mem_nil, or_false] at m5
    exact ⟨_, _, _, _, _, rfl, h5, by omega⟩
  · split
    · obtain ⟨v, p5, s5, e5, h5, m5⟩ := pick_eq h4 [-1, 1 + r1, wrap64 (1 + r1 - 1)] (by simp)
      rw [e5]
      exact ⟨_, _, _, _, _, rfl, h5, by omega⟩
    · split
      · obtain ⟨v, p5, s5, e5, h5, m5⟩ := pick_eq h4 [8, 9] (by decide)
        rw [e5]
        exact ⟨_, _, _, _, _, rfl, h5, by omega⟩
      · exact ⟨_, _, _, _, _, rfl, h4, by omega⟩
theorem like9V_loop (l : List S47) (hl : l.length ≤ 1000000) (k : Nat) : ∀ (t pre : List S47) (i : Int), l = pre ++ t → i = pre.length → laws_likeVecs9.l0 (k + t.length + 1) l l i = some true := by
  intro t
  induction t with
  | nil => intro pre i e hi; rw [laws_likeVecs9.l0, if_neg (by subst hi; subst e; simp)]
  | cons v t ih =>
    intro pre i e hi
    have hlen : l.length = pre.length + (t.length + 1) := by rw [e]; simp
    have hn := ih (pre ++ [v]) (i + 1) (by rw [e]; simp) (by rw [hi]; simp)
    rw [show k + (v :: t).length + 1 = (k + t.length + 1) + 1 by simp; omega, laws_likeVecs9.l0, if_pos (by omega), if_pos (by omega), if_pos (by omega), wrap_id (x := i + 1) (by omega) (by omega), if_neg (by simp)]
    exact hn
theorem like9V_self (k : Nat) (l : List S47) (hl : l.length ≤ 1000000) (hk : l.length < k) : laws_likeVecs9.f k l l = some true := by
  unfold laws_likeVecs9.f
  rw [if_pos rfl]
  obtain ⟨j, rfl⟩ : ∃ j, k = j + l.length + 1 := ⟨k - l.length - 1, by omega⟩
  exact like9V_loop l hl j l [] 0 rfl rfl
theorem drawFrame_eq {l : List Int} {p s : Int} (h : St l p s) : ∃ f p' s', spec_l04DrawFrame.f l p s = some (f, p', s') ∧ St l p' s' ∧ (-1 ≤ f ∧ f ≤ 2) := by
  unfold spec_l04DrawFrame.f
  obtain ⟨r, p1, s1, e1, h1, b1, b2⟩ := next_eq h 40
  rw [e1]
  simp only [Option.bind_some]
  split
  · obtain ⟨v, p2, s2, e2, h2, m2⟩ := pick_eq h1 [-1, 2] (by decide)
    rw [e2]
    exact ⟨_, _, _, rfl, h2, by simp at m2; omega⟩
  · obtain ⟨v, p2, s2, e2, h2, c1, c2⟩ := next_eq h1 2
    rw [e2]
    exact ⟨_, _, _, rfl, h2, by omega⟩
theorem im_det (p q r s a b c : Int) : (p * a + q * 0) * (r * b + s * c) - (r * a + s * 0) * (p * b + q * c) = (a * c) * (p * s - q * r) := by grind
theorem im_same {a b c ux uy vx vy A B C : Int} (ha : 1 ≤ a) (hc : 1 ≤ c) (hb : 0 ≤ b ∧ b < a) (hh : Herm (sp2 ux uy vx vy) A B C) (hi : A * C = a * c) :
    (A = a ∧ B = b ∧ C = c) ↔ (L a b c ux uy ∧ L a b c vx vy) := by
  obtain ⟨hA, hC, hB0, hB1, hL⟩ := hh
  constructor
  · rintro ⟨rfl, rfl, rfl⟩
    exact ⟨(hL _ _).mpr ⟨1, 0, by omega, by omega⟩, (hL _ _).mpr ⟨0, 1, by omega, by omega⟩⟩
  · rintro ⟨hu, hv⟩
    have hsub : ∀ x y, L A B C x y → L a b c x y := by
      intro x y h
      obtain ⟨i, j, rfl, rfl⟩ := (hL x y).mp h
      exact L_add hu hv i j
    obtain ⟨t, ht⟩ := (L_row (by omega)).mp (hsub A 0 ⟨1, 0, by omega, by omega⟩)
    obtain ⟨m, n, e1, e2⟩ := hsub B C ⟨0, 1, by omega, by omega⟩
    have hac : 1 ≤ a * c := by have := le_mul_r (a := a) (c := c) (by omega) hc; omega
    have ht0 : 1 ≤ t := by
      rcases Int.lt_or_le t 1 with h | h
      · have := Int.mul_le_mul_of_nonneg_left (show t ≤ 0 by omega) (show 0 ≤ a by omega)
        omega
      · exact h
    have hn0 : 1 ≤ n := by
      rcases Int.lt_or_le n 1 with h | h
      · have := Int.mul_le_mul_of_nonneg_right (show n ≤ 0 by omega) (show 0 ≤ c by omega)
        omega
      · exact h
    have htn : t * n = 1 := by
      have e : (a * c) * (t * n - 1) = 0 := by rw [ht, e2] at hi; grind
      rcases Int.mul_eq_zero.mp e with h | h <;> omega
    have h1 := le_mul_r (a := t) (c := n) (by omega) hn0
    have h2 := le_mul_l (a := t) (c := n) (by omega) ht0
    have et : t = 1 := by omega
    have en : n = 1 := by omega
    subst et; subst en
    have eA : A = a := by omega
    have eC : C = c := by omega
    have em : m = 0 := by
      rcases Int.lt_trichotomy m 0 with h | h | h
      · have := Int.mul_le_mul_of_nonneg_right (show m ≤ -1 by omega) (show 0 ≤ a by omega)
        omega
      · exact h
      · have := Int.mul_le_mul_of_nonneg_right (show 1 ≤ m by omega) (show 0 ≤ a by omega)
        omega
    subst em
    exact ⟨eA, by omega, eC⟩
theorem image_eq {f p q r s a b c : Int} (hl : latB a b c = true) (hf : f = 0 ∨ f = 1) (hm : (⟨p, q, r, s⟩ : S51) ∈ pmL f) :
    ∃ A B C, (∀ k, 1003100000 ≤ k → spec_l04Image.f k p q r s a b c = some (A, B, C)) ∧ ((A = a ∧ B = b ∧ C = c) ↔ (hasB a b c (p * a + q * 0) (r * a + s * 0) = true ∧ hasB a b c (p * b + q * c) (r * b + s * c) = true)) := by
  obtain ⟨e1, e2, e3, e4, hd⟩ := pm_facts hf hm
  obtain ⟨⟨a1, a2⟩, ⟨c1, c2⟩, ⟨b1, b2⟩, hac⟩ := latB_iff.mp hl
  have hb : -64 ≤ b ∧ b ≤ 64 := by omega
  have w1 := prod_bd (a := p) (b := a) (A := 1) (B := 64) (by omega) (by omega) (by omega) (by omega) (by omega)
  have w2 := prod_bd (a := r) (b := a) (A := 1) (B := 64) (by omega) (by omega) (by omega) (by omega) (by omega)
  have w3 := prod_bd (a := p) (b := b) (A := 1) (B := 64) (by omega) (by omega) (by omega) (by omega) (by omega)
  have w4 := prod_bd (a := q) (b := c) (A := 1) (B := 64) (by omega) (by omega) (by omega) (by omega) (by omega)
  have w5 := prod_bd (a := r) (b := b) (A := 1) (B := 64) (by omega) (by omega) (by omega) (by omega) (by omega)
  have w6 := prod_bd (a := s) (b := c) (A := 1) (B := 64) (by omega) (by omega) (by omega) (by omega) (by omega)
  have hac1 : a ≤ a * c := le_mul_r (by omega) (by omega)
  have hdet : (p * a + q * 0) * (r * b + s * c) - (r * a + s * 0) * (p * b + q * c) ≠ 0 := by
    rw [im_det]; rcases hd with h | h <;> rw [h] <;> omega
  have hdab : (((p * a + q * 0) * (r * b + s * c) - (r * a + s * 0) * (p * b + q * c)).natAbs : Int) = a * c := by
    rw [im_det]; rcases hd with h | h <;> rw [h] <;> omega
  obtain ⟨A, B, C, hh, hk⟩ := spec_hermite2 ⟨p * a + q * 0, r * a + s * 0⟩ ⟨p * b + q * c, r * b + s * c⟩ (by simp only; omega) (by simp only; omega) (by simp only; omega) (by simp only; omega) hdet
  have hi := hh.index
  simp only at hi
  rw [hdab] at hi
  refine ⟨A, B, C, fun k hk1 => ?_, ?_⟩
  · unfold spec_l04Image.f
    have hbas : spec_l03Basis.f a b c = some [⟨a, 0⟩, ⟨b, c⟩] := rfl
    rw [hbas]
    simp only [Option.bind_some]
    rw [if_pos (by simp), show rd_T47 [(⟨a, 0⟩ : S47), ⟨b, c⟩] 0 = ⟨a, 0⟩ from rfl, show rd_T47 [(⟨a, 0⟩ : S47), ⟨b, c⟩] 1 = ⟨b, c⟩ from rfl]
    dsimp only
    rw [spec_l02Apply_eq 64 (by omega) (by omega) (by omega) (by omega) (by omega) (by omega) (by omega) (by omega)]
    simp only [Option.bind_some]
    rw [if_pos (by simp), spec_l02Apply_eq 64 (by omega) (by omega) (by omega) (by omega) (by omega) (by omega) (by omega) (by omega)]
    simp only [Option.bind_some]
    rw [hk k (by omega)]
    rfl
  · rw [im_same (by omega) (by omega) ⟨by omega, by omega⟩ hh hi, hasB_iff (by omega), hasB_iff (by omega)]
def stableB (a b c : Int) (m : S51) : Bool := hasB a b c (m.f0 * a + m.f1 * 0) (m.f2 * a + m.f3 * 0) && hasB a b c (m.f0 * b + m.f1 * c) (m.f2 * b + m.f3 * c)
theorem stable_loop {f a b c : Int} (hl : latB a b c = true) (hf : f = 0 ∨ f = 1) (T : List S51) (hT : T.length ≤ 1000) (hin : ∀ m ∈ T, m ∈ pmL f) (k : Nat) (hk : 1003100000 ≤ k) :
    ∀ (t pre out : List S51) (i : Int), T = pre ++ t → i = pre.length → out.length ≤ pre.length → spec_l04Stable.l0 (k + t.length + 1) T out i a b c = some (out ++ t.filter (stableB a b c)) := by
  intro t
  induction t with
  | nil => intro pre out i e hi ho; rw [spec_l04Stable.l0, if_neg (by subst hi; subst e; simp)]; simp
  | cons m t ih =>
    intro pre out i e hi ho
    have hlen : T.length = pre.length + (t.length + 1) := by rw [e]; simp
    have hr : rd_T51 T i = m := by rw [e]; subst hi; unfold rd_T51; simp
    have hmem : m ∈ pmL f := hin m (by rw [e]; simp)
    obtain ⟨A, B, C, h1, h2⟩ := image_eq (p := m.f0) (q := m.f1) (r := m.f2) (s := m.f3) hl hf hmem
    rw [show k + (m :: t).length + 1 = (k + t.length + 1) + 1 by simp; omega, spec_l04Stable.l0, if_pos (by omega), if_pos (by omega), wrap_id (x := i + 1) (by omega) (by omega), hr, h1 _ (by omega)]
    simp only [Option.bind_some]
    by_cases h : A = a ∧ B = b ∧ C = c
    · have hs : stableB a b c m = true := by
        have := h2.mp h
        unfold stableB; rw [this.1, this.2]; rfl
      rw [if_pos (by simp [h.1, h.2.1, h.2.2]), if_pos (by omega), ih (pre ++ [m]) _ (i + 1) (by rw [e]; simp) (by rw [hi]; simp) (by simp; omega)]
      simp [hs]
    · have hs : stableB a b c m = false := by
        cases q : stableB a b c m with
        | false => rfl
        | true =>
          unfold stableB at q
          rw [Bool.and_eq_true] at q
          exact absurd (h2.mpr q) h
      rw [if_neg (by simpa using h), ih (pre ++ [m]) out (i + 1) (by rw [e]; simp) (by rw [hi]; simp) (by simp; omega)]
      simp [hs]
theorem pmL_len12 {f : Int} (hf : f = 0 ∨ f = 1) : (pmL f).length ≤ 12 ∧ 0 < (pmL f).length := by
  rcases hf with rfl | rfl <;> decide
theorem spec_l04Stable_eq {f a b c : Int} (hl : latB a b c = true) (hf : f = 0 ∨ f = 1) (k : Nat) (hk : 1003100100 ≤ k) : spec_l04Stable.f k f a b c = some ((pmL f).filter (stableB a b c)) := by
  unfold spec_l04Stable.f
  rw [spec_l04Mats_eq k (by omega) hf]
  simp only [Option.bind_some]
  have hlen := pmL_len12 hf
  obtain ⟨j, rfl⟩ : ∃ j, k = j + (pmL f).length + 1 := ⟨k - (pmL f).length - 1, by omega⟩
  rw [stable_loop hl hf (pmL f) (by omega) (fun m h => h) j (by omega) (pmL f) [] [] 0 rfl rfl (by simp)]
  simp
theorem lat_cl_eq {f a b c : Int} (hl : latB a b c = true) (hf : f = 0 ∨ f = 1) (m : S51) (hm : m ∈ pmL f) : impl_latticeMats_1.f m.f0 m.f1 m.f2 m.f3 a b c a 0 b c = some (!(stableB a b c m)) := by
  obtain ⟨e1, e2, e3, e4, hd⟩ := pm_facts (a := m.f0) (b := m.f1) (c := m.f2) (d := m.f3) hf hm
  obtain ⟨⟨a1, a2⟩, ⟨c1, c2⟩, ⟨b1, b2⟩, hac⟩ := latB_iff.mp hl
  have hb : -64 ≤ b ∧ b ≤ 64 := by omega
  have w1 := prod_bd (a := m.f0) (b := a) (A := 1) (B := 64) (by omega) (by omega) (by omega) (by omega) (by omega)
  have w2 := prod_bd (a := m.f2) (b := a) (A := 1) (B := 64) (by omega) (by omega) (by omega) (by omega) (by omega)
  have w3 := prod_bd (a := m.f0) (b := b) (A := 1) (B := 64) (by omega) (by omega) (by omega) (by omega) (by omega)
  have w4 := prod_bd (a := m.f1) (b := c) (A := 1) (B := 64) (by omega) (by omega) (by omega) (by omega) (by omega)
  have w5 := prod_bd (a := m.f2) (b := b) (A := 1) (B := 64) (by omega) (by omega) (by omega) (by omega) (by omega)
  have w6 := prod_bd (a := m.f3) (b := c) (A := 1) (B := 64) (by omega) (by omega) (by omega) (by omega) (by omega)
  unfold impl_latticeMats_1.f
  rw [impl_Mat_apply_eq 64 (by omega) (by omega) (by omega) (by omega) (by omega) (by omega) (by omega) (by omega)]
  simp only [Option.bind_some]
  rw [impl_Lattice_has_eq (by omega) (by omega) (by omega) (by omega) (by omega)]
  simp only [Option.bind_some]
  unfold stableB
  cases hasB a b c (m.f0 * a + m.f1 * 0) (m.f2 * a + m.f3 * 0) with
  | false => rfl
  | true =>
    rw [if_pos rfl, impl_Mat_apply_eq 64 (by omega) (by omega) (by omega) (by omega) (by omega) (by omega) (by omega) (by omega)]
    simp only [Option.bind_some]
    rw [impl_Lattice_has_eq (by omega) (by omega) (by omega) (by omega) (by omega)]
    rfl
theorem impl_latticeMats_eq {f a b c : Int} (hl : latB a b c = true) (hf : f = 0 ∨ f = 1) (k : Nat) (hk : 82 ≤ k) : impl_latticeMats.f k f a b c = some ((pmL f).filter (stableB a b c)) := by
  have hlen := pmL_len12 hf
  obtain ⟨⟨a1, a2⟩, ⟨c1, c2⟩, ⟨b1, b2⟩, hac⟩ := latB_iff.mp hl
  unfold impl_latticeMats.f
  rw [impl_pointMats_eq k hk hf]
  simp only [Option.bind_some]
  rw [if_pos ⟨⟨by omega, by omega⟩, by omega, hlen.2⟩]
  congr 1
  refine List.filter_congr fun m hm => ?_
  rw [lat_cl_eq hl hf m hm]
  simp
theorem like9M_loop (l : List S51) (hl : l.length ≤ 1000000) (k : Nat) : ∀ (t pre : List S51) (i : Int), l = pre ++ t → i = pre.length → laws_likeMats9.l0 (k + t.length + 1) l l i = some true := by
  intro t
  induction t with
  | nil => intro pre i e hi; rw [laws_likeMats9.l0, if_neg (by subst hi; subst e; simp)]
  | cons v t ih =>
    intro pre i e hi
    have hlen : l.length = pre.length + (t.length + 1) := by rw [e]; simp
    have hn := ih (pre ++ [v]) (i + 1) (by rw [e]; simp) (by rw [hi]; simp)
    rw [show k + (v :: t).length + 1 = (k + t.length + 1) + 1 by simp; omega, laws_likeMats9.l0, if_pos (by omega), if_pos (by omega), if_pos (by omega), wrap_id (x := i + 1) (by omega) (by omega), if_neg (by simp)]
    exact hn
theorem like9M_self (k : Nat) (l : List S51) (hl : l.length ≤ 1000000) (hk : l.length < k) : laws_likeMats9.f k l l = some true := by
  unfold laws_likeMats9.f
  rw [if_pos rfl]
  obtain ⟨j, rfl⟩ : ∃ j, k = j + l.length + 1 := ⟨k - l.length - 1, by omega⟩
  exact like9M_loop l hl j l [] 0 rfl rfl
theorem drawLM_eq {l : List Int} (hl : (l.length : Int) ≤ 4096) (hb : ∀ x ∈ l, 0 ≤ x ∧ x < 256) (k : Nat) (hk : 100 ≤ k) : ∃ f A B C, spec_DrawLatticeMats.f k l = some (f, A, B, C) ∧ (-100 ≤ A ∧ A ≤ 100) := by
  unfold spec_DrawLatticeMats.f
  obtain ⟨p, s, e, h⟩ := from_eq hl hb k (by omega)
  rw [e]
  simp only [Option.bind_some]
  obtain ⟨f, p2, s2, e2, h2, c⟩ := drawFrame_eq h
  rw [e2]
  simp only [Option.bind_some]
  obtain ⟨r, p1, s1, e1, h1, b1, b2⟩ := next_eq h2 2
  rw [e1]
  simp only [Option.bind_some]
  split
  · obtain ⟨r3, p3, s3, e3, h3, b3, c3⟩ := next_eq h1 6
    rw [e3]
    simp only [Option.bind_some]
    rw [wrap_id (x := 1 + r3) (by omega) (by omega)]
    exact ⟨_, _, _, _, rfl, by omega⟩
  · obtain ⟨A, B, C, p4, s4, e4, h4, k4⟩ := draw3_eq h1
    rw [e4]
    exact ⟨_, _, _, _, rfl, k4⟩
theorem drawRB_eq {l : List Int} (hl : (l.length : Int) ≤ 4096) (hb : ∀ x ∈ l, 0 ≤ x ∧ x < 256) (k : Nat) (hk : 100 ≤ k) : ∃ f A B C, spec_DrawReducedBasis.f k l = some (f, A, B, C) ∧ (-100 ≤ A ∧ A ≤ 100) := by
  unfold spec_DrawReducedBasis.f
  obtain ⟨f, A, B, C, e, h⟩ := drawLM_eq hl hb k hk
  rw [e]
  exact ⟨_, _, _, _, rfl, h⟩
theorem map_im {f p q r s a b c : Int} (hl : latB a b c = true) (hp : pmB f p q r s = true) :
    ∃ A B C, Herm (sp2 (p * a + q * 0) (r * a + s * 0) (p * b + q * c) (r * b + s * c)) A B C ∧ A * C = a * c ∧ (∀ k, 1003100000 ≤ k → impl_MapLattice.f k f p q r s a b c = some (A, B, C, 0)) := by
  obtain ⟨hf, hm⟩ := pmB_iff.mp hp
  obtain ⟨e1, e2, e3, e4, hd⟩ := pm_facts hf hm
  have hfr : frLat f a b c = true := by unfold frLat; rw [hl, frameB_iff.mpr hf]; rfl
  obtain ⟨⟨a1, a2⟩, ⟨c1, c2⟩, ⟨b1, b2⟩, hac⟩ := latB_iff.mp hl
  have hb : -64 ≤ b ∧ b ≤ 64 := by omega
  have w1 := prod_bd (a := p) (b := a) (A := 1) (B := 64) (by omega) (by omega) (by omega) (by omega) (by omega)
  have w2 := prod_bd (a := r) (b := a) (A := 1) (B := 64) (by omega) (by omega) (by omega) (by omega) (by omega)
  have w3 := prod_bd (a := p) (b := b) (A := 1) (B := 64) (by omega) (by omega) (by omega) (by omega) (by omega)
  have w4 := prod_bd (a := q) (b := c) (A := 1) (B := 64) (by omega) (by omega) (by omega) (by omega) (by omega)
  have w5 := prod_bd (a := r) (b := b) (A := 1) (B := 64) (by omega) (by omega) (by omega) (by omega) (by omega)
  have w6 := prod_bd (a := s) (b := c) (A := 1) (B := 64) (by omega) (by omega) (by omega) (by omega) (by omega)
  have hac1 : a ≤ a * c := le_mul_r (by omega) (by omega)
  have hdet : (p * a + q * 0) * (r * b + s * c) - (r * a + s * 0) * (p * b + q * c) ≠ 0 := by
    rw [im_det]; rcases hd with h | h <;> rw [h] <;> omega
  have hdac : (((p * a + q * 0) * (r * b + s * c) - (r * a + s * 0) * (p * b + q * c)).natAbs : Int) = a * c := by
    rw [im_det]; rcases hd with h | h <;> rw [h] <;> omega
  obtain ⟨A, B, C, hh, hk'⟩ := impl_latticeOf2 ⟨p * a + q * 0, r * a + s * 0⟩ ⟨p * b + q * c, r * b + s * c⟩ (by simp only; omega) (by simp only; omega) (by simp only; omega) (by simp only; omega) hdet
  have hi := hh.index
  simp only at hi
  refine ⟨A, B, C, hh, by omega, fun k hk1 => ?_⟩
  unfold impl_MapLattice.f
  rw [impl_frameCode_eq f a b c (by omega), impl_IsPointMat_eq _ (by omega)]
  simp only [hfr, hp, Option.bind_some, if_true, impl_Lattice_basis.f]
  rw [impl_Mat_apply_eq 64 (by omega) (by omega) (by omega) (by omega) (by omega) (by omega) (by omega) (by omega)]
  simp only [Option.bind_some]
  rw [impl_Mat_apply_eq 64 (by omega) (by omega) (by omega) (by omega) (by omega) (by omega) (by omega) (by omega)]
  simp only [Option.bind_some]
  rw [hk' k (by omega)]
  rfl
/-- A stable point matrix maps the lattice to itself. -/
theorem map_st {f a b c : Int} (hl : latB a b c = true) (hf : f = 0 ∨ f = 1) (m : S51) (hm : m ∈ (pmL f).filter (stableB a b c)) (k : Nat) (hk : 1003100000 ≤ k) : impl_MapLattice.f k f m.f0 m.f1 m.f2 m.f3 a b c = some (a, b, c, 0) := by
  rw [List.mem_filter] at hm
  obtain ⟨hm, hs⟩ := hm
  obtain ⟨⟨a1, a2⟩, ⟨c1, c2⟩, ⟨b1, b2⟩, hac⟩ := latB_iff.mp hl
  obtain ⟨A, B, C, hh, hi, h⟩ := map_im (p := m.f0) (q := m.f1) (r := m.f2) (s := m.f3) hl (pmB_iff.mpr ⟨hf, hm⟩)
  unfold stableB at hs
  rw [Bool.and_eq_true, hasB_iff (by omega), hasB_iff (by omega)] at hs
  obtain ⟨rfl, rfl, rfl⟩ := (im_same (by omega) (by omega) ⟨by omega, by omega⟩ hh hi).mpr hs
  exact h k hk
set_option linter.constructorNameAsVariable false in
theorem bases_is {f a b c : Int} (h : frLat f a b c = true) : ∃ (l : List (Int × Int)) (u v : Int × Int) (hne : l ≠ []), l.length ≤ 625 ∧ l.getLast hne = u ∧ L a b c u.1 u.2 ∧ L a b c v.1 v.2 ∧ u.1 * v.2 - u.2 * v.1 = a * c ∧
    ((-200 ≤ u.1 ∧ u.1 ≤ 200) ∧ (-200 ≤ u.2 ∧ u.2 ≤ 200)) ∧ ((-200 ≤ v.1 ∧ v.1 ≤ 200) ∧ (-200 ≤ v.2 ∧ v.2 ≤ 200)) ∧
    (∀ k, 400000 ≤ k → spec_ShortestVecs.f k f a b c = some (l.map mkSV, 0)) ∧ (∀ k, 400000 ≤ k → impl_ShortestVecs.f k f a b c = some (l.map mkSV, 0)) ∧
    (∀ k, 400000 ≤ k → spec_ReducedBasis.f k f a b c = some (u.1, u.2, v.1, v.2, 0)) ∧ (∀ k, 400000 ≤ k → impl_ReducedBasis.f k f a b c = some (u.1, u.2, v.1, v.2, 0)) := by
  have h' := h
  unfold frLat at h'
  rw [Bool.and_eq_true] at h'
  have hf := frameB_iff.mp h'.1
  obtain ⟨M, l, hll, m1, hmin, hne, hmem, h2, h3⟩ := shortest_both hf h'.2
  obtain ⟨⟨a1, a2⟩, ⟨c1, c2⟩, ⟨b1, b2⟩, hac⟩ := latB_iff.mp h'.2
  have w : -9223372036854775808 ≤ a ∧ a < 9223372036854775808 := by omega
  have hp : 0 < l.length := List.length_pos_iff.mpr hne
  obtain ⟨hu1, hu2⟩ := hmem (l.getLast hne) (List.getLast_mem hne)
  have hrd := rd_last l hne
  have hS1 : ∀ k, 400000 ≤ k → spec_ShortestVecs.f k f a b c = some (l.map mkSV, 0) := fun k hk => by
    unfold spec_ShortestVecs.f; rw [spec_l04Code_eq f a b c w, if_pos h]; simp [h2 k hk]
  have hS2 : ∀ k, 400000 ≤ k → impl_ShortestVecs.f k f a b c = some (l.map mkSV, 0) := fun k hk => by
    unfold impl_ShortestVecs.f; rw [impl_frameCode_eq f a b c w, if_pos h]; simp [h3 k hk]
  have hg : ∃ u, l.getLast hne = u := ⟨_, rfl⟩
  obtain ⟨u, hg⟩ := hg
  rw [hg] at hu1 hu2 hrd
  have hc0 : c ≠ 0 := by omega
  obtain ⟨hL, hu0⟩ := (inP_iff hf hc0 u).mp hu1
  have hmin' : ∀ x y, L a b c x y → ¬ (x = 0 ∧ y = 0) → Nf f u.1 u.2 ≤ Nf f x y := fun x y q1 q2 => by
    have := hmin (x, y) ((inP_iff hf hc0 (x, y)).mpr ⟨q1, q2⟩)
    unfold nF at hu2 this
    simp only at this
    omega
  obtain ⟨vx, vy, hv, hd, k1, k2⟩ := completed hf (by omega) (by omega) hL hu0 hmin'
  obtain ⟨hb1, hb2⟩ := bounds hf (by omega) (by omega) hac hu0 hmin' hv hd k1 k2
  have ub := Nf_box (N := 73) (m := 9) hf (by omega) hb1 (by omega)
  have inb : ∀ v : Int × Int, nF f v ≤ 4114 → (-75 ≤ v.1 ∧ v.1 ≤ 75) ∧ (-75 ≤ v.2 ∧ v.2 ≤ 75) := fun v hv => Nf_box (N := 4114) hf (by omega) hv (by omega)
  have hpw : pB a b c u.1 u.2 (vx, vy) = true := by
    unfold pB
    rw [Bool.and_eq_true, decide_eq_true_eq, hasB_iff hc0]
    exact ⟨hd, hv⟩
  have hs1 : ((box 128).filter (nearP f 32768)).Pairwise lx := (box_sorted 128).filter _
  have q1 : isBest (pB a b c u.1 u.2) (nF f) ((box 128).filter (nearP f 32768)) (best (pB a b c u.1 u.2) (nF f) ((box 128).filter (nearP f 32768)) none) := by
    generalize (box 128).filter (nearP f 32768) = BB at *
    exact best_is (pB a b c u.1 u.2) (nF f) BB [] none hs1 (fun v hv => by cases hv)
  have q2 : isBest (pB a b c u.1 u.2) (nF f) (box 76) (best (pB a b c u.1 u.2) (nF f) (box 76) none) := by
    have hs2 := box_sorted 76
    generalize box 76 = BB at *
    exact best_is (pB a b c u.1 u.2) (nF f) BB [] none hs2 (fun v hv => by cases hv)
  have hm : ∀ v, pB a b c u.1 u.2 v = true → nF f v ≤ nF f (vx, vy) → v ∈ (box 128).filter (nearP f 32768) ∧ v ∈ box 76 := fun v hv hle => by
    have hle' : nF f v ≤ 4114 := by unfold nF at hle ⊢; simp only at hle; omega
    have hbx := inb v hle'
    constructor
    · rw [List.mem_filter, mem_box]
      refine ⟨by omega, ?_⟩
      unfold nearP; unfold nF at hle'; rw [decide_eq_true_eq]; omega
    · rw [mem_box]; omega
  obtain ⟨hbest, v, hbv⟩ : best (pB a b c u.1 u.2) (nF f) ((box 128).filter (nearP f 32768)) none = best (pB a b c u.1 u.2) (nF f) (box 76) none ∧ ∃ v, best (pB a b c u.1 u.2) (nF f) ((box 128).filter (nearP f 32768)) none = some v ∧ pB a b c u.1 u.2 v = true ∧ nF f v ≤ nF f (vx, vy) := by
    generalize (box 128).filter (nearP f 32768) = LL at *
    generalize box 76 = BB at *
    exact best_unique q1 q2 hpw hm
  obtain ⟨hbv, hpv, hnv⟩ := hbv
  have hvb := inb v (by unfold nF at hnv ⊢; simp only at hnv; omega)
  have hb76 : best (pB a b c u.1 u.2) (nF f) (box 76) none = some v := hbest.symm.trans hbv
  unfold pB at hpv
  rw [Bool.and_eq_true, decide_eq_true_eq, hasB_iff hc0] at hpv
  refine ⟨l, u, v, hne, hll, hg, hL, hpv.2, hpv.1, by omega, by omega, hS1, hS2, fun k hk => ?_, fun k hk => ?_⟩
  · unfold spec_ReducedBasis.f
    rw [spec_l04Code_eq f a b c w, if_pos h]
    simp only [Option.bind_some]
    rw [if_pos trivial, h2 k hk]
    simp only [Option.bind_some, List.length_map]
    rw [wrap_id (x := (l.length : Int) - 1) (by omega) (by omega), if_pos (by omega), if_pos (by omega), hrd]
    rw [show (128 : Int) = ((128 : Nat) : Int) from rfl, spec_l04Near_eq f 32768 hf 128 (by omega) k (by omega)]
    simp only [Option.bind_some]
    have hlen := List.length_filter_le (nearP f 32768) (box 128)
    rw [box_len] at hlen
    have hsm : smallL ((box 128).filter (nearP f 32768)) := fun v hv => small_box 128 (by omega) v (List.mem_filter.mp hv).1
    clear q1 q2 hs1 hm hbest hb76
    generalize (box 128).filter (nearP f 32768) = LL at *
    obtain ⟨j, rfl⟩ : ∃ j, k = j + LL.length + 1 := ⟨k - LL.length - 1, by omega⟩
    have e := spec_red_loop (ux := u.1) (uy := u.2) hf (a := a) (b := b) (c := c) (by omega) (by omega) (by omega) (by omega) (by omega) (LL.map mkSV) (by simp; omega) j LL [] none 0 (by simp) (by simp) hsm (fun v hv => by cases hv)
    rw [hbv] at e
    exact e
  · unfold impl_ReducedBasis.f impl_reducedBasis.f
    rw [impl_frameCode_eq f a b c w, if_pos h]
    simp only [Option.bind_some]
    rw [if_pos trivial, h3 k hk]
    simp only [Option.bind_some, List.length_map]
    rw [wrap_id (x := (l.length : Int) - 1) (by omega) (by omega), if_pos (by omega), if_pos (by omega), hrd]
    rw [show (76 : Int) = ((76 : Nat) : Int) from rfl, impl_vecsAround_eq 76 (by omega) k (by omega)]
    simp only [Option.bind_some]
    have hlen := box_len 76
    obtain ⟨j, rfl⟩ : ∃ j, k = j + (box 76).length + 1 := ⟨k - (box 76).length - 1, by omega⟩
    have hs76 := small_box 76 (by omega)
    clear q1 q2 hs1 hm hbest hbv
    generalize box 76 = BB at *
    have e := impl_red_loop (ux := u.1) (uy := u.2) hf (a := a) (b := b) (c := c) (by omega) (by omega) (by omega) (by omega) (by omega) (BB.map mkSV) (by simp; omega) j BB [] none 0 (by simp) (by simp) hs76 (fun v hv => by cases hv)
    rw [hb76] at e
    rw [show impl_reducedBasis.l0 (j + BB.length + 1) f 0 (BB.map mkSV) ((BB.map mkSV).length : Int) 0 a b c (mkSV u).f0 (mkSV u).f1 0 0 = _ from e]
    rfl
theorem rd_SM_b (pre : List S51) (v : S51) (t : List S51) (i : Int) (hi : i = pre.length) : rd_T51 (pre ++ v :: t) i = v := by
  subst hi; unfold rd_T51; simp
theorem bas_loop {f a b c : Int} (hl : latB a b c = true) (hf : f = 0 ∨ f = 1) (T : List S51) (hT : T.length ≤ 1000) (hin : ∀ m ∈ T, m ∈ (pmL f).filter (stableB a b c)) (k : Nat) (hk : 1003100000 ≤ k) :
    ∀ (t pre : List S51) (i : Int), T = pre ++ t → i = pre.length → laws_FnBases.l0 (k + t.length + 1) f T i a b c = some true := by
  intro t
  induction t with
  | nil => intro pre i e hi; rw [laws_FnBases.l0, if_neg (by subst hi; subst e; simp)]
  | cons v t ih =>
    intro pre i e hi
    have hlen : T.length = pre.length + (t.length + 1) := by rw [e]; simp
    have hn := ih (pre ++ [v]) (i + 1) (by rw [e]; simp) (by rw [hi]; simp)
    have hv : rd_T51 T i = v := by rw [e]; exact rd_SM_b pre v t i hi
    have hvm := hin v (by rw [e]; simp)
    rw [show k + (v :: t).length + 1 = (k + t.length + 1) + 1 by simp; omega, laws_FnBases.l0, if_pos (by omega), if_pos (by omega), hv, wrap_id (x := i + 1) (by omega) (by omega), map_st hl hf v hvm _ (by omega)]
    simp only [Option.bind_some]
    rw [if_pos trivial, if_neg (by simp)]
    exact hn
theorem bas_j0 {f a b c : Int} (hl : latB a b c = true) (hf : f = 0 ∨ f = 1) (l : List (Int × Int)) (u v : Int × Int) (hne : l ≠ []) (hll : l.length ≤ 625) (hg : l.getLast hne = u) (hu : L a b c u.1 u.2) (hv : L a b c v.1 v.2) (hd : u.1 * v.2 - u.2 * v.1 = a * c)
    (bu : (-200 ≤ u.1 ∧ u.1 ≤ 200) ∧ (-200 ≤ u.2 ∧ u.2 ≤ 200)) (bv : (-200 ≤ v.1 ∧ v.1 ≤ 200) ∧ (-200 ≤ v.2 ∧ v.2 ≤ 200)) :
    laws_FnBases.j0 (1003100100 + 2) f 0 (l.map mkSV) (l.map mkSV) ((pmL f).filter (stableB a b c)) false a b c u.1 u.2 v.1 v.2 = some true := by
  obtain ⟨⟨a1, a2⟩, ⟨c1, c2⟩, ⟨b1, b2⟩, hac⟩ := latB_iff.mp hl
  have hac1 : a ≤ a * c := le_mul_r (by omega) (by omega)
  have hp : 0 < l.length := List.length_pos_iff.mpr hne
  have hrd := rd_last l hne
  rw [hg] at hrd
  obtain ⟨A, B, C, hh, hk⟩ := impl_LatticeOf_is (ux := u.1) (uy := u.2) (vx := v.1) (vy := v.2) (vecB_iff.mpr (by omega)) (vecB_iff.mpr (by omega)) (by omega)
  have hi := hh.index
  obtain ⟨rfl, rfl, rfl⟩ := (im_same (by omega) (by omega) ⟨by omega, by omega⟩ hh (by omega)).mpr ⟨hu, hv⟩
  rw [laws_FnBases.j0, if_neg (by decide), if_pos rfl, hk _ (by decide), if_pos hl]
  simp only [Option.bind_some]
  rw [if_pos trivial, if_neg (by simp)]
  simp only [List.length_map]
  rw [wrap_id (x := (l.length : Int) - 1) (by omega) (by omega), if_pos (by omega), if_pos (by omega), hrd]
  rw [show (!u.1 == (mkSV u).f0 || !u.2 == (mkSV u).f1) = false from by simp [mkSV], laws_FnBases.j1, if_neg (by decide)]
  have hlen := pmL_len12 hf
  have hle := List.length_filter_le (stableB A B C) (pmL f)
  obtain ⟨j, hj⟩ : ∃ j, 1003100100 = j + ((pmL f).filter (stableB A B C)).length + 1 := ⟨1003100100 - ((pmL f).filter (stableB A B C)).length - 1, by omega⟩
  rw [hj]
  exact bas_loop hl hf _ (by omega) (fun m h => h) j (by omega) _ [] 0 rfl rfl
theorem main (l0 : List Int) (hm0 : l0.length ≤ maxLen) (y0 : l0.length * 1 ≤ 140737488351232) (w0 : ∀ x ∈ l0, (Go.Lit.int .u8 x).wf = true) : ∃ k, laws_FnBases.f k l0 = some true := by
  have hb : ∀ x ∈ l0, 0 ≤ x ∧ x < 256 := fun x hx => u8_bd (w0 x hx)
  by_cases hl : (l0.length : Int) ≤ 4096
  · obtain ⟨f, a, b, c, e1, ha⟩ := drawRB_eq hl hb (1003100100 + 2) (by decide)
    have w : -9223372036854775808 ≤ a ∧ a < 9223372036854775808 := by omega
    by_cases h : frLat f a b c = true
    · obtain ⟨l, u, v, hne, hll, hg, hu, hv, hd, bu, bv, hS1, hS2, hR1, hR2⟩ := bases_is h
      have h' := h
      unfold frLat at h'
      rw [Bool.and_eq_true] at h'
      have hf := frameB_iff.mp h'.1
      have hlen := pmL_len12 hf
      have hle := List.length_filter_le (stableB a b c) (pmL f)
      have fin := bas_j0 h'.2 hf l u v hne hll hg hu hv hd bu bv
      have hM1 : spec_LatticeMats.f (1003100100 + 2) f a b c = some ((pmL f).filter (stableB a b c), 0) := by
        unfold spec_LatticeMats.f
        rw [spec_l04Code_eq f a b c w, if_pos h]
        simp only [Option.bind_some]
        rw [if_pos trivial, spec_l04Stable_eq h'.2 hf _ (by decide)]
        rfl
      have hM2 : impl_LatticeMats.f (1003100100 + 2) f a b c = some ((pmL f).filter (stableB a b c), 0) := by
        unfold impl_LatticeMats.f
        rw [impl_frameCode_eq f a b c w, if_pos h]
        simp only [Option.bind_some]
        rw [if_pos trivial, impl_latticeMats_eq h'.2 hf _ (by decide)]
        rfl
      refine ⟨1003100100 + 2, ?_⟩
      unfold laws_FnBases.f
      rw [big_eq, e1, decide_eq_false (by omega)]
      simp only [Option.bind_some, Bool.false_eq_true, if_false]
      rw [hR1 _ (by decide), hR2 _ (by decide)]
      simp only [Option.bind_some]
      rw [hS1 _ (by decide), hS2 _ (by decide)]
      simp only [Option.bind_some]
      rw [hM1, hM2]
      simp only [Option.bind_some, beq_self_eq_true, Bool.not_true, Bool.or_self, Bool.false_eq_true, if_false, if_true]
      rw [like9V_self _ _ (by simp; omega) (by simp; omega)]
      simp only [Option.bind_some, if_true]
      rw [like9M_self _ _ (by omega) (by omega)]
      simp only [Option.bind_some, Bool.not_true]
      exact fin
    · have hS1 : spec_ShortestVecs.f (1003100100 + 2) f a b c = some ([], 1) := by
        unfold spec_ShortestVecs.f; rw [spec_l04Code_eq f a b c w, if_neg h]; simp
      have hS2 : impl_ShortestVecs.f (1003100100 + 2) f a b c = some ([], 1) := by
        unfold impl_ShortestVecs.f; rw [impl_frameCode_eq f a b c w, if_neg h]; simp
      have hR1 : spec_ReducedBasis.f (1003100100 + 2) f a b c = some (0, 0, 0, 0, 1) := by
        unfold spec_ReducedBasis.f; rw [spec_l04Code_eq f a b c w, if_neg h]; simp
      have hR2 : impl_ReducedBasis.f (1003100100 + 2) f a b c = some (0, 0, 0, 0, 1) := by
        unfold impl_ReducedBasis.f; rw [impl_frameCode_eq f a b c w, if_neg h]; simp
      have hM1 : spec_LatticeMats.f (1003100100 + 2) f a b c = some ([], 1) := by
        unfold spec_LatticeMats.f; rw [spec_l04Code_eq f a b c w, if_neg h]; simp
      have hM2 : impl_LatticeMats.f (1003100100 + 2) f a b c = some ([], 1) := by
        unfold impl_LatticeMats.f; rw [impl_frameCode_eq f a b c w, if_neg h]; simp
      refine ⟨1003100100 + 2, ?_⟩
      unfold laws_FnBases.f
      rw [big_eq, e1, decide_eq_false (by omega)]
      simp only [Option.bind_some, Bool.false_eq_true, if_false]
      rw [hR1, hR2]
      simp only [Option.bind_some]
      rw [hS1, hS2]
      simp only [Option.bind_some]
      rw [hM1, hM2]
      simp only [Option.bind_some, beq_self_eq_true, Bool.not_true, Bool.or_self, Bool.false_eq_true, if_false, if_true]
      rw [like9V_self _ _ (by simp) (by simp)]
      simp only [Option.bind_some, if_true]
      rw [like9M_self _ _ (by simp) (by simp)]
      simp only [Option.bind_some, Bool.not_true]
      rw [laws_FnBases.j0, if_neg (by decide), if_neg (by decide)]
  · refine ⟨0, ?_⟩
    unfold laws_FnBases.f
    rw [big_eq]
    simp only [Option.bind_some]
    rw [if_pos (by rw [decide_eq_true_eq]; omega)]
end Go.Proofs.Ytcjchihnopmplaa.PureFnBases

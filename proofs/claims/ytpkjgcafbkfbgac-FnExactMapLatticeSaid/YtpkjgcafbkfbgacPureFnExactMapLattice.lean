/-
The law FnExactMapLattice, over numbers and lists alone: the printed functions of the program and of the reference answer alike. No condition but that each number is an int64.
-/
import Derived.Test.YtpkjgcafbkfbgacF53
import GoSem.Claim
namespace Go.Proofs.Ytpkjgcafbkfbgac.PureFnExactMapLattice
open Go.RowKit Go.Proofs.Ytpkjgcafbkfbgac.F Go.Proofs.YtpkjgcafbkfbgacW.PrintWords Go.Proofs.YtpkjgcafbkfbgacW.PrintLast Go.Proofs.YtpkjgcafbkfbgacW.PrintMore
set_option linter.unusedVariables false
set_option linter.unusedSimpArgs false
theorem gcd_tmod (a b : Int) : Int.gcd b (a.tmod b) = Int.gcd a b := by
  unfold Int.gcd
  rw [Int.natAbs_tmod, Nat.gcd_comm a.natAbs, Nat.gcd_rec b.natAbs a.natAbs, Nat.gcd_comm]
theorem bezout_nat : ∀ (n : Nat) (a b : Int), b.natAbs ≤ n → ∃ s t : Int, (Int.gcd a b : Int) = s * a + t * b := by
  intro n
  induction n with
  | zero =>
    intro a b h
    have hb : b = 0 := by omega
    subst hb
    rcases Int.natAbs_eq a with h | h
    · exact ⟨1, 0, by rw [Int.gcd_zero_right]; omega⟩
    · exact ⟨-1, 0, by rw [Int.gcd_zero_right]; omega⟩
  | succ n ih =>
    intro a b h
    by_cases hb : b = 0
    · exact ih a b (by omega)
    · have h1 : (a.tmod b).natAbs ≤ n := by
        rw [Int.natAbs_tmod]
        have := Nat.mod_lt a.natAbs (show 0 < b.natAbs by omega)
        omega
      obtain ⟨s, t, e⟩ := ih b (a.tmod b) h1
      refine ⟨t, s - t * (a.tdiv b), ?_⟩
      rw [← gcd_tmod a b, e]
      have := Int.mul_tdiv_add_tmod a b
      grind
theorem bezout (a b : Int) : ∃ s t : Int, (Int.gcd a b : Int) = s * a + t * b := bezout_nat _ a b (Nat.le_refl _)
/-- (x, y) is a sum of multiples of (a, 0) and (b, c). -/
def L (a b c x y : Int) : Prop := ∃ m n : Int, x = m * a + n * b ∧ y = n * c
/-- Equal lattices in the given form are equal. -/
theorem L_unique {a b c a' b' c' : Int} (ha : 0 < a) (hc : 0 < c) (hb0 : 0 ≤ b) (hb : b < a) (ha' : 0 < a') (hc' : 0 < c') (hb0' : 0 ≤ b') (hb' : b' < a') (h : ∀ x y, L a b c x y ↔ L a' b' c' x y) : a = a' ∧ b = b' ∧ c = c' := by
  obtain ⟨m1, n1, e1, e2⟩ := (h a 0).mp ⟨1, 0, by omega, by omega⟩
  obtain ⟨m2, n2, e3, e4⟩ := (h b c).mp ⟨0, 1, by omega, by omega⟩
  obtain ⟨m3, n3, e5, e6⟩ := (h a' 0).mpr ⟨1, 0, by omega, by omega⟩
  obtain ⟨m4, n4, e7, e8⟩ := (h b' c').mpr ⟨0, 1, by omega, by omega⟩
  have z1 : n1 = 0 := by
    rcases Int.mul_eq_zero.mp e2.symm with h | h <;> omega
  have z3 : n3 = 0 := by
    rcases Int.mul_eq_zero.mp e6.symm with h | h <;> omega
  subst z1; subst z3
  have da : a' ∣ a := ⟨m1, by grind⟩
  have da' : a ∣ a' := ⟨m3, by grind⟩
  have dc : c' ∣ c := ⟨n2, by grind⟩
  have dc' : c ∣ c' := ⟨n4, by grind⟩
  have ea := Int.dvd_antisymm (by omega) (by omega) da' da
  have ec := Int.dvd_antisymm (by omega) (by omega) dc' dc
  subst ea; subst ec
  have hn : n2 = 1 := by
    have h1 : n2 * c = 1 * c := by omega
    exact Int.eq_of_mul_eq_mul_right (by omega) h1
  subst hn
  refine ⟨rfl, ?_, rfl⟩
  have hm : m2 = 0 := by
    rcases Int.lt_trichotomy m2 0 with h | h | h
    · have : m2 * a ≤ (-1) * a := Int.mul_le_mul_of_nonneg_right (by omega) (by omega)
      omega
    · exact h
    · have : 1 * a ≤ m2 * a := Int.mul_le_mul_of_nonneg_right (by omega) (by omega)
      omega
  subst hm
  omega
/-- The index: what spans the same lattice has the same determinant, up to its sign. -/
theorem L_index {a b c ux uy vx vy : Int} (ha : 0 < a) (hc : 0 < c) (h : ∀ x y, L a b c x y ↔ ∃ i j : Int, x = i * ux + j * vx ∧ y = i * uy + j * vy) :
    a * c = (ux * vy - uy * vx).natAbs := by
  obtain ⟨m1, n1, e1, e2⟩ := (h ux uy).mpr ⟨1, 0, by omega, by omega⟩
  obtain ⟨m2, n2, e3, e4⟩ := (h vx vy).mpr ⟨0, 1, by omega, by omega⟩
  obtain ⟨i1, j1, e5, e6⟩ := (h a 0).mp ⟨1, 0, by omega, by omega⟩
  obtain ⟨i2, j2, e7, e8⟩ := (h b c).mp ⟨0, 1, by omega, by omega⟩
  have d1 : (a * c) ∣ (ux * vy - uy * vx) := ⟨m1 * n2 - n1 * m2, by subst e1 e2 e3 e4; grind⟩
  have d2 : (ux * vy - uy * vx) ∣ (a * c) := ⟨i1 * j2 - j1 * i2, by grind⟩
  have hp : 0 < a * c := Int.mul_pos ha hc
  have d1' : (a * c) ∣ ((ux * vy - uy * vx).natAbs : Int) := Int.dvd_natAbs.mpr d1
  have d2' : ((ux * vy - uy * vx).natAbs : Int) ∣ (a * c) := Int.natAbs_dvd.mpr d2
  exact Int.dvd_antisymm (by omega) (by omega) d1' d2'
theorem L_rank {a b c ux uy vx vy : Int} (hu : L a b c ux uy) (hv : L a b c vx vy) (hd : ux * vy - uy * vx ≠ 0) : a ≠ 0 ∧ c ≠ 0 := by
  obtain ⟨m1, n1, e1, e2⟩ := hu
  obtain ⟨m2, n2, e3, e4⟩ := hv
  subst e1 e2 e3 e4
  constructor
  · rintro rfl; apply hd; grind
  · rintro rfl; apply hd; grind
/-- All sums of multiples of two vectors. -/
def S2 (px py vx vy x y : Int) : Prop := ∃ i j : Int, x = i * px + j * vx ∧ y = i * py + j * vy
theorem S2_step (px py vx vy k x y : Int) : S2 vx vy (px - k * vx) (py - k * vy) x y ↔ S2 px py vx vy x y := by
  constructor
  · rintro ⟨i, j, rfl, rfl⟩; exact ⟨j, i - j * k, by grind, by grind⟩
  · rintro ⟨i, j, rfl, rfl⟩; exact ⟨j + i * k, i, by grind, by grind⟩
/-- One vector more: what the divisor step does. -/
theorem L_more {low px py ux uy px' py' vx' low' : Int} (hs : ∀ x y, S2 px' py' vx' 0 x y ↔ S2 px py ux uy x y) (hg : low' = Int.gcd low vx') (x y : Int) :
    L low' px' py' x y ↔ ∃ j, L low px py (x - j * ux) (y - j * uy) := by
  constructor
  · rintro ⟨m, n, e1, e2⟩
    obtain ⟨s, t, e⟩ := bezout low vx'
    obtain ⟨i, j, e3, e4⟩ := (hs (x - m * s * low) y).mp ⟨n, m * t, by subst e1; rw [hg, e]; grind, by grind⟩
    exact ⟨j, m * s, i, by grind, by grind⟩
  · rintro ⟨j, m, n, e1, e2⟩
    obtain ⟨i', j', e3, e4⟩ := (hs (x - m * low) y).mpr ⟨n, j, by grind, by grind⟩
    have d1 : low' ∣ low := by rw [hg]; exact Int.gcd_dvd_left low vx'
    have d2 : low' ∣ vx' := by rw [hg]; exact Int.gcd_dvd_right low vx'
    obtain ⟨p, hp⟩ := d1
    obtain ⟨q, hq⟩ := d2
    exact ⟨m * p + j' * q, i', by grind, by grind⟩
theorem L_neg (a b c x y : Int) : L a (-b) (-c) x y ↔ L a b c x y := by
  constructor
  · rintro ⟨m, n, e1, e2⟩; exact ⟨m, -n, by grind, by grind⟩
  · rintro ⟨m, n, e1, e2⟩; exact ⟨m, -n, by grind, by grind⟩
theorem L_mod (a b c x y : Int) : L a (b % a) c x y ↔ L a b c x y := by
  constructor
  · rintro ⟨m, n, e1, e2⟩; rw [Int.emod_def] at e1; exact ⟨m - n * (b / a), n, by grind, by grind⟩
  · rintro ⟨m, n, e1, e2⟩; refine ⟨m + n * (b / a), n, ?_, e2⟩; rw [Int.emod_def]; grind
theorem L_zero (x y : Int) : L 0 0 0 x y ↔ x = 0 ∧ y = 0 := by
  constructor
  · rintro ⟨m, n, e1, e2⟩; exact ⟨by grind, by grind⟩
  · rintro ⟨rfl, rfl⟩; exact ⟨0, 0, by grind, by grind⟩
def Nf (f x y : Int) : Int := x * x + f * x * y + y * y
theorem sq_nn (x : Int) : 0 ≤ x * x := by
  rcases Int.le_total 0 x with h | h
  · exact Int.mul_nonneg h h
  · exact Int.mul_nonneg_of_nonpos_of_nonpos h h
theorem Nf_four (f x y : Int) (hf : f = 0 ∨ f = 1) : 3 * (x * x) ≤ 4 * Nf f x y ∧ 3 * (y * y) ≤ 4 * Nf f x y := by
  unfold Nf
  rcases hf with rfl | rfl
  · have := sq_nn x
    have := sq_nn y
    constructor <;> grind
  · have h1 := sq_nn (x + 2 * y)
    have h2 := sq_nn (2 * x + y)
    constructor <;> grind
theorem sq_bound {x m : Int} (hm : 0 ≤ m) (h : x * x < (m + 1) * (m + 1)) : -m ≤ x ∧ x ≤ m := by
  constructor
  · rcases Int.lt_or_le x (-m) with h' | h'
    · have := Int.mul_le_mul (show m + 1 ≤ -x by omega) (show m + 1 ≤ -x by omega) (by omega) (by omega)
      rw [Int.neg_mul_neg] at this; omega
    · exact h'
  · rcases Int.lt_or_le m x with h' | h'
    · have := Int.mul_le_mul (show m + 1 ≤ x by omega) (show m + 1 ≤ x by omega) (by omega) (by omega)
      omega
    · exact h'
theorem Nf_box {f x y N m : Int} (hf : f = 0 ∨ f = 1) (hm : 0 ≤ m) (h : Nf f x y ≤ N) (hN : 4 * N < 3 * ((m + 1) * (m + 1))) : (-m ≤ x ∧ x ≤ m) ∧ (-m ≤ y ∧ y ≤ m) := by
  obtain ⟨h1, h2⟩ := Nf_four f x y hf
  exact ⟨sq_bound hm (by omega), sq_bound hm (by omega)⟩
theorem tmod_cases (a n : Int) (hn : 0 < n) : (0 ≤ a ∧ a.tmod n = a % n) ∨ (a < 0 ∧ a.tmod n = -((-a) % n)) := by
  rcases Int.lt_or_le a 0 with h | h
  · refine Or.inr ⟨h, ?_⟩
    have : a.tmod n = -((-a).tmod n) := by rw [Int.neg_tmod, Int.neg_neg]
    rw [this, Int.tmod_eq_emod_of_nonneg (by omega)]
  · exact Or.inl ⟨h, Int.tmod_eq_emod_of_nonneg h⟩
theorem tmod_bounds (a n : Int) (hn : 0 < n) : -n < a.tmod n ∧ a.tmod n < n := by
  have h1 := Int.emod_nonneg a (show n ≠ 0 by omega)
  have h2 := Int.emod_lt_of_pos a hn
  have h3 := Int.emod_nonneg (-a) (show n ≠ 0 by omega)
  have h4 := Int.emod_lt_of_pos (-a) hn
  rcases tmod_cases a n hn with ⟨_, e⟩ | ⟨_, e⟩ <;> rw [e] <;> omega
theorem neg_emod_add (a n : Int) (hn : 0 < n) : a % n = (n - (-a) % n) % n := by
  have e := Int.mul_ediv_add_emod (-a) n
  have : n - (-a) % n = a + n * ((-a) / n + 1) := by rw [Int.mul_add]; omega
  rw [this, Int.add_mul_emod_self_left]
theorem mod_add (a n : Int) (hn : 0 < n) : (a.tmod n + n).tmod n = a % n := by
  have h1 := Int.emod_nonneg a (show n ≠ 0 by omega)
  have h2 := Int.emod_lt_of_pos a hn
  have h3 := Int.emod_nonneg (-a) (show n ≠ 0 by omega)
  have h4 := Int.emod_lt_of_pos (-a) hn
  rcases tmod_cases a n hn with ⟨_, e⟩ | ⟨_, e⟩ <;> rw [e, Int.tmod_eq_emod_of_nonneg (by omega)]
  · rw [Int.add_emod_right, Int.emod_emod]
  · rw [neg_emod_add a n hn]; congr 1; omega
theorem mod_if (a n : Int) (hn : 0 < n) : (if a.tmod n < 0 then a.tmod n + n else a.tmod n) = a % n := by
  have h1 := Int.emod_nonneg a (show n ≠ 0 by omega)
  have h3 := Int.emod_nonneg (-a) (show n ≠ 0 by omega)
  have h4 := Int.emod_lt_of_pos (-a) hn
  rcases tmod_cases a n hn with ⟨_, e⟩ | ⟨_, e⟩ <;> rw [e]
  · rw [if_neg (by omega)]
  · split
    · rw [neg_emod_add a n hn, Int.emod_eq_of_lt (a := n - (-a) % n) (b := n) (by omega) (by omega)]; omega
    · have : (-a) % n = 0 := by omega
      rw [neg_emod_add a n hn, this]; simp
theorem euclid {px py vx vy : Int} {M : Nat} (hv : vy ≠ 0) (hQ : px.natAbs * vy.natAbs + vx.natAbs * py.natAbs ≤ M) :
    (py.tdiv vy).natAbs ≤ py.natAbs ∧ (py.tdiv vy * vx).natAbs ≤ M ∧ (px - py.tdiv vy * vx).natAbs ≤ M ∧ (py.tdiv vy * vy).natAbs ≤ py.natAbs ∧
      (py - py.tdiv vy * vy).natAbs < vy.natAbs ∧ vx.natAbs * (py - py.tdiv vy * vy).natAbs + (px - py.tdiv vy * vx).natAbs * vy.natAbs ≤ M := by
  have hV : 0 < vy.natAbs := by omega
  have eK : (py.tdiv vy).natAbs = py.natAbs / vy.natAbs := Int.natAbs_tdiv py vy
  have e1 : py - py.tdiv vy * vy = py.tmod vy := by have := Int.mul_tdiv_add_tmod py vy; rw [Int.mul_comm] at this; omega
  have eR : (py.tmod vy).natAbs = py.natAbs % vy.natAbs := Int.natAbs_tmod py vy
  have e2 := Nat.div_add_mod py.natAbs vy.natAbs
  have h3 : (px - py.tdiv vy * vx).natAbs ≤ px.natAbs + (py.tdiv vy).natAbs * vx.natAbs := by
    have := Int.natAbs_sub_le px (py.tdiv vy * vx)
    rw [Int.natAbs_mul] at this; exact this
  have hK := Nat.div_le_self py.natAbs vy.natAbs
  have hR := Nat.mod_lt py.natAbs hV
  rw [e1, eR, Int.natAbs_mul, Int.natAbs_mul, eK]
  rw [eK] at h3
  generalize (px - py.tdiv vy * vx).natAbs = Z at *
  generalize py.natAbs / vy.natAbs = K at *
  generalize py.natAbs % vy.natAbs = R at *
  generalize py.natAbs = P at *
  generalize vy.natAbs = V at *
  generalize vx.natAbs = Y at *
  generalize px.natAbs = X at *
  have q : Y * R + (X + K * Y) * V = X * V + Y * P := by rw [← e2]; grind
  have q2 : Z * V ≤ (X + K * Y) * V := Nat.mul_le_mul_right V h3
  have q3 : X + K * Y ≤ (X + K * Y) * V := Nat.le_mul_of_pos_right _ hV
  have q4 : K * V ≤ P := by rw [Nat.mul_comm] ; omega
  have q5 : 0 ≤ Y * R := Nat.zero_le _
  have q6 : 0 ≤ X := Nat.zero_le _
  refine ⟨hK, ?_, ?_, q4, hR, ?_⟩
  · generalize K * Y = KY at *; omega
  · omega
  · omega
def vecB (x y : Int) : Bool := decide (-1000 ≤ x ∧ x ≤ 1000 ∧ -1000 ≤ y ∧ y ≤ 1000)
def smallB (a b c d : Int) : Bool := decide ((-1000 ≤ a ∧ a ≤ 1000 ∧ -1000 ≤ b ∧ b ≤ 1000) ∧ -1000 ≤ c ∧ c ≤ 1000 ∧ -1000 ≤ d ∧ d ≤ 1000)
def matB (a b c d : Int) : Bool := smallB a b c d && (a * d - b * c == 1 || a * d - b * c == -1)
def latB (a b c : Int) : Bool := decide ((1 ≤ a ∧ a ≤ 64) ∧ (1 ≤ c ∧ c ≤ 64) ∧ (0 ≤ b ∧ b ≤ a - 1) ∧ a * c ≤ 64)
theorem wrap_id {x : Int} (h1 : -9223372036854775808 ≤ x) (h2 : x < 9223372036854775808) : wrap64 x = x := by unfold wrap64; omega
theorem prod_bd {a b A B : Int} (ha : -A ≤ a) (ha' : a ≤ A) (hb : -B ≤ b) (hb' : b ≤ B) (hA : 0 ≤ A) : -(A * B) ≤ a * b ∧ a * b ≤ A * B := by
  have h1 : (a * b).natAbs ≤ A.natAbs * B.natAbs := by rw [Int.natAbs_mul]; exact Nat.mul_le_mul (by omega) (by omega)
  have h2 : (A * B).natAbs = A.natAbs * B.natAbs := Int.natAbs_mul A B
  have h3 : 0 ≤ A * B := Int.mul_nonneg hA (by omega)
  omega
theorem smallB_iff {a b c d : Int} : smallB a b c d = true ↔ ((-1000 ≤ a ∧ a ≤ 1000) ∧ (-1000 ≤ b ∧ b ≤ 1000)) ∧ (-1000 ≤ c ∧ c ≤ 1000) ∧ (-1000 ≤ d ∧ d ≤ 1000) := by unfold smallB; rw [decide_eq_true_iff]; omega
theorem matB_iff {a b c d : Int} : matB a b c d = true ↔ smallB a b c d = true ∧ (a * d - b * c = 1 ∨ a * d - b * c = -1) := by unfold matB; simp
theorem latB_iff {a b c : Int} : latB a b c = true ↔ (1 ≤ a ∧ a ≤ 64) ∧ (1 ≤ c ∧ c ≤ 64) ∧ (0 ≤ b ∧ b ≤ a - 1) ∧ a * c ≤ 64 := by unfold latB; rw [decide_eq_true_iff]
/-- Products of small numbers need no wrapping. -/
theorem wrap_mul {a b A B : Int} (ha : -A ≤ a) (ha' : a ≤ A) (hb : -B ≤ b) (hb' : b ≤ B) (hA : 0 ≤ A) (h : A * B < 9223372036854775808) : wrap64 (a * b) = a * b := by
  have := prod_bd ha ha' hb hb' hA; exact wrap_id (by omega) (by omega)
theorem det_wrap {a b c d : Int} (h : smallB a b c d = true) : wrap64 (wrap64 (a * d) - wrap64 (b * c)) = a * d - b * c ∧ (-2000000 ≤ a * d - b * c ∧ a * d - b * c ≤ 2000000) := by
  rw [smallB_iff] at h
  have h1 := prod_bd (A := 1000) (B := 1000) h.1.1.1 h.1.1.2 h.2.2.1 h.2.2.2 (by omega)
  have h2 := prod_bd (A := 1000) (B := 1000) h.1.2.1 h.1.2.2 h.2.1.1 h.2.1.2 (by omega)
  rw [wrap_id (x := a * d) (by omega) (by omega), wrap_id (x := b * c) (by omega) (by omega), wrap_id (by omega) (by omega)]
  omega
/-- a x + b y for small numbers. -/
theorem lin_wrap {a b x y : Int} (A : Int) (ha : -A ≤ a ∧ a ≤ A) (hb : -A ≤ b ∧ b ≤ A) (hx : -A ≤ x ∧ x ≤ A) (hy : -A ≤ y ∧ y ≤ A) (hA : 0 ≤ A) (hA2 : A ≤ 1000000000) :
    wrap64 (wrap64 (a * x) + wrap64 (b * y)) = a * x + b * y ∧ (-(2 * (A * A)) ≤ a * x + b * y ∧ a * x + b * y ≤ 2 * (A * A)) := by
  have h1 := prod_bd ha.1 ha.2 hx.1 hx.2 hA
  have h2 := prod_bd hb.1 hb.2 hy.1 hy.2 hA
  have h3 : A * A ≤ 1000000000 * 1000000000 := Int.mul_le_mul hA2 hA2 hA (by omega)
  rw [wrap_id (x := a * x) (by omega) (by omega), wrap_id (x := b * y) (by omega) (by omega), wrap_id (by omega) (by omega)]
  omega
theorem mx_abs {a : Int} (h1 : -9223372036854775808 < a) (h2 : a < 9223372036854775808) : mx a (wrap64 (-a)) = (a.natAbs : Int) := by
  rw [wrap_id (by omega) (by omega)]; unfold mx; split <;> omega
def frameB (f : Int) : Bool := decide (f = 0 ∨ f = 1)
theorem wf_bd {a : Int} (h : (Go.Lit.int .i64 a).wf = true) : -9223372036854775808 ≤ a ∧ a < 9223372036854775808 := by
  simp only [Go.Lit.wf, Bool.and_eq_true, decide_eq_true_eq] at h
  obtain ⟨h1, h2⟩ := h
  have e1 : Go.IntKind.min .i64 = -9223372036854775808 := by decide
  have e2 : Go.IntKind.max .i64 = 9223372036854775807 := by decide
  omega
/-- A reduced form of what some vectors span. -/
def Herm (sp : Int → Int → Prop) (A B C : Int) : Prop := 0 < A ∧ 0 < C ∧ 0 ≤ B ∧ B < A ∧ ∀ x y, L A B C x y ↔ sp x y
theorem Herm.unique {sp : Int → Int → Prop} {A B C A' B' C' : Int} (h : Herm sp A B C) (h' : Herm sp A' B' C') : A = A' ∧ B = B' ∧ C = C' :=
  L_unique h.1 h.2.1 h.2.2.1 h.2.2.2.1 h'.1 h'.2.1 h'.2.2.1 h'.2.2.2.1 fun x y => (h.2.2.2.2 x y).trans (h'.2.2.2.2 x y).symm
def sp2 (ux uy vx vy : Int) : Int → Int → Prop := fun x y => ∃ i j : Int, x = i * ux + j * vx ∧ y = i * uy + j * vy
theorem Herm.index {A B C ux uy vx vy : Int} (h : Herm (sp2 ux uy vx vy) A B C) : A * C = (ux * vy - uy * vx).natAbs := L_index h.1 h.2.1 h.2.2.2.2
/-- One vector more joins the span. -/
def plus (l p q ux uy l' p' q' : Int) : Prop := ∀ x y, L l' p' q' x y ↔ ∃ j, L l p q (x - j * ux) (y - j * uy)
theorem plus_two {l p q l' p' q' ux uy vx vy : Int} (h1 : plus 0 0 0 ux uy l p q) (h2 : plus l p q vx vy l' p' q') (x y : Int) : L l' p' q' x y ↔ sp2 ux uy vx vy x y := by
  rw [h2]
  constructor
  · rintro ⟨j, h⟩
    obtain ⟨i, h⟩ := (h1 _ _).mp h
    rw [L_zero] at h
    exact ⟨i, j, by omega, by omega⟩
  · rintro ⟨i, j, e1, e2⟩
    refine ⟨j, (h1 _ _).mpr ⟨i, ?_⟩⟩
    rw [L_zero]; omega
theorem gcd_le_bd {a b : Int} {M : Nat} (ha : a.natAbs ≤ M) (hb : b.natAbs ≤ M) : Int.gcd a b ≤ M := by
  by_cases h : a = 0
  · subst h; rw [Int.gcd_zero_left]; exact hb
  · exact Nat.le_trans (Int.gcd_le_natAbs_left (a := a) (b := b) h) ha
theorem le_mul_r {a c : Int} (ha : 0 ≤ a) (hc : 1 ≤ c) : a ≤ a * c := by
  have := Int.mul_le_mul_of_nonneg_left hc ha; omega
theorem le_mul_l {a c : Int} (hc : 0 ≤ c) (ha : 1 ≤ a) : c ≤ a * c := by
  have := Int.mul_le_mul_of_nonneg_right ha hc; omega
theorem spec_l01In_eq (a b c : Int) : spec_l01In.f a b c = some (decide (b ≤ a ∧ a ≤ c)) := by
  unfold spec_l01In.f; split <;> simp <;> omega
theorem impl_within_eq (a b c : Int) : impl_within.f a b c = some (decide (b ≤ a ∧ a ≤ c)) := by
  unfold impl_within.f; split <;> simp <;> omega
theorem spec_IsVec_eq (x y : Int) : spec_IsVec.f x y = some (vecB x y) := by
  unfold spec_IsVec.f vecB; simp only [spec_l01In_eq, Option.bind_some]; split <;> simp_all <;> omega
theorem spec_l02Small_eq (a b c d : Int) : spec_l02Small.f a b c d = some (smallB a b c d) := by
  unfold spec_l02Small.f smallB; simp only [spec_IsVec_eq, Option.bind_some, vecB]; split <;> simp_all <;> omega
theorem spec_IsMat_eq (a b c d : Int) : spec_IsMat.f a b c d = some (matB a b c d) := by
  unfold spec_IsMat.f matB spec_l02Det.f
  simp only [spec_l02Small_eq, Option.bind_some]
  cases h : smallB a b c d with
  | false => simp
  | true => rw [(det_wrap h).1]; simp; split <;> simp_all
theorem spec_IsLattice_eq (a b c : Int) (h1 : -9223372036854775808 ≤ a) (h2 : a < 9223372036854775808) : spec_IsLattice.f a b c = some (latB a b c) := by
  unfold spec_IsLattice.f latB; simp only [spec_l01In_eq, Option.bind_some]
  by_cases ha : 1 ≤ a ∧ a ≤ 64
  · by_cases hc : 1 ≤ c ∧ c ≤ 64
    · rw [wrap_id (x := a - 1) (by omega) (by omega), wrap_mul (A := 64) (B := 64) (by omega) (by omega) (by omega) (by omega) (by omega) (by omega)]
      simp only [ha, hc, and_self, decide_true, if_true]
      by_cases hb : 0 ≤ b ∧ b ≤ a - 1 <;> simp [hb]
    · simp [ha]; split <;> simp_all <;> omega
  · simp; split <;> simp_all <;> omega
theorem impl_IsLattice_eq (a b c : Int) (h1 : -9223372036854775808 ≤ a) (h2 : a < 9223372036854775808) : impl_IsLattice.f a b c = some (latB a b c) := by
  unfold impl_IsLattice.f latB impl_Lattice_index.f; simp only [impl_within_eq, Option.bind_some]
  by_cases ha : 1 ≤ a ∧ a ≤ 64
  · by_cases hc : 1 ≤ c ∧ c ≤ 64
    · rw [wrap_id (x := a - 1) (by omega) (by omega), wrap_mul (A := 64) (B := 64) (by omega) (by omega) (by omega) (by omega) (by omega) (by omega)]
      simp only [ha, hc, and_self, decide_true, if_true]
      by_cases hb : 0 ≤ b ∧ b ≤ a - 1 <;> simp [hb]
    · simp [ha]; split <;> simp_all <;> omega
  · simp; split <;> simp_all <;> omega
theorem spec_l02Apply_eq (A : Int) {a b c d x y : Int} (hA : 0 ≤ A) (hA2 : A ≤ 1000000000) (ha : -A ≤ a ∧ a ≤ A) (hb : -A ≤ b ∧ b ≤ A) (hc : -A ≤ c ∧ c ≤ A) (hd : -A ≤ d ∧ d ≤ A) (hx : -A ≤ x ∧ x ≤ A) (hy : -A ≤ y ∧ y ≤ A) :
    spec_l02Apply.f a b c d x y = some (a * x + b * y, c * x + d * y) := by
  unfold spec_l02Apply.f; rw [(lin_wrap A ha hb hx hy hA hA2).1, (lin_wrap A hc hd hx hy hA hA2).1]
theorem impl_Mat_apply_eq (A : Int) {a b c d x y : Int} (hA : 0 ≤ A) (hA2 : A ≤ 1000000000) (ha : -A ≤ a ∧ a ≤ A) (hb : -A ≤ b ∧ b ≤ A) (hc : -A ≤ c ∧ c ≤ A) (hd : -A ≤ d ∧ d ≤ A) (hx : -A ≤ x ∧ x ≤ A) (hy : -A ≤ y ∧ y ≤ A) :
    impl_Mat_apply.f a b c d x y = some (a * x + b * y, c * x + d * y) := by
  unfold impl_Mat_apply.f; rw [(lin_wrap A ha hb hx hy hA hA2).1, (lin_wrap A hc hd hx hy hA hA2).1]
theorem spec_IsFrame_eq (f : Int) : spec_IsFrame.f f = some (frameB f) := by
  unfold spec_IsFrame.f frameB
  by_cases h : f = 0
  · simp [h]
  · by_cases h' : f = 1 <;> simp [h, h']
theorem impl_IsFrame_eq (f : Int) : impl_IsFrame.f f = some (frameB f) := by
  unfold impl_IsFrame.f frameB; simp only [impl_within_eq, Option.bind_some]; congr 1; exact decide_eq_decide.mpr (by omega)
theorem spec_l04Norm_eq (f : Int) {x y : Int} (hf : f = 0 ∨ f = 1) (hx : -100000 ≤ x ∧ x ≤ 100000) (hy : -100000 ≤ y ∧ y ≤ 100000) : spec_l04Norm.f f x y = some (Nf f x y) := by
  have h1 := prod_bd hx.1 hx.2 hx.1 hx.2 (by omega)
  have h2 := prod_bd hy.1 hy.2 hy.1 hy.2 (by omega)
  have h3 := prod_bd hx.1 hx.2 hy.1 hy.2 (by omega)
  unfold spec_l04Norm.f Nf
  rw [wrap_id (x := x * x) (by omega) (by omega), wrap_id (x := y * y) (by omega) (by omega), wrap_id (x := x * y) (by omega) (by omega), wrap_id (x := x * x + y * y) (by omega) (by omega)]
  rcases hf with rfl | rfl
  · rw [if_neg (by omega), Int.zero_mul, Int.zero_mul]; congr 1; omega
  · rw [if_pos rfl, wrap_id (by omega) (by omega), Int.one_mul]; congr 1; omega
theorem frameB_iff {f : Int} : frameB f = true ↔ f = 0 ∨ f = 1 := by unfold frameB; exact decide_eq_true_iff
theorem impl_gcd_eq : ∀ (k : Nat) (a b : Int), b.natAbs < k → a.natAbs < 9223372036854775808 → b.natAbs < 9223372036854775808 → impl_gcd.l0 k a b = some (Int.gcd a b : Int) := by
  intro k
  induction k with
  | zero => intro a b h; omega
  | succ k ih =>
    intro a b h ha hb
    unfold impl_gcd.l0
    by_cases h0 : b = 0
    · subst h0; rw [if_pos rfl, mx_abs (by omega) (by omega), Int.gcd_zero_right]
    · rw [if_neg h0]
      have h1 := Int.natAbs_tmod a b
      have h2 := Nat.mod_lt a.natAbs (show 0 < b.natAbs by omega)
      rw [ih b (a.tmod b) (by omega) (by omega) (by omega), gcd_tmod]
theorem spec_l01Divisor_eq : ∀ (k : Nat) (a b : Int), b.natAbs < k → a.natAbs < 9223372036854775808 → b.natAbs < 9223372036854775808 → spec_l01Divisor.f k a b = some (Int.gcd a b : Int) := by
  intro k
  induction k with
  | zero => intro a b h; omega
  | succ k ih =>
    intro a b h ha hb
    unfold spec_l01Divisor.f
    by_cases h0 : b = 0
    · subst h0; rw [if_pos rfl, mx_abs (by omega) (by omega), Int.gcd_zero_right]
    · rw [if_neg h0]
      have h1 := Int.natAbs_tmod a b
      have h2 := Nat.mod_lt a.natAbs (show 0 < b.natAbs by omega)
      rw [ih b (a.tmod b) (by omega) (by omega) (by omega), gcd_tmod]; rfl
theorem spec_l01Mod_eq {a n : Int} (hn : 0 < n) (hn2 : n ≤ 1000000000000000000) : spec_l01Mod.f a n = some (a % n) := by
  unfold spec_l01Mod.f
  have hb := tmod_bounds a n hn
  rw [if_neg (by omega)]
  rw [wrap_id (by omega) (by omega)]
  have := mod_if a n hn
  split <;> rename_i h
  · rw [if_pos h] at this; rw [this]
  · rw [if_neg h] at this; rw [this]
theorem impl_mod_eq {a n : Int} (hn : 0 < n) (hn2 : n ≤ 1000000000000000000) : impl_mod.f a n = some (a % n) := by
  unfold impl_mod.f
  have hb := tmod_bounds a n hn
  rw [if_neg (by omega), wrap_id (by omega) (by omega), mod_add a n hn]
theorem impl_euclid (l : List S28) (low len i : Int) : ∀ (n : Nat) (px py vx vy : Int) (M : Nat), M ≤ 10000000000000000 → vy.natAbs ≤ n → px.natAbs ≤ M → vx.natAbs ≤ M → py.natAbs ≤ 1000 → vy.natAbs ≤ 1000 →
    px.natAbs * vy.natAbs + vx.natAbs * py.natAbs ≤ M →
    ∃ px' py' vx', px'.natAbs ≤ M ∧ py'.natAbs ≤ 1000 ∧ vx'.natAbs ≤ M ∧ (∀ x y, S2 px' py' vx' 0 x y ↔ S2 px py vx vy x y) ∧
      ∀ (K : Nat) (R : Option (Int × Int × Int)), (∀ k, K ≤ k → impl_latticeOf.l1 k low l len i px' py' vx' 0 = R) → ∀ k, K + n ≤ k → impl_latticeOf.l1 k low l len i px py vx vy = R := by
  intro n
  induction n with
  | zero =>
    intro px py vx vy M hM hn h1 h2 h3 h4 hQ
    have h0 : vy = 0 := by omega
    subst h0
    exact ⟨px, py, vx, h1, h3, h2, fun x y => Iff.rfl, fun K R h k hk => h k (by omega)⟩
  | succ n ih =>
    intro px py vx vy M hM hn h1 h2 h3 h4 hQ
    by_cases h0 : vy = 0
    · subst h0
      exact ⟨px, py, vx, h1, h3, h2, fun x y => Iff.rfl, fun K R h k hk => h k (by omega)⟩
    · obtain ⟨e1, e2, e3, e4, e5, e6⟩ := euclid (px := px) (py := py) (vx := vx) h0 hQ
      obtain ⟨px', py', vx', b1, b2, b3, hs, hk⟩ := ih vx vy (px - py.tdiv vy * vx) (py - py.tdiv vy * vy) M hM (by omega) h2 e3 h4 (by omega) e6
      refine ⟨px', py', vx', b1, b2, b3, fun x y => (hs x y).trans (S2_step px py vx vy _ x y), fun K R h k hk' => ?_⟩
      obtain ⟨k, rfl⟩ : ∃ m, k = m + 1 := ⟨k - 1, by omega⟩
      rw [impl_latticeOf.l1, if_neg h0]
      unfold impl_Vec_times.f impl_Vec_add.f
      simp only [Option.bind_some]
      generalize py.tdiv vy = q at *
      rw [wrap_id (x := q) (by omega) (by omega), wrap_id (x := -q) (by omega) (by omega), Int.neg_mul, Int.neg_mul, wrap_id (x := -(q * vx)) (by omega) (by omega), wrap_id (x := -(q * vy)) (by omega) (by omega),
        ← Int.sub_eq_add_neg, ← Int.sub_eq_add_neg, wrap_id (x := px - q * vx) (by omega) (by omega), wrap_id (x := py - q * vy) (by omega) (by omega)]
      exact hk K R h k (by omega)
theorem impl_vec_step (l : List S28) (low len i ux uy px py : Int) (M : Nat) (hM : 1000 * M + 1000000 ≤ 10000000000000000) (hi : 0 ≤ i ∧ i ≤ 1000) (hl : low.natAbs ≤ M) (hl0 : 0 ≤ low) (hpx : px.natAbs ≤ M) (hpy : py.natAbs ≤ 1000) (hux : ux.natAbs ≤ 1000) (huy : uy.natAbs ≤ 1000) :
    ∃ low' px' py', low'.natAbs ≤ 1000 * M + 1000000 ∧ 0 ≤ low' ∧ px'.natAbs ≤ 1000 * M + 1000000 ∧ py'.natAbs ≤ 1000 ∧ plus low px py ux uy low' px' py' ∧
      ∀ (K : Nat) (R : Option (Int × Int × Int)), (∀ k, K ≤ k → impl_latticeOf.l0 k low' l len (i + 1) px' py' = R) → ∀ k, K + 1000 * M + 1003002 ≤ k → impl_latticeOf.l1 k low l len i px py ux uy = R := by
  have hq1 : px.natAbs * uy.natAbs ≤ M * 1000 := Nat.mul_le_mul hpx huy
  have hq2 : ux.natAbs * py.natAbs ≤ 1000 * 1000 := Nat.mul_le_mul hux hpy
  obtain ⟨px', py', vx', b1, b2, b3, hs, hk⟩ := impl_euclid l low len i 1000 px py ux uy (1000 * M + 1000000) hM huy (by omega) (by omega) hpy huy (by omega)
  have hg : Int.gcd low vx' ≤ 1000 * M + 1000000 := gcd_le_bd (by omega) b3
  refine ⟨(Int.gcd low vx' : Int), px', py', by omega, by omega, b1, b2, L_more hs rfl, fun K R h k hk' => ?_⟩
  refine hk (K + 1000 * M + 1000002) R (fun k hk'' => ?_) k (by omega)
  obtain ⟨k, rfl⟩ : ∃ m, k = m + 1 := ⟨k - 1, by omega⟩
  rw [impl_latticeOf.l1, if_pos rfl]
  unfold impl_gcd.f
  rw [impl_gcd_eq k low vx' (by omega) (by omega) (by omega), wrap_id (x := i + 1) (by omega) (by omega)]
  simp only [Option.bind_some]
  exact h k (by omega)
theorem impl_lattice_end (l : List S28) (low len px py : Int) (i : Int) (hi : ¬ i < len) (hl : 0 < low) (hl2 : low ≤ 1000000000000000000) (hp : px.natAbs ≤ 1000000000000000000) (hpy : py.natAbs ≤ 1000) (hy : py ≠ 0) :
    ∃ B C, 0 ≤ B ∧ B < low ∧ 0 < C ∧ (∀ x y, L low B C x y ↔ L low px py x y) ∧ ∀ k, 1 ≤ k → impl_latticeOf.l0 k low l len i px py = some (low, B, C) := by
  by_cases h : py < 0
  · refine ⟨(-px) % low, -py, Int.emod_nonneg _ (by omega), Int.emod_lt_of_pos _ hl, by omega, fun x y => (L_mod _ _ _ _ _).trans (L_neg _ _ _ _ _), fun k hk => ?_⟩
    obtain ⟨k, rfl⟩ : ∃ m, k = m + 1 := ⟨k - 1, by omega⟩
    rw [impl_latticeOf.l0, if_neg hi, if_pos h]
    unfold impl_Vec_times.f
    simp only [Option.bind_some]
    rw [Int.neg_one_mul, Int.neg_one_mul, wrap_id (x := -px) (by omega) (by omega), wrap_id (x := -py) (by omega) (by omega), impl_mod_eq hl hl2]; rfl
  · refine ⟨px % low, py, Int.emod_nonneg _ (by omega), Int.emod_lt_of_pos _ hl, by omega, fun x y => L_mod _ _ _ _ _, fun k hk => ?_⟩
    obtain ⟨k, rfl⟩ : ∃ m, k = m + 1 := ⟨k - 1, by omega⟩
    rw [impl_latticeOf.l0, if_neg hi, if_neg h, impl_mod_eq hl hl2]; rfl
theorem impl_latticeOf2 (u v : S28) (h1 : u.f0.natAbs ≤ 1000) (h2 : u.f1.natAbs ≤ 1000) (h3 : v.f0.natAbs ≤ 1000) (h4 : v.f1.natAbs ≤ 1000) (hd : u.f0 * v.f1 - u.f1 * v.f0 ≠ 0) :
    ∃ A B C, Herm (sp2 u.f0 u.f1 v.f0 v.f1) A B C ∧ ∀ k, 1003100000 ≤ k → impl_latticeOf.f k [u, v] = some (A, B, C) := by
  obtain ⟨l1, p1, q1, b1, b2, b3, b4, hp1, hk1⟩ := impl_vec_step [u, v] 0 2 0 u.f0 u.f1 0 0 0 (by omega) (by omega) (by simp) (by omega) (by simp) (by simp) h1 h2
  obtain ⟨l2, p2, q2, c1, c2, c3, c4, hp2, hk2⟩ := impl_vec_step [u, v] l1 2 1 v.f0 v.f1 p1 q1 1000000 (by omega) (by omega) (by omega) b2 (by omega) b4 h3 h4
  have hsp := plus_two hp1 hp2
  obtain ⟨r1, r2⟩ := L_rank ((hsp u.f0 u.f1).mpr ⟨1, 0, by omega, by omega⟩) ((hsp v.f0 v.f1).mpr ⟨0, 1, by omega, by omega⟩) hd
  obtain ⟨B, C, e1, e2, e3, e4, hk3⟩ := impl_lattice_end [u, v] l2 2 p2 q2 2 (by omega) (by omega) (by omega) (by omega) c4 r2
  refine ⟨l2, B, C, ⟨by omega, e3, e1, e2, fun x y => (e4 x y).trans (hsp x y)⟩, fun k hk => ?_⟩
  unfold impl_latticeOf.f
  obtain ⟨k, rfl⟩ : ∃ m, k = m + 1 := ⟨k - 1, by omega⟩
  simp only [List.length_cons, List.length_nil]
  rw [impl_latticeOf.l0, if_pos (by decide), if_pos (by decide), if_pos (by simp)]
  refine hk1 1001003100 _ (fun k hk => ?_) k (by omega)
  obtain ⟨k, rfl⟩ : ∃ m, k = m + 1 := ⟨k - 1, by omega⟩
  rw [impl_latticeOf.l0, if_pos (by decide), if_pos (by decide), if_pos (by simp)]
  refine hk2 1 _ (fun k hk => ?_) k (by omega)
  exact hk3 k hk
theorem spec_euclid (l : List S28) (low i : Int) : ∀ (n : Nat) (px py vx vy : Int) (M : Nat), M ≤ 10000000000000000 → vy.natAbs ≤ n → px.natAbs ≤ M → vx.natAbs ≤ M → py.natAbs ≤ 1000 → vy.natAbs ≤ 1000 →
    px.natAbs * vy.natAbs + vx.natAbs * py.natAbs ≤ M →
    ∃ px' py' vx', px'.natAbs ≤ M ∧ py'.natAbs ≤ 1000 ∧ vx'.natAbs ≤ M ∧ (∀ x y, S2 px' py' vx' 0 x y ↔ S2 px py vx vy x y) ∧
      ∀ (K : Nat) (R : Option (Int × Int × Int)), (∀ k, K ≤ k → spec_l03Hermite.l1 k l low i px' py' vx' 0 = R) → ∀ k, K + n ≤ k → spec_l03Hermite.l1 k l low i px py vx vy = R := by
  intro n
  induction n with
  | zero =>
    intro px py vx vy M hM hn h1 h2 h3 h4 hQ
    have h0 : vy = 0 := by omega
    subst h0
    exact ⟨px, py, vx, h1, h3, h2, fun x y => Iff.rfl, fun K R h k hk => h k (by omega)⟩
  | succ n ih =>
    intro px py vx vy M hM hn h1 h2 h3 h4 hQ
    by_cases h0 : vy = 0
    · subst h0
      exact ⟨px, py, vx, h1, h3, h2, fun x y => Iff.rfl, fun K R h k hk => h k (by omega)⟩
    · obtain ⟨e1, e2, e3, e4, e5, e6⟩ := euclid (px := px) (py := py) (vx := vx) h0 hQ
      obtain ⟨px', py', vx', b1, b2, b3, hs, hk⟩ := ih vx vy (px - py.tdiv vy * vx) (py - py.tdiv vy * vy) M hM (by omega) h2 e3 h4 (by omega) e6
      refine ⟨px', py', vx', b1, b2, b3, fun x y => (hs x y).trans (S2_step px py vx vy _ x y), fun K R h k hk' => ?_⟩
      obtain ⟨k, rfl⟩ : ∃ m, k = m + 1 := ⟨k - 1, by omega⟩
      rw [spec_l03Hermite.l1, if_neg h0]
      generalize py.tdiv vy = q at *
      rw [wrap_id (x := q) (by omega) (by omega), wrap_id (x := q * vx) (by omega) (by omega), wrap_id (x := q * vy) (by omega) (by omega), wrap_id (x := px - q * vx) (by omega) (by omega), wrap_id (x := py - q * vy) (by omega) (by omega)]
      exact hk K R h k (by omega)
theorem plus_mod {l p q ux uy l' p' q' : Int} (h : plus l p q ux uy l' p' q') : plus l p q ux uy l' (p' % l') q' := fun x y => (L_mod _ _ _ _ _).trans (h x y)
theorem spec_vec_step (l : List S28) (low i ux uy px py : Int) (M : Nat) (hM : 1000 * M + 1000000 ≤ 10000000000000000) (hi : 0 ≤ i ∧ i ≤ 1000) (hl : low.natAbs ≤ M) (hl0 : 0 ≤ low) (hpx : px.natAbs ≤ M) (hpy : py.natAbs ≤ 1000) (hux : ux.natAbs ≤ 1000) (huy : uy.natAbs ≤ 1000) :
    ∃ low' px' py', low'.natAbs ≤ 1000 * M + 1000000 ∧ 0 ≤ low' ∧ px'.natAbs ≤ 1000 * M + 1000000 ∧ py'.natAbs ≤ 1000 ∧ plus low px py ux uy low' px' py' ∧
      ∀ (K : Nat) (R : Option (Int × Int × Int)), (∀ k, K ≤ k → spec_l03Hermite.l0 k l low' (i + 1) px' py' = R) → ∀ k, K + 1000 * M + 1003002 ≤ k → spec_l03Hermite.l1 k l low i px py ux uy = R := by
  have hq1 : px.natAbs * uy.natAbs ≤ M * 1000 := Nat.mul_le_mul hpx huy
  have hq2 : ux.natAbs * py.natAbs ≤ 1000 * 1000 := Nat.mul_le_mul hux hpy
  obtain ⟨px', py', vx', b1, b2, b3, hs, hk⟩ := spec_euclid l low i 1000 px py ux uy (1000 * M + 1000000) hM huy (by omega) (by omega) hpy huy (by omega)
  have hg : Int.gcd low vx' ≤ 1000 * M + 1000000 := gcd_le_bd (by omega) b3
  have hp : plus low px py ux uy (Int.gcd low vx' : Int) px' py' := L_more hs rfl
  by_cases hg0 : (Int.gcd low vx' : Int) > 0
  · have m1 := Int.emod_nonneg px' (show (Int.gcd low vx' : Int) ≠ 0 by omega)
    have m2 := Int.emod_lt_of_pos px' (show 0 < (Int.gcd low vx' : Int) by omega)
    refine ⟨(Int.gcd low vx' : Int), px' % (Int.gcd low vx' : Int), py', by omega, by omega, by omega, b2, plus_mod hp, fun K R h k hk' => ?_⟩
    refine hk (K + 1000 * M + 1000002) R (fun k hk'' => ?_) k (by omega)
    obtain ⟨k, rfl⟩ : ∃ m, k = m + 1 := ⟨k - 1, by omega⟩
    rw [spec_l03Hermite.l1, if_pos rfl, spec_l01Divisor_eq k low vx' (by omega) (by omega) (by omega), wrap_id (x := i + 1) (by omega) (by omega)]
    simp only [Option.bind_some]
    rw [if_pos hg0, spec_l01Mod_eq (by omega) (by omega)]
    exact h k (by omega)
  · refine ⟨(Int.gcd low vx' : Int), px', py', by omega, by omega, b1, b2, hp, fun K R h k hk' => ?_⟩
    refine hk (K + 1000 * M + 1000002) R (fun k hk'' => ?_) k (by omega)
    obtain ⟨k, rfl⟩ : ∃ m, k = m + 1 := ⟨k - 1, by omega⟩
    rw [spec_l03Hermite.l1, if_pos rfl, spec_l01Divisor_eq k low vx' (by omega) (by omega) (by omega), wrap_id (x := i + 1) (by omega) (by omega)]
    simp only [Option.bind_some]
    rw [if_neg hg0]
    exact h k (by omega)
theorem spec_lattice_end (l : List S28) (low px py : Int) (i : Int) (hi : ¬ i < (l.length : Int)) (hl : 0 < low) (hl2 : low ≤ 1000000000000000000) (hp : px.natAbs ≤ 1000000000000000000) (hpy : py.natAbs ≤ 1000) (hy : py ≠ 0) :
    ∃ B C, 0 ≤ B ∧ B < low ∧ 0 < C ∧ (∀ x y, L low B C x y ↔ L low px py x y) ∧ ∀ k, 1 ≤ k → spec_l03Hermite.l0 k l low i px py = some (low, B, C) := by
  by_cases h : py < 0
  · refine ⟨(-px) % low, -py, Int.emod_nonneg _ (by omega), Int.emod_lt_of_pos _ hl, by omega, fun x y => (L_mod _ _ _ _ _).trans (L_neg _ _ _ _ _), fun k hk => ?_⟩
    obtain ⟨k, rfl⟩ : ∃ m, k = m + 1 := ⟨k - 1, by omega⟩
    rw [spec_l03Hermite.l0, if_neg hi, if_pos h]
    unfold spec_l01Scale.f
    simp only [Option.bind_some]
    rw [if_pos (by omega), Int.neg_one_mul, Int.neg_one_mul, wrap_id (x := -px) (by omega) (by omega), wrap_id (x := -py) (by omega) (by omega), spec_l01Mod_eq hl hl2]; rfl
  · refine ⟨px % low, py, Int.emod_nonneg _ (by omega), Int.emod_lt_of_pos _ hl, by omega, fun x y => L_mod _ _ _ _ _, fun k hk => ?_⟩
    obtain ⟨k, rfl⟩ : ∃ m, k = m + 1 := ⟨k - 1, by omega⟩
    rw [spec_l03Hermite.l0, if_neg hi, if_neg h, if_pos (by omega), spec_l01Mod_eq hl hl2]; rfl
theorem spec_hermite2 (u v : S28) (h1 : u.f0.natAbs ≤ 1000) (h2 : u.f1.natAbs ≤ 1000) (h3 : v.f0.natAbs ≤ 1000) (h4 : v.f1.natAbs ≤ 1000) (hd : u.f0 * v.f1 - u.f1 * v.f0 ≠ 0) :
    ∃ A B C, Herm (sp2 u.f0 u.f1 v.f0 v.f1) A B C ∧ ∀ k, 1003100000 ≤ k → spec_l03Hermite.f k [u, v] = some (A, B, C) := by
  obtain ⟨l1, p1, q1, b1, b2, b3, b4, hp1, hk1⟩ := spec_vec_step [u, v] 0 0 u.f0 u.f1 0 0 0 (by omega) (by omega) (by simp) (by omega) (by simp) (by simp) h1 h2
  obtain ⟨l2, p2, q2, c1, c2, c3, c4, hp2, hk2⟩ := spec_vec_step [u, v] l1 1 v.f0 v.f1 p1 q1 1000000 (by omega) (by omega) (by omega) b2 (by omega) b4 h3 h4
  have hsp := plus_two hp1 hp2
  obtain ⟨r1, r2⟩ := L_rank ((hsp u.f0 u.f1).mpr ⟨1, 0, by omega, by omega⟩) ((hsp v.f0 v.f1).mpr ⟨0, 1, by omega, by omega⟩) hd
  obtain ⟨B, C, e1, e2, e3, e4, hk3⟩ := spec_lattice_end [u, v] l2 p2 q2 2 (by simp) (by omega) (by omega) (by omega) c4 r2
  refine ⟨l2, B, C, ⟨by omega, e3, e1, e2, fun x y => (e4 x y).trans (hsp x y)⟩, fun k hk => ?_⟩
  unfold spec_l03Hermite.f
  obtain ⟨k, rfl⟩ : ∃ m, k = m + 1 := ⟨k - 1, by omega⟩
  rw [spec_l03Hermite.l0, if_pos (by simp), if_pos (by decide)]
  refine hk1 1001003100 _ (fun k hk => ?_) k (by omega)
  obtain ⟨k, rfl⟩ : ∃ m, k = m + 1 := ⟨k - 1, by omega⟩
  rw [spec_l03Hermite.l0, if_pos (by simp), if_pos (by decide)]
  refine hk2 1 _ (fun k hk => ?_) k (by omega)
  exact hk3 k hk
theorem spec_l03Result_eq (a b c : Int) (h1 : -9223372036854775808 ≤ a) (h2 : a < 9223372036854775808) : spec_l03Result.f a b c = some (if latB a b c = true then (a, b, c, 0) else (0, 0, 0, 3)) := by
  unfold spec_l03Result.f; simp only [spec_IsLattice_eq a b c h1 h2, Option.bind_some]; split <;> rfl
def pm0 : List S31 := [⟨-1, 0, 0, -1⟩, ⟨-1, 0, 0, 1⟩, ⟨0, -1, -1, 0⟩, ⟨0, -1, 1, 0⟩, ⟨0, 1, -1, 0⟩, ⟨0, 1, 1, 0⟩, ⟨1, 0, 0, -1⟩, ⟨1, 0, 0, 1⟩]
def pm1 : List S31 := [⟨-1, -1, 0, 1⟩, ⟨-1, -1, 1, 0⟩, ⟨-1, 0, 0, -1⟩, ⟨-1, 0, 1, 1⟩, ⟨0, -1, -1, 0⟩, ⟨0, -1, 1, 1⟩, ⟨0, 1, -1, -1⟩, ⟨0, 1, 1, 0⟩, ⟨1, 0, -1, -1⟩, ⟨1, 0, 0, 1⟩, ⟨1, 1, -1, 0⟩, ⟨1, 1, 0, -1⟩]
def pmL (f : Int) : List S31 := if f = 0 then pm0 else pm1
theorem pmL_len (f : Int) : (pmL f).length ≤ 12 := by unfold pmL; split <;> decide
def keepsB (f a b c d : Int) : Bool := Nf f a c == 1 && Nf f b d == 1 && Nf f (a + b) (c + d) == 2 + f
theorem pm_mem (f a b c d : Int) (hf : f = 0 ∨ f = 1) : (smallB a b c d = true ∧ keepsB f a b c d = true) ↔ (⟨a, b, c, d⟩ : S31) ∈ pmL f := by
  constructor
  · rintro ⟨hs, hk⟩
    have hk' := hk
    unfold keepsB at hk'
    simp only [Bool.and_eq_true, beq_iff_eq] at hk'
    obtain ⟨⟨h1, h2⟩, h3⟩ := hk'
    have b1 := Nf_box (m := 1) (N := 1) hf (by omega) (show Nf f a c ≤ 1 by omega) (by omega)
    have b2 := Nf_box (m := 1) (N := 1) hf (by omega) (show Nf f b d ≤ 1 by omega) (by omega)
    have ha : a = -1 ∨ a = 0 ∨ a = 1 := by omega
    have hb : b = -1 ∨ b = 0 ∨ b = 1 := by omega
    have hc : c = -1 ∨ c = 0 ∨ c = 1 := by omega
    have hd : d = -1 ∨ d = 0 ∨ d = 1 := by omega
    clear h1 h2 h3 b1 b2 hs
    rcases hf with rfl | rfl
    · rcases ha with rfl | rfl | rfl <;> rcases hb with rfl | rfl | rfl <;> rcases hc with rfl | rfl | rfl <;> rcases hd with rfl | rfl | rfl <;> first | (exfalso; revert hk; decide) | simp [pmL, pm0]
    · rcases ha with rfl | rfl | rfl <;> rcases hb with rfl | rfl | rfl <;> rcases hc with rfl | rfl | rfl <;> rcases hd with rfl | rfl | rfl <;> first | (exfalso; revert hk; decide) | simp [pmL, pm1]
  · intro h
    rcases hf with rfl | rfl
    · simp only [pmL, pm0, if_true, List.mem_cons, S31.mk.injEq, List.not_mem_nil, or_false] at h
      rcases h with ⟨rfl, rfl, rfl, rfl⟩ | ⟨rfl, rfl, rfl, rfl⟩ | ⟨rfl, rfl, rfl, rfl⟩ | ⟨rfl, rfl, rfl, rfl⟩ | ⟨rfl, rfl, rfl, rfl⟩ | ⟨rfl, rfl, rfl, rfl⟩ | ⟨rfl, rfl, rfl, rfl⟩ | ⟨rfl, rfl, rfl, rfl⟩ <;> decide
    · have e : pmL 1 = pm1 := by unfold pmL; rw [if_neg (by decide)]
      rw [e] at h
      simp only [pm1, List.mem_cons, S31.mk.injEq, List.not_mem_nil, or_false] at h
      rcases h with ⟨rfl, rfl, rfl, rfl⟩ | ⟨rfl, rfl, rfl, rfl⟩ | ⟨rfl, rfl, rfl, rfl⟩ | ⟨rfl, rfl, rfl, rfl⟩ | ⟨rfl, rfl, rfl, rfl⟩ | ⟨rfl, rfl, rfl, rfl⟩ | ⟨rfl, rfl, rfl, rfl⟩ | ⟨rfl, rfl, rfl, rfl⟩ | ⟨rfl, rfl, rfl, rfl⟩ | ⟨rfl, rfl, rfl, rfl⟩ | ⟨rfl, rfl, rfl, rfl⟩ | ⟨rfl, rfl, rfl, rfl⟩ <;> decide
/-- What a point matrix is: its numbers and its determinant. -/
theorem pm_facts {f a b c d : Int} (hf : f = 0 ∨ f = 1) (h : (⟨a, b, c, d⟩ : S31) ∈ pmL f) : (-1 ≤ a ∧ a ≤ 1) ∧ (-1 ≤ b ∧ b ≤ 1) ∧ (-1 ≤ c ∧ c ≤ 1) ∧ (-1 ≤ d ∧ d ≤ 1) ∧ (a * d - b * c = 1 ∨ a * d - b * c = -1) := by
  rcases hf with rfl | rfl
  · simp only [pmL, pm0, if_true, List.mem_cons, S31.mk.injEq, List.not_mem_nil, or_false] at h
    rcases h with ⟨rfl, rfl, rfl, rfl⟩ | ⟨rfl, rfl, rfl, rfl⟩ | ⟨rfl, rfl, rfl, rfl⟩ | ⟨rfl, rfl, rfl, rfl⟩ | ⟨rfl, rfl, rfl, rfl⟩ | ⟨rfl, rfl, rfl, rfl⟩ | ⟨rfl, rfl, rfl, rfl⟩ | ⟨rfl, rfl, rfl, rfl⟩ <;> decide
  · have e : pmL 1 = pm1 := by unfold pmL; rw [if_neg (by decide)]
    rw [e] at h
    simp only [pm1, List.mem_cons, S31.mk.injEq, List.not_mem_nil, or_false] at h
    rcases h with ⟨rfl, rfl, rfl, rfl⟩ | ⟨rfl, rfl, rfl, rfl⟩ | ⟨rfl, rfl, rfl, rfl⟩ | ⟨rfl, rfl, rfl, rfl⟩ | ⟨rfl, rfl, rfl, rfl⟩ | ⟨rfl, rfl, rfl, rfl⟩ | ⟨rfl, rfl, rfl, rfl⟩ | ⟨rfl, rfl, rfl, rfl⟩ | ⟨rfl, rfl, rfl, rfl⟩ | ⟨rfl, rfl, rfl, rfl⟩ | ⟨rfl, rfl, rfl, rfl⟩ | ⟨rfl, rfl, rfl, rfl⟩ <;> decide
/-- Is a matrix a point matrix of a frame? -/
def pmB (f a b c d : Int) : Bool := frameB f && matB a b c d && keepsB f a b c d
theorem pmB_iff {f a b c d : Int} : pmB f a b c d = true ↔ (f = 0 ∨ f = 1) ∧ (⟨a, b, c, d⟩ : S31) ∈ pmL f := by
  unfold pmB
  simp only [Bool.and_eq_true]
  constructor
  · rintro ⟨⟨h1, h2⟩, h3⟩
    have hf : f = 0 ∨ f = 1 := by simpa [frameB] using h1
    exact ⟨hf, (pm_mem f a b c d hf).mp ⟨(matB_iff.mp h2).1, h3⟩⟩
  · rintro ⟨hf, h⟩
    obtain ⟨h1, h2⟩ := (pm_mem f a b c d hf).mpr h
    have h3 := pm_facts hf h
    exact ⟨⟨by simpa [frameB] using hf, matB_iff.mpr ⟨h1, h3.2.2.2.2⟩⟩, h2⟩
set_option maxRecDepth 100000 in
theorem impl_pm0 (k : Nat) : impl_pointMats.f (k + 82) 0 = some pm0 := by kernel_rfl
set_option maxRecDepth 100000 in
theorem impl_pm1 (k : Nat) : impl_pointMats.f (k + 82) 1 = some pm1 := by kernel_rfl
theorem impl_pointMats_eq (k : Nat) (hk : 82 ≤ k) {f : Int} (hf : f = 0 ∨ f = 1) : impl_pointMats.f k f = some (pmL f) := by
  obtain ⟨k, rfl⟩ : ∃ m, k = m + 82 := ⟨k - 82, by omega⟩
  rcases hf with rfl | rfl
  · rw [impl_pm0]; rfl
  · rw [impl_pm1]; rfl
theorem spec_l04Keeps_eq (f : Int) {a b c d : Int} (hf : f = 0 ∨ f = 1) (h : smallB a b c d = true) : spec_l04Keeps.f f a b c d = some (keepsB f a b c d) := by
  rw [smallB_iff] at h
  unfold spec_l04Keeps.f keepsB
  rw [spec_l04Norm_eq f hf (by omega) (by omega), spec_l04Norm_eq f hf (by omega) (by omega)]
  unfold spec_l01Add.f
  simp only [Option.bind_some]
  rw [wrap_id (x := a + b) (by omega) (by omega), wrap_id (x := c + d) (by omega) (by omega), spec_l04Norm_eq f hf (by omega) (by omega), wrap_id (x := 2 + f) (by omega) (by omega)]
  simp only [Option.bind_some]
  by_cases h1 : Nf f a c = 1
  · by_cases h2 : Nf f b d = 1
    · rw [if_pos h1, if_pos h2, h1, h2]; simp
    · rw [if_pos h1, if_neg h2, h1]; simp [h2]
  · rw [if_neg h1]; simp [h1]
theorem spec_IsPointMat_eq (f a b c d : Int) : spec_IsPointMat.f f a b c d = some (pmB f a b c d) := by
  unfold spec_IsPointMat.f pmB
  simp only [spec_IsFrame_eq, spec_IsMat_eq, Option.bind_some]
  cases h1 : frameB f with
  | false => simp
  | true =>
    cases h2 : matB a b c d with
    | false => simp
    | true =>
      rw [spec_l04Keeps_eq f (by simpa [frameB] using h1) (matB_iff.mp h2).1]; simp
theorem rd_mat_at (pre : List S31) (v : S31) (t : List S31) (i : Int) (hi : i = pre.length) : rd_T31 (pre ++ v :: t) i = v := by
  subst hi; unfold rd_T31; simp
theorem mat_index (a b c d : Int) : ∀ (t pre : List S31) (k : Nat) (n : Int), n = ((pre ++ t).length : Int) → (pre ++ t).length ≤ 1000 → t.length < k →
    ∃ j, impl_Mat_133.l0 k (pre ++ t) n (pre.length : Int) a b c d = some j ∧ (0 ≤ j ↔ (⟨a, b, c, d⟩ : S31) ∈ t) := by
  intro t
  induction t with
  | nil =>
    intro pre k n hn hl hk
    obtain ⟨k, rfl⟩ : ∃ m, k = m + 1 := ⟨k - 1, by omega⟩
    refine ⟨-1, ?_, by simp⟩
    rw [impl_Mat_133.l0, if_neg (by rw [hn]; simp)]
  | cons x t ih =>
    intro pre k n hn hl hk
    obtain ⟨k, rfl⟩ : ∃ m, k = m + 1 := ⟨k - 1, by omega⟩
    simp only [List.length_append, List.length_cons] at hn hl hk
    rw [impl_Mat_133.l0, if_pos (by omega), if_pos (by omega), if_pos (by simp; omega), rd_mat_at pre x t _ rfl, wrap_id (x := (pre.length : Int) + 1) (by omega) (by omega)]
    obtain ⟨x0, x1, x2, x3⟩ := x
    by_cases h : a = x0 ∧ b = x1 ∧ c = x2 ∧ d = x3
    · refine ⟨(pre.length : Int), ?_, ?_⟩
      · rw [if_pos (by simpa using h)]
      · obtain ⟨rfl, rfl, rfl, rfl⟩ := h; simp
    · rw [if_neg (by simpa using h)]
      obtain ⟨j, h1, h2⟩ := ih (pre ++ [⟨x0, x1, x2, x3⟩]) k n (by simp; omega) (by simp; omega) (by omega)
      refine ⟨j, ?_, ?_⟩
      · rw [← h1]; simp
      · rw [h2]; simp only [List.mem_cons, S31.mk.injEq]
        constructor
        · intro q; exact Or.inr q
        · rintro (q | q)
          · exact absurd q h
          · exact q
theorem impl_IsPointMat_eq (k : Nat) (hk : 82 ≤ k) (f a b c d : Int) : impl_IsPointMat.f k f a b c d = some (pmB f a b c d) := by
  unfold impl_IsPointMat.f impl_Mat_124.f impl_Mat_133.f
  simp only [impl_IsFrame_eq, Option.bind_some]
  by_cases h1 : frameB f = true
  · have hf : f = 0 ∨ f = 1 := by simpa [frameB] using h1
    have hl := pmL_len f
    rw [if_pos h1, impl_pointMats_eq k hk hf]
    simp only [Option.bind_some]
    obtain ⟨j, h2, h3⟩ := mat_index a b c d (pmL f) [] k ((pmL f).length : Int) rfl (by simp; omega) (by omega)
    simp only [List.nil_append, List.length_nil] at h2
    rw [show ((0 : Nat) : Int) = 0 from rfl] at h2
    rw [h2]
    simp only [Option.bind_some]
    congr 1
    rw [Bool.eq_iff_iff, pmB_iff, decide_eq_true_iff]
    constructor
    · intro q; exact ⟨hf, h3.mp q⟩
    · intro q; exact h3.mpr q.2
  · rw [if_neg h1]
    unfold pmB
    simp [h1]
def frLat (f a b c : Int) : Bool := frameB f && latB a b c
theorem spec_l04Code_eq (f a b c : Int) (w : -9223372036854775808 ≤ a ∧ a < 9223372036854775808) : spec_l04Code.f f a b c = some (if frLat f a b c = true then 0 else 1) := by
  unfold spec_l04Code.f frLat
  simp only [spec_IsFrame_eq, spec_IsLattice_eq a b c w.1 w.2, Option.bind_some]
  cases frameB f <;> cases latB a b c <;> rfl
theorem impl_frameCode_eq (f a b c : Int) (w : -9223372036854775808 ≤ a ∧ a < 9223372036854775808) : impl_frameCode.f f a b c = some (if frLat f a b c = true then 0 else 1) := by
  unfold impl_frameCode.f frLat
  simp only [impl_IsFrame_eq, impl_IsLattice_eq a b c w.1 w.2, Option.bind_some]
  cases frameB f <;> cases latB a b c <;> rfl
theorem map_det (p q r s a b c : Int) : (p * a + q * 0) * (r * b + s * c) - (r * a + s * 0) * (p * b + q * c) = (a * c) * (p * s - q * r) := by grind
theorem map_is {f p q r s a b c : Int} (hl : latB a b c = true) (hp : pmB f p q r s = true) :
    ∃ R, (∀ k, 1003100000 ≤ k → spec_MapLattice.f (k + 2) f p q r s a b c = some R) ∧ (∀ k, 1003100000 ≤ k → impl_MapLattice.f k f p q r s a b c = some R) := by
  obtain ⟨hf, hm⟩ := pmB_iff.mp hp
  obtain ⟨e1, e2, e3, e4, hd⟩ := pm_facts hf hm
  have hfr : frLat f a b c = true := by unfold frLat; rw [hl, frameB_iff.mpr hf]; rfl
  obtain ⟨⟨a1, a2⟩, ⟨c1, c2⟩, ⟨b1, b2⟩, hac⟩ := latB_iff.mp hl
  have hb : -64 ≤ b ∧ b ≤ 64 := by omega
  have w1 := prod_bd (a := p) (b := a) (A := 1) (B := 64) (by omega) (by omega) (by omega) (by omega) (by omega)
  have w2 := prod_bd (a := r) (b := a) (A := 1) (B := 64) (by omega) (by omega) (by omega) (by omega) (by omega)
  have w3 := prod_bd (a := p) (b := b) (A := 1) (B := 64) (by omega) (by omega) (by omega) (by omega) (by omega)
  have w4 := prod_bd (a := q) (b := c) (A := 1) (B := 64) (by omega) (by omega) (by omega) (by omega) (by omega)
  have w5 := prod_bd (a := r) (b := b) (A := 1) (B := 64) (by omega) (by omega) (by omega) (by omega) (by omega)
  have w6 := prod_bd (a := s) (b := c) (A := 1) (B := 64) (by omega) (by omega) (by omega) (by omega) (by omega)
  have hac1 : a ≤ a * c := le_mul_r (by omega) (by omega)
  have hdet : (p * a + q * 0) * (r * b + s * c) - (r * a + s * 0) * (p * b + q * c) ≠ 0 := by
    rw [map_det]; rcases hd with h | h <;> rw [h] <;> omega
  have hdab : ((p * a + q * 0) * (r * b + s * c) - (r * a + s * 0) * (p * b + q * c)).natAbs ≤ 64 := by
    rw [map_det]; rcases hd with h | h <;> rw [h] <;> omega
  obtain ⟨A, B, C, hh, hk⟩ := spec_hermite2 ⟨p * a + q * 0, r * a + s * 0⟩ ⟨p * b + q * c, r * b + s * c⟩ (by simp only; omega) (by simp only; omega) (by simp only; omega) (by simp only; omega) hdet
  obtain ⟨A', B', C', hh', hk'⟩ := impl_latticeOf2 ⟨p * a + q * 0, r * a + s * 0⟩ ⟨p * b + q * c, r * b + s * c⟩ (by simp only; omega) (by simp only; omega) (by simp only; omega) (by simp only; omega) hdet
  obtain ⟨rfl, rfl, rfl⟩ := hh.unique hh'
  have hi := hh.index
  simp only at hi
  have hA := hh.1
  have hC := hh.2.1
  have hB1 := hh.2.2.1
  have hB2 := hh.2.2.2.1
  have hAC : A ≤ A * C := le_mul_r (by omega) (by omega)
  have hCA : C ≤ A * C := le_mul_l (by omega) (by omega)
  have hlat : latB A B C = true := latB_iff.mpr ⟨by omega, by omega, by omega, by omega⟩
  refine ⟨(A, B, C, 0), fun k hk1 => ?_, fun k hk1 => ?_⟩
  · unfold spec_MapLattice.f
    rw [spec_l04Code_eq f a b c (by omega), spec_IsPointMat_eq]
    simp only [hfr, hp, Option.bind_some, if_true, Bool.not_true]
    rw [spec_MapLattice.j0, if_neg (by decide), spec_MapLattice.j1, if_pos rfl]
    unfold spec_l04Image.f
    have hbas : spec_l03Basis.f a b c = some [⟨a, 0⟩, ⟨b, c⟩] := rfl
    rw [hbas]
    simp only [Option.bind_some]
    rw [if_pos (by simp), show rd_T28 [(⟨a, 0⟩ : S28), ⟨b, c⟩] 0 = ⟨a, 0⟩ from rfl, show rd_T28 [(⟨a, 0⟩ : S28), ⟨b, c⟩] 1 = ⟨b, c⟩ from rfl]
    dsimp only
    rw [spec_l02Apply_eq 64 (by omega) (by omega) (by omega) (by omega) (by omega) (by omega) (by omega) (by omega)]
    simp only [Option.bind_some]
    rw [if_pos (by simp), spec_l02Apply_eq 64 (by omega) (by omega) (by omega) (by omega) (by omega) (by omega) (by omega) (by omega)]
    simp only [Option.bind_some]
    rw [hk k (by omega)]
    simp only [Option.bind_some]
    rw [spec_l03Result_eq A B C (by omega) (by omega), if_pos hlat]
    rfl
  · unfold impl_MapLattice.f
    rw [impl_frameCode_eq f a b c (by omega), impl_IsPointMat_eq _ (by omega)]
    simp only [hfr, hp, Option.bind_some, if_true, impl_Lattice_basis.f]
    rw [impl_Mat_apply_eq 64 (by omega) (by omega) (by omega) (by omega) (by omega) (by omega) (by omega) (by omega)]
    simp only [Option.bind_some]
    rw [impl_Mat_apply_eq 64 (by omega) (by omega) (by omega) (by omega) (by omega) (by omega) (by omega) (by omega)]
    simp only [Option.bind_some]
    rw [hk' k (by omega)]
    rfl
theorem map_not {f p q r s a b c : Int} (w : -9223372036854775808 ≤ a ∧ a < 9223372036854775808) (h : ¬ (latB a b c = true ∧ pmB f p q r s = true)) :
    ∃ R, (∀ k, 1003100000 ≤ k → spec_MapLattice.f (k + 2) f p q r s a b c = some R) ∧ (∀ k, 1003100000 ≤ k → impl_MapLattice.f k f p q r s a b c = some R) := by
  by_cases hfr : frLat f a b c = true
  · have hp : pmB f p q r s = false := by
      cases hq : pmB f p q r s with
      | false => rfl
      | true =>
        have : latB a b c = true := by
          unfold frLat at hfr; simp only [Bool.and_eq_true] at hfr; exact hfr.2
        exact absurd ⟨this, hq⟩ h
    refine ⟨(0, 0, 0, 2), fun k hk1 => ?_, fun k hk1 => ?_⟩
    · unfold spec_MapLattice.f
      rw [spec_l04Code_eq f a b c w, spec_IsPointMat_eq]
      simp only [hfr, hp, Option.bind_some, if_true, Bool.not_false]
      rw [spec_MapLattice.j0, if_pos rfl, spec_MapLattice.j1, if_neg (by decide)]
    · unfold impl_MapLattice.f
      rw [impl_frameCode_eq f a b c w, impl_IsPointMat_eq _ (by omega)]
      simp [hfr, hp]
  · refine ⟨(0, 0, 0, 1), fun k hk1 => ?_, fun k hk1 => ?_⟩
    · unfold spec_MapLattice.f
      rw [spec_l04Code_eq f a b c w, if_neg hfr]
      simp only [Option.bind_some]
      rw [if_neg (by decide), spec_MapLattice.j0, if_neg (by decide), spec_MapLattice.j1, if_neg (by decide)]
    · unfold impl_MapLattice.f
      rw [impl_frameCode_eq f a b c w, if_neg hfr]
      simp
theorem main (a0 : Int) (a1_0 : Int) (a1_1 : Int) (a1_2 : Int) (a1_3 : Int) (a2_0 : Int) (a2_1 : Int) (a2_2 : Int) (w0 : (Go.Lit.int .i64 a0).wf = true) (w1_0 : (Go.Lit.int .i64 a1_0).wf = true) (w1_1 : (Go.Lit.int .i64 a1_1).wf = true) (w1_2 : (Go.Lit.int .i64 a1_2).wf = true) (w1_3 : (Go.Lit.int .i64 a1_3).wf = true) (w2_0 : (Go.Lit.int .i64 a2_0).wf = true) (w2_1 : (Go.Lit.int .i64 a2_1).wf = true) (w2_2 : (Go.Lit.int .i64 a2_2).wf = true) : ∃ k, laws_FnExactMapLattice.f k a0 a1_0 a1_1 a1_2 a1_3 a2_0 a2_1 a2_2 = some true := by
  refine ⟨1003100000 + 2, ?_⟩
  unfold laws_FnExactMapLattice.f
  simp only [laws_toMat.f, laws_toLattice.f, Option.bind_some]
  obtain ⟨R, h1, h2⟩ : ∃ R, (∀ k, 1003100000 ≤ k → spec_MapLattice.f (k + 2) a0 a1_0 a1_1 a1_2 a1_3 a2_0 a2_1 a2_2 = some R) ∧ (∀ k, 1003100000 ≤ k → impl_MapLattice.f k a0 a1_0 a1_1 a1_2 a1_3 a2_0 a2_1 a2_2 = some R) := by
    by_cases h : latB a2_0 a2_1 a2_2 = true ∧ pmB a0 a1_0 a1_1 a1_2 a1_3 = true
    · exact map_is h.1 h.2
    · exact map_not (wf_bd w2_0) h
  rw [h1 _ (by decide), h2 _ (by decide)]
  simp [laws_eqLattice.f]
end Go.Proofs.Ytpkjgcafbkfbgac.PureFnExactMapLattice

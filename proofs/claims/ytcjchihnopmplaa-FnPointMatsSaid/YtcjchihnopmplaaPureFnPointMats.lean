/-
The law FnPointMats, over numbers and lists alone: the printed functions of the program and of the reference answer alike. No condition but that each number is an int64.
-/
import Derived.Test.YtcjchihnopmplaaP18
import GoSem.Claim

namespace Go.Proofs.Ytcjchihnopmplaa.PureFnPointMats
open Go.RowKit Go.Proofs.Ytcjchihnopmplaa.F Go.Proofs.YtcjchihnopmplaaW.PrintWords Go.Proofs.YtcjchihnopmplaaW.PrintLast Go.Proofs.YtcjchihnopmplaaW.PrintMore
set_option linter.unusedVariables false
set_option linter.unusedSimpArgs false
theorem gcd_tmod (a b : Int) : Int.gcd b (a.tmod b) = Int.gcd a b := by
  unfold Int.gcd
  rw [Int.natAbs_tmod, Nat.gcd_comm a.natAbs, Nat.gcd_rec b.natAbs a.natAbs, Nat.gcd_comm]
theorem bezout_nat : ∀ (n : Nat) (a b : Int), b.natAbs ≤ n → ∃ s t : Int, (Int.gcd a b : Int) = s * a + t * b := by
  intro n
  induction n with
  | zero =>
    intro a b h
    have hb : b = 0 := by omega
    subst hb
    rcases Int.natAbs_eq a with h | h
    · exact ⟨1, 0, by rw [Int.gcd_zero_right]; omega⟩
    · exact ⟨-1, 0, by rw [Int.gcd_zero_right]; omega⟩
  | succ n ih =>
    intro a b h
    by_cases hb : b = 0
    · exact ih a b (by omega)
    · have h1 : (a.tmod b).natAbs ≤ n := by
        rw [Int.natAbs_tmod]
        have := Nat.mod_lt a.natAbs (show 0 < b.natAbs by omega)
        omega
      obtain ⟨s, t, e⟩ := ih b (a.tmod b) h1
      refine ⟨t, s - t * (a.tdiv b), ?_⟩
      rw [← gcd_tmod a b, e]
      have := Int.mul_tdiv_add_tmod a b
      grind
theorem bezout (a b : Int) : ∃ s t : Int, (Int.gcd a b : Int) = s * a + t * b := bezout_nat _ a b (Nat.le_refl _)
/-- (x, y) is a sum of multiples of (a, 0) and (b, c). -/
def L (a b c x y : Int) : Prop := ∃ m n : Int, x = m * a + n * b ∧ y = n * c
/-- Equal lattices in the given form are equal. -/
theorem L_unique {a b c a' b' c' : Int} (ha : 0 < a) (hc : 0 < c) (hb0 : 0 ≤ b) (hb : b < a) (ha' : 0 < a') (hc' : 0 < c') (hb0' : 0 ≤ b') (hb' : b' < a') (h : ∀ x y, L a b c x y ↔ L a' b' c' x y) : a = a' ∧ b = b' ∧ c = c' := by
  obtain ⟨m1, n1, e1, e2⟩ := (h a 0).mp ⟨1, 0, by omega, by omega⟩
  obtain ⟨m2, n2, e3, e4⟩ := (h b c).mp ⟨0, 1, by omega, by omega⟩
  obtain ⟨m3, n3, e5, e6⟩ := (h a' 0).mpr ⟨1, 0, by omega, by omega⟩
  obtain ⟨m4, n4, e7, e8⟩ := (h b' c').mpr ⟨0, 1, by omega, by omega⟩
  have z1 : n1 = 0 := by
    rcases Int.mul_eq_zero.mp e2.symm with h | h <;> omega
  have z3 : n3 = 0 := by
    rcases Int.mul_eq_zero.mp e6.symm with h | h <;> omega
  subst z1; subst z3
  have da : a' ∣ a := ⟨m1, by grind⟩
  have da' : a ∣ a' := ⟨m3, by grind⟩
  have dc : c' ∣ c := ⟨n2, by grind⟩
  have dc' : c ∣ c' := ⟨n4, by grind⟩
  have ea := Int.dvd_antisymm (by omega) (by omega) da' da
  have ec := Int.dvd_antisymm (by omega) (by omega) dc' dc
  subst ea; subst ec
  have hn : n2 = 1 := by
    have h1 : n2 * c = 1 * c := by omega
    exact Int.eq_of_mul_eq_mul_right (by omega) h1
  subst hn
  refine ⟨rfl, ?_, rfl⟩
  have hm : m2 = 0 := by
    rcases Int.lt_trichotomy m2 0 with h | h | h
    · have : m2 * a ≤ (-1) * a := Int.mul_le_mul_of_nonneg_right (by omega) (by omega)
      omega
    · exact h
    · have : 1 * a ≤ m2 * a := Int.mul_le_mul_of_nonneg_right (by omega) (by omega)
      omega
  subst hm
  omega
/-- The index: what spans the same lattice has the same determinant, up to its sign. -/
theorem L_index {a b c ux uy vx vy : Int} (ha : 0 < a) (hc : 0 < c) (h : ∀ x y, L a b c x y ↔ ∃ i j : Int, x = i * ux + j * vx ∧ y = i * uy + j * vy) :
    a * c = (ux * vy - uy * vx).natAbs := by
  obtain ⟨m1, n1, e1, e2⟩ := (h ux uy).mpr ⟨1, 0, by omega, by omega⟩
  obtain ⟨m2, n2, e3, e4⟩ := (h vx vy).mpr ⟨0, 1, by omega, by omega⟩
  obtain ⟨i1, j1, e5, e6⟩ := (h a 0).mp ⟨1, 0, by omega, by omega⟩
  obtain ⟨i2, j2, e7, e8⟩ := (h b c).mp ⟨0, 1, by omega, by omega⟩
  have d1 : (a * c) ∣ (ux * vy - uy * vx) := ⟨m1 * n2 - n1 * m2, by subst e1 e2 e3 e4; grind⟩
  have d2 : (ux * vy - uy * vx) ∣ (a * c) := ⟨i1 * j2 - j1 * i2, by grind⟩
  have hp : 0 < a * c := Int.mul_pos ha hc
  have d1' : (a * c) ∣ ((ux * vy - uy * vx).natAbs : Int) := Int.dvd_natAbs.mpr d1
  have d2' : ((ux * vy - uy * vx).natAbs : Int) ∣ (a * c) := Int.natAbs_dvd.mpr d2
  exact Int.dvd_antisymm (by omega) (by omega) d1' d2'
theorem L_rank {a b c ux uy vx vy : Int} (hu : L a b c ux uy) (hv : L a b c vx vy) (hd : ux * vy - uy * vx ≠ 0) : a ≠ 0 ∧ c ≠ 0 := by
  obtain ⟨m1, n1, e1, e2⟩ := hu
  obtain ⟨m2, n2, e3, e4⟩ := hv
  subst e1 e2 e3 e4
  constructor
  · rintro rfl; apply hd; grind
  · rintro rfl; apply hd; grind
/-- All sums of multiples of two vectors. -/
def S2 (px py vx vy x y : Int) : Prop := ∃ i j : Int, x = i * px + j * vx ∧ y = i * py + j * vy
theorem S2_step (px py vx vy k x y : Int) : S2 vx vy (px - k * vx) (py - k * vy) x y ↔ S2 px py vx vy x y := by
  constructor
  · rintro ⟨i, j, rfl, rfl⟩; exact ⟨j, i - j * k, by grind, by grind⟩
  · rintro ⟨i, j, rfl, rfl⟩; exact ⟨j + i * k, i, by grind, by grind⟩
/-- One vector more: what the divisor step does. -/
theorem L_more {low px py ux uy px' py' vx' low' : Int} (hs : ∀ x y, S2 px' py' vx' 0 x y ↔ S2 px py ux uy x y) (hg : low' = Int.gcd low vx') (x y : Int) :
    L low' px' py' x y ↔ ∃ j, L low px py (x - j * ux) (y - j * uy) := by
  constructor
  · rintro ⟨m, n, e1, e2⟩
    obtain ⟨s, t, e⟩ := bezout low vx'
    obtain ⟨i, j, e3, e4⟩ := (hs (x - m * s * low) y).mp ⟨n, m * t, by subst e1; rw [hg, e]; grind, by grind⟩
    exact ⟨j, m * s, i, by grind, by grind⟩
  · rintro ⟨j, m, n, e1, e2⟩
    obtain ⟨i', j', e3, e4⟩ := (hs (x - m * low) y).mpr ⟨n, j, by grind, by grind⟩
    have d1 : low' ∣ low := by rw [hg]; exact Int.gcd_dvd_left low vx'
    have d2 : low' ∣ vx' := by rw [hg]; exact Int.gcd_dvd_right low vx'
    obtain ⟨p, hp⟩ := d1
    obtain ⟨q, hq⟩ := d2
    exact ⟨m * p + j' * q, i', by grind, by grind⟩
theorem L_neg (a b c x y : Int) : L a (-b) (-c) x y ↔ L a b c x y := by
  constructor
  · rintro ⟨m, n, e1, e2⟩; exact ⟨m, -n, by grind, by grind⟩
  · rintro ⟨m, n, e1, e2⟩; exact ⟨m, -n, by grind, by grind⟩
theorem L_mod (a b c x y : Int) : L a (b % a) c x y ↔ L a b c x y := by
  constructor
  · rintro ⟨m, n, e1, e2⟩; rw [Int.emod_def] at e1; exact ⟨m - n * (b / a), n, by grind, by grind⟩
  · rintro ⟨m, n, e1, e2⟩; refine ⟨m + n * (b / a), n, ?_, e2⟩; rw [Int.emod_def]; grind
theorem L_zero (x y : Int) : L 0 0 0 x y ↔ x = 0 ∧ y = 0 := by
  constructor
  · rintro ⟨m, n, e1, e2⟩; exact ⟨by grind, by grind⟩
  · rintro ⟨rfl, rfl⟩; exact ⟨0, 0, by grind, by grind⟩
def Nf (f x y : Int) : Int := x * x + f * x * y + y * y
theorem sq_nn (x : Int) : 0 ≤ x * x := by
  rcases Int.le_total 0 x with h | h
  · exact Int.mul_nonneg h h
  · exact Int.mul_nonneg_of_nonpos_of_nonpos h h
theorem Nf_four (f x y : Int) (hf : f = 0 ∨ f = 1) : 3 * (x * x) ≤ 4 * Nf f x y ∧ 3 * (y * y) ≤ 4 * Nf f x y := by
  unfold Nf
  rcases hf with rfl | rfl
  · have := sq_nn x
    have := sq_nn y
    constructor <;> grind
  · have h1 := sq_nn (x + 2 * y)
    have h2 := sq_nn (2 * x + y)
    constructor <;> grind
theorem sq_bound {x m : Int} (hm : 0 ≤ m) (h : x * x < (m + 1) * (m + 1)) : -m ≤ x ∧ x ≤ m := by
  constructor
  · rcases Int.lt_or_le x (-m) with h' | h'
    · have := Int.mul_le_mul (show m + 1 ≤ -x by omega) (show m + 1 ≤ -x by omega) (by omega) (by omega)
      rw [Int.neg_mul_neg] at this; omega
    · exact h'
  · rcases Int.lt_or_le m x with h' | h'
    · have := Int.mul_le_mul (show m + 1 ≤ x by omega) (show m + 1 ≤ x by omega) (by omega) (by omega)
      omega
    · exact h'
theorem Nf_box {f x y N m : Int} (hf : f = 0 ∨ f = 1) (hm : 0 ≤ m) (h : Nf f x y ≤ N) (hN : 4 * N < 3 * ((m + 1) * (m + 1))) : (-m ≤ x ∧ x ≤ m) ∧ (-m ≤ y ∧ y ≤ m) := by
  obtain ⟨h1, h2⟩ := Nf_four f x y hf
  exact ⟨sq_bound hm (by omega), sq_bound hm (by omega)⟩
theorem tmod_cases (a n : Int) (hn : 0 < n) : (0 ≤ a ∧ a.tmod n = a % n) ∨ (a < 0 ∧ a.tmod n = -((-a) % n)) := by
  rcases Int.lt_or_le a 0 with h | h
  · refine Or.inr ⟨h, ?_⟩
    have : a.tmod n = -((-a).tmod n) := by rw [Int.neg_tmod, Int.neg_neg]
    rw [this, Int.tmod_eq_emod_of_nonneg (by omega)]
  · exact Or.inl ⟨h, Int.tmod_eq_emod_of_nonneg h⟩
theorem tmod_bounds (a n : Int) (hn : 0 < n) : -n < a.tmod n ∧ a.tmod n < n := by
  have h1 := Int.emod_nonneg a (show n ≠ 0 by omega)
  have h2 := Int.emod_lt_of_pos a hn
  have h3 := Int.emod_nonneg (-a) (show n ≠ 0 by omega)
  have h4 := Int.emod_lt_of_pos (-a) hn
  rcases tmod_cases a n hn with ⟨_, e⟩ | ⟨_, e⟩ <;> rw [e] <;> omega
theorem neg_emod_add (a n : Int) (hn : 0 < n) : a % n = (n - (-a) % n) % n := by
  have e := Int.mul_ediv_add_emod (-a) n
  have : n - (-a) % n = a + n * ((-a) / n + 1) := by rw [Int.mul_add]; omega
  rw [this, Int.add_mul_emod_self_left]
theorem mod_add (a n : Int) (hn : 0 < n) : (a.tmod n + n).tmod n = a % n := by
  have h1 := Int.emod_nonneg a (show n ≠ 0 by omega)
  have h2 := Int.emod_lt_of_pos a hn
  have h3 := Int.emod_nonneg (-a) (show n ≠ 0 by omega)
  have h4 := Int.emod_lt_of_pos (-a) hn
  rcases tmod_cases a n hn with ⟨_, e⟩ | ⟨_, e⟩ <;> rw [e, Int.tmod_eq_emod_of_nonneg (by omega)]
  · rw [Int.add_emod_right, Int.emod_emod]
  · rw [neg_emod_add a n hn]; congr 1; omega
theorem mod_if (a n : Int) (hn : 0 < n) : (if a.tmod n < 0 then a.tmod n + n else a.tmod n) = a % n := by
  have h1 := Int.emod_nonneg a (show n ≠ 0 by omega)
  have h3 := Int.emod_nonneg (-a) (show n ≠ 0 by omega)
  have h4 := Int.emod_lt_of_pos (-a) hn
  rcases tmod_cases a n hn with ⟨_, e⟩ | ⟨_, e⟩ <;> rw [e]
  · rw [if_neg (by omega)]
  · split
    · rw [neg_emod_add a n hn, Int.emod_eq_of_lt (a := n - (-a) % n) (b := n) (by omega) (by omega)]; omega
    · have : (-a) % n = 0 := by omega
      rw [neg_emod_add a n hn, this]; simp
theorem euclid {px py vx vy : Int} {M : Nat} (hv : vy ≠ 0) (hQ : px.natAbs * vy.natAbs + vx.natAbs * py.natAbs ≤ M) :
    (py.tdiv vy).natAbs ≤ py.natAbs ∧ (py.tdiv vy * vx).natAbs ≤ M ∧ (px - py.tdiv vy * vx).natAbs ≤ M ∧ (py.tdiv vy * vy).natAbs ≤ py.natAbs ∧
      (py - py.tdiv vy * vy).natAbs < vy.natAbs ∧ vx.natAbs * (py - py.tdiv vy * vy).natAbs + (px - py.tdiv vy * vx).natAbs * vy.natAbs ≤ M := by
  have hV : 0 < vy.natAbs := by omega
  have eK : (py.tdiv vy).natAbs = py.natAbs / vy.natAbs := Int.natAbs_tdiv py vy
  have e1 : py - py.tdiv vy * vy = py.tmod vy := by have := Int.mul_tdiv_add_tmod py vy; rw [Int.mul_comm] at this; omega
  have eR : (py.tmod vy).natAbs = py.natAbs % vy.natAbs := Int.natAbs_tmod py vy
  have e2 := Nat.div_add_mod py.natAbs vy.natAbs
  have h3 : (px - py.tdiv vy * vx).natAbs ≤ px.natAbs + (py.tdiv vy).natAbs * vx.natAbs := by
    have := Int.natAbs_sub_le px (py.tdiv vy * vx)
    rw [Int.natAbs_mul] at this; exact this
  have hK := Nat.div_le_self py.natAbs vy.natAbs
  have hR := Nat.mod_lt py.natAbs hV
  rw [e1, eR, Int.natAbs_mul, Int.natAbs_mul, eK]
  rw [eK] at h3
  generalize (px - py.tdiv vy * vx).natAbs = Z at *
  generalize py.natAbs / vy.natAbs = K at *
  generalize py.natAbs % vy.natAbs = R at *
  generalize py.natAbs = P at *
  generalize vy.natAbs = V at *
  generalize vx.natAbs = Y at *
  generalize px.natAbs = X at *
  have q : Y * R + (X + K * Y) * V = X * V + Y * P := by rw [← e2]; grind
  have q2 : Z * V ≤ (X + K * Y) * V := Nat.mul_le_mul_right V h3
  have q3 : X + K * Y ≤ (X + K * Y) * V := Nat.le_mul_of_pos_right _ hV
  have q4 : K * V ≤ P := by rw [Nat.mul_comm] ; omega
  have q5 : 0 ≤ Y * R := Nat.zero_le _
  have q6 : 0 ≤ X := Nat.zero_le _
  refine ⟨hK, ?_, ?_, q4, hR, ?_⟩
  · generalize K * Y = KY at *; omega
  · omega
  · omega
def vecB (x y : Int) : Bool := decide (-1000 ≤ x ∧ x ≤ 1000 ∧ -1000 ≤ y ∧ y ≤ 1000)
def smallB (a b c d : Int) : Bool := decide ((-1000 ≤ a ∧ a ≤ 1000 ∧ -1000 ≤ b ∧ b ≤ 1000) ∧ -1000 ≤ c ∧ c ≤ 1000 ∧ -1000 ≤ d ∧ d ≤ 1000)
def matB (a b c d : Int) : Bool := smallB a b c d && (a * d - b * c == 1 || a * d - b * c == -1)
def latB (a b c : Int) : Bool := decide ((1 ≤ a ∧ a ≤ 64) ∧ (1 ≤ c ∧ c ≤ 64) ∧ (0 ≤ b ∧ b ≤ a - 1) ∧ a * c ≤ 64)
def lim (x y : Int) : Int × Int × Int := if vecB x y = true then (x, y, 0) else (0, 0, 3)
theorem wrap_id {x : Int} (h1 : -9223372036854775808 ≤ x) (h2 : x < 9223372036854775808) : wrap64 x = x := by unfold wrap64; omega
theorem prod_bd {a b A B : Int} (ha : -A ≤ a) (ha' : a ≤ A) (hb : -B ≤ b) (hb' : b ≤ B) (hA : 0 ≤ A) : -(A * B) ≤ a * b ∧ a * b ≤ A * B := by
  have h1 : (a * b).natAbs ≤ A.natAbs * B.natAbs := by rw [Int.natAbs_mul]; exact Nat.mul_le_mul (by omega) (by omega)
  have h2 : (A * B).natAbs = A.natAbs * B.natAbs := Int.natAbs_mul A B
  have h3 : 0 ≤ A * B := Int.mul_nonneg hA (by omega)
  omega
theorem vecB_iff {x y : Int} : vecB x y = true ↔ (-1000 ≤ x ∧ x ≤ 1000) ∧ (-1000 ≤ y ∧ y ≤ 1000) := by unfold vecB; rw [decide_eq_true_iff]; omega
theorem smallB_iff {a b c d : Int} : smallB a b c d = true ↔ ((-1000 ≤ a ∧ a ≤ 1000) ∧ (-1000 ≤ b ∧ b ≤ 1000)) ∧ (-1000 ≤ c ∧ c ≤ 1000) ∧ (-1000 ≤ d ∧ d ≤ 1000) := by unfold smallB; rw [decide_eq_true_iff]; omega
theorem matB_iff {a b c d : Int} : matB a b c d = true ↔ smallB a b c d = true ∧ (a * d - b * c = 1 ∨ a * d - b * c = -1) := by unfold matB; simp
theorem latB_iff {a b c : Int} : latB a b c = true ↔ (1 ≤ a ∧ a ≤ 64) ∧ (1 ≤ c ∧ c ≤ 64) ∧ (0 ≤ b ∧ b ≤ a - 1) ∧ a * c ≤ 64 := by unfold latB; rw [decide_eq_true_iff]
/-- Products of small numbers need no wrapping. -/
theorem wrap_mul {a b A B : Int} (ha : -A ≤ a) (ha' : a ≤ A) (hb : -B ≤ b) (hb' : b ≤ B) (hA : 0 ≤ A) (h : A * B < 9223372036854775808) : wrap64 (a * b) = a * b := by
  have := prod_bd ha ha' hb hb' hA; exact wrap_id (by omega) (by omega)
theorem det_wrap {a b c d : Int} (h : smallB a b c d = true) : wrap64 (wrap64 (a * d) - wrap64 (b * c)) = a * d - b * c ∧ (-2000000 ≤ a * d - b * c ∧ a * d - b * c ≤ 2000000) := by
  rw [smallB_iff] at h
  have h1 := prod_bd (A := 1000) (B := 1000) h.1.1.1 h.1.1.2 h.2.2.1 h.2.2.2 (by omega)
  have h2 := prod_bd (A := 1000) (B := 1000) h.1.2.1 h.1.2.2 h.2.1.1 h.2.1.2 (by omega)
  rw [wrap_id (x := a * d) (by omega) (by omega), wrap_id (x := b * c) (by omega) (by omega), wrap_id (by omega) (by omega)]
  omega
/-- a x + b y for small numbers. -/
theorem lin_wrap {a b x y : Int} (A : Int) (ha : -A ≤ a ∧ a ≤ A) (hb : -A ≤ b ∧ b ≤ A) (hx : -A ≤ x ∧ x ≤ A) (hy : -A ≤ y ∧ y ≤ A) (hA : 0 ≤ A) (hA2 : A ≤ 1000000000) :
    wrap64 (wrap64 (a * x) + wrap64 (b * y)) = a * x + b * y ∧ (-(2 * (A * A)) ≤ a * x + b * y ∧ a * x + b * y ≤ 2 * (A * A)) := by
  have h1 := prod_bd ha.1 ha.2 hx.1 hx.2 hA
  have h2 := prod_bd hb.1 hb.2 hy.1 hy.2 hA
  have h3 : A * A ≤ 1000000000 * 1000000000 := Int.mul_le_mul hA2 hA2 hA (by omega)
  rw [wrap_id (x := a * x) (by omega) (by omega), wrap_id (x := b * y) (by omega) (by omega), wrap_id (by omega) (by omega)]
  omega
theorem mx_abs {a : Int} (h1 : -9223372036854775808 < a) (h2 : a < 9223372036854775808) : mx a (wrap64 (-a)) = (a.natAbs : Int) := by
  rw [wrap_id (by omega) (by omega)]; unfold mx; split <;> omega
def mul1 (a b c d a' b' c' d' : Int) : Int × Int × Int × Int := (a * a' + b * c', a * b' + b * d', c * a' + d * c', c * b' + d * d')
def appR (a b c d x y : Int) : Int × Int × Int := if matB a b c d = true ∧ vecB x y = true then lim (a * x + b * y) (c * x + d * y) else (0, 0, 1)
def frameB (f : Int) : Bool := decide (f = 0 ∨ f = 1)
def normR (f x y : Int) : Int × Int := if frameB f = true ∧ vecB x y = true then (Nf f x y, 0) else (0, 1)
def ordV (a b c d : Int) : Int := if a = 1 ∧ b = 0 ∧ c = 0 ∧ d = 1 then 1 else if (a * d - b * c = -1 ∧ a + d = 0) ∨ (a = -1 ∧ b = 0 ∧ c = 0 ∧ d = -1) then 2
  else if a * d - b * c = 1 ∧ a + d = -1 then 3 else if a * d - b * c = 1 ∧ a + d = 0 then 4 else if a * d - b * c = 1 ∧ a + d = 1 then 6 else 0
theorem u8_bd {a : Int} (h : (Go.Lit.int .u8 a).wf = true) : 0 ≤ a ∧ a < 256 := by
  simp only [Go.Lit.wf, Bool.and_eq_true, decide_eq_true_eq] at h
  obtain ⟨h1, h2⟩ := h
  have e1 : Go.IntKind.min .u8 = 0 := by decide
  have e2 : Go.IntKind.max .u8 = 255 := by decide
  omega
/-- A reduced form of what some vectors span. -/
def Herm (sp : Int → Int → Prop) (A B C : Int) : Prop := 0 < A ∧ 0 < C ∧ 0 ≤ B ∧ B < A ∧ ∀ x y, L A B C x y ↔ sp x y
theorem Herm.unique {sp : Int → Int → Prop} {A B C A' B' C' : Int} (h : Herm sp A B C) (h' : Herm sp A' B' C') : A = A' ∧ B = B' ∧ C = C' :=
  L_unique h.1 h.2.1 h.2.2.1 h.2.2.2.1 h'.1 h'.2.1 h'.2.2.1 h'.2.2.2.1 fun x y => (h.2.2.2.2 x y).trans (h'.2.2.2.2 x y).symm
def sp2 (ux uy vx vy : Int) : Int → Int → Prop := fun x y => ∃ i j : Int, x = i * ux + j * vx ∧ y = i * uy + j * vy
theorem Herm.index {A B C ux uy vx vy : Int} (h : Herm (sp2 ux uy vx vy) A B C) : A * C = (ux * vy - uy * vx).natAbs := L_index h.1 h.2.1 h.2.2.2.2
/-- One vector more joins the span. -/
def plus (l p q ux uy l' p' q' : Int) : Prop := ∀ x y, L l' p' q' x y ↔ ∃ j, L l p q (x - j * ux) (y - j * uy)
theorem plus_two {l p q l' p' q' ux uy vx vy : Int} (h1 : plus 0 0 0 ux uy l p q) (h2 : plus l p q vx vy l' p' q') (x y : Int) : L l' p' q' x y ↔ sp2 ux uy vx vy x y := by
  rw [h2]
  constructor
  · rintro ⟨j, h⟩
    obtain ⟨i, h⟩ := (h1 _ _).mp h
    rw [L_zero] at h
    exact ⟨i, j, by omega, by omega⟩
  · rintro ⟨i, j, e1, e2⟩
    refine ⟨j, (h1 _ _).mpr ⟨i, ?_⟩⟩
    rw [L_zero]; omega
theorem gcd_le_bd {a b : Int} {M : Nat} (ha : a.natAbs ≤ M) (hb : b.natAbs ≤ M) : Int.gcd a b ≤ M := by
  by_cases h : a = 0
  · subst h; rw [Int.gcd_zero_left]; exact hb
  · exact Nat.le_trans (Int.gcd_le_natAbs_left (a := a) (b := b) h) ha
theorem le_mul_r {a c : Int} (ha : 0 ≤ a) (hc : 1 ≤ c) : a ≤ a * c := by
  have := Int.mul_le_mul_of_nonneg_left hc ha; omega
theorem le_mul_l {a c : Int} (hc : 0 ≤ c) (ha : 1 ≤ a) : c ≤ a * c := by
  have := Int.mul_le_mul_of_nonneg_right ha hc; omega
theorem spec_l01In_eq (a b c : Int) : spec_l01In.f a b c = some (decide (b ≤ a ∧ a ≤ c)) := by
  unfold spec_l01In.f; split <;> simp <;> omega
theorem impl_within_eq (a b c : Int) : impl_within.f a b c = some (decide (b ≤ a ∧ a ≤ c)) := by
  unfold impl_within.f; split <;> simp <;> omega
theorem spec_IsVec_eq (x y : Int) : spec_IsVec.f x y = some (vecB x y) := by
  unfold spec_IsVec.f vecB; simp only [spec_l01In_eq, Option.bind_some]; split <;> simp_all <;> omega
theorem impl_isCoordinate_eq (a : Int) : impl_isCoordinate.f a = some (decide (-1000 ≤ a ∧ a ≤ 1000)) := by
  unfold impl_isCoordinate.f; simp only [impl_within_eq, Option.bind_some]
theorem impl_IsVec_eq (x y : Int) : impl_IsVec.f x y = some (vecB x y) := by
  unfold impl_IsVec.f vecB; simp only [impl_isCoordinate_eq, Option.bind_some]; split <;> simp_all <;> omega
theorem impl_limited_eq (x y : Int) : impl_limited.f x y = some (lim x y) := by
  unfold impl_limited.f lim; simp only [impl_IsVec_eq, Option.bind_some]; split <;> rfl
theorem spec_l02Small_eq (a b c d : Int) : spec_l02Small.f a b c d = some (smallB a b c d) := by
  unfold spec_l02Small.f smallB; simp only [spec_IsVec_eq, Option.bind_some, vecB]; split <;> simp_all <;> omega
theorem impl_Mat_isSmall_eq (a b c d : Int) : impl_Mat_isSmall.f a b c d = some (smallB a b c d) := by
  unfold impl_Mat_isSmall.f smallB; simp only [impl_isCoordinate_eq, Option.bind_some, decide_eq_true_eq]
  by_cases h1 : -1000 ≤ a ∧ a ≤ 1000
  · rw [if_pos h1]
    by_cases h2 : -1000 ≤ b ∧ b ≤ 1000
    · rw [if_pos h2]
      by_cases h3 : -1000 ≤ c ∧ c ≤ 1000
      · rw [if_pos h3]
        by_cases h4 : -1000 ≤ d ∧ d ≤ 1000
        · rw [decide_eq_true h4, decide_eq_true (by omega)]
        · rw [decide_eq_false h4, decide_eq_false (by omega)]
      · rw [if_neg h3, decide_eq_false (by omega)]
    · rw [if_neg h2, decide_eq_false (by omega)]
  · rw [if_neg h1, decide_eq_false (by omega)]
theorem spec_IsMat_eq (a b c d : Int) : spec_IsMat.f a b c d = some (matB a b c d) := by
  unfold spec_IsMat.f matB spec_l02Det.f
  simp only [spec_l02Small_eq, Option.bind_some]
  cases h : smallB a b c d with
  | false => simp
  | true => rw [(det_wrap h).1]; simp; split <;> simp_all
theorem impl_IsMat_eq (a b c d : Int) : impl_IsMat.f a b c d = some (matB a b c d) := by
  unfold impl_IsMat.f matB impl_Mat_det.f
  simp only [impl_Mat_isSmall_eq, Option.bind_some]
  cases h : smallB a b c d with
  | false => simp
  | true => rw [(det_wrap h).1]; simp; split <;> simp_all
theorem spec_IsLattice_eq (a b c : Int) (h1 : -9223372036854775808 ≤ a) (h2 : a < 9223372036854775808) : spec_IsLattice.f a b c = some (latB a b c) := by
  unfold spec_IsLattice.f latB; simp only [spec_l01In_eq, Option.bind_some]
  by_cases ha : 1 ≤ a ∧ a ≤ 64
  · by_cases hc : 1 ≤ c ∧ c ≤ 64
    · rw [wrap_id (x := a - 1) (by omega) (by omega), wrap_mul (A := 64) (B := 64) (by omega) (by omega) (by omega) (by omega) (by omega) (by omega)]
      simp only [ha, hc, and_self, decide_true, if_true]
      by_cases hb : 0 ≤ b ∧ b ≤ a - 1 <;> simp [hb]
    · simp [ha]; split <;> simp_all <;> omega
  · simp; split <;> simp_all <;> omega
theorem impl_IsLattice_eq (a b c : Int) (h1 : -9223372036854775808 ≤ a) (h2 : a < 9223372036854775808) : impl_IsLattice.f a b c = some (latB a b c) := by
  unfold impl_IsLattice.f latB impl_Lattice_index.f; simp only [impl_within_eq, Option.bind_some]
  by_cases ha : 1 ≤ a ∧ a ≤ 64
  · by_cases hc : 1 ≤ c ∧ c ≤ 64
    · rw [wrap_id (x := a - 1) (by omega) (by omega), wrap_mul (A := 64) (B := 64) (by omega) (by omega) (by omega) (by omega) (by omega) (by omega)]
      simp only [ha, hc, and_self, decide_true, if_true]
      by_cases hb : 0 ≤ b ∧ b ≤ a - 1 <;> simp [hb]
    · simp [ha]; split <;> simp_all <;> omega
  · simp; split <;> simp_all <;> omega
theorem spec_l02Multiply_eq {a b c d a' b' c' d' : Int} (h : smallB a b c d = true) (h' : smallB a' b' c' d' = true) : spec_l02Multiply.f a b c d a' b' c' d' = some (mul1 a b c d a' b' c' d') := by
  rw [smallB_iff] at h h'
  unfold spec_l02Multiply.f mul1
  rw [(lin_wrap 1000 (by omega) (by omega) (by omega) (by omega) (by omega) (by omega)).1, (lin_wrap 1000 (by omega) (by omega) (by omega) (by omega) (by omega) (by omega)).1,
    (lin_wrap 1000 (by omega) (by omega) (by omega) (by omega) (by omega) (by omega)).1, (lin_wrap 1000 (by omega) (by omega) (by omega) (by omega) (by omega) (by omega)).1]
theorem spec_l02Apply_eq (A : Int) {a b c d x y : Int} (hA : 0 ≤ A) (hA2 : A ≤ 1000000000) (ha : -A ≤ a ∧ a ≤ A) (hb : -A ≤ b ∧ b ≤ A) (hc : -A ≤ c ∧ c ≤ A) (hd : -A ≤ d ∧ d ≤ A) (hx : -A ≤ x ∧ x ≤ A) (hy : -A ≤ y ∧ y ≤ A) :
    spec_l02Apply.f a b c d x y = some (a * x + b * y, c * x + d * y) := by
  unfold spec_l02Apply.f; rw [(lin_wrap A ha hb hx hy hA hA2).1, (lin_wrap A hc hd hx hy hA hA2).1]
theorem impl_Mat_apply_eq (A : Int) {a b c d x y : Int} (hA : 0 ≤ A) (hA2 : A ≤ 1000000000) (ha : -A ≤ a ∧ a ≤ A) (hb : -A ≤ b ∧ b ≤ A) (hc : -A ≤ c ∧ c ≤ A) (hd : -A ≤ d ∧ d ≤ A) (hx : -A ≤ x ∧ x ≤ A) (hy : -A ≤ y ∧ y ≤ A) :
    impl_Mat_apply.f a b c d x y = some (a * x + b * y, c * x + d * y) := by
  unfold impl_Mat_apply.f; rw [(lin_wrap A ha hb hx hy hA hA2).1, (lin_wrap A hc hd hx hy hA hA2).1]
theorem impl_ApplyMat_eq (k : Nat) (a b c d x y : Int) : impl_ApplyMat.f (k + 1) a b c d x y = some (appR a b c d x y) := by
  unfold impl_ApplyMat.f appR
  simp only [impl_IsMat_eq, impl_IsVec_eq, Option.bind_some, impl_ApplyMat.j0, impl_limited_eq]
  cases h : matB a b c d with
  | false => simp
  | true =>
    cases h' : vecB x y with
    | false => simp
    | true =>
      have h1 := smallB_iff.mp (matB_iff.mp h).1
      have h2 := vecB_iff.mp h'
      simp [impl_Mat_apply_eq 1000 (by omega) (by omega) h1.1.1 h1.1.2 h1.2.1 h1.2.2 h2.1 h2.2]
theorem spec_IsFrame_eq (f : Int) : spec_IsFrame.f f = some (frameB f) := by
  unfold spec_IsFrame.f frameB
  by_cases h : f = 0
  · simp [h]
  · by_cases h' : f = 1 <;> simp [h, h']
theorem impl_IsFrame_eq (f : Int) : impl_IsFrame.f f = some (frameB f) := by
  unfold impl_IsFrame.f frameB; simp only [impl_within_eq, Option.bind_some]; congr 1; exact decide_eq_decide.mpr (by omega)
theorem spec_l04Norm_eq (f : Int) {x y : Int} (hf : f = 0 ∨ f = 1) (hx : -100000 ≤ x ∧ x ≤ 100000) (hy : -100000 ≤ y ∧ y ≤ 100000) : spec_l04Norm.f f x y = some (Nf f x y) := by
  have h1 := prod_bd hx.1 hx.2 hx.1 hx.2 (by omega)
  have h2 := prod_bd hy.1 hy.2 hy.1 hy.2 (by omega)
  have h3 := prod_bd hx.1 hx.2 hy.1 hy.2 (by omega)
  unfold spec_l04Norm.f Nf
  rw [wrap_id (x := x * x) (by omega) (by omega), wrap_id (x := y * y) (by omega) (by omega), wrap_id (x := x * y) (by omega) (by omega), wrap_id (x := x * x + y * y) (by omega) (by omega)]
  rcases hf with rfl | rfl
  · rw [if_neg (by omega), Int.zero_mul, Int.zero_mul]; congr 1; omega
  · rw [if_pos rfl, wrap_id (by omega) (by omega), Int.one_mul]; congr 1; omega
theorem impl_norm_eq (f : Int) {x y : Int} (hf : f = 0 ∨ f = 1) (hx : -100000 ≤ x ∧ x ≤ 100000) (hy : -100000 ≤ y ∧ y ≤ 100000) : impl_norm.f f x y = some (Nf f x y) := by
  have h1 := prod_bd hx.1 hx.2 hx.1 hx.2 (by omega)
  have h2 := prod_bd hy.1 hy.2 hy.1 hy.2 (by omega)
  have h3 := prod_bd hx.1 hx.2 hy.1 hy.2 (by omega)
  unfold impl_norm.f Nf
  rcases hf with rfl | rfl
  · simp only [Int.zero_mul]
    rw [wrap_id (x := x * x) (by omega) (by omega), wrap_id (x := y * y) (by omega) (by omega), wrap_id (x := 0) (by omega) (by omega), Int.zero_mul, wrap_id (x := 0) (by omega) (by omega), wrap_id (x := x * x + 0) (by omega) (by omega), wrap_id (by omega) (by omega)]
  · simp only [Int.one_mul]
    rw [wrap_id (x := x) (by omega) (by omega), wrap_id (x := x * x) (by omega) (by omega), wrap_id (x := y * y) (by omega) (by omega), wrap_id (x := x * y) (by omega) (by omega), wrap_id (x := x * x + x * y) (by omega) (by omega), wrap_id (by omega) (by omega)]
theorem frameB_iff {f : Int} : frameB f = true ↔ f = 0 ∨ f = 1 := by unfold frameB; exact decide_eq_true_iff
theorem spec_NormOf_eq (f x y : Int) : spec_NormOf.f f x y = some (normR f x y) := by
  unfold spec_NormOf.f normR
  simp only [spec_IsFrame_eq, spec_IsVec_eq, Option.bind_some]
  by_cases h : frameB f = true
  · by_cases h' : vecB x y = true
    · have h2 := vecB_iff.mp h'
      rw [if_pos h, if_pos h', spec_l04Norm_eq f (by simpa [frameB] using h) (by omega) (by omega), if_pos ⟨h, h'⟩]; rfl
    · rw [if_pos h, if_neg h', if_neg (fun x => h' x.2)]
  · rw [if_neg h, if_neg (fun x => h x.1)]
theorem impl_NormOf_eq (f x y : Int) : impl_NormOf.f f x y = some (normR f x y) := by
  unfold impl_NormOf.f normR
  simp only [impl_IsFrame_eq, impl_IsVec_eq, Option.bind_some]
  by_cases h : frameB f = true
  · by_cases h' : vecB x y = true
    · have h2 := vecB_iff.mp h'
      rw [if_pos h, if_pos h', impl_norm_eq f (by simpa [frameB] using h) (by omega) (by omega), if_pos ⟨h, h'⟩]; rfl
    · rw [if_pos h, if_neg h', if_neg (fun x => h' x.2)]
  · rw [if_neg h, if_neg (fun x => h x.1)]
theorem impl_gcd_eq : ∀ (k : Nat) (a b : Int), b.natAbs < k → a.natAbs < 9223372036854775808 → b.natAbs < 9223372036854775808 → impl_gcd.l0 k a b = some (Int.gcd a b : Int) := by
  intro k
  induction k with
  | zero => intro a b h; omega
  | succ k ih =>
    intro a b h ha hb
    unfold impl_gcd.l0
    by_cases h0 : b = 0
    · subst h0; rw [if_pos rfl, mx_abs (by omega) (by omega), Int.gcd_zero_right]
    · rw [if_neg h0]
      have h1 := Int.natAbs_tmod a b
      have h2 := Nat.mod_lt a.natAbs (show 0 < b.natAbs by omega)
      rw [ih b (a.tmod b) (by omega) (by omega) (by omega), gcd_tmod]
theorem spec_l01Divisor_eq : ∀ (k : Nat) (a b : Int), b.natAbs < k → a.natAbs < 9223372036854775808 → b.natAbs < 9223372036854775808 → spec_l01Divisor.f k a b = some (Int.gcd a b : Int) := by
  intro k
  induction k with
  | zero => intro a b h; omega
  | succ k ih =>
    intro a b h ha hb
    unfold spec_l01Divisor.f
    by_cases h0 : b = 0
    · subst h0; rw [if_pos rfl, mx_abs (by omega) (by omega), Int.gcd_zero_right]
    · rw [if_neg h0]
      have h1 := Int.natAbs_tmod a b
      have h2 := Nat.mod_lt a.natAbs (show 0 < b.natAbs by omega)
      rw [ih b (a.tmod b) (by omega) (by omega) (by omega), gcd_tmod]; rfl
theorem spec_l01Mod_eq {a n : Int} (hn : 0 < n) (hn2 : n ≤ 1000000000000000000) : spec_l01Mod.f a n = some (a % n) := by
  unfold spec_l01Mod.f
  have hb := tmod_bounds a n hn
  rw [if_neg (by omega)]
  rw [wrap_id (by omega) (by omega)]
  have := mod_if a n hn
  split <;> rename_i h
  · rw [if_pos h] at this; rw [this]
  · rw [if_neg h] at this; rw [this]
theorem impl_mod_eq {a n : Int} (hn : 0 < n) (hn2 : n ≤ 1000000000000000000) : impl_mod.f a n = some (a % n) := by
  unfold impl_mod.f
  have hb := tmod_bounds a n hn
  rw [if_neg (by omega), wrap_id (by omega) (by omega), mod_add a n hn]
theorem impl_euclid (l : List S47) (low len i : Int) : ∀ (n : Nat) (px py vx vy : Int) (M : Nat), M ≤ 10000000000000000 → vy.natAbs ≤ n → px.natAbs ≤ M → vx.natAbs ≤ M → py.natAbs ≤ 1000 → vy.natAbs ≤ 1000 →
    px.natAbs * vy.natAbs + vx.natAbs * py.natAbs ≤ M →
    ∃ px' py' vx', px'.natAbs ≤ M ∧ py'.natAbs ≤ 1000 ∧ vx'.natAbs ≤ M ∧ (∀ x y, S2 px' py' vx' 0 x y ↔ S2 px py vx vy x y) ∧
      ∀ (K : Nat) (R : Option (Int × Int × Int)), (∀ k, K ≤ k → impl_latticeOf.l1 k low l len i px' py' vx' 0 = R) → ∀ k, K + n ≤ k → impl_latticeOf.l1 k low l len i px py vx vy = R := by
  intro n
  induction n with
  | zero =>
    intro px py vx vy M hM hn h1 h2 h3 h4 hQ
    have h0 : vy = 0 := by omega
    subst h0
    exact ⟨px, py, vx, h1, h3, h2, fun x y => Iff.rfl, fun K R h k hk => h k (by omega)⟩
  | succ n ih =>
    intro px py vx vy M hM hn h1 h2 h3 h4 hQ
    by_cases h0 : vy = 0
    · subst h0
      exact ⟨px, py, vx, h1, h3, h2, fun x y => Iff.rfl, fun K R h k hk => h k (by omega)⟩
    · obtain ⟨e1, e2, e3, e4, e5, e6⟩ := euclid (px := px) (py := py) (vx := vx) h0 hQ
      obtain ⟨px', py', vx', b1, b2, b3, hs, hk⟩ := ih vx vy (px - py.tdiv vy * vx) (py - py.tdiv vy * vy) M hM (by omega) h2 e3 h4 (by omega) e6
      refine ⟨px', py', vx', b1, b2, b3, fun x y => (hs x y).trans (S2_step px py vx vy _ x y), fun K R h k hk' => ?_⟩
      obtain ⟨k, rfl⟩ : ∃ m, k = m + 1 := ⟨k - 1, by omega⟩
      rw [impl_latticeOf.l1, if_neg h0]
      unfold impl_Vec_times.f impl_Vec_add.f
      simp only [Option.bind_some]
      generalize py.tdiv vy = q at *
      rw [wrap_id (x := q) (by omega) (by omega), wrap_id (x := -q) (by omega) (by omega), Int.neg_mul, Int.neg_mul, wrap_id (x := -(q * vx)) (by omega) (by omega), wrap_id (x := -(q * vy)) (by omega) (by omega),
        ← Int.sub_eq_add_neg, ← Int.sub_eq_add_neg, wrap_id (x := px - q * vx) (by omega) (by omega), wrap_id (x := py - q * vy) (by omega) (by omega)]
      exact hk K R h k (by omega)
theorem impl_vec_step (l : List S47) (low len i ux uy px py : Int) (M : Nat) (hM : 1000 * M + 1000000 ≤ 10000000000000000) (hi : 0 ≤ i ∧ i ≤ 1000) (hl : low.natAbs ≤ M) (hl0 : 0 ≤ low) (hpx : px.natAbs ≤ M) (hpy : py.natAbs ≤ 1000) (hux : ux.natAbs ≤ 1000) (huy : uy.natAbs ≤ 1000) :
    ∃ low' px' py', low'.natAbs ≤ 1000 * M + 1000000 ∧ 0 ≤ low' ∧ px'.natAbs ≤ 1000 * M + 1000000 ∧ py'.natAbs ≤ 1000 ∧ plus low px py ux uy low' px' py' ∧
      ∀ (K : Nat) (R : Option (Int × Int × Int)), (∀ k, K ≤ k → impl_latticeOf.l0 k low' l len (i + 1) px' py' = R) → ∀ k, K + 1000 * M + 1003002 ≤ k → impl_latticeOf.l1 k low l len i px py ux uy = R := by
  have hq1 : px.natAbs * uy.natAbs ≤ M * 1000 := Nat.mul_le_mul hpx huy
  have hq2 : ux.natAbs * py.natAbs ≤ 1000 * 1000 := Nat.mul_le_mul hux hpy
  obtain ⟨px', py', vx', b1, b2, b3, hs, hk⟩ := impl_euclid l low len i 1000 px py ux uy (1000 * M + 1000000) hM huy (by omega) (by omega) hpy huy (by omega)
  have hg : Int.gcd low vx' ≤ 1000 * M + 1000000 := gcd_le_bd (by omega) b3
  refine ⟨(Int.gcd low vx' : Int), px', py', by omega, by omega, b1, b2, L_more hs rfl, fun K R h k hk' => ?_⟩
  refine hk (K + 1000 * M + 1000002) R (fun k hk'' => ?_) k (by omega)
  obtain ⟨k, rfl⟩ : ∃ m, k = m + 1 := ⟨k - 1, by omega⟩
  rw [impl_latticeOf.l1, if_pos rfl]
  unfold impl_gcd.f
  rw [impl_gcd_eq k low vx' (by omega) (by omega) (by omega), wrap_id (x := i + 1) (by omega) (by omega)]
  simp only [Option.bind_some]
  exact h k (by omega)
theorem impl_lattice_end (l : List S47) (low len px py : Int) (i : Int) (hi : ¬ i < len) (hl : 0 < low) (hl2 : low ≤ 1000000000000000000) (hp : px.natAbs ≤ 1000000000000000000) (hpy : py.natAbs ≤ 1000) (hy : py ≠ 0) :
    ∃ B C, 0 ≤ B ∧ B < low ∧ 0 < C ∧ (∀ x y, L low B C x y ↔ L low px py x y) ∧ ∀ k, 1 ≤ k → impl_latticeOf.l0 k low l len i px py = some (low, B, C) := by
  by_cases h : py < 0
  · refine ⟨(-px) % low, -py, Int.emod_nonneg _ (by omega), Int.emod_lt_of_pos _ hl, by omega, fun x y => (L_mod _ _ _ _ _).trans (L_neg _ _ _ _ _), fun k hk => ?_⟩
    obtain ⟨k, rfl⟩ : ∃ m, k = m + 1 := ⟨k - 1, by omega⟩
    rw [impl_latticeOf.l0, if_neg hi, if_pos h]
    unfold impl_Vec_times.f
    simp only [Option.bind_some]
    rw [Int.neg_one_mul, Int.neg_one_mul, wrap_id (x := -px) (by omega) (by omega), wrap_id (x := -py) (by omega) (by omega), impl_mod_eq hl hl2]; rfl
  · refine ⟨px % low, py, Int.emod_nonneg _ (by omega), Int.emod_lt_of_pos _ hl, by omega, fun x y => L_mod _ _ _ _ _, fun k hk => ?_⟩
    obtain ⟨k, rfl⟩ : ∃ m, k = m + 1 := ⟨k - 1, by omega⟩
    rw [impl_latticeOf.l0, if_neg hi, if_neg h, impl_mod_eq hl hl2]; rfl
theorem impl_latticeOf2 (u v : S47) (h1 : u.f0.natAbs ≤ 1000) (h2 : u.f1.natAbs ≤ 1000) (h3 : v.f0.natAbs ≤ 1000) (h4 : v.f1.natAbs ≤ 1000) (hd : u.f0 * v.f1 - u.f1 * v.f0 ≠ 0) :
    ∃ A B C, Herm (sp2 u.f0 u.f1 v.f0 v.f1) A B C ∧ ∀ k, 1003100000 ≤ k → impl_latticeOf.f k [u, v] = some (A, B, C) := by
  obtain ⟨l1, p1, q1, b1, b2, b3, b4, hp1, hk1⟩ := impl_vec_step [u, v] 0 2 0 u.f0 u.f1 0 0 0 (by omega) (by omega) (by simp) (by omega) (by simp) (by simp) h1 h2
  obtain ⟨l2, p2, q2, c1, c2, c3, c4, hp2, hk2⟩ := impl_vec_step [u, v] l1 2 1 v.f0 v.f1 p1 q1 1000000 (by omega) (by omega) (by omega) b2 (by omega) b4 h3 h4
  have hsp := plus_two hp1 hp2
  obtain ⟨r1, r2⟩ := L_rank ((hsp u.f0 u.f1).mpr ⟨1, 0, by omega, by omega⟩) ((hsp v.f0 v.f1).mpr ⟨0, 1, by omega, by omega⟩) hd
  obtain ⟨B, C, e1, e2, e3, e4, hk3⟩ := impl_lattice_end [u, v] l2 2 p2 q2 2 (by omega) (by omega) (by omega) (by omega) c4 r2
  refine ⟨l2, B, C, ⟨by omega, e3, e1, e2, fun x y => (e4 x y).trans (hsp x y)⟩, fun k hk => ?_⟩
  unfold impl_latticeOf.f
  obtain ⟨k, rfl⟩ : ∃ m, k = m + 1 := ⟨k - 1, by omega⟩
  simp only [List.length_cons, List.length_nil]
  rw [impl_latticeOf.l0, if_pos (by decide), if_pos (by decide), if_pos (by simp)]
  refine hk1 1001003100 _ (fun k hk => ?_) k (by omega)
  obtain ⟨k, rfl⟩ : ∃ m, k = m + 1 := ⟨k - 1, by omega⟩
  rw [impl_latticeOf.l0, if_pos (by decide), if_pos (by decide), if_pos (by simp)]
  refine hk2 1 _ (fun k hk => ?_) k (by omega)
  exact hk3 k hk
theorem spec_euclid (l : List S47) (low i : Int) : ∀ (n : Nat) (px py vx vy : Int) (M : Nat), M ≤ 10000000000000000 → vy.natAbs ≤ n → px.natAbs ≤ M → vx.natAbs ≤ M → py.natAbs ≤ 1000 → vy.natAbs ≤ 1000 →
    px.natAbs * vy.natAbs + vx.natAbs * py.natAbs ≤ M →
    ∃ px' py' vx', px'.natAbs ≤ M ∧ py'.natAbs ≤ 1000 ∧ vx'.natAbs ≤ M ∧ (∀ x y, S2 px' py' vx' 0 x y ↔ S2 px py vx vy x y) ∧
      ∀ (K : Nat) (R : Option (Int × Int × Int)), (∀ k, K ≤ k → spec_l03Hermite.l1 k l low i px' py' vx' 0 = R) → ∀ k, K + n ≤ k → spec_l03Hermite.l1 k l low i px py vx vy = R := by
  intro n
  induction n with
  | zero =>
    intro px py vx vy M hM hn h1 h2 h3 h4 hQ
    have h0 : vy = 0 := by omega
    subst h0
    exact ⟨px, py, vx, h1, h3, h2, fun x y => Iff.rfl, fun K R h k hk => h k (by omega)⟩
  | succ n ih =>
    intro px py vx vy M hM hn h1 h2 h3 h4 hQ
    by_cases h0 : vy = 0
    · subst h0
      exact ⟨px, py, vx, h1, h3, h2, fun x y => Iff.rfl, fun K R h k hk => h k (by omega)⟩
    · obtain ⟨e1, e2, e3, e4, e5, e6⟩ := euclid (px := px) (py := py) (vx := vx) h0 hQ
      obtain ⟨px', py', vx', b1, b2, b3, hs, hk⟩ := ih vx vy (px - py.tdiv vy * vx) (py - py.tdiv vy * vy) M hM (by omega) h2 e3 h4 (by omega) e6
      refine ⟨px', py', vx', b1, b2, b3, fun x y => (hs x y).trans (S2_step px py vx vy _ x y), fun K R h k hk' => ?_⟩
      obtain ⟨k, rfl⟩ : ∃ m, k = m + 1 := ⟨k - 1, by omega⟩
      rw [spec_l03Hermite.l1, if_neg h0]
      generalize py.tdiv vy = q at *
      rw [wrap_id (x := q) (by omega) (by omega), wrap_id (x := q * vx) (by omega) (by omega), wrap_id (x := q * vy) (by omega) (by omega), wrap_id (x := px - q * vx) (by omega) (by omega), wrap_id (x := py - q * vy) (by omega) (by omega)]
      exact hk K R h k (by omega)
theorem plus_mod {l p q ux uy l' p' q' : Int} (h : plus l p q ux uy l' p' q') : plus l p q ux uy l' (p' % l') q' := fun x y => (L_mod _ _ _ _ _).trans (h x y)
theorem spec_vec_step (l : List S47) (low i ux uy px py : Int) (M : Nat) (hM : 1000 * M + 1000000 ≤ 10000000000000000) (hi : 0 ≤ i ∧ i ≤ 1000) (hl : low.natAbs ≤ M) (hl0 : 0 ≤ low) (hpx : px.natAbs ≤ M) (hpy : py.natAbs ≤ 1000) (hux : ux.natAbs ≤ 1000) (huy : uy.natAbs ≤ 1000) :
    ∃ low' px' py', low'.natAbs ≤ 1000 * M + 1000000 ∧ 0 ≤ low' ∧ px'.natAbs ≤ 1000 * M + 1000000 ∧ py'.natAbs ≤ 1000 ∧ plus low px py ux uy low' px' py' ∧
      ∀ (K : Nat) (R : Option (Int × Int × Int)), (∀ k, K ≤ k → spec_l03Hermite.l0 k l low' (i + 1) px' py' = R) → ∀ k, K + 1000 * M + 1003002 ≤ k → spec_l03Hermite.l1 k l low i px py ux uy = R := by
  have hq1 : px.natAbs * uy.natAbs ≤ M * 1000 := Nat.mul_le_mul hpx huy
  have hq2 : ux.natAbs * py.natAbs ≤ 1000 * 1000 := Nat.mul_le_mul hux hpy
  obtain ⟨px', py', vx', b1, b2, b3, hs, hk⟩ := spec_euclid l low i 1000 px py ux uy (1000 * M + 1000000) hM huy (by omega) (by omega) hpy huy (by omega)
  have hg : Int.gcd low vx' ≤ 1000 * M + 1000000 := gcd_le_bd (by omega) b3
  have hp : plus low px py ux uy (Int.gcd low vx' : Int) px' py' := L_more hs rfl
  by_cases hg0 : (Int.gcd low vx' : Int) > 0
  · have m1 := Int.emod_nonneg px' (show (Int.gcd low vx' : Int) ≠ 0 by omega)
    have m2 := Int.emod_lt_of_pos px' (show 0 < (Int.gcd low vx' : Int) by omega)
    refine ⟨(Int.gcd low vx' : Int), px' % (Int.gcd low vx' : Int), py', by omega, by omega, by omega, b2, plus_mod hp, fun K R h k hk' => ?_⟩
    refine hk (K + 1000 * M + 1000002) R (fun k hk'' => ?_) k (by omega)
    obtain ⟨k, rfl⟩ : ∃ m, k = m + 1 := ⟨k - 1, by omega⟩
    rw [spec_l03Hermite.l1, if_pos rfl, spec_l01Divisor_eq k low vx' (by omega) (by omega) (by omega), wrap_id (x := i + 1) (by omega) (by omega)]
    simp only [Option.bind_some]
    rw [if_pos hg0, spec_l01Mod_eq (by omega) (by omega)]
    exact h k (by omega)
  · refine ⟨(Int.gcd low vx' : Int), px', py', by omega, by omega, b1, b2, hp, fun K R h k hk' => ?_⟩
    refine hk (K + 1000 * M + 1000002) R (fun k hk'' => ?_) k (by omega)
    obtain ⟨k, rfl⟩ : ∃ m, k = m + 1 := ⟨k - 1, by omega⟩
    rw [spec_l03Hermite.l1, if_pos rfl, spec_l01Divisor_eq k low vx' (by omega) (by omega) (by omega), wrap_id (x := i + 1) (by omega) (by omega)]
    simp only [Option.bind_some]
    rw [if_neg hg0]
    exact h k (by omega)
theorem spec_lattice_end (l : List S47) (low px py : Int) (i : Int) (hi : ¬ i < (l.length : Int)) (hl : 0 < low) (hl2 : low ≤ 1000000000000000000) (hp : px.natAbs ≤ 1000000000000000000) (hpy : py.natAbs ≤ 1000) (hy : py ≠ 0) :
    ∃ B C, 0 ≤ B ∧ B < low ∧ 0 < C ∧ (∀ x y, L low B C x y ↔ L low px py x y) ∧ ∀ k, 1 ≤ k → spec_l03Hermite.l0 k l low i px py = some (low, B, C) := by
  by_cases h : py < 0
  · refine ⟨(-px) % low, -py, Int.emod_nonneg _ (by omega), Int.emod_lt_of_pos _ hl, by omega, fun x y => (L_mod _ _ _ _ _).trans (L_neg _ _ _ _ _), fun k hk => ?_⟩
    obtain ⟨k, rfl⟩ : ∃ m, k = m + 1 := ⟨k - 1, by omega⟩
    rw [spec_l03Hermite.l0, if_neg hi, if_pos h]
    unfold spec_l01Scale.f
    simp only [Option.bind_some]
    rw [if_pos (by omega), Int.neg_one_mul, Int.neg_one_mul, wrap_id (x := -px) (by omega) (by omega), wrap_id (x := -py) (by omega) (by omega), spec_l01Mod_eq hl hl2]; rfl
  · refine ⟨px % low, py, Int.emod_nonneg _ (by omega), Int.emod_lt_of_pos _ hl, by omega, fun x y => L_mod _ _ _ _ _, fun k hk => ?_⟩
    obtain ⟨k, rfl⟩ : ∃ m, k = m + 1 := ⟨k - 1, by omega⟩
    rw [spec_l03Hermite.l0, if_neg hi, if_neg h, if_pos (by omega), spec_l01Mod_eq hl hl2]; rfl
theorem spec_hermite2 (u v : S47) (h1 : u.f0.natAbs ≤ 1000) (h2 : u.f1.natAbs ≤ 1000) (h3 : v.f0.natAbs ≤ 1000) (h4 : v.f1.natAbs ≤ 1000) (hd : u.f0 * v.f1 - u.f1 * v.f0 ≠ 0) :
    ∃ A B C, Herm (sp2 u.f0 u.f1 v.f0 v.f1) A B C ∧ ∀ k, 1003100000 ≤ k → spec_l03Hermite.f k [u, v] = some (A, B, C) := by
  obtain ⟨l1, p1, q1, b1, b2, b3, b4, hp1, hk1⟩ := spec_vec_step [u, v] 0 0 u.f0 u.f1 0 0 0 (by omega) (by omega) (by simp) (by omega) (by simp) (by simp) h1 h2
  obtain ⟨l2, p2, q2, c1, c2, c3, c4, hp2, hk2⟩ := spec_vec_step [u, v] l1 1 v.f0 v.f1 p1 q1 1000000 (by omega) (by omega) (by omega) b2 (by omega) b4 h3 h4
  have hsp := plus_two hp1 hp2
  obtain ⟨r1, r2⟩ := L_rank ((hsp u.f0 u.f1).mpr ⟨1, 0, by omega, by omega⟩) ((hsp v.f0 v.f1).mpr ⟨0, 1, by omega, by omega⟩) hd
  obtain ⟨B, C, e1, e2, e3, e4, hk3⟩ := spec_lattice_end [u, v] l2 p2 q2 2 (by simp) (by omega) (by omega) (by omega) c4 r2
  refine ⟨l2, B, C, ⟨by omega, e3, e1, e2, fun x y => (e4 x y).trans (hsp x y)⟩, fun k hk => ?_⟩
  unfold spec_l03Hermite.f
  obtain ⟨k, rfl⟩ : ∃ m, k = m + 1 := ⟨k - 1, by omega⟩
  rw [spec_l03Hermite.l0, if_pos (by simp), if_pos (by decide)]
  refine hk1 1001003100 _ (fun k hk => ?_) k (by omega)
  obtain ⟨k, rfl⟩ : ∃ m, k = m + 1 := ⟨k - 1, by omega⟩
  rw [spec_l03Hermite.l0, if_pos (by simp), if_pos (by decide)]
  refine hk2 1 _ (fun k hk => ?_) k (by omega)
  exact hk3 k hk
theorem spec_l03Result_eq (a b c : Int) (h1 : -9223372036854775808 ≤ a) (h2 : a < 9223372036854775808) : spec_l03Result.f a b c = some (if latB a b c = true then (a, b, c, 0) else (0, 0, 0, 3)) := by
  unfold spec_l03Result.f; simp only [spec_IsLattice_eq a b c h1 h2, Option.bind_some]; split <;> rfl
def pm0 : List S51 := [⟨-1, 0, 0, -1⟩, ⟨-1, 0, 0, 1⟩, ⟨0, -1, -1, 0⟩, ⟨0, -1, 1, 0⟩, ⟨0, 1, -1, 0⟩, ⟨0, 1, 1, 0⟩, ⟨1, 0, 0, -1⟩, ⟨1, 0, 0, 1⟩]
def pm1 : List S51 := [⟨-1, -1, 0, 1⟩, ⟨-1, -1, 1, 0⟩, ⟨-1, 0, 0, -1⟩, ⟨-1, 0, 1, 1⟩, ⟨0, -1, -1, 0⟩, ⟨0, -1, 1, 1⟩, ⟨0, 1, -1, -1⟩, ⟨0, 1, 1, 0⟩, ⟨1, 0, -1, -1⟩, ⟨1, 0, 0, 1⟩, ⟨1, 1, -1, 0⟩, ⟨1, 1, 0, -1⟩]
def pmL (f : Int) : List S51 := if f = 0 then pm0 else pm1
theorem pmL_len (f : Int) : (pmL f).length ≤ 12 := by unfold pmL; split <;> decide
def pmS (f : Int) : List S51 × Int := if frameB f = true then (pmL f, 0) else ([], 1)
theorem pmS_len (f : Int) : (pmS f).1.length ≤ 5000 := by
  unfold pmS
  split
  · have := pmL_len f; simp only; omega
  · simp
def keepsB (f a b c d : Int) : Bool := Nf f a c == 1 && Nf f b d == 1 && Nf f (a + b) (c + d) == 2 + f
theorem pm_mem (f a b c d : Int) (hf : f = 0 ∨ f = 1) : (smallB a b c d = true ∧ keepsB f a b c d = true) ↔ (⟨a, b, c, d⟩ : S51) ∈ pmL f := by
  constructor
  · rintro ⟨hs, hk⟩
    have hk' := hk
    unfold keepsB at hk'
    simp only [Bool.and_eq_true, beq_iff_eq] at hk'
    obtain ⟨⟨h1, h2⟩, h3⟩ := hk'
    have b1 := Nf_box (m := 1) (N := 1) hf (by omega) (show Nf f a c ≤ 1 by omega) (by omega)
    have b2 := Nf_box (m := 1) (N := 1) hf (by omega) (show Nf f b d ≤ 1 by omega) (by omega)
    have ha : a = -1 ∨ a = 0 ∨ a = 1 := by omega
    have hb : b = -1 ∨ b = 0 ∨ b = 1 := by omega
    have hc : c = -1 ∨ c = 0 ∨ c = 1 := by omega
    have hd : d = -1 ∨ d = 0 ∨ d = 1 := by omega
    clear h1 h2 h3 b1 b2 hs
    rcases hf with rfl | rfl
    · rcases ha with rfl | rfl | rfl <;> rcases hb with rfl | rfl | rfl <;> rcases hc with rfl | rfl | rfl <;> rcases hd with rfl | rfl | rfl <;> first | (exfalso; revert hk; decide) | simp [pmL, pm0]
    · rcases ha with rfl | rfl | rfl <;> rcases hb with rfl | rfl | rfl <;> rcases hc with rfl | rfl | rfl <;> rcases hd with rfl | rfl | rfl <;> first | (exfalso; revert hk; decide) | simp [pmL, pm1]
  · intro h
    rcases hf with rfl | rfl
    · simp only [pmL, pm0, if_true, List.mem_cons, S51.mk.injEq, List.not_mem_nil, or_false] at h
      rcases h with ⟨rfl, rfl, rfl, rfl⟩ | ⟨rfl, rfl, rfl, rfl⟩ | ⟨rfl, rfl, rfl, rfl⟩ | ⟨rfl, rfl, rfl, rfl⟩ | ⟨rfl, rfl, rfl, rfl⟩ | ⟨rfl, rfl, rfl, rfl⟩ | ⟨rfl, rfl, rfl, rfl⟩ | ⟨rfl, rfl, rfl, rfl⟩ <;> decide
    · have e : pmL 1 = pm1 := by unfold pmL; rw [if_neg (by decide)]
      rw [e] at h
      simp only [pm1, List.mem_cons, S51.mk.injEq, List.not_mem_nil, or_false] at h
      rcases h with ⟨rfl, rfl, rfl, rfl⟩ | ⟨rfl, rfl, rfl, rfl⟩ | ⟨rfl, rfl, rfl, rfl⟩ | ⟨rfl, rfl, rfl, rfl⟩ | ⟨rfl, rfl, rfl, rfl⟩ | ⟨rfl, rfl, rfl, rfl⟩ | ⟨rfl, rfl, rfl, rfl⟩ | ⟨rfl, rfl, rfl, rfl⟩ | ⟨rfl, rfl, rfl, rfl⟩ | ⟨rfl, rfl, rfl, rfl⟩ | ⟨rfl, rfl, rfl, rfl⟩ | ⟨rfl, rfl, rfl, rfl⟩ <;> decide
/-- What a point matrix is: its numbers and its determinant. -/
theorem pm_facts {f a b c d : Int} (hf : f = 0 ∨ f = 1) (h : (⟨a, b, c, d⟩ : S51) ∈ pmL f) : (-1 ≤ a ∧ a ≤ 1) ∧ (-1 ≤ b ∧ b ≤ 1) ∧ (-1 ≤ c ∧ c ≤ 1) ∧ (-1 ≤ d ∧ d ≤ 1) ∧ (a * d - b * c = 1 ∨ a * d - b * c = -1) := by
  rcases hf with rfl | rfl
  · simp only [pmL, pm0, if_true, List.mem_cons, S51.mk.injEq, List.not_mem_nil, or_false] at h
    rcases h with ⟨rfl, rfl, rfl, rfl⟩ | ⟨rfl, rfl, rfl, rfl⟩ | ⟨rfl, rfl, rfl, rfl⟩ | ⟨rfl, rfl, rfl, rfl⟩ | ⟨rfl, rfl, rfl, rfl⟩ | ⟨rfl, rfl, rfl, rfl⟩ | ⟨rfl, rfl, rfl, rfl⟩ | ⟨rfl, rfl, rfl, rfl⟩ <;> decide
  · have e : pmL 1 = pm1 := by unfold pmL; rw [if_neg (by decide)]
    rw [e] at h
    simp only [pm1, List.mem_cons, S51.mk.injEq, List.not_mem_nil, or_false] at h
    rcases h with ⟨rfl, rfl, rfl, rfl⟩ | ⟨rfl, rfl, rfl, rfl⟩ | ⟨rfl, rfl, rfl, rfl⟩ | ⟨rfl, rfl, rfl, rfl⟩ | ⟨rfl, rfl, rfl, rfl⟩ | ⟨rfl, rfl, rfl, rfl⟩ | ⟨rfl, rfl, rfl, rfl⟩ | ⟨rfl, rfl, rfl, rfl⟩ | ⟨rfl, rfl, rfl, rfl⟩ | ⟨rfl, rfl, rfl, rfl⟩ | ⟨rfl, rfl, rfl, rfl⟩ | ⟨rfl, rfl, rfl, rfl⟩ <;> decide
/-- Is a matrix a point matrix of a frame? -/
def pmB (f a b c d : Int) : Bool := frameB f && matB a b c d && keepsB f a b c d
theorem pmB_iff {f a b c d : Int} : pmB f a b c d = true ↔ (f = 0 ∨ f = 1) ∧ (⟨a, b, c, d⟩ : S51) ∈ pmL f := by
  unfold pmB
  simp only [Bool.and_eq_true]
  constructor
  · rintro ⟨⟨h1, h2⟩, h3⟩
    have hf : f = 0 ∨ f = 1 := by simpa [frameB] using h1
    exact ⟨hf, (pm_mem f a b c d hf).mp ⟨(matB_iff.mp h2).1, h3⟩⟩
  · rintro ⟨hf, h⟩
    obtain ⟨h1, h2⟩ := (pm_mem f a b c d hf).mpr h
    have h3 := pm_facts hf h
    exact ⟨⟨by simpa [frameB] using hf, matB_iff.mpr ⟨h1, h3.2.2.2.2⟩⟩, h2⟩
set_option maxRecDepth 100000 in
theorem impl_pm0 (k : Nat) : impl_pointMats.f (k + 82) 0 = some pm0 := by kernel_rfl
set_option maxRecDepth 100000 in
theorem impl_pm1 (k : Nat) : impl_pointMats.f (k + 82) 1 = some pm1 := by kernel_rfl
theorem impl_pointMats_eq (k : Nat) (hk : 82 ≤ k) {f : Int} (hf : f = 0 ∨ f = 1) : impl_pointMats.f k f = some (pmL f) := by
  obtain ⟨k, rfl⟩ : ∃ m, k = m + 82 := ⟨k - 82, by omega⟩
  rcases hf with rfl | rfl
  · rw [impl_pm0]; rfl
  · rw [impl_pm1]; rfl
set_option maxRecDepth 100000 in
theorem spec_pm0 (k : Nat) : spec_l04Mats.f (k + 82) 0 = some pm0 := by kernel_rfl
set_option maxRecDepth 100000 in
theorem spec_pm1 (k : Nat) : spec_l04Mats.f (k + 82) 1 = some pm1 := by kernel_rfl
theorem spec_l04Mats_eq (k : Nat) (hk : 82 ≤ k) {f : Int} (hf : f = 0 ∨ f = 1) : spec_l04Mats.f k f = some (pmL f) := by
  obtain ⟨k, rfl⟩ : ∃ m, k = m + 82 := ⟨k - 82, by omega⟩
  rcases hf with rfl | rfl
  · rw [spec_pm0]; rfl
  · rw [spec_pm1]; rfl
theorem spec_PointMats_eq (k : Nat) (hk : 82 ≤ k) (f : Int) : spec_PointMats.f k f = some (pmS f) := by
  unfold spec_PointMats.f pmS
  simp only [spec_IsFrame_eq, Option.bind_some]
  split
  · rename_i h; rw [spec_l04Mats_eq k hk (by simpa [frameB] using h)]; rfl
  · rfl
theorem impl_PointMats_eq (k : Nat) (hk : 82 ≤ k) (f : Int) : impl_PointMats.f k f = some (pmS f) := by
  unfold impl_PointMats.f pmS
  simp only [impl_IsFrame_eq, Option.bind_some]
  split
  · rename_i h; rw [impl_pointMats_eq k hk (by simpa [frameB] using h)]; rfl
  · rfl
theorem spec_l04Keeps_eq (f : Int) {a b c d : Int} (hf : f = 0 ∨ f = 1) (h : smallB a b c d = true) : spec_l04Keeps.f f a b c d = some (keepsB f a b c d) := by
  rw [smallB_iff] at h
  unfold spec_l04Keeps.f keepsB
  rw [spec_l04Norm_eq f hf (by omega) (by omega), spec_l04Norm_eq f hf (by omega) (by omega)]
  unfold spec_l01Add.f
  simp only [Option.bind_some]
  rw [wrap_id (x := a + b) (by omega) (by omega), wrap_id (x := c + d) (by omega) (by omega), spec_l04Norm_eq f hf (by omega) (by omega), wrap_id (x := 2 + f) (by omega) (by omega)]
  simp only [Option.bind_some]
  by_cases h1 : Nf f a c = 1
  · by_cases h2 : Nf f b d = 1
    · rw [if_pos h1, if_pos h2, h1, h2]; simp
    · rw [if_pos h1, if_neg h2, h1]; simp [h2]
  · rw [if_neg h1]; simp [h1]
theorem spec_IsPointMat_eq (f a b c d : Int) : spec_IsPointMat.f f a b c d = some (pmB f a b c d) := by
  unfold spec_IsPointMat.f pmB
  simp only [spec_IsFrame_eq, spec_IsMat_eq, Option.bind_some]
  cases h1 : frameB f with
  | false => simp
  | true =>
    cases h2 : matB a b c d with
    | false => simp
    | true =>
      rw [spec_l04Keeps_eq f (by simpa [frameB] using h1) (matB_iff.mp h2).1]; simp
theorem rd_mat_at (pre : List S51) (v : S51) (t : List S51) (i : Int) (hi : i = pre.length) : rd_T51 (pre ++ v :: t) i = v := by
  subst hi; unfold rd_T51; simp
theorem mat_index (a b c d : Int) : ∀ (t pre : List S51) (k : Nat) (n : Int), n = ((pre ++ t).length : Int) → (pre ++ t).length ≤ 1000 → t.length < k →
    ∃ j, impl_Mat_151.l0 k (pre ++ t) n (pre.length : Int) a b c d = some j ∧ (0 ≤ j ↔ (⟨a, b, c, d⟩ : S51) ∈ t) := by
  intro t
  induction t with
  | nil =>
    intro pre k n hn hl hk
    obtain ⟨k, rfl⟩ : ∃ m, k = m + 1 := ⟨k - 1, by omega⟩
    refine ⟨-1, ?_, by simp⟩
    rw [impl_Mat_151.l0, if_neg (by rw [hn]; simp)]
  | cons x t ih =>
    intro pre k n hn hl hk
    obtain ⟨k, rfl⟩ : ∃ m, k = m + 1 := ⟨k - 1, by omega⟩
    simp only [List.length_append, List.length_cons] at hn hl hk
    rw [impl_Mat_151.l0, if_pos (by omega), if_pos (by omega), if_pos (by simp; omega), rd_mat_at pre x t _ rfl, wrap_id (x := (pre.length : Int) + 1) (by omega) (by omega)]
    obtain ⟨x0, x1, x2, x3⟩ := x
    by_cases h : a = x0 ∧ b = x1 ∧ c = x2 ∧ d = x3
    · refine ⟨(pre.length : Int), ?_, ?_⟩
      · rw [if_pos (by simpa using h)]
      · obtain ⟨rfl, rfl, rfl, rfl⟩ := h; simp
    · rw [if_neg (by simpa using h)]
      obtain ⟨j, h1, h2⟩ := ih (pre ++ [⟨x0, x1, x2, x3⟩]) k n (by simp; omega) (by simp; omega) (by omega)
      refine ⟨j, ?_, ?_⟩
      · rw [← h1]; simp
      · rw [h2]; simp only [List.mem_cons, S51.mk.injEq]
        constructor
        · intro q; exact Or.inr q
        · rintro (q | q)
          · exact absurd q h
          · exact q
theorem impl_IsPointMat_eq (k : Nat) (hk : 82 ≤ k) (f a b c d : Int) : impl_IsPointMat.f k f a b c d = some (pmB f a b c d) := by
  unfold impl_IsPointMat.f impl_Mat_122.f impl_Mat_151.f
  simp only [impl_IsFrame_eq, Option.bind_some]
  by_cases h1 : frameB f = true
  · have hf : f = 0 ∨ f = 1 := by simpa [frameB] using h1
    have hl := pmL_len f
    rw [if_pos h1, impl_pointMats_eq k hk hf]
    simp only [Option.bind_some]
    obtain ⟨j, h2, h3⟩ := mat_index a b c d (pmL f) [] k ((pmL f).length : Int) rfl (by simp; omega) (by omega)
    simp only [List.nil_append, List.length_nil] at h2
    rw [show ((0 : Nat) : Int) = 0 from rfl] at h2
    rw [h2]
    simp only [Option.bind_some]
    congr 1
    rw [Bool.eq_iff_iff, pmB_iff, decide_eq_true_iff]
    constructor
    · intro q; exact ⟨hf, h3.mp q⟩
    · intro q; exact h3.mpr q.2
  · rw [if_neg h1]
    unfold pmB
    simp [h1]
def St (l : List Int) (p s : Int) : Prop := (l.length : Int) ≤ 4096 ∧ (∀ x ∈ l, 0 ≤ x ∧ x < 256) ∧ 0 ≤ p ∧ p ≤ (l.length : Int) ∧ 0 ≤ s ∧ s < 2147483647
theorem rd_mem {l : List Int} {i : Int} (h0 : 0 ≤ i) (h1 : i < (l.length : Int)) : rd l i ∈ l := by
  unfold rd
  have h : i.toNat < l.length := by omega
  have e : l.getD i.toNat 0 = l[i.toNat] := by simp [List.getD, h]
  rw [e]
  exact List.getElem_mem h
theorem tm_bd {X n : Int} (hX : 0 ≤ X) (hn : 0 < n) : 0 ≤ Int.tmod X n ∧ Int.tmod X n < n := ⟨Int.tmod_nonneg n hX, Int.tmod_lt_of_pos X hn⟩
theorem next_eq {l : List Int} {p s : Int} (h : St l p s) (n : Int) : ∃ r p' s', spec_l01Next.f l p s n = some (r, p', s') ∧ St l p' s' ∧ 0 ≤ r ∧ (r < n ∨ r = 0) := by
  have h0 := h
  obtain ⟨hl, hb, hp0, hp1, hs0, hs1⟩ := h
  unfold spec_l01Next.f
  by_cases hn : n ≤ 1
  · rw [if_pos hn]; exact ⟨0, p, s, rfl, h0, by omega, .inr rfl⟩
  rw [if_neg hn]
  rw [wrap_id (x := s * 48271) (by omega) (by omega), wrap_id (x := s * 48271 + 67) (by omega) (by omega)]
  obtain ⟨a1, a2⟩ := tm_bd (X := s * 48271 + 67) (n := 2147483647) (by omega) (by decide)
  generalize Int.tmod (s * 48271 + 67) 2147483647 = S at a1 a2
  have q0 : 0 ≤ Int.tdiv S 37 ∧ Int.tdiv S 37 ≤ S := by rw [Int.tdiv_eq_ediv_of_nonneg a1]; omega
  have q1 : wrap64 (Int.tdiv S 37) = Int.tdiv S 37 := wrap_id (by omega) (by omega)
  by_cases hp : p < (l.length : Int)
  · rw [if_pos hp, if_pos hp0]
    have m := hb _ (rd_mem hp0 hp)
    rw [wrap_id (x := p + 1) (by omega) (by omega), wrap_id (x := p + 1 - 1) (by omega) (by omega), Int.add_sub_cancel]
    have w1 : wrap64 (rd l p) = rd l p := wrap_id (by omega) (by omega)
    rw [q1, w1, wrap_id (x := Int.tdiv S 37 + rd l p) (by omega) (by omega), if_neg (show ¬ n = 0 by omega), if_neg (show ¬ n = 0 by omega)]
    have t1 := tm_bd (X := rd l p) (n := n) m.1 (by omega)
    have t2 := tm_bd (X := Int.tdiv S 37 + rd l p) (n := n) (by omega) (by omega)
    have st : St l (p + 1) S := ⟨hl, hb, by omega, by omega, a1, a2⟩
    split
    · split
      · exact ⟨_, _, _, rfl, st, t1.1, .inl t1.2⟩
      · exact ⟨_, _, _, rfl, st, t2.1, .inl t2.2⟩
    · exact ⟨_, _, _, rfl, st, t2.1, .inl t2.2⟩
  · rw [if_neg hp, if_neg (show ¬ n = 0 by omega), q1]
    have t1 := tm_bd (X := Int.tdiv S 37) (n := n) (by omega) (by omega)
    exact ⟨_, _, _, rfl, ⟨hl, hb, hp0, hp1, a1, a2⟩, t1.1, .inl t1.2⟩
theorem from_loop {l : List Int} (hl : (l.length : Int) ≤ 4096) (hb : ∀ x ∈ l, 0 ≤ x ∧ x < 256) (p : Int) : ∀ (k : Nat) (i s : Int), 0 ≤ i → i ≤ 64 → 64 - i < (k : Int) → 0 ≤ s → s < 2147483647 →
    ∃ s', spec_l01From.l0 k l i l p s = some (l, p, s') ∧ 0 ≤ s' ∧ s' < 2147483647
  | 0, i, s, h0, h1, h2, _, _ => by omega
  | k + 1, i, s, h0, h1, h2, h3, h4 => by
    unfold spec_l01From.l0
    by_cases hi : i < (l.length : Int)
    · rw [if_pos hi]
      by_cases h6 : i < 64
      · rw [if_pos h6, if_pos h0]
        have m := hb _ (rd_mem h0 hi)
        rw [wrap_id (x := i + 1) (by omega) (by omega), wrap_id (x := rd l i) (by omega) (by omega), wrap_id (x := s * 73) (by omega) (by omega), wrap_id (x := s * 73 + rd l i) (by omega) (by omega)]
        have t := tm_bd (X := s * 73 + rd l i) (n := 2147483647) (by omega) (by decide)
        exact from_loop hl hb p k (i + 1) _ (by omega) (by omega) (by omega) t.1 t.2
      · rw [if_neg h6]; exact ⟨s, rfl, h3, h4⟩
    · rw [if_neg hi]; exact ⟨s, rfl, h3, h4⟩
theorem from_eq {l : List Int} (hl : (l.length : Int) ≤ 4096) (hb : ∀ x ∈ l, 0 ≤ x ∧ x < 256) (k : Nat) (hk : 65 ≤ k) : ∃ p s, spec_l01From.f k l = some (l, p, s) ∧ St l p s := by
  obtain ⟨s, e, h1, h2⟩ := from_loop hl hb 0 k 0 93001 (by omega) (by omega) (by omega) (by omega) (by omega)
  exact ⟨0, s, e, hl, hb, by omega, by omega, h1, h2⟩
theorem pick_eq {l : List Int} {p s : Int} (h : St l p s) (L : List Int) (hL : 0 < L.length) : ∃ v p' s', spec_l01Pick.f l p s L = some (v, p', s') ∧ St l p' s' ∧ v ∈ L := by
  unfold spec_l01Pick.f
  obtain ⟨r, p', s', e, hs, b1, b2⟩ := next_eq h (L.length : Int)
  rw [e]
  simp only [Option.bind_some]
  have hr : r < (L.length : Int) := by rcases b2 with b | b <;> omega
  rw [if_pos b1, if_pos hr]
  exact ⟨_, _, _, rfl, hs, rd_mem b1 hr⟩
theorem draw_eq {l : List Int} {p s : Int} (h : St l p s) : ∃ x y p' s', spec_l01Draw.f l p s = some (x, y, p', s') ∧ St l p' s' ∧ (-1001 ≤ x ∧ x ≤ 1001) ∧ (-1001 ≤ y ∧ y ≤ 1001) := by
  unfold spec_l01Draw.f
  obtain ⟨r, p1, s1, e1, h1, b1, b2⟩ := next_eq h 40
  rw [e1]
  simp only [Option.bind_some]
  split
  · obtain ⟨v, p2, s2, e2, h2, m2⟩ := pick_eq h1 [-1000, 1000, 1001, 0] (by decide)
    rw [e2]
    simp only [Option.bind_some]
    obtain ⟨v', p3, s3, e3, h3, m3⟩ := pick_eq h2 [-1001, 1000, 0] (by decide)
    rw [e3]
    simp only [Option.bind_some]
    simp only [List.mem_cons, List.not_mem_nil, or_false] at m2 m3
    exact ⟨_, _, _, _, rfl, h3, by omega, by omega⟩
  · obtain ⟨v, p2, s2, e2, h2, m2⟩ := pick_eq h1 [4, 9, 30] (by decide)
    rw [e2]
    simp only [Option.bind_some]
    simp only [List.mem_cons, List.not_mem_nil, or_false] at m2
    rw [wrap_id (x := 2 * v) (by omega) (by omega), wrap_id (x := 2 * v + 1) (by omega) (by omega)]
    obtain ⟨r3, p3, s3, e3, h3, b3, c3⟩ := next_eq h2 (2 * v + 1)
    rw [e3]
    simp only [Option.bind_some]
    obtain ⟨r4, p4, s4, e4, h4, b4, c4⟩ := next_eq h3 (2 * v + 1)
    rw [e4]
    simp only [Option.bind_some]
    rw [wrap_id (x := r3 - v) (by omega) (by omega), wrap_id (x := r4 - v) (by omega) (by omega)]
    exact ⟨_, _, _, _, rfl, h4, by omega, by omega⟩
theorem big_eq (l : List Int) : laws_big.f l = some (decide ((l.length : Int) > 4096)) := rfl
def frLat (f a b c : Int) : Bool := frameB f && latB a b c
theorem spec_l04Code_eq (f a b c : Int) (w : -9223372036854775808 ≤ a ∧ a < 9223372036854775808) : spec_l04Code.f f a b c = some (if frLat f a b c = true then 0 else 1) := by
  unfold spec_l04Code.f frLat
  simp only [spec_IsFrame_eq, spec_IsLattice_eq a b c w.1 w.2, Option.bind_some]
  cases frameB f <;> cases latB a b c <;> rfl
theorem impl_frameCode_eq (f a b c : Int) (w : -9223372036854775808 ≤ a ∧ a < 9223372036854775808) : impl_frameCode.f f a b c = some (if frLat f a b c = true then 0 else 1) := by
  unfold impl_frameCode.f frLat
  simp only [impl_IsFrame_eq, impl_IsLattice_eq a b c w.1 w.2, Option.bind_some]
  cases frameB f <;> cases latB a b c <;> rfl
theorem map_det (p q r s a b c : Int) : (p * a + q * 0) * (r * b + s * c) - (r * a + s * 0) * (p * b + q * c) = (a * c) * (p * s - q * r) := by grind
theorem draw3_eq {l : List Int} {p s : Int} (h : St l p s) : ∃ a b c p' s', spec_l03Draw.f l p s = some (a, b, c, p', s') ∧ St l p' s' ∧ (-100 ≤ a ∧ a ≤ 100) := by
  unfold spec_l03Draw.f
  obtain ⟨r1, p1, s1, e1, h1, b1, c1⟩ := next_eq h 6
  rw [e1]
  simp only [Option.bind_some]
  obtain ⟨r2, p2, s2, e2, h2, b2, c2⟩ := next_eq h1 6
  rw [e2]
  simp only [Option.bind_some]
  rw [wrap_id (x := 1 + r1) (by omega) (by omega)]
  obtain ⟨r3, p3, s3, e3, h3, b3, c3⟩ := next_eq h2 (1 + r1)
  rw [e3]
  simp only [Option.bind_some]
  obtain ⟨r4, p4, s4, e4, h4, b4, c4⟩ := next_eq h3 60
  rw [e4]
  simp only [Option.bind_some]
  split
  · obtain ⟨v, p5, s5, e5, h5, m5⟩ := pick_eq h4 [0, 64, 65, 8] (by decide)
    rw [e5]
    simp only [List.mem_cons, List.not_mem_nil, or_false] at m5
    exact ⟨_, _, _, _, _, rfl, h5, by omega⟩
  · split
    · obtain ⟨v, p5, s5, e5, h5, m5⟩ := pick_eq h4 [-1, 1 + r1, wrap64 (1 + r1 - 1)] (by simp)
      rw [e5]
      exact ⟨_, _, _, _, _, rfl, h5, by omega⟩
    · split
      · obtain ⟨v, p5, s5, e5, h5, m5⟩ := pick_eq h4 [8, 9] (by decide)
        rw [e5]
        exact ⟨_, _, _, _, _, rfl, h5, by omega⟩
      · exact ⟨_, _, _, _, _, rfl, h4, by omega⟩
def bdM (B a b c d : Int) : Prop := (-B ≤ a ∧ a ≤ B) ∧ (-B ≤ b ∧ b ≤ B) ∧ (-B ≤ c ∧ c ≤ B) ∧ (-B ≤ d ∧ d ≤ B)
theorem mul_bdM {A B a b c d a' b' c' d' : Int} (hA : 0 ≤ A) (hA2 : A ≤ 1000) (hB2 : B ≤ 1000) (h : bdM A a b c d) (h' : bdM B a' b' c' d') :
    ∃ p q r s, spec_l02Multiply.f a b c d a' b' c' d' = some (p, q, r, s) ∧ bdM (2 * (A * B)) p q r s := by
  obtain ⟨h1, h2, h3, h4⟩ := h
  obtain ⟨g1, g2, g3, g4⟩ := h'
  have s1 : smallB a b c d = true := smallB_iff.mpr ⟨⟨by omega, by omega⟩, by omega, by omega⟩
  have s2 : smallB a' b' c' d' = true := smallB_iff.mpr ⟨⟨by omega, by omega⟩, by omega, by omega⟩
  rw [spec_l02Multiply_eq s1 s2]
  unfold mul1
  refine ⟨_, _, _, _, rfl, ?_⟩
  have p1 := prod_bd h1.1 h1.2 g1.1 g1.2 hA
  have p2 := prod_bd h2.1 h2.2 g3.1 g3.2 hA
  have p3 := prod_bd h1.1 h1.2 g2.1 g2.2 hA
  have p4 := prod_bd h2.1 h2.2 g4.1 g4.2 hA
  have p5 := prod_bd h3.1 h3.2 g1.1 g1.2 hA
  have p6 := prod_bd h4.1 h4.2 g3.1 g3.2 hA
  have p7 := prod_bd h3.1 h3.2 g2.1 g2.2 hA
  have p8 := prod_bd h4.1 h4.2 g4.1 g4.2 hA
  unfold bdM
  omega
theorem inv_lo {c : Int} (h : -10 ≤ c ∧ c ≤ 10) : spec_l02Inverse.f 1 0 c 1 = some (1, 0, -c, 1) := by
  unfold spec_l02Inverse.f spec_l02Det.f
  have e : wrap64 (wrap64 (1 * 1) - wrap64 (0 * c)) = 1 := by unfold wrap64; omega
  simp only [Option.bind_some, e]
  rw [wrap_id (x := -1) (by omega) (by omega), wrap_id (x := 1 * 1) (by omega) (by omega), wrap_id (x := -1 * 0) (by omega) (by omega), wrap_id (x := -1 * c) (by omega) (by omega)]
  congr 3; congr 1; omega
theorem inv_up {b : Int} (h : -10 ≤ b ∧ b ≤ 10) : spec_l02Inverse.f 1 b 0 1 = some (1, -b, 0, 1) := by
  unfold spec_l02Inverse.f spec_l02Det.f
  have e : wrap64 (wrap64 (1 * 1) - wrap64 (b * 0)) = 1 := by unfold wrap64; omega
  simp only [Option.bind_some, e]
  rw [wrap_id (x := -1) (by omega) (by omega), wrap_id (x := 1 * 1) (by omega) (by omega), wrap_id (x := -1 * 0) (by omega) (by omega), wrap_id (x := -1 * b) (by omega) (by omega)]
  congr 2; congr 1; omega
theorem fin_step {l : List Int} {p s : Int} (h : St l p s) {n B a b c d : Int} (hn : 0 < n) (hn2 : n ≤ 10) (hB : 0 ≤ B) (hB2 : 16 * B ≤ 1000) (hb : bdM B a b c d) :
    ∃ p' s' a' b' c' d', St l p' s' ∧ bdM (16 * B) a' b' c' d' ∧ ∀ k, spec_l02DrawFinite.l0 (k + 1) n l p s a b c d = spec_l02DrawFinite.l0 k (n - 1) l p' s' a' b' c' d' := by
  obtain ⟨r1, p1, s1, e1, h1, b1, c1⟩ := next_eq h 5
  obtain ⟨r2, p2, s2, e2, h2, b2, c2⟩ := next_eq h1 2
  by_cases hr : r2 = 0
  · obtain ⟨r3, p3, s3, e3, h3, b3, c3⟩ := next_eq h2 5
    obtain ⟨t1, t2, t3, t4, q1, q2⟩ := mul_bdM (A := 2) (B := B) (a := 1) (b := 0) (c := r3 - 2) (d := 1) (by omega) (by omega) (by omega) (by unfold bdM; omega) hb
    obtain ⟨u1, u2, u3, u4, q3, q4⟩ := mul_bdM (A := 2 * (2 * B)) (B := 2) (a' := 1) (b' := 0) (c' := -(r3 - 2)) (d' := 1) (by omega) (by omega) (by omega) q2 (by unfold bdM; omega)
    refine ⟨p3, s3, u1, u2, u3, u4, h3, by unfold bdM at q4 ⊢; omega, fun k => ?_⟩
    rw [spec_l02DrawFinite.l0, if_pos hn, e1]
    simp only [Option.bind_some]
    rw [e2]
    simp only [Option.bind_some]
    rw [if_pos hr, e3]
    simp only [Option.bind_some]
    rw [wrap_id (x := r3 - 2) (by omega) (by omega), wrap_id (x := n - 1) (by omega) (by omega), q1, inv_lo (by omega)]
    simp only [Option.bind_some]
    rw [q3]
    rfl
  · obtain ⟨t1, t2, t3, t4, q1, q2⟩ := mul_bdM (A := 2) (B := B) (a := 1) (b := r1 - 2) (c := 0) (d := 1) (by omega) (by omega) (by omega) (by unfold bdM; omega) hb
    obtain ⟨u1, u2, u3, u4, q3, q4⟩ := mul_bdM (A := 2 * (2 * B)) (B := 2) (a' := 1) (b' := -(r1 - 2)) (c' := 0) (d' := 1) (by omega) (by omega) (by omega) q2 (by unfold bdM; omega)
    refine ⟨p2, s2, u1, u2, u3, u4, h2, by unfold bdM at q4 ⊢; omega, fun k => ?_⟩
    rw [spec_l02DrawFinite.l0, if_pos hn, e1]
    simp only [Option.bind_some]
    rw [e2]
    simp only [Option.bind_some]
    rw [if_neg hr]
    rw [wrap_id (x := r1 - 2) (by omega) (by omega), wrap_id (x := n - 1) (by omega) (by omega), q1, inv_up (by omega)]
    simp only [Option.bind_some]
    rw [q3]
    rfl
theorem fin_end (k : Nat) (l : List Int) (p s a b c d : Int) : spec_l02DrawFinite.l0 (k + 1) 0 l p s a b c d = some (a, b, c, d, p, s) := by
  rw [spec_l02DrawFinite.l0, if_neg (by decide)]
theorem fin_all {l : List Int} {p s : Int} (h : St l p s) {n a b c d : Int} (hn : 0 ≤ n ∧ n ≤ 2) (hb : bdM 1 a b c d) (k : Nat) :
    ∃ p' s' a' b' c' d', St l p' s' ∧ bdM 256 a' b' c' d' ∧ spec_l02DrawFinite.l0 (k + 3) n l p s a b c d = some (a', b', c', d', p', s') := by
  have hh : n = 0 ∨ n = 1 ∨ n = 2 := by omega
  rcases hh with rfl | rfl | rfl
  · exact ⟨p, s, a, b, c, d, h, by unfold bdM at hb ⊢; omega, fin_end _ _ _ _ _ _ _ _⟩
  · obtain ⟨p1, s1, a1, b1, c1, d1, h1, hb1, e1⟩ := fin_step (n := 1) h (by decide) (by decide) (by decide) (by decide) hb
    exact ⟨p1, s1, a1, b1, c1, d1, h1, by unfold bdM at hb1 ⊢; omega, (e1 _).trans (fin_end _ _ _ _ _ _ _ _)⟩
  · obtain ⟨p1, s1, a1, b1, c1, d1, h1, hb1, e1⟩ := fin_step (n := 2) h (by decide) (by decide) (by decide) (by decide) hb
    obtain ⟨p2, s2, a2, b2, c2, d2, h2, hb2, e2⟩ := fin_step (n := 2 - 1) h1 (by decide) (by decide) (by decide) (by decide) hb1
    exact ⟨p2, s2, a2, b2, c2, d2, h2, by unfold bdM at hb2 ⊢; omega, (e1 _).trans ((e2 _).trans (fin_end _ _ _ _ _ _ _ _))⟩
theorem rd_SM_mem {L : List S51} {i : Int} (h0 : 0 ≤ i) (h1 : i < (L.length : Int)) : rd_T51 L i ∈ L := by
  unfold rd_T51
  have h : i.toNat < L.length := by omega
  have e : L.getD i.toNat z51 = L[i.toNat] := by simp [List.getD, h]
  rw [e]
  exact List.getElem_mem h
theorem drawFin_eq {l : List Int} {p s : Int} (h : St l p s) (k : Nat) : ∃ p' s' a' b' c' d', St l p' s' ∧ bdM 256 a' b' c' d' ∧ spec_l02DrawFinite.f (k + 3) l p s = some (a', b', c', d', p', s') := by
  unfold spec_l02DrawFinite.f
  obtain ⟨r1, p1, s1, e1, h1, b1, c1⟩ := next_eq h 8
  obtain ⟨r2, p2, s2, e2, h2, b2, c2⟩ := next_eq h1 3
  simp only [Option.bind_some]
  have hm : ∀ m ∈ ([⟨1, 0, 0, 1⟩, ⟨-1, 0, 0, -1⟩, ⟨0, -1, 1, 0⟩, ⟨0, -1, 1, 1⟩, ⟨-1, -1, 1, 0⟩, ⟨1, 0, 0, -1⟩, ⟨0, 1, 1, 0⟩, ⟨1, 1, 0, -1⟩] : List S51), bdM 1 m.f0 m.f1 m.f2 m.f3 := by
    intro m hm
    simp only [List.mem_cons, List.not_mem_nil, or_false] at hm
    rcases hm with rfl | rfl | rfl | rfl | rfl | rfl | rfl | rfl <;> (unfold bdM; decide)
  rw [e1]
  simp only [Option.bind_some]
  rw [if_pos b1, if_pos (by simp; omega), e2]
  simp only [Option.bind_some]
  exact fin_all h2 (by omega) (hm _ (rd_SM_mem b1 (by simp; omega))) k
def goodM (a b c d : Int) : Prop := bdM 999 a b c d ∨ ordV a b c d = 0
def okD (l : List Int) (n C : Int) (K : Nat) : Prop := ∀ p s a b c d k, St l p s → bdM C a b c d → K ≤ k →
  ∃ p' s' a' b' c' d', St l p' s' ∧ goodM a' b' c' d' ∧ spec_l02Draw.l0 k n l p s a b c d = some (a', b', c', d', p', s')
theorem draw2_end (l : List Int) : okD l 0 256 1 := by
  intro p s a b c d k h hb hk
  obtain ⟨k, rfl⟩ : ∃ m, k = m + 1 := ⟨k - 1, by omega⟩
  obtain ⟨r1, p1, s1, e1, h1, b1, c1⟩ := next_eq h 20
  rw [spec_l02Draw.l0, if_neg (by decide), e1]
  simp only [Option.bind_some]
  by_cases h0 : r1 = 0
  · rw [if_pos h0, wrap_id (x := a + 1) (by unfold bdM at hb; omega) (by unfold bdM at hb; omega)]
    exact ⟨_, _, _, _, _, _, h1, .inl (by unfold bdM at hb ⊢; omega), rfl⟩
  · rw [if_neg h0]
    by_cases h2 : r1 = 1
    · rw [if_pos h2]
      obtain ⟨v, p2, s2, e2, h3, m3⟩ := pick_eq h1 [999, 1000, 1001] (by decide)
      rw [e2]
      simp only [List.mem_cons, List.not_mem_nil, or_false] at m3
      refine ⟨_, _, _, _, _, _, h3, .inr ?_, rfl⟩
      unfold ordV
      rw [if_neg (by omega), if_neg (by omega), if_neg (by omega), if_neg (by omega), if_neg (by omega)]
    · rw [if_neg h2]
      exact ⟨_, _, _, _, _, _, h1, .inl (by unfold bdM at hb ⊢; omega), rfl⟩
theorem draw2_step {l : List Int} {n C : Int} {K : Nat} (hn : 0 ≤ n ∧ n ≤ 10) (hC : 0 ≤ C) (hC2 : C ≤ 1000) (ih : okD l n (2 * (C * 2)) K) : okD l (n + 1) C (K + 1) := by
  intro p s a b c d k h hb hk
  obtain ⟨k, rfl⟩ : ∃ m, k = m + 1 := ⟨k - 1, by omega⟩
  obtain ⟨r1, p1, s1, e1, h1, b1, c1⟩ := next_eq h 5
  rw [spec_l02Draw.l0, if_pos (by omega)]
  simp only [Option.bind_some]
  rw [e1]
  simp only [Option.bind_some]
  have hm : ∀ m ∈ ([⟨1, 1, 0, 1⟩, ⟨1, 0, 1, 1⟩, ⟨1, -2, 0, 1⟩, ⟨0, 1, 1, 0⟩, ⟨-1, 0, 0, 1⟩] : List S51), bdM 2 m.f0 m.f1 m.f2 m.f3 := by
    intro m hm
    simp only [List.mem_cons, List.not_mem_nil, or_false] at hm
    rcases hm with rfl | rfl | rfl | rfl | rfl <;> (unfold bdM; decide)
  have hmm := hm _ (rd_SM_mem b1 (by simp; omega))
  obtain ⟨t1, t2, t3, t4, q1, q2⟩ := mul_bdM hC hC2 (by omega) hb hmm
  rw [if_pos b1, if_pos (by simp; omega), q1]
  simp only [Option.bind_some]
  rw [wrap_id (x := n + 1 - 1) (by omega) (by omega), Int.add_sub_cancel]
  exact ih _ _ _ _ _ _ _ h1 q2 (by omega)
theorem draw2_eq {l : List Int} {p s : Int} (h : St l p s) (k : Nat) (hk : 10 ≤ k) : ∃ p' s' a' b' c' d', St l p' s' ∧ goodM a' b' c' d' ∧ spec_l02Draw.f k l p s = some (a', b', c', d', p', s') := by
  unfold spec_l02Draw.f
  obtain ⟨r1, p1, s1, e1, h1, b1, c1⟩ := next_eq h 3
  rw [e1]
  simp only [Option.bind_some]
  split
  · obtain ⟨k, rfl⟩ : ∃ m, k = m + 3 := ⟨k - 3, by omega⟩
    obtain ⟨p2, s2, a, b, c, d, h2, hb, e2⟩ := drawFin_eq h1 k
    rw [e2]
    exact ⟨p2, s2, a, b, c, d, h2, .inl (by unfold bdM at hb ⊢; omega), rfl⟩
  · obtain ⟨r2, p2, s2, e2, h2, b2, c2⟩ := next_eq h1 5
    rw [e2]
    unfold spec_l02Unit.f
    simp only [Option.bind_some]
    have o0 := draw2_end l
    have o1 : okD l 1 64 2 := draw2_step (n := 0) (by decide) (by decide) (by decide) o0
    have o2 : okD l 2 16 3 := draw2_step (n := 1) (by decide) (by decide) (by decide) o1
    have o3 : okD l 3 4 4 := draw2_step (n := 2) (by decide) (by decide) (by decide) o2
    have o4 : okD l 4 1 5 := draw2_step (n := 3) (by decide) (by decide) (by decide) o3
    have hr : r2 = 0 ∨ r2 = 1 ∨ r2 = 2 ∨ r2 = 3 ∨ r2 = 4 := by omega
    rcases hr with rfl | rfl | rfl | rfl | rfl
    · exact o0 _ _ _ _ _ _ _ h2 (by unfold bdM; decide) (by omega)
    · exact o1 _ _ _ _ _ _ _ h2 (by unfold bdM; decide) (by omega)
    · exact o2 _ _ _ _ _ _ _ h2 (by unfold bdM; decide) (by omega)
    · exact o3 _ _ _ _ _ _ _ h2 (by unfold bdM; decide) (by omega)
    · exact o4 _ _ _ _ _ _ _ h2 (by unfold bdM; decide) (by omega)
theorem drawMat_eq {l : List Int} {p s : Int} (h : St l p s) (k : Nat) (hk : 82 ≤ k) (f : Int) : ∃ p' s' a b c d, St l p' s' ∧ spec_l04DrawMat.f k l p s f = some (a, b, c, d, p', s') := by
  unfold spec_l04DrawMat.f
  rw [spec_IsFrame_eq]
  simp only [Option.bind_some]
  by_cases hf : frameB f = true
  · rw [if_pos hf, spec_l04Mats_eq k hk (frameB_iff.mp hf)]
    simp only [Option.bind_some]
    have hpos : 0 < (pmL f).length := by unfold pmL; split <;> decide
    obtain ⟨r, p1, s1, e1, h1, b1, c1⟩ := next_eq h ((pmL f).length : Int)
    rw [e1]
    simp only [Option.bind_some]
    rw [if_pos b1, if_pos (by omega)]
    exact ⟨_, _, _, _, _, _, h1, rfl⟩
  · rw [if_neg hf]
    exact ⟨_, _, _, _, _, _, h, rfl⟩
theorem drawFrame_eq {l : List Int} {p s : Int} (h : St l p s) : ∃ f p' s', spec_l04DrawFrame.f l p s = some (f, p', s') ∧ St l p' s' ∧ (-1 ≤ f ∧ f ≤ 2) := by
  unfold spec_l04DrawFrame.f
  obtain ⟨r, p1, s1, e1, h1, b1, b2⟩ := next_eq h 40
  rw [e1]
  simp only [Option.bind_some]
  split
  · obtain ⟨v, p2, s2, e2, h2, m2⟩ := pick_eq h1 [-1, 2] (by decide)
    rw [e2]
    exact ⟨_, _, _, rfl, h2, by simp at m2; omega⟩
  · obtain ⟨v, p2, s2, e2, h2, c1, c2⟩ := next_eq h1 2
    rw [e2]
    exact ⟨_, _, _, rfl, h2, by omega⟩
theorem drawPM_eq {l : List Int} (hl : (l.length : Int) ≤ 4096) (hb : ∀ x ∈ l, 0 ≤ x ∧ x < 256) (k : Nat) (hk : 100 ≤ k) : ∃ f, spec_DrawPointMats.f k l = some f := by
  unfold spec_DrawPointMats.f
  obtain ⟨p, s, e, h⟩ := from_eq hl hb k (by omega)
  rw [e]
  simp only [Option.bind_some]
  obtain ⟨f, p2, s2, e2, h2, c⟩ := drawFrame_eq h
  rw [e2]
  exact ⟨_, rfl⟩
theorem drawNo_eq {l : List Int} (hl : (l.length : Int) ≤ 4096) (hb : ∀ x ∈ l, 0 ≤ x ∧ x < 256) (k : Nat) (hk : 100 ≤ k) : ∃ f x y, spec_DrawNormOf.f k l = some (f, x, y) := by
  unfold spec_DrawNormOf.f
  obtain ⟨p, s, e, h⟩ := from_eq hl hb k (by omega)
  rw [e]
  simp only [Option.bind_some]
  obtain ⟨f, p2, s2, e2, h2, c⟩ := drawFrame_eq h
  rw [e2]
  simp only [Option.bind_some]
  obtain ⟨x, y, p4, s4, e4, h4, _⟩ := draw_eq h2
  rw [e4]
  exact ⟨_, _, _, rfl⟩
theorem drawIP_eq {l : List Int} (hl : (l.length : Int) ≤ 4096) (hb : ∀ x ∈ l, 0 ≤ x ∧ x < 256) (k : Nat) (hk : 100 ≤ k) : ∃ f a b c d, spec_DrawIsPointMat.f k l = some (f, a, b, c, d) := by
  unfold spec_DrawIsPointMat.f
  obtain ⟨p, s, e, h⟩ := from_eq hl hb k (by omega)
  rw [e]
  simp only [Option.bind_some]
  obtain ⟨f, p2, s2, e2, h2, c⟩ := drawFrame_eq h
  rw [e2]
  simp only [Option.bind_some]
  obtain ⟨r, p1, s1, e1, h1, b1, b2⟩ := next_eq h2 2
  rw [e1]
  simp only [Option.bind_some]
  split
  · obtain ⟨p3, s3, a, b, c, d, h3, e3⟩ := drawMat_eq h1 k (by omega) f
    rw [e3]
    exact ⟨_, _, _, _, _, rfl⟩
  · obtain ⟨p3, s3, a, b, c, d, h3, g3, e3⟩ := draw2_eq h1 k (by omega)
    rw [e3]
    exact ⟨_, _, _, _, _, rfl⟩
theorem drawML_eq {l : List Int} (hl : (l.length : Int) ≤ 4096) (hb : ∀ x ∈ l, 0 ≤ x ∧ x < 256) (k : Nat) (hk : 100 ≤ k) : ∃ f a b c d A B C, spec_DrawMapLattice.f k l = some (f, a, b, c, d, A, B, C) ∧ (-100 ≤ A ∧ A ≤ 100) := by
  unfold spec_DrawMapLattice.f
  obtain ⟨p, s, e, h⟩ := from_eq hl hb k (by omega)
  rw [e]
  simp only [Option.bind_some]
  obtain ⟨f, p2, s2, e2, h2, c⟩ := drawFrame_eq h
  rw [e2]
  simp only [Option.bind_some]
  obtain ⟨r, p1, s1, e1, h1, b1, b2⟩ := next_eq h2 12
  rw [e1]
  simp only [Option.bind_some]
  split
  · obtain ⟨p3, s3, a, b, c, d, h3, g3, e3⟩ := draw2_eq h1 k (by omega)
    rw [e3]
    simp only [Option.bind_some]
    obtain ⟨A, B, C, p4, s4, e4, h4, k4⟩ := draw3_eq h3
    rw [e4]
    exact ⟨_, _, _, _, _, _, _, _, rfl, k4⟩
  · obtain ⟨p3, s3, a, b, c, d, h3, e3⟩ := drawMat_eq h1 k (by omega) f
    rw [e3]
    simp only [Option.bind_some]
    obtain ⟨A, B, C, p4, s4, e4, h4, k4⟩ := draw3_eq h3
    rw [e4]
    exact ⟨_, _, _, _, _, _, _, _, rfl, k4⟩
theorem rd_SM_at (pre : List S51) (v : S51) (t : List S51) (i : Int) (hi : i = pre.length) : rd_T51 (pre ++ v :: t) i = v := by
  subst hi; unfold rd_T51; simp
theorem like9M_loop (l : List S51) (hl : l.length ≤ 1000000) (k : Nat) : ∀ (t pre : List S51) (i : Int), l = pre ++ t → i = pre.length → laws_likeMats9.l0 (k + t.length + 1) l l i = some true := by
  intro t
  induction t with
  | nil => intro pre i e hi; rw [laws_likeMats9.l0, if_neg (by subst hi; subst e; simp)]
  | cons v t ih =>
    intro pre i e hi
    have hlen : l.length = pre.length + (t.length + 1) := by rw [e]; simp
    have hn := ih (pre ++ [v]) (i + 1) (by rw [e]; simp) (by rw [hi]; simp)
    rw [show k + (v :: t).length + 1 = (k + t.length + 1) + 1 by simp; omega, laws_likeMats9.l0, if_pos (by omega), if_pos (by omega), if_pos (by omega), wrap_id (x := i + 1) (by omega) (by omega), if_neg (by simp)]
    exact hn
theorem like9M_self (k : Nat) (l : List S51) (hl : l.length ≤ 1000000) (hk : l.length < k) : laws_likeMats9.f k l l = some true := by
  unfold laws_likeMats9.f
  rw [if_pos rfl]
  obtain ⟨j, rfl⟩ : ∃ j, k = j + l.length + 1 := ⟨k - l.length - 1, by omega⟩
  exact like9M_loop l hl j l [] 0 rfl rfl
theorem map_is2 {f p q r s a b c : Int} (hl : latB a b c = true) (hp : pmB f p q r s = true) :
    ∃ A B C, Herm (sp2 (p * a + q * 0) (r * a + s * 0) (p * b + q * c) (r * b + s * c)) A B C ∧ A * C = a * c ∧ latB A B C = true ∧ (∀ k, 1003100000 ≤ k → spec_MapLattice.f (k + 2) f p q r s a b c = some (A, B, C, 0)) ∧ (∀ k, 1003100000 ≤ k → impl_MapLattice.f k f p q r s a b c = some (A, B, C, 0)) := by
  obtain ⟨hf, hm⟩ := pmB_iff.mp hp
  obtain ⟨e1, e2, e3, e4, hd⟩ := pm_facts hf hm
  have hfr : frLat f a b c = true := by unfold frLat; rw [hl, frameB_iff.mpr hf]; rfl
  obtain ⟨⟨a1, a2⟩, ⟨c1, c2⟩, ⟨b1, b2⟩, hac⟩ := latB_iff.mp hl
  have hb : -64 ≤ b ∧ b ≤ 64 := by omega
  have w1 := prod_bd (a := p) (b := a) (A := 1) (B := 64) (by omega) (by omega) (by omega) (by omega) (by omega)
  have w2 := prod_bd (a := r) (b := a) (A := 1) (B := 64) (by omega) (by omega) (by omega) (by omega) (by omega)
  have w3 := prod_bd (a := p) (b := b) (A := 1) (B := 64) (by omega) (by omega) (by omega) (by omega) (by omega)
  have w4 := prod_bd (a := q) (b := c) (A := 1) (B := 64) (by omega) (by omega) (by omega) (by omega) (by omega)
  have w5 := prod_bd (a := r) (b := b) (A := 1) (B := 64) (by omega) (by omega) (by omega) (by omega) (by omega)
  have w6 := prod_bd (a := s) (b := c) (A := 1) (B := 64) (by omega) (by omega) (by omega) (by omega) (by omega)
  have hac1 : a ≤ a * c := le_mul_r (by omega) (by omega)
  have hdet : (p * a + q * 0) * (r * b + s * c) - (r * a + s * 0) * (p * b + q * c) ≠ 0 := by
    rw [map_det]; rcases hd with h | h <;> rw [h] <;> omega
  have hdab : ((p * a + q * 0) * (r * b + s * c) - (r * a + s * 0) * (p * b + q * c)).natAbs ≤ 64 := by
    rw [map_det]; rcases hd with h | h <;> rw [h] <;> omega
  have hdac : (((p * a + q * 0) * (r * b + s * c) - (r * a + s * 0) * (p * b + q * c)).natAbs : Int) = a * c := by
    rw [map_det]; rcases hd with h | h <;> rw [h] <;> omega
  obtain ⟨A, B, C, hh, hk⟩ := spec_hermite2 ⟨p * a + q * 0, r * a + s * 0⟩ ⟨p * b + q * c, r * b + s * c⟩ (by simp only; omega) (by simp only; omega) (by simp only; omega) (by simp only; omega) hdet
  obtain ⟨A', B', C', hh', hk'⟩ := impl_latticeOf2 ⟨p * a + q * 0, r * a + s * 0⟩ ⟨p * b + q * c, r * b + s * c⟩ (by simp only; omega) (by simp only; omega) (by simp only; omega) (by simp only; omega) hdet
  obtain ⟨rfl, rfl, rfl⟩ := hh.unique hh'
  have hi := hh.index
  simp only at hi
  have hA := hh.1
  have hC := hh.2.1
  have hB1 := hh.2.2.1
  have hB2 := hh.2.2.2.1
  have hAC : A ≤ A * C := le_mul_r (by omega) (by omega)
  have hCA : C ≤ A * C := le_mul_l (by omega) (by omega)
  have hlat : latB A B C = true := latB_iff.mpr ⟨by omega, by omega, by omega, by omega⟩
  refine ⟨A, B, C, hh, by omega, hlat, fun k hk1 => ?_, fun k hk1 => ?_⟩
  · unfold spec_MapLattice.f
    rw [spec_l04Code_eq f a b c (by omega), spec_IsPointMat_eq]
    simp only [hfr, hp, Option.bind_some, if_true, Bool.not_true]
    rw [spec_MapLattice.j0, if_neg (by decide), spec_MapLattice.j1, if_pos rfl]
    unfold spec_l04Image.f
    have hbas : spec_l03Basis.f a b c = some [⟨a, 0⟩, ⟨b, c⟩] := rfl
    rw [hbas]
    simp only [Option.bind_some]
    rw [if_pos (by simp), show rd_T47 [(⟨a, 0⟩ : S47), ⟨b, c⟩] 0 = ⟨a, 0⟩ from rfl, show rd_T47 [(⟨a, 0⟩ : S47), ⟨b, c⟩] 1 = ⟨b, c⟩ from rfl]
    dsimp only
    rw [spec_l02Apply_eq 64 (by omega) (by omega) (by omega) (by omega) (by omega) (by omega) (by omega) (by omega)]
    simp only [Option.bind_some]
    rw [if_pos (by simp), spec_l02Apply_eq 64 (by omega) (by omega) (by omega) (by omega) (by omega) (by omega) (by omega) (by omega)]
    simp only [Option.bind_some]
    rw [hk k (by omega)]
    simp only [Option.bind_some]
    rw [spec_l03Result_eq A B C (by omega) (by omega), if_pos hlat]
    rfl
  · unfold impl_MapLattice.f
    rw [impl_frameCode_eq f a b c (by omega), impl_IsPointMat_eq _ (by omega)]
    simp only [hfr, hp, Option.bind_some, if_true, impl_Lattice_basis.f]
    rw [impl_Mat_apply_eq 64 (by omega) (by omega) (by omega) (by omega) (by omega) (by omega) (by omega) (by omega)]
    simp only [Option.bind_some]
    rw [impl_Mat_apply_eq 64 (by omega) (by omega) (by omega) (by omega) (by omega) (by omega) (by omega) (by omega)]
    simp only [Option.bind_some]
    rw [hk' k (by omega)]
    rfl
theorem map_code {f p q r s a b c : Int} (w : -9223372036854775808 ≤ a ∧ a < 9223372036854775808) :
    ∃ A B C z, (z = 0 → A * C = a * c ∧ a * c ≤ 64 ∧ 0 ≤ a * c) ∧ (∀ k, 1003100000 ≤ k → spec_MapLattice.f (k + 2) f p q r s a b c = some (A, B, C, z)) ∧ (∀ k, 1003100000 ≤ k → impl_MapLattice.f k f p q r s a b c = some (A, B, C, z)) := by
  by_cases h : latB a b c = true ∧ pmB f p q r s = true
  · obtain ⟨A, B, C, hh, hi, hl, h1, h2⟩ := map_is2 h.1 h.2
    obtain ⟨⟨a1, a2⟩, ⟨c1, c2⟩, ⟨b1, b2⟩, hac⟩ := latB_iff.mp h.1
    have hac1 : a ≤ a * c := le_mul_r (by omega) (by omega)
    exact ⟨A, B, C, 0, fun _ => ⟨hi, hac, by omega⟩, h1, h2⟩
  · by_cases hfr : frLat f a b c = true
    · have hp : pmB f p q r s = false := by
        cases hq : pmB f p q r s with
        | false => rfl
        | true =>
          have : latB a b c = true := by
            unfold frLat at hfr; simp only [Bool.and_eq_true] at hfr; exact hfr.2
          exact absurd ⟨this, hq⟩ h
      refine ⟨0, 0, 0, 2, fun q => absurd q (by decide), fun k hk1 => ?_, fun k hk1 => ?_⟩
      · unfold spec_MapLattice.f
        rw [spec_l04Code_eq f a b c w, spec_IsPointMat_eq]
        simp only [hfr, hp, Option.bind_some, if_true, Bool.not_false]
        rw [spec_MapLattice.j0, if_pos rfl, spec_MapLattice.j1, if_neg (by decide)]
      · unfold impl_MapLattice.f
        rw [impl_frameCode_eq f a b c w, impl_IsPointMat_eq _ (by omega)]
        simp [hfr, hp]
    · refine ⟨0, 0, 0, 1, fun q => absurd q (by decide), fun k hk1 => ?_, fun k hk1 => ?_⟩
      · unfold spec_MapLattice.f
        rw [spec_l04Code_eq f a b c w, if_neg hfr]
        simp only [Option.bind_some]
        rw [if_neg (by decide), spec_MapLattice.j0, if_neg (by decide), spec_MapLattice.j1, if_neg (by decide)]
      · unfold impl_MapLattice.f
        rw [impl_frameCode_eq f a b c w, if_neg hfr]
        simp
theorem pm_norm {f a b c d : Int} (hf : f = 0 ∨ f = 1) (h : (⟨a, b, c, d⟩ : S51) ∈ pmL f) (x y : Int) : Nf f (a * x + b * y) (c * x + d * y) = Nf f x y := by
  rcases hf with rfl | rfl
  · simp only [pmL, pm0, if_true, List.mem_cons, S51.mk.injEq, List.not_mem_nil, or_false] at h
    rcases h with ⟨rfl, rfl, rfl, rfl⟩ | ⟨rfl, rfl, rfl, rfl⟩ | ⟨rfl, rfl, rfl, rfl⟩ | ⟨rfl, rfl, rfl, rfl⟩ | ⟨rfl, rfl, rfl, rfl⟩ | ⟨rfl, rfl, rfl, rfl⟩ | ⟨rfl, rfl, rfl, rfl⟩ | ⟨rfl, rfl, rfl, rfl⟩ <;> (unfold Nf; grind)
  · have e : pmL 1 = pm1 := by unfold pmL; rw [if_neg (by decide)]
    rw [e] at h
    simp only [pm1, List.mem_cons, S51.mk.injEq, List.not_mem_nil, or_false] at h
    rcases h with ⟨rfl, rfl, rfl, rfl⟩ | ⟨rfl, rfl, rfl, rfl⟩ | ⟨rfl, rfl, rfl, rfl⟩ | ⟨rfl, rfl, rfl, rfl⟩ | ⟨rfl, rfl, rfl, rfl⟩ | ⟨rfl, rfl, rfl, rfl⟩ | ⟨rfl, rfl, rfl, rfl⟩ | ⟨rfl, rfl, rfl, rfl⟩ | ⟨rfl, rfl, rfl, rfl⟩ | ⟨rfl, rfl, rfl, rfl⟩ | ⟨rfl, rfl, rfl, rfl⟩ | ⟨rfl, rfl, rfl, rfl⟩ <;> (unfold Nf; grind)
theorem pml_app {a b c d x y : Int} (h : (appR a b c d x y).2.2 = 0) : appR a b c d x y = (a * x + b * y, c * x + d * y, 0) ∧ vecB (a * x + b * y) (c * x + d * y) = true := by
  unfold appR lim at h ⊢
  split at h
  · split at h
    · rename_i h1 h2
      rw [if_pos h1, if_pos h2]
      exact ⟨rfl, h2⟩
    · exact absurd h (by decide)
  · exact absurd h (by decide)
theorem pml_loop (f x y : Int) (hf : frameB f = true) (L : List S51) (hL : L.length ≤ 1000000) (hm : ∀ m ∈ L, m ∈ pmL f) (k : Nat) : ∀ (t pre : List S51) (i : Int), L = pre ++ t → i = pre.length → laws_FnPointMats.l0 (k + 1 + t.length + 1) f (Nf f x y) L i x y = some true := by
  intro t
  induction t with
  | nil => intro pre i e hi; rw [laws_FnPointMats.l0, if_neg (by subst hi; subst e; simp)]
  | cons v t ih =>
    intro pre i e hi
    have hlen : L.length = pre.length + (t.length + 1) := by rw [e]; simp
    have hn := ih (pre ++ [v]) (i + 1) (by rw [e]; simp) (by rw [hi]; simp)
    have hv : rd_T51 L i = v := by rw [e]; exact rd_SM_at pre v t i hi
    have hvm : v ∈ pmL f := hm v (by rw [e]; simp)
    rw [show k + 1 + (v :: t).length + 1 = (k + 1 + t.length + 1) + 1 by simp; omega, laws_FnPointMats.l0, if_pos (by omega), if_pos (by omega), hv, wrap_id (x := i + 1) (by omega) (by omega)]
    rw [show k + 1 + t.length + 1 = (k + 1 + t.length) + 1 from rfl, impl_ApplyMat_eq]
    simp only [Option.bind_some]
    split
    · rename_i h0
      obtain ⟨e1, e2⟩ := pml_app h0
      rw [e1]
      simp only
      rw [impl_NormOf_eq, normR, if_pos ⟨hf, e2⟩]
      simp only [Option.bind_some]
      rw [if_pos trivial, pm_norm (frameB_iff.mp hf) hvm, if_pos rfl]
      exact hn
    · exact hn
theorem pml_j1 (k : Nat) (hk : 100 ≤ k) (f x y : Int) : laws_FnPointMats.j1 (k + 1) f (normR f x y).1 (normR f x y).2 false x y = some true := by
  rw [laws_FnPointMats.j1, if_neg (by decide)]
  unfold normR
  split
  · rename_i h
    simp only
    rw [if_pos trivial, impl_PointMats_eq k (by omega), pmS, if_pos h.1]
    simp only [Option.bind_some]
    rw [if_pos trivial]
    have hlen := pmL_len f
    obtain ⟨j, rfl⟩ : ∃ j, k = j + 1 + (pmL f).length + 1 := ⟨k - (pmL f).length - 2, by omega⟩
    exact pml_loop f x y h.1 (pmL f) (by omega) (fun m h => h) j (pmL f) [] 0 rfl rfl
  · simp only
    rw [if_neg (by decide)]
theorem pml_j0 (k : Nat) (hk : 100 ≤ k) (f x y a b c A B C z : Int) (hz : z = 0 → A * C = a * c ∧ a * c ≤ 64 ∧ 0 ≤ a * c) : laws_FnPointMats.j0 (k + 2) f (normR f x y).1 (normR f x y).2 z false x y a b c A B C = some true := by
  rw [laws_FnPointMats.j0, if_neg (by decide)]
  split
  · rename_i h
    obtain ⟨h1, h2, h3⟩ := hz h
    rw [h1, bne_self_eq_false]
    exact pml_j1 k hk f x y
  · exact pml_j1 k hk f x y
theorem main (l0 : List Int) (hm0 : l0.length ≤ maxLen) (y0 : l0.length * 1 ≤ 140737488351232) (w0 : ∀ x ∈ l0, (Go.Lit.int .u8 x).wf = true) : ∃ k, laws_FnPointMats.f k l0 = some true := by
  have hb : ∀ x ∈ l0, 0 ≤ x ∧ x < 256 := fun x hx => u8_bd (w0 x hx)
  by_cases hl : (l0.length : Int) ≤ 4096
  · obtain ⟨f, e1⟩ := drawPM_eq hl hb (1003100000 + 2) (by decide)
    obtain ⟨g, x, y, e2⟩ := drawNo_eq hl hb (1003100000 + 2) (by decide)
    obtain ⟨h, p, q, r, s, e3⟩ := drawIP_eq hl hb (1003100000 + 2) (by decide)
    obtain ⟨m, p', q', r', s', a, b, c, e4, ha⟩ := drawML_eq hl hb (1003100000 + 2) (by decide)
    obtain ⟨A, B, C, z, hz, hS, hI⟩ := map_code (f := m) (p := p') (q := q') (r := r') (s := s') (a := a) (b := b) (c := c) (by omega)
    have fin := pml_j0 1003100000 (by decide) g x y a b c A B C z hz
    have hlen : (pmS f).1.length ≤ 5000 := pmS_len f
    refine ⟨1003100000 + 2, ?_⟩
    unfold laws_FnPointMats.f
    rw [big_eq, e1, decide_eq_false (by omega)]
    simp only [Option.bind_some, Bool.false_eq_true, if_false]
    rw [impl_PointMats_eq _ (by decide), spec_PointMats_eq _ (by decide)]
    simp only [Option.bind_some]
    rw [e2]
    simp only [Option.bind_some]
    rw [impl_NormOf_eq, spec_NormOf_eq]
    simp only [Option.bind_some]
    rw [e3]
    simp only [Option.bind_some]
    rw [e4]
    simp only [Option.bind_some]
    rw [hS 1003100000 (by decide), hI (1003100000 + 2) (by decide)]
    simp only [Option.bind_some]
    rw [if_pos trivial, like9M_self _ _ (by omega) (by omega)]
    simp only [Option.bind_some]
    rw [if_pos trivial, if_pos trivial, if_pos trivial, impl_IsPointMat_eq _ (by decide), spec_IsPointMat_eq]
    simp only [Option.bind_some, bne_self_eq_false, beq_self_eq_true, Bool.not_true, Bool.or_self, Bool.false_eq_true, if_false, if_true]
    rw [impl_IsFrame_eq, spec_IsFrame_eq]
    simp only [Option.bind_some, bne_self_eq_false]
    exact fin
  · refine ⟨0, ?_⟩
    unfold laws_FnPointMats.f
    rw [big_eq]
    simp only [Option.bind_some]
    rw [if_pos (by rw [decide_eq_true_eq]; omega)]
end Go.Proofs.Ytcjchihnopmplaa.PureFnPointMats

/-
The law FnLattices, over numbers and lists alone: the printed functions of the program and of the reference answer alike. No condition but that each number is an int64.
-/
import Derived.Test.YtjjbjaagfjljnaaF40
import GoSem.Claim
namespace Go.Proofs.Ytjjbjaagfjljnaa.PureFnLattices
open Go.RowKit Go.Proofs.Ytjjbjaagfjljnaa.F Go.Proofs.YtjjbjaagfjljnaaW.PrintWords Go.Proofs.YtjjbjaagfjljnaaW.PrintLast Go.Proofs.YtjjbjaagfjljnaaW.PrintMore
set_option linter.unusedVariables false
set_option linter.unusedSimpArgs false
theorem gcd_tmod (a b : Int) : Int.gcd b (a.tmod b) = Int.gcd a b := by
  unfold Int.gcd
  rw [Int.natAbs_tmod, Nat.gcd_comm a.natAbs, Nat.gcd_rec b.natAbs a.natAbs, Nat.gcd_comm]
theorem bezout_nat : ∀ (n : Nat) (a b : Int), b.natAbs ≤ n → ∃ s t : Int, (Int.gcd a b : Int) = s * a + t * b := by
  intro n
  induction n with
  | zero =>
    intro a b h
    have hb : b = 0 := by omega
    subst hb
    rcases Int.natAbs_eq a with h | h
    · exact ⟨1, 0, by rw [Int.gcd_zero_right]; omega⟩
    · exact ⟨-1, 0, by rw [Int.gcd_zero_right]; omega⟩
  | succ n ih =>
    intro a b h
    by_cases hb : b = 0
    · exact ih a b (by omega)
    · have h1 : (a.tmod b).natAbs ≤ n := by
        rw [Int.natAbs_tmod]
        have := Nat.mod_lt a.natAbs (show 0 < b.natAbs by omega)
        omega
      obtain ⟨s, t, e⟩ := ih b (a.tmod b) h1
      refine ⟨t, s - t * (a.tdiv b), ?_⟩
      rw [← gcd_tmod a b, e]
      have := Int.mul_tdiv_add_tmod a b
      grind
theorem bezout (a b : Int) : ∃ s t : Int, (Int.gcd a b : Int) = s * a + t * b := bezout_nat _ a b (Nat.le_refl _)
/-- (x, y) is a sum of multiples of (a, 0) and (b, c). -/
def L (a b c x y : Int) : Prop := ∃ m n : Int, x = m * a + n * b ∧ y = n * c
theorem L_iff {a b c x y : Int} (hc : c ≠ 0) : L a b c x y ↔ (y % c = 0 ∧ (x - (y / c) * b) % a = 0) := by
  constructor
  · rintro ⟨m, n, rfl, rfl⟩
    refine ⟨Int.mul_emod_left n c, ?_⟩
    rw [Int.mul_ediv_cancel n hc]
    have : m * a + n * b - n * b = m * a := by omega
    rw [this]; exact Int.mul_emod_left m a
  · rintro ⟨h1, h2⟩
    obtain ⟨n, rfl⟩ := Int.dvd_of_emod_eq_zero h1
    rw [Int.mul_ediv_cancel_left n hc] at h2
    obtain ⟨m, hm⟩ := Int.dvd_of_emod_eq_zero h2
    exact ⟨m, n, by grind, by grind⟩
/-- Equal lattices in the given form are equal. -/
theorem L_unique {a b c a' b' c' : Int} (ha : 0 < a) (hc : 0 < c) (hb0 : 0 ≤ b) (hb : b < a) (ha' : 0 < a') (hc' : 0 < c') (hb0' : 0 ≤ b') (hb' : b' < a') (h : ∀ x y, L a b c x y ↔ L a' b' c' x y) : a = a' ∧ b = b' ∧ c = c' := by
  obtain ⟨m1, n1, e1, e2⟩ := (h a 0).mp ⟨1, 0, by omega, by omega⟩
  obtain ⟨m2, n2, e3, e4⟩ := (h b c).mp ⟨0, 1, by omega, by omega⟩
  obtain ⟨m3, n3, e5, e6⟩ := (h a' 0).mpr ⟨1, 0, by omega, by omega⟩
  obtain ⟨m4, n4, e7, e8⟩ := (h b' c').mpr ⟨0, 1, by omega, by omega⟩
  have z1 : n1 = 0 := by
    rcases Int.mul_eq_zero.mp e2.symm with h | h <;> omega
  have z3 : n3 = 0 := by
    rcases Int.mul_eq_zero.mp e6.symm with h | h <;> omega
  subst z1; subst z3
  have da : a' ∣ a := ⟨m1, by grind⟩
  have da' : a ∣ a' := ⟨m3, by grind⟩
  have dc : c' ∣ c := ⟨n2, by grind⟩
  have dc' : c ∣ c' := ⟨n4, by grind⟩
  have ea := Int.dvd_antisymm (by omega) (by omega) da' da
  have ec := Int.dvd_antisymm (by omega) (by omega) dc' dc
  subst ea; subst ec
  have hn : n2 = 1 := by
    have h1 : n2 * c = 1 * c := by omega
    exact Int.eq_of_mul_eq_mul_right (by omega) h1
  subst hn
  refine ⟨rfl, ?_, rfl⟩
  have hm : m2 = 0 := by
    rcases Int.lt_trichotomy m2 0 with h | h | h
    · have : m2 * a ≤ (-1) * a := Int.mul_le_mul_of_nonneg_right (by omega) (by omega)
      omega
    · exact h
    · have : 1 * a ≤ m2 * a := Int.mul_le_mul_of_nonneg_right (by omega) (by omega)
      omega
  subst hm
  omega
/-- The index: what spans the same lattice has the same determinant, up to its sign. -/
theorem L_index {a b c ux uy vx vy : Int} (ha : 0 < a) (hc : 0 < c) (h : ∀ x y, L a b c x y ↔ ∃ i j : Int, x = i * ux + j * vx ∧ y = i * uy + j * vy) :
    a * c = (ux * vy - uy * vx).natAbs := by
  obtain ⟨m1, n1, e1, e2⟩ := (h ux uy).mpr ⟨1, 0, by omega, by omega⟩
  obtain ⟨m2, n2, e3, e4⟩ := (h vx vy).mpr ⟨0, 1, by omega, by omega⟩
  obtain ⟨i1, j1, e5, e6⟩ := (h a 0).mp ⟨1, 0, by omega, by omega⟩
  obtain ⟨i2, j2, e7, e8⟩ := (h b c).mp ⟨0, 1, by omega, by omega⟩
  have d1 : (a * c) ∣ (ux * vy - uy * vx) := ⟨m1 * n2 - n1 * m2, by subst e1 e2 e3 e4; grind⟩
  have d2 : (ux * vy - uy * vx) ∣ (a * c) := ⟨i1 * j2 - j1 * i2, by grind⟩
  have hp : 0 < a * c := Int.mul_pos ha hc
  have d1' : (a * c) ∣ ((ux * vy - uy * vx).natAbs : Int) := Int.dvd_natAbs.mpr d1
  have d2' : ((ux * vy - uy * vx).natAbs : Int) ∣ (a * c) := Int.natAbs_dvd.mpr d2
  exact Int.dvd_antisymm (by omega) (by omega) d1' d2'
theorem L_rank {a b c ux uy vx vy : Int} (hu : L a b c ux uy) (hv : L a b c vx vy) (hd : ux * vy - uy * vx ≠ 0) : a ≠ 0 ∧ c ≠ 0 := by
  obtain ⟨m1, n1, e1, e2⟩ := hu
  obtain ⟨m2, n2, e3, e4⟩ := hv
  subst e1 e2 e3 e4
  constructor
  · rintro rfl; apply hd; grind
  · rintro rfl; apply hd; grind
/-- All sums of multiples of two vectors. -/
def S2 (px py vx vy x y : Int) : Prop := ∃ i j : Int, x = i * px + j * vx ∧ y = i * py + j * vy
theorem S2_step (px py vx vy k x y : Int) : S2 vx vy (px - k * vx) (py - k * vy) x y ↔ S2 px py vx vy x y := by
  constructor
  · rintro ⟨i, j, rfl, rfl⟩; exact ⟨j, i - j * k, by grind, by grind⟩
  · rintro ⟨i, j, rfl, rfl⟩; exact ⟨j + i * k, i, by grind, by grind⟩
/-- One vector more: what the divisor step does. -/
theorem L_more {low px py ux uy px' py' vx' low' : Int} (hs : ∀ x y, S2 px' py' vx' 0 x y ↔ S2 px py ux uy x y) (hg : low' = Int.gcd low vx') (x y : Int) :
    L low' px' py' x y ↔ ∃ j, L low px py (x - j * ux) (y - j * uy) := by
  constructor
  · rintro ⟨m, n, e1, e2⟩
    obtain ⟨s, t, e⟩ := bezout low vx'
    obtain ⟨i, j, e3, e4⟩ := (hs (x - m * s * low) y).mp ⟨n, m * t, by subst e1; rw [hg, e]; grind, by grind⟩
    exact ⟨j, m * s, i, by grind, by grind⟩
  · rintro ⟨j, m, n, e1, e2⟩
    obtain ⟨i', j', e3, e4⟩ := (hs (x - m * low) y).mpr ⟨n, j, by grind, by grind⟩
    have d1 : low' ∣ low := by rw [hg]; exact Int.gcd_dvd_left low vx'
    have d2 : low' ∣ vx' := by rw [hg]; exact Int.gcd_dvd_right low vx'
    obtain ⟨p, hp⟩ := d1
    obtain ⟨q, hq⟩ := d2
    exact ⟨m * p + j' * q, i', by grind, by grind⟩
theorem L_neg (a b c x y : Int) : L a (-b) (-c) x y ↔ L a b c x y := by
  constructor
  · rintro ⟨m, n, e1, e2⟩; exact ⟨m, -n, by grind, by grind⟩
  · rintro ⟨m, n, e1, e2⟩; exact ⟨m, -n, by grind, by grind⟩
theorem L_mod (a b c x y : Int) : L a (b % a) c x y ↔ L a b c x y := by
  constructor
  · rintro ⟨m, n, e1, e2⟩; rw [Int.emod_def] at e1; exact ⟨m - n * (b / a), n, by grind, by grind⟩
  · rintro ⟨m, n, e1, e2⟩; refine ⟨m + n * (b / a), n, ?_, e2⟩; rw [Int.emod_def]; grind
theorem L_zero (x y : Int) : L 0 0 0 x y ↔ x = 0 ∧ y = 0 := by
  constructor
  · rintro ⟨m, n, e1, e2⟩; exact ⟨by grind, by grind⟩
  · rintro ⟨rfl, rfl⟩; exact ⟨0, 0, by grind, by grind⟩
theorem tmod_cases (a n : Int) (hn : 0 < n) : (0 ≤ a ∧ a.tmod n = a % n) ∨ (a < 0 ∧ a.tmod n = -((-a) % n)) := by
  rcases Int.lt_or_le a 0 with h | h
  · refine Or.inr ⟨h, ?_⟩
    have : a.tmod n = -((-a).tmod n) := by rw [Int.neg_tmod, Int.neg_neg]
    rw [this, Int.tmod_eq_emod_of_nonneg (by omega)]
  · exact Or.inl ⟨h, Int.tmod_eq_emod_of_nonneg h⟩
theorem tmod_bounds (a n : Int) (hn : 0 < n) : -n < a.tmod n ∧ a.tmod n < n := by
  have h1 := Int.emod_nonneg a (show n ≠ 0 by omega)
  have h2 := Int.emod_lt_of_pos a hn
  have h3 := Int.emod_nonneg (-a) (show n ≠ 0 by omega)
  have h4 := Int.emod_lt_of_pos (-a) hn
  rcases tmod_cases a n hn with ⟨_, e⟩ | ⟨_, e⟩ <;> rw [e] <;> omega
theorem neg_emod_add (a n : Int) (hn : 0 < n) : a % n = (n - (-a) % n) % n := by
  have e := Int.mul_ediv_add_emod (-a) n
  have : n - (-a) % n = a + n * ((-a) / n + 1) := by rw [Int.mul_add]; omega
  rw [this, Int.add_mul_emod_self_left]
theorem mod_add (a n : Int) (hn : 0 < n) : (a.tmod n + n).tmod n = a % n := by
  have h1 := Int.emod_nonneg a (show n ≠ 0 by omega)
  have h2 := Int.emod_lt_of_pos a hn
  have h3 := Int.emod_nonneg (-a) (show n ≠ 0 by omega)
  have h4 := Int.emod_lt_of_pos (-a) hn
  rcases tmod_cases a n hn with ⟨_, e⟩ | ⟨_, e⟩ <;> rw [e, Int.tmod_eq_emod_of_nonneg (by omega)]
  · rw [Int.add_emod_right, Int.emod_emod]
  · rw [neg_emod_add a n hn]; congr 1; omega
theorem mod_if (a n : Int) (hn : 0 < n) : (if a.tmod n < 0 then a.tmod n + n else a.tmod n) = a % n := by
  have h1 := Int.emod_nonneg a (show n ≠ 0 by omega)
  have h3 := Int.emod_nonneg (-a) (show n ≠ 0 by omega)
  have h4 := Int.emod_lt_of_pos (-a) hn
  rcases tmod_cases a n hn with ⟨_, e⟩ | ⟨_, e⟩ <;> rw [e]
  · rw [if_neg (by omega)]
  · split
    · rw [neg_emod_add a n hn, Int.emod_eq_of_lt (a := n - (-a) % n) (b := n) (by omega) (by omega)]; omega
    · have : (-a) % n = 0 := by omega
      rw [neg_emod_add a n hn, this]; simp
theorem tdiv_row (y c : Int) (hc : 0 < c) : (y - y % c).tdiv c = y / c := by
  have e := Int.mul_ediv_add_emod y c
  have : y - y % c = c * (y / c) := by omega
  rw [this, Int.mul_tdiv_cancel_left _ (by omega)]
theorem euclid {px py vx vy : Int} {M : Nat} (hv : vy ≠ 0) (hQ : px.natAbs * vy.natAbs + vx.natAbs * py.natAbs ≤ M) :
    (py.tdiv vy).natAbs ≤ py.natAbs ∧ (py.tdiv vy * vx).natAbs ≤ M ∧ (px - py.tdiv vy * vx).natAbs ≤ M ∧ (py.tdiv vy * vy).natAbs ≤ py.natAbs ∧
      (py - py.tdiv vy * vy).natAbs < vy.natAbs ∧ vx.natAbs * (py - py.tdiv vy * vy).natAbs + (px - py.tdiv vy * vx).natAbs * vy.natAbs ≤ M := by
  have hV : 0 < vy.natAbs := by omega
  have eK : (py.tdiv vy).natAbs = py.natAbs / vy.natAbs := Int.natAbs_tdiv py vy
  have e1 : py - py.tdiv vy * vy = py.tmod vy := by have := Int.mul_tdiv_add_tmod py vy; rw [Int.mul_comm] at this; omega
  have eR : (py.tmod vy).natAbs = py.natAbs % vy.natAbs := Int.natAbs_tmod py vy
  have e2 := Nat.div_add_mod py.natAbs vy.natAbs
  have h3 : (px - py.tdiv vy * vx).natAbs ≤ px.natAbs + (py.tdiv vy).natAbs * vx.natAbs := by
    have := Int.natAbs_sub_le px (py.tdiv vy * vx)
    rw [Int.natAbs_mul] at this; exact this
  have hK := Nat.div_le_self py.natAbs vy.natAbs
  have hR := Nat.mod_lt py.natAbs hV
  rw [e1, eR, Int.natAbs_mul, Int.natAbs_mul, eK]
  rw [eK] at h3
  generalize (px - py.tdiv vy * vx).natAbs = Z at *
  generalize py.natAbs / vy.natAbs = K at *
  generalize py.natAbs % vy.natAbs = R at *
  generalize py.natAbs = P at *
  generalize vy.natAbs = V at *
  generalize vx.natAbs = Y at *
  generalize px.natAbs = X at *
  have q : Y * R + (X + K * Y) * V = X * V + Y * P := by rw [← e2]; grind
  have q2 : Z * V ≤ (X + K * Y) * V := Nat.mul_le_mul_right V h3
  have q3 : X + K * Y ≤ (X + K * Y) * V := Nat.le_mul_of_pos_right _ hV
  have q4 : K * V ≤ P := by rw [Nat.mul_comm] ; omega
  have q5 : 0 ≤ Y * R := Nat.zero_le _
  have q6 : 0 ≤ X := Nat.zero_le _
  refine ⟨hK, ?_, ?_, q4, hR, ?_⟩
  · generalize K * Y = KY at *; omega
  · omega
  · omega
def vecB (x y : Int) : Bool := decide (-1000 ≤ x ∧ x ≤ 1000 ∧ -1000 ≤ y ∧ y ≤ 1000)
def smallB (a b c d : Int) : Bool := decide ((-1000 ≤ a ∧ a ≤ 1000 ∧ -1000 ≤ b ∧ b ≤ 1000) ∧ -1000 ≤ c ∧ c ≤ 1000 ∧ -1000 ≤ d ∧ d ≤ 1000)
def latB (a b c : Int) : Bool := decide ((1 ≤ a ∧ a ≤ 64) ∧ (1 ≤ c ∧ c ≤ 64) ∧ (0 ≤ b ∧ b ≤ a - 1) ∧ a * c ≤ 64)
def lim (x y : Int) : Int × Int × Int := if vecB x y = true then (x, y, 0) else (0, 0, 3)
theorem wrap_id {x : Int} (h1 : -9223372036854775808 ≤ x) (h2 : x < 9223372036854775808) : wrap64 x = x := by unfold wrap64; omega
theorem prod_bd {a b A B : Int} (ha : -A ≤ a) (ha' : a ≤ A) (hb : -B ≤ b) (hb' : b ≤ B) (hA : 0 ≤ A) : -(A * B) ≤ a * b ∧ a * b ≤ A * B := by
  have h1 : (a * b).natAbs ≤ A.natAbs * B.natAbs := by rw [Int.natAbs_mul]; exact Nat.mul_le_mul (by omega) (by omega)
  have h2 : (A * B).natAbs = A.natAbs * B.natAbs := Int.natAbs_mul A B
  have h3 : 0 ≤ A * B := Int.mul_nonneg hA (by omega)
  omega
theorem vecB_iff {x y : Int} : vecB x y = true ↔ (-1000 ≤ x ∧ x ≤ 1000) ∧ (-1000 ≤ y ∧ y ≤ 1000) := by unfold vecB; rw [decide_eq_true_iff]; omega
theorem smallB_iff {a b c d : Int} : smallB a b c d = true ↔ ((-1000 ≤ a ∧ a ≤ 1000) ∧ (-1000 ≤ b ∧ b ≤ 1000)) ∧ (-1000 ≤ c ∧ c ≤ 1000) ∧ (-1000 ≤ d ∧ d ≤ 1000) := by unfold smallB; rw [decide_eq_true_iff]; omega
theorem latB_iff {a b c : Int} : latB a b c = true ↔ (1 ≤ a ∧ a ≤ 64) ∧ (1 ≤ c ∧ c ≤ 64) ∧ (0 ≤ b ∧ b ≤ a - 1) ∧ a * c ≤ 64 := by unfold latB; rw [decide_eq_true_iff]
/-- Products of small numbers need no wrapping. -/
theorem wrap_mul {a b A B : Int} (ha : -A ≤ a) (ha' : a ≤ A) (hb : -B ≤ b) (hb' : b ≤ B) (hA : 0 ≤ A) (h : A * B < 9223372036854775808) : wrap64 (a * b) = a * b := by
  have := prod_bd ha ha' hb hb' hA; exact wrap_id (by omega) (by omega)
theorem det_wrap {a b c d : Int} (h : smallB a b c d = true) : wrap64 (wrap64 (a * d) - wrap64 (b * c)) = a * d - b * c ∧ (-2000000 ≤ a * d - b * c ∧ a * d - b * c ≤ 2000000) := by
  rw [smallB_iff] at h
  have h1 := prod_bd (A := 1000) (B := 1000) h.1.1.1 h.1.1.2 h.2.2.1 h.2.2.2 (by omega)
  have h2 := prod_bd (A := 1000) (B := 1000) h.1.2.1 h.1.2.2 h.2.1.1 h.2.1.2 (by omega)
  rw [wrap_id (x := a * d) (by omega) (by omega), wrap_id (x := b * c) (by omega) (by omega), wrap_id (by omega) (by omega)]
  omega
theorem mx_abs {a : Int} (h1 : -9223372036854775808 < a) (h2 : a < 9223372036854775808) : mx a (wrap64 (-a)) = (a.natAbs : Int) := by
  rw [wrap_id (by omega) (by omega)]; unfold mx; split <;> omega
def addR (ux uy vx vy : Int) : Int × Int × Int := if vecB ux uy = true ∧ vecB vx vy = true then lim (ux + vx) (uy + vy) else (0, 0, 1)
def scaleR (x y n : Int) : Int × Int × Int := if vecB x y = true then (if -1000 ≤ n ∧ n ≤ 1000 then lim (n * x) (n * y) else (0, 0, 2)) else (0, 0, 1)
def detR (ux uy vx vy : Int) : Int × Int := if vecB ux uy = true ∧ vecB vx vy = true then (ux * vy - uy * vx, 0) else (0, 1)
/-- The cell of a vector. -/
def redV (a b c x y : Int) : Int × Int := ((x - y / c * b) % a, y % c)
def hasB (a b c x y : Int) : Bool := (redV a b c x y).1 == 0 && (redV a b c x y).2 == 0
def reduceR (a b c x y : Int) : Int × Int × Int := if latB a b c = true ∧ vecB x y = true then ((redV a b c x y).1, (redV a b c x y).2, 0) else (0, 0, 1)
def inR (a b c x y : Int) : Bool × Int := if latB a b c = true ∧ vecB x y = true then (hasB a b c x y, 0) else (false, 1)
theorem hasB_iff {a b c x y : Int} (hc : c ≠ 0) : hasB a b c x y = true ↔ L a b c x y := by
  rw [L_iff hc]; unfold hasB redV; simp [and_comm]
theorem u8_bd {a : Int} (h : (Go.Lit.int .u8 a).wf = true) : 0 ≤ a ∧ a < 256 := by
  simp only [Go.Lit.wf, Bool.and_eq_true, decide_eq_true_eq] at h
  obtain ⟨h1, h2⟩ := h
  have e1 : Go.IntKind.min .u8 = 0 := by decide
  have e2 : Go.IntKind.max .u8 = 255 := by decide
  omega
/-- A reduced form of what some vectors span. -/
def Herm (sp : Int → Int → Prop) (A B C : Int) : Prop := 0 < A ∧ 0 < C ∧ 0 ≤ B ∧ B < A ∧ ∀ x y, L A B C x y ↔ sp x y
theorem Herm.unique {sp : Int → Int → Prop} {A B C A' B' C' : Int} (h : Herm sp A B C) (h' : Herm sp A' B' C') : A = A' ∧ B = B' ∧ C = C' :=
  L_unique h.1 h.2.1 h.2.2.1 h.2.2.2.1 h'.1 h'.2.1 h'.2.2.1 h'.2.2.2.1 fun x y => (h.2.2.2.2 x y).trans (h'.2.2.2.2 x y).symm
def sp2 (ux uy vx vy : Int) : Int → Int → Prop := fun x y => ∃ i j : Int, x = i * ux + j * vx ∧ y = i * uy + j * vy
theorem Herm.index {A B C ux uy vx vy : Int} (h : Herm (sp2 ux uy vx vy) A B C) : A * C = (ux * vy - uy * vx).natAbs := L_index h.1 h.2.1 h.2.2.2.2
/-- One vector more joins the span. -/
def plus (l p q ux uy l' p' q' : Int) : Prop := ∀ x y, L l' p' q' x y ↔ ∃ j, L l p q (x - j * ux) (y - j * uy)
theorem plus_two {l p q l' p' q' ux uy vx vy : Int} (h1 : plus 0 0 0 ux uy l p q) (h2 : plus l p q vx vy l' p' q') (x y : Int) : L l' p' q' x y ↔ sp2 ux uy vx vy x y := by
  rw [h2]
  constructor
  · rintro ⟨j, h⟩
    obtain ⟨i, h⟩ := (h1 _ _).mp h
    rw [L_zero] at h
    exact ⟨i, j, by omega, by omega⟩
  · rintro ⟨i, j, e1, e2⟩
    refine ⟨j, (h1 _ _).mpr ⟨i, ?_⟩⟩
    rw [L_zero]; omega
theorem gcd_le_bd {a b : Int} {M : Nat} (ha : a.natAbs ≤ M) (hb : b.natAbs ≤ M) : Int.gcd a b ≤ M := by
  by_cases h : a = 0
  · subst h; rw [Int.gcd_zero_left]; exact hb
  · exact Nat.le_trans (Int.gcd_le_natAbs_left (a := a) (b := b) h) ha
theorem le_mul_r {a c : Int} (ha : 0 ≤ a) (hc : 1 ≤ c) : a ≤ a * c := by
  have := Int.mul_le_mul_of_nonneg_left hc ha; omega
theorem le_mul_l {a c : Int} (hc : 0 ≤ c) (ha : 1 ≤ a) : c ≤ a * c := by
  have := Int.mul_le_mul_of_nonneg_right ha hc; omega
theorem spec_l01In_eq (a b c : Int) : spec_l01In.f a b c = some (decide (b ≤ a ∧ a ≤ c)) := by
  unfold spec_l01In.f; split <;> simp <;> omega
theorem impl_within_eq (a b c : Int) : impl_within.f a b c = some (decide (b ≤ a ∧ a ≤ c)) := by
  unfold impl_within.f; split <;> simp <;> omega
theorem spec_IsVec_eq (x y : Int) : spec_IsVec.f x y = some (vecB x y) := by
  unfold spec_IsVec.f vecB; simp only [spec_l01In_eq, Option.bind_some]; split <;> simp_all <;> omega
theorem impl_isCoordinate_eq (a : Int) : impl_isCoordinate.f a = some (decide (-1000 ≤ a ∧ a ≤ 1000)) := by
  unfold impl_isCoordinate.f; simp only [impl_within_eq, Option.bind_some]
theorem impl_IsVec_eq (x y : Int) : impl_IsVec.f x y = some (vecB x y) := by
  unfold impl_IsVec.f vecB; simp only [impl_isCoordinate_eq, Option.bind_some]; split <;> simp_all <;> omega
theorem impl_limited_eq (x y : Int) : impl_limited.f x y = some (lim x y) := by
  unfold impl_limited.f lim; simp only [impl_IsVec_eq, Option.bind_some]; split <;> rfl
theorem spec_IsLattice_eq (a b c : Int) (h1 : -9223372036854775808 ≤ a) (h2 : a < 9223372036854775808) : spec_IsLattice.f a b c = some (latB a b c) := by
  unfold spec_IsLattice.f latB; simp only [spec_l01In_eq, Option.bind_some]
  by_cases ha : 1 ≤ a ∧ a ≤ 64
  · by_cases hc : 1 ≤ c ∧ c ≤ 64
    · rw [wrap_id (x := a - 1) (by omega) (by omega), wrap_mul (A := 64) (B := 64) (by omega) (by omega) (by omega) (by omega) (by omega) (by omega)]
      simp only [ha, hc, and_self, decide_true, if_true]
      by_cases hb : 0 ≤ b ∧ b ≤ a - 1 <;> simp [hb]
    · simp [ha]; split <;> simp_all <;> omega
  · simp; split <;> simp_all <;> omega
theorem impl_IsLattice_eq (a b c : Int) (h1 : -9223372036854775808 ≤ a) (h2 : a < 9223372036854775808) : impl_IsLattice.f a b c = some (latB a b c) := by
  unfold impl_IsLattice.f latB impl_Lattice_index.f; simp only [impl_within_eq, Option.bind_some]
  by_cases ha : 1 ≤ a ∧ a ≤ 64
  · by_cases hc : 1 ≤ c ∧ c ≤ 64
    · rw [wrap_id (x := a - 1) (by omega) (by omega), wrap_mul (A := 64) (B := 64) (by omega) (by omega) (by omega) (by omega) (by omega) (by omega)]
      simp only [ha, hc, and_self, decide_true, if_true]
      by_cases hb : 0 ≤ b ∧ b ≤ a - 1 <;> simp [hb]
    · simp [ha]; split <;> simp_all <;> omega
  · simp; split <;> simp_all <;> omega
theorem impl_AddVecs_eq (k : Nat) (ux uy vx vy : Int) : impl_AddVecs.f (k + 1) ux uy vx vy = some (addR ux uy vx vy) := by
  unfold impl_AddVecs.f addR
  simp only [impl_IsVec_eq, Option.bind_some, impl_AddVecs.j0, impl_Vec_add.f, impl_limited_eq]
  cases h : vecB ux uy <;> cases h' : vecB vx vy <;> simp
  rw [vecB_iff] at h h'
  rw [wrap_id (by omega) (by omega), wrap_id (by omega) (by omega)]
theorem impl_ScaleVec_eq (x y n : Int) : impl_ScaleVec.f x y n = some (scaleR x y n) := by
  unfold impl_ScaleVec.f scaleR
  simp only [impl_IsVec_eq, Option.bind_some, impl_isCoordinate_eq, impl_Vec_times.f, impl_limited_eq, decide_eq_true_eq]
  split
  · split
    · rename_i h h'
      rw [vecB_iff] at h
      rw [wrap_mul (A := 1000) (B := 1000) (by omega) (by omega) (by omega) (by omega) (by omega) (by omega), wrap_mul (A := 1000) (B := 1000) (by omega) (by omega) (by omega) (by omega) (by omega) (by omega)]
    · rfl
  · rfl
theorem impl_DetOf_eq (ux uy vx vy : Int) : impl_DetOf.f ux uy vx vy = some (detR ux uy vx vy) := by
  unfold impl_DetOf.f detR impl_det.f
  simp only [impl_IsVec_eq, Option.bind_some]
  cases h : vecB ux uy with
  | false => simp
  | true =>
    cases h' : vecB vx vy with
    | false => simp
    | true =>
      rw [vecB_iff] at h h'
      have := (det_wrap (a := ux) (b := uy) (c := vx) (d := vy) (by rw [smallB_iff]; omega)).1
      simp [this]
theorem impl_gcd_eq : ∀ (k : Nat) (a b : Int), b.natAbs < k → a.natAbs < 9223372036854775808 → b.natAbs < 9223372036854775808 → impl_gcd.l0 k a b = some (Int.gcd a b : Int) := by
  intro k
  induction k with
  | zero => intro a b h; omega
  | succ k ih =>
    intro a b h ha hb
    unfold impl_gcd.l0
    by_cases h0 : b = 0
    · subst h0; rw [if_pos rfl, mx_abs (by omega) (by omega), Int.gcd_zero_right]
    · rw [if_neg h0]
      have h1 := Int.natAbs_tmod a b
      have h2 := Nat.mod_lt a.natAbs (show 0 < b.natAbs by omega)
      rw [ih b (a.tmod b) (by omega) (by omega) (by omega), gcd_tmod]
theorem spec_l01Divisor_eq : ∀ (k : Nat) (a b : Int), b.natAbs < k → a.natAbs < 9223372036854775808 → b.natAbs < 9223372036854775808 → spec_l01Divisor.f k a b = some (Int.gcd a b : Int) := by
  intro k
  induction k with
  | zero => intro a b h; omega
  | succ k ih =>
    intro a b h ha hb
    unfold spec_l01Divisor.f
    by_cases h0 : b = 0
    · subst h0; rw [if_pos rfl, mx_abs (by omega) (by omega), Int.gcd_zero_right]
    · rw [if_neg h0]
      have h1 := Int.natAbs_tmod a b
      have h2 := Nat.mod_lt a.natAbs (show 0 < b.natAbs by omega)
      rw [ih b (a.tmod b) (by omega) (by omega) (by omega), gcd_tmod]; rfl
theorem spec_l01Mod_eq {a n : Int} (hn : 0 < n) (hn2 : n ≤ 1000000000000000000) : spec_l01Mod.f a n = some (a % n) := by
  unfold spec_l01Mod.f
  have hb := tmod_bounds a n hn
  rw [if_neg (by omega)]
  rw [wrap_id (by omega) (by omega)]
  have := mod_if a n hn
  split <;> rename_i h
  · rw [if_pos h] at this; rw [this]
  · rw [if_neg h] at this; rw [this]
theorem impl_mod_eq {a n : Int} (hn : 0 < n) (hn2 : n ≤ 1000000000000000000) : impl_mod.f a n = some (a % n) := by
  unfold impl_mod.f
  have hb := tmod_bounds a n hn
  rw [if_neg (by omega), wrap_id (by omega) (by omega), mod_add a n hn]
theorem reduce_bd {a b c x y : Int} (ha : 1 ≤ a ∧ a ≤ 64) (hc : 1 ≤ c ∧ c ≤ 64) (hb : 0 ≤ b ∧ b ≤ 63) (hx : -1000000 ≤ x ∧ x ≤ 1000000) (hy : -1000000 ≤ y ∧ y ≤ 1000000) :
    (0 ≤ y % c ∧ y % c < c) ∧ (-1000000 ≤ y / c ∧ y / c ≤ 1000000) ∧ (-63000000 ≤ y / c * b ∧ y / c * b ≤ 63000000) := by
  have h1 := Int.emod_nonneg y (show c ≠ 0 by omega)
  have h2 := Int.emod_lt_of_pos y (show 0 < c by omega)
  have h3 := Int.natAbs_ediv_le_natAbs y c
  have h4 := prod_bd (a := y / c) (b := b) (A := 1000000) (B := 63) (by omega) (by omega) (by omega) (by omega) (by omega)
  omega
theorem spec_l03Reduce_eq {a b c x y : Int} (ha : 1 ≤ a ∧ a ≤ 64) (hc : 1 ≤ c ∧ c ≤ 64) (hb : 0 ≤ b ∧ b ≤ 63) (hx : -1000000 ≤ x ∧ x ≤ 1000000) (hy : -1000000 ≤ y ∧ y ≤ 1000000) :
    spec_l03Reduce.f a b c x y = some (redV a b c x y) := by
  obtain ⟨h1, h2, h3⟩ := reduce_bd ha hc hb hx hy
  unfold spec_l03Reduce.f redV
  rw [spec_l01Mod_eq (by omega) (by omega)]
  simp only [Option.bind_some]
  rw [if_neg (by omega), wrap_id (x := y - y % c) (by omega) (by omega), tdiv_row y c (by omega), wrap_id (x := y / c) (by omega) (by omega), wrap_id (x := y / c * b) (by omega) (by omega), wrap_id (x := x - y / c * b) (by omega) (by omega), spec_l01Mod_eq (by omega) (by omega)]
  rfl
theorem reduce_bd' {a b c x y : Int} (ha : 1 ≤ a ∧ a ≤ 64) (hc : 1 ≤ c ∧ c ≤ 64) (hb : 0 ≤ b ∧ b ≤ 63) (hx : -1000000 ≤ x ∧ x ≤ 1000000) (hy : -1000000 ≤ y ∧ y ≤ 1000000) :
    (0 ≤ y % c ∧ y % c < c) ∧ (-1000000 ≤ y / c ∧ y / c ≤ 1000000) ∧ (-63000000 ≤ y / c * b ∧ y / c * b ≤ 63000000) := by
  have h1 := Int.emod_nonneg y (show c ≠ 0 by omega)
  have h2 := Int.emod_lt_of_pos y (show 0 < c by omega)
  have h3 := Int.natAbs_ediv_le_natAbs y c
  have h4 := prod_bd (a := y / c) (b := b) (A := 1000000) (B := 63) (by omega) (by omega) (by omega) (by omega) (by omega)
  omega
theorem impl_Lattice_reduce_eq {a b c x y : Int} (ha : 1 ≤ a ∧ a ≤ 64) (hc : 1 ≤ c ∧ c ≤ 64) (hb : 0 ≤ b ∧ b ≤ 63) (hx : -1000000 ≤ x ∧ x ≤ 1000000) (hy : -1000000 ≤ y ∧ y ≤ 1000000) :
    impl_Lattice_reduce.f a b c x y = some (redV a b c x y) := by
  obtain ⟨h1, h2, h3⟩ := reduce_bd' ha hc hb hx hy
  unfold impl_Lattice_reduce.f redV
  rw [impl_mod_eq (by omega) (by omega)]
  simp only [Option.bind_some]
  rw [if_neg (by omega), wrap_id (x := y - y % c) (by omega) (by omega), tdiv_row y c (by omega), wrap_id (x := y / c) (by omega) (by omega), wrap_id (x := y / c * b) (by omega) (by omega), wrap_id (x := x - y / c * b) (by omega) (by omega), impl_mod_eq (by omega) (by omega)]
  rfl
theorem spec_l03Code_eq (a b c x y : Int) (h1 : -9223372036854775808 ≤ a) (h2 : a < 9223372036854775808) : spec_l03Code.f a b c x y = some (if latB a b c = true ∧ vecB x y = true then 0 else 1) := by
  unfold spec_l03Code.f
  simp only [spec_IsLattice_eq a b c h1 h2, spec_IsVec_eq, Option.bind_some]
  by_cases h : latB a b c = true
  · by_cases h' : vecB x y = true
    · rw [if_pos h, if_pos h', if_pos ⟨h, h'⟩]
    · rw [if_pos h, if_neg h', if_neg (fun q => h' q.2)]
  · rw [if_neg h, if_neg (fun q => h q.1)]
theorem impl_latticeVecCode_eq (a b c x y : Int) (h1 : -9223372036854775808 ≤ a) (h2 : a < 9223372036854775808) : impl_latticeVecCode.f a b c x y = some (if latB a b c = true ∧ vecB x y = true then 0 else 1) := by
  unfold impl_latticeVecCode.f
  simp only [impl_IsLattice_eq a b c h1 h2, impl_IsVec_eq, Option.bind_some]
  by_cases h : latB a b c = true
  · by_cases h' : vecB x y = true
    · rw [if_pos h, if_pos h', if_pos ⟨h, h'⟩]
    · rw [if_pos h, if_neg h', if_neg (fun q => h' q.2)]
  · rw [if_neg h, if_neg (fun q => h q.1)]
theorem spec_ReduceVec_eq (a b c x y : Int) (h1 : -9223372036854775808 ≤ a) (h2 : a < 9223372036854775808) : spec_ReduceVec.f a b c x y = some (reduceR a b c x y) := by
  unfold spec_ReduceVec.f reduceR
  simp only [spec_l03Code_eq a b c x y h1 h2, Option.bind_some]
  by_cases h : latB a b c = true ∧ vecB x y = true
  · have hl := latB_iff.mp h.1
    have hv := vecB_iff.mp h.2
    simp only [h, and_self, if_true]
    rw [spec_l03Reduce_eq hl.1 hl.2.1 (by omega) (by omega) (by omega)]; rfl
  · rw [if_neg h, if_neg h]; rfl
theorem impl_ReduceVec_eq (a b c x y : Int) (h1 : -9223372036854775808 ≤ a) (h2 : a < 9223372036854775808) : impl_ReduceVec.f a b c x y = some (reduceR a b c x y) := by
  unfold impl_ReduceVec.f reduceR
  simp only [impl_latticeVecCode_eq a b c x y h1 h2, Option.bind_some]
  by_cases h : latB a b c = true ∧ vecB x y = true
  · have hl := latB_iff.mp h.1
    have hv := vecB_iff.mp h.2
    simp only [h, and_self, if_true]
    rw [impl_Lattice_reduce_eq hl.1 hl.2.1 (by omega) (by omega) (by omega)]; rfl
  · rw [if_neg h, if_neg h]; rfl
theorem spec_l03Has_eq {a b c x y : Int} (ha : 1 ≤ a ∧ a ≤ 64) (hc : 1 ≤ c ∧ c ≤ 64) (hb : 0 ≤ b ∧ b ≤ 63) (hx : -1000000 ≤ x ∧ x ≤ 1000000) (hy : -1000000 ≤ y ∧ y ≤ 1000000) :
    spec_l03Has.f a b c x y = some (hasB a b c x y) := by
  unfold spec_l03Has.f hasB
  rw [spec_l03Reduce_eq ha hc hb hx hy]; rfl
theorem impl_Lattice_has_eq {a b c x y : Int} (ha : 1 ≤ a ∧ a ≤ 64) (hc : 1 ≤ c ∧ c ≤ 64) (hb : 0 ≤ b ∧ b ≤ 63) (hx : -1000000 ≤ x ∧ x ≤ 1000000) (hy : -1000000 ≤ y ∧ y ≤ 1000000) :
    impl_Lattice_has.f a b c x y = some (hasB a b c x y) := by
  unfold impl_Lattice_has.f hasB
  rw [impl_Lattice_reduce_eq ha hc hb hx hy]; rfl
theorem spec_IsInLattice_eq (a b c x y : Int) (h1 : -9223372036854775808 ≤ a) (h2 : a < 9223372036854775808) : spec_IsInLattice.f a b c x y = some (inR a b c x y) := by
  unfold spec_IsInLattice.f inR
  simp only [spec_l03Code_eq a b c x y h1 h2, Option.bind_some]
  by_cases h : latB a b c = true ∧ vecB x y = true
  · have hl := latB_iff.mp h.1
    have hv := vecB_iff.mp h.2
    simp only [h, and_self, if_true]
    rw [spec_l03Has_eq hl.1 hl.2.1 (by omega) (by omega) (by omega)]; rfl
  · rw [if_neg h, if_neg h]; rfl
theorem impl_IsInLattice_eq (a b c x y : Int) (h1 : -9223372036854775808 ≤ a) (h2 : a < 9223372036854775808) : impl_IsInLattice.f a b c x y = some (inR a b c x y) := by
  unfold impl_IsInLattice.f inR
  simp only [impl_latticeVecCode_eq a b c x y h1 h2, Option.bind_some]
  by_cases h : latB a b c = true ∧ vecB x y = true
  · have hl := latB_iff.mp h.1
    have hv := vecB_iff.mp h.2
    simp only [h, and_self, if_true]
    rw [impl_Lattice_has_eq hl.1 hl.2.1 (by omega) (by omega) (by omega)]; rfl
  · rw [if_neg h, if_neg h]; rfl
theorem impl_euclid (l : List S25) (low len i : Int) : ∀ (n : Nat) (px py vx vy : Int) (M : Nat), M ≤ 10000000000000000 → vy.natAbs ≤ n → px.natAbs ≤ M → vx.natAbs ≤ M → py.natAbs ≤ 1000 → vy.natAbs ≤ 1000 →
    px.natAbs * vy.natAbs + vx.natAbs * py.natAbs ≤ M →
    ∃ px' py' vx', px'.natAbs ≤ M ∧ py'.natAbs ≤ 1000 ∧ vx'.natAbs ≤ M ∧ (∀ x y, S2 px' py' vx' 0 x y ↔ S2 px py vx vy x y) ∧
      ∀ (K : Nat) (R : Option (Int × Int × Int)), (∀ k, K ≤ k → impl_latticeOf.l1 k low l len i px' py' vx' 0 = R) → ∀ k, K + n ≤ k → impl_latticeOf.l1 k low l len i px py vx vy = R := by
  intro n
  induction n with
  | zero =>
    intro px py vx vy M hM hn h1 h2 h3 h4 hQ
    have h0 : vy = 0 := by omega
    subst h0
    exact ⟨px, py, vx, h1, h3, h2, fun x y => Iff.rfl, fun K R h k hk => h k (by omega)⟩
  | succ n ih =>
    intro px py vx vy M hM hn h1 h2 h3 h4 hQ
    by_cases h0 : vy = 0
    · subst h0
      exact ⟨px, py, vx, h1, h3, h2, fun x y => Iff.rfl, fun K R h k hk => h k (by omega)⟩
    · obtain ⟨e1, e2, e3, e4, e5, e6⟩ := euclid (px := px) (py := py) (vx := vx) h0 hQ
      obtain ⟨px', py', vx', b1, b2, b3, hs, hk⟩ := ih vx vy (px - py.tdiv vy * vx) (py - py.tdiv vy * vy) M hM (by omega) h2 e3 h4 (by omega) e6
      refine ⟨px', py', vx', b1, b2, b3, fun x y => (hs x y).trans (S2_step px py vx vy _ x y), fun K R h k hk' => ?_⟩
      obtain ⟨k, rfl⟩ : ∃ m, k = m + 1 := ⟨k - 1, by omega⟩
      rw [impl_latticeOf.l1, if_neg h0]
      unfold impl_Vec_times.f impl_Vec_add.f
      simp only [Option.bind_some]
      generalize py.tdiv vy = q at *
      rw [wrap_id (x := q) (by omega) (by omega), wrap_id (x := -q) (by omega) (by omega), Int.neg_mul, Int.neg_mul, wrap_id (x := -(q * vx)) (by omega) (by omega), wrap_id (x := -(q * vy)) (by omega) (by omega),
        ← Int.sub_eq_add_neg, ← Int.sub_eq_add_neg, wrap_id (x := px - q * vx) (by omega) (by omega), wrap_id (x := py - q * vy) (by omega) (by omega)]
      exact hk K R h k (by omega)
theorem impl_vec_step (l : List S25) (low len i ux uy px py : Int) (M : Nat) (hM : 1000 * M + 1000000 ≤ 10000000000000000) (hi : 0 ≤ i ∧ i ≤ 1000) (hl : low.natAbs ≤ M) (hl0 : 0 ≤ low) (hpx : px.natAbs ≤ M) (hpy : py.natAbs ≤ 1000) (hux : ux.natAbs ≤ 1000) (huy : uy.natAbs ≤ 1000) :
    ∃ low' px' py', low'.natAbs ≤ 1000 * M + 1000000 ∧ 0 ≤ low' ∧ px'.natAbs ≤ 1000 * M + 1000000 ∧ py'.natAbs ≤ 1000 ∧ plus low px py ux uy low' px' py' ∧
      ∀ (K : Nat) (R : Option (Int × Int × Int)), (∀ k, K ≤ k → impl_latticeOf.l0 k low' l len (i + 1) px' py' = R) → ∀ k, K + 1000 * M + 1003002 ≤ k → impl_latticeOf.l1 k low l len i px py ux uy = R := by
  have hq1 : px.natAbs * uy.natAbs ≤ M * 1000 := Nat.mul_le_mul hpx huy
  have hq2 : ux.natAbs * py.natAbs ≤ 1000 * 1000 := Nat.mul_le_mul hux hpy
  obtain ⟨px', py', vx', b1, b2, b3, hs, hk⟩ := impl_euclid l low len i 1000 px py ux uy (1000 * M + 1000000) hM huy (by omega) (by omega) hpy huy (by omega)
  have hg : Int.gcd low vx' ≤ 1000 * M + 1000000 := gcd_le_bd (by omega) b3
  refine ⟨(Int.gcd low vx' : Int), px', py', by omega, by omega, b1, b2, L_more hs rfl, fun K R h k hk' => ?_⟩
  refine hk (K + 1000 * M + 1000002) R (fun k hk'' => ?_) k (by omega)
  obtain ⟨k, rfl⟩ : ∃ m, k = m + 1 := ⟨k - 1, by omega⟩
  rw [impl_latticeOf.l1, if_pos rfl]
  unfold impl_gcd.f
  rw [impl_gcd_eq k low vx' (by omega) (by omega) (by omega), wrap_id (x := i + 1) (by omega) (by omega)]
  simp only [Option.bind_some]
  exact h k (by omega)
theorem impl_lattice_end (l : List S25) (low len px py : Int) (i : Int) (hi : ¬ i < len) (hl : 0 < low) (hl2 : low ≤ 1000000000000000000) (hp : px.natAbs ≤ 1000000000000000000) (hpy : py.natAbs ≤ 1000) (hy : py ≠ 0) :
    ∃ B C, 0 ≤ B ∧ B < low ∧ 0 < C ∧ (∀ x y, L low B C x y ↔ L low px py x y) ∧ ∀ k, 1 ≤ k → impl_latticeOf.l0 k low l len i px py = some (low, B, C) := by
  by_cases h : py < 0
  · refine ⟨(-px) % low, -py, Int.emod_nonneg _ (by omega), Int.emod_lt_of_pos _ hl, by omega, fun x y => (L_mod _ _ _ _ _).trans (L_neg _ _ _ _ _), fun k hk => ?_⟩
    obtain ⟨k, rfl⟩ : ∃ m, k = m + 1 := ⟨k - 1, by omega⟩
    rw [impl_latticeOf.l0, if_neg hi, if_pos h]
    unfold impl_Vec_times.f
    simp only [Option.bind_some]
    rw [Int.neg_one_mul, Int.neg_one_mul, wrap_id (x := -px) (by omega) (by omega), wrap_id (x := -py) (by omega) (by omega), impl_mod_eq hl hl2]; rfl
  · refine ⟨px % low, py, Int.emod_nonneg _ (by omega), Int.emod_lt_of_pos _ hl, by omega, fun x y => L_mod _ _ _ _ _, fun k hk => ?_⟩
    obtain ⟨k, rfl⟩ : ∃ m, k = m + 1 := ⟨k - 1, by omega⟩
    rw [impl_latticeOf.l0, if_neg hi, if_neg h, impl_mod_eq hl hl2]; rfl
theorem impl_latticeOf2 (u v : S25) (h1 : u.f0.natAbs ≤ 1000) (h2 : u.f1.natAbs ≤ 1000) (h3 : v.f0.natAbs ≤ 1000) (h4 : v.f1.natAbs ≤ 1000) (hd : u.f0 * v.f1 - u.f1 * v.f0 ≠ 0) :
    ∃ A B C, Herm (sp2 u.f0 u.f1 v.f0 v.f1) A B C ∧ ∀ k, 1003100000 ≤ k → impl_latticeOf.f k [u, v] = some (A, B, C) := by
  obtain ⟨l1, p1, q1, b1, b2, b3, b4, hp1, hk1⟩ := impl_vec_step [u, v] 0 2 0 u.f0 u.f1 0 0 0 (by omega) (by omega) (by simp) (by omega) (by simp) (by simp) h1 h2
  obtain ⟨l2, p2, q2, c1, c2, c3, c4, hp2, hk2⟩ := impl_vec_step [u, v] l1 2 1 v.f0 v.f1 p1 q1 1000000 (by omega) (by omega) (by omega) b2 (by omega) b4 h3 h4
  have hsp := plus_two hp1 hp2
  obtain ⟨r1, r2⟩ := L_rank ((hsp u.f0 u.f1).mpr ⟨1, 0, by omega, by omega⟩) ((hsp v.f0 v.f1).mpr ⟨0, 1, by omega, by omega⟩) hd
  obtain ⟨B, C, e1, e2, e3, e4, hk3⟩ := impl_lattice_end [u, v] l2 2 p2 q2 2 (by omega) (by omega) (by omega) (by omega) c4 r2
  refine ⟨l2, B, C, ⟨by omega, e3, e1, e2, fun x y => (e4 x y).trans (hsp x y)⟩, fun k hk => ?_⟩
  unfold impl_latticeOf.f
  obtain ⟨k, rfl⟩ : ∃ m, k = m + 1 := ⟨k - 1, by omega⟩
  simp only [List.length_cons, List.length_nil]
  rw [impl_latticeOf.l0, if_pos (by decide), if_pos (by decide), if_pos (by simp)]
  refine hk1 1001003100 _ (fun k hk => ?_) k (by omega)
  obtain ⟨k, rfl⟩ : ∃ m, k = m + 1 := ⟨k - 1, by omega⟩
  rw [impl_latticeOf.l0, if_pos (by decide), if_pos (by decide), if_pos (by simp)]
  refine hk2 1 _ (fun k hk => ?_) k (by omega)
  exact hk3 k hk
theorem spec_euclid (l : List S25) (low i : Int) : ∀ (n : Nat) (px py vx vy : Int) (M : Nat), M ≤ 10000000000000000 → vy.natAbs ≤ n → px.natAbs ≤ M → vx.natAbs ≤ M → py.natAbs ≤ 1000 → vy.natAbs ≤ 1000 →
    px.natAbs * vy.natAbs + vx.natAbs * py.natAbs ≤ M →
    ∃ px' py' vx', px'.natAbs ≤ M ∧ py'.natAbs ≤ 1000 ∧ vx'.natAbs ≤ M ∧ (∀ x y, S2 px' py' vx' 0 x y ↔ S2 px py vx vy x y) ∧
      ∀ (K : Nat) (R : Option (Int × Int × Int)), (∀ k, K ≤ k → spec_l03Hermite.l1 k l low i px' py' vx' 0 = R) → ∀ k, K + n ≤ k → spec_l03Hermite.l1 k l low i px py vx vy = R := by
  intro n
  induction n with
  | zero =>
    intro px py vx vy M hM hn h1 h2 h3 h4 hQ
    have h0 : vy = 0 := by omega
    subst h0
    exact ⟨px, py, vx, h1, h3, h2, fun x y => Iff.rfl, fun K R h k hk => h k (by omega)⟩
  | succ n ih =>
    intro px py vx vy M hM hn h1 h2 h3 h4 hQ
    by_cases h0 : vy = 0
    · subst h0
      exact ⟨px, py, vx, h1, h3, h2, fun x y => Iff.rfl, fun K R h k hk => h k (by omega)⟩
    · obtain ⟨e1, e2, e3, e4, e5, e6⟩ := euclid (px := px) (py := py) (vx := vx) h0 hQ
      obtain ⟨px', py', vx', b1, b2, b3, hs, hk⟩ := ih vx vy (px - py.tdiv vy * vx) (py - py.tdiv vy * vy) M hM (by omega) h2 e3 h4 (by omega) e6
      refine ⟨px', py', vx', b1, b2, b3, fun x y => (hs x y).trans (S2_step px py vx vy _ x y), fun K R h k hk' => ?_⟩
      obtain ⟨k, rfl⟩ : ∃ m, k = m + 1 := ⟨k - 1, by omega⟩
      rw [spec_l03Hermite.l1, if_neg h0]
      generalize py.tdiv vy = q at *
      rw [wrap_id (x := q) (by omega) (by omega), wrap_id (x := q * vx) (by omega) (by omega), wrap_id (x := q * vy) (by omega) (by omega), wrap_id (x := px - q * vx) (by omega) (by omega), wrap_id (x := py - q * vy) (by omega) (by omega)]
      exact hk K R h k (by omega)
theorem plus_mod {l p q ux uy l' p' q' : Int} (h : plus l p q ux uy l' p' q') : plus l p q ux uy l' (p' % l') q' := fun x y => (L_mod _ _ _ _ _).trans (h x y)
theorem spec_vec_step (l : List S25) (low i ux uy px py : Int) (M : Nat) (hM : 1000 * M + 1000000 ≤ 10000000000000000) (hi : 0 ≤ i ∧ i ≤ 1000) (hl : low.natAbs ≤ M) (hl0 : 0 ≤ low) (hpx : px.natAbs ≤ M) (hpy : py.natAbs ≤ 1000) (hux : ux.natAbs ≤ 1000) (huy : uy.natAbs ≤ 1000) :
    ∃ low' px' py', low'.natAbs ≤ 1000 * M + 1000000 ∧ 0 ≤ low' ∧ px'.natAbs ≤ 1000 * M + 1000000 ∧ py'.natAbs ≤ 1000 ∧ plus low px py ux uy low' px' py' ∧
      ∀ (K : Nat) (R : Option (Int × Int × Int)), (∀ k, K ≤ k → spec_l03Hermite.l0 k l low' (i + 1) px' py' = R) → ∀ k, K + 1000 * M + 1003002 ≤ k → spec_l03Hermite.l1 k l low i px py ux uy = R := by
  have hq1 : px.natAbs * uy.natAbs ≤ M * 1000 := Nat.mul_le_mul hpx huy
  have hq2 : ux.natAbs * py.natAbs ≤ 1000 * 1000 := Nat.mul_le_mul hux hpy
  obtain ⟨px', py', vx', b1, b2, b3, hs, hk⟩ := spec_euclid l low i 1000 px py ux uy (1000 * M + 1000000) hM huy (by omega) (by omega) hpy huy (by omega)
  have hg : Int.gcd low vx' ≤ 1000 * M + 1000000 := gcd_le_bd (by omega) b3
  have hp : plus low px py ux uy (Int.gcd low vx' : Int) px' py' := L_more hs rfl
  by_cases hg0 : (Int.gcd low vx' : Int) > 0
  · have m1 := Int.emod_nonneg px' (show (Int.gcd low vx' : Int) ≠ 0 by omega)
    have m2 := Int.emod_lt_of_pos px' (show 0 < (Int.gcd low vx' : Int) by omega)
    refine ⟨(Int.gcd low vx' : Int), px' % (Int.gcd low vx' : Int), py', by omega, by omega, by omega, b2, plus_mod hp, fun K R h k hk' => ?_⟩
    refine hk (K + 1000 * M + 1000002) R (fun k hk'' => ?_) k (by omega)
    obtain ⟨k, rfl⟩ : ∃ m, k = m + 1 := ⟨k - 1, by omega⟩
    rw [spec_l03Hermite.l1, if_pos rfl, spec_l01Divisor_eq k low vx' (by omega) (by omega) (by omega), wrap_id (x := i + 1) (by omega) (by omega)]
    simp only [Option.bind_some]
    rw [if_pos hg0, spec_l01Mod_eq (by omega) (by omega)]
    exact h k (by omega)
  · refine ⟨(Int.gcd low vx' : Int), px', py', by omega, by omega, b1, b2, hp, fun K R h k hk' => ?_⟩
    refine hk (K + 1000 * M + 1000002) R (fun k hk'' => ?_) k (by omega)
    obtain ⟨k, rfl⟩ : ∃ m, k = m + 1 := ⟨k - 1, by omega⟩
    rw [spec_l03Hermite.l1, if_pos rfl, spec_l01Divisor_eq k low vx' (by omega) (by omega) (by omega), wrap_id (x := i + 1) (by omega) (by omega)]
    simp only [Option.bind_some]
    rw [if_neg hg0]
    exact h k (by omega)
theorem spec_lattice_end (l : List S25) (low px py : Int) (i : Int) (hi : ¬ i < (l.length : Int)) (hl : 0 < low) (hl2 : low ≤ 1000000000000000000) (hp : px.natAbs ≤ 1000000000000000000) (hpy : py.natAbs ≤ 1000) (hy : py ≠ 0) :
    ∃ B C, 0 ≤ B ∧ B < low ∧ 0 < C ∧ (∀ x y, L low B C x y ↔ L low px py x y) ∧ ∀ k, 1 ≤ k → spec_l03Hermite.l0 k l low i px py = some (low, B, C) := by
  by_cases h : py < 0
  · refine ⟨(-px) % low, -py, Int.emod_nonneg _ (by omega), Int.emod_lt_of_pos _ hl, by omega, fun x y => (L_mod _ _ _ _ _).trans (L_neg _ _ _ _ _), fun k hk => ?_⟩
    obtain ⟨k, rfl⟩ : ∃ m, k = m + 1 := ⟨k - 1, by omega⟩
    rw [spec_l03Hermite.l0, if_neg hi, if_pos h]
    unfold spec_l01Scale.f
    simp only [Option.bind_some]
    rw [if_pos (by omega), Int.neg_one_mul, Int.neg_one_mul, wrap_id (x := -px) (by omega) (by omega), wrap_id (x := -py) (by omega) (by omega), spec_l01Mod_eq hl hl2]; rfl
  · refine ⟨px % low, py, Int.emod_nonneg _ (by omega), Int.emod_lt_of_pos _ hl, by omega, fun x y => L_mod _ _ _ _ _, fun k hk => ?_⟩
    obtain ⟨k, rfl⟩ : ∃ m, k = m + 1 := ⟨k - 1, by omega⟩
    rw [spec_l03Hermite.l0, if_neg hi, if_neg h, if_pos (by omega), spec_l01Mod_eq hl hl2]; rfl
theorem spec_hermite2 (u v : S25) (h1 : u.f0.natAbs ≤ 1000) (h2 : u.f1.natAbs ≤ 1000) (h3 : v.f0.natAbs ≤ 1000) (h4 : v.f1.natAbs ≤ 1000) (hd : u.f0 * v.f1 - u.f1 * v.f0 ≠ 0) :
    ∃ A B C, Herm (sp2 u.f0 u.f1 v.f0 v.f1) A B C ∧ ∀ k, 1003100000 ≤ k → spec_l03Hermite.f k [u, v] = some (A, B, C) := by
  obtain ⟨l1, p1, q1, b1, b2, b3, b4, hp1, hk1⟩ := spec_vec_step [u, v] 0 0 u.f0 u.f1 0 0 0 (by omega) (by omega) (by simp) (by omega) (by simp) (by simp) h1 h2
  obtain ⟨l2, p2, q2, c1, c2, c3, c4, hp2, hk2⟩ := spec_vec_step [u, v] l1 1 v.f0 v.f1 p1 q1 1000000 (by omega) (by omega) (by omega) b2 (by omega) b4 h3 h4
  have hsp := plus_two hp1 hp2
  obtain ⟨r1, r2⟩ := L_rank ((hsp u.f0 u.f1).mpr ⟨1, 0, by omega, by omega⟩) ((hsp v.f0 v.f1).mpr ⟨0, 1, by omega, by omega⟩) hd
  obtain ⟨B, C, e1, e2, e3, e4, hk3⟩ := spec_lattice_end [u, v] l2 p2 q2 2 (by simp) (by omega) (by omega) (by omega) c4 r2
  refine ⟨l2, B, C, ⟨by omega, e3, e1, e2, fun x y => (e4 x y).trans (hsp x y)⟩, fun k hk => ?_⟩
  unfold spec_l03Hermite.f
  obtain ⟨k, rfl⟩ : ∃ m, k = m + 1 := ⟨k - 1, by omega⟩
  rw [spec_l03Hermite.l0, if_pos (by simp), if_pos (by decide)]
  refine hk1 1001003100 _ (fun k hk => ?_) k (by omega)
  obtain ⟨k, rfl⟩ : ∃ m, k = m + 1 := ⟨k - 1, by omega⟩
  rw [spec_l03Hermite.l0, if_pos (by simp), if_pos (by decide)]
  refine hk2 1 _ (fun k hk => ?_) k (by omega)
  exact hk3 k hk
theorem spec_l03Result_eq (a b c : Int) (h1 : -9223372036854775808 ≤ a) (h2 : a < 9223372036854775808) : spec_l03Result.f a b c = some (if latB a b c = true then (a, b, c, 0) else (0, 0, 0, 3)) := by
  unfold spec_l03Result.f; simp only [spec_IsLattice_eq a b c h1 h2, Option.bind_some]; split <;> rfl
theorem spec_LatticeOf_is {ux uy vx vy : Int} (hu : vecB ux uy = true) (hv : vecB vx vy = true) (hd : ux * vy - uy * vx ≠ 0) :
    ∃ A B C, Herm (sp2 ux uy vx vy) A B C ∧ ∀ k, 1003100001 ≤ k → spec_LatticeOf.f k ux uy vx vy = some (if latB A B C = true then (A, B, C, 0) else (0, 0, 0, 3)) := by
  have h1 := vecB_iff.mp hu
  have h2 := vecB_iff.mp hv
  have hw := (det_wrap (a := ux) (b := uy) (c := vx) (d := vy) (by rw [smallB_iff]; omega))
  obtain ⟨A, B, C, hh, hk⟩ := spec_hermite2 ⟨ux, uy⟩ ⟨vx, vy⟩ (by simp only; omega) (by simp only; omega) (by simp only; omega) (by simp only; omega) hd
  refine ⟨A, B, C, hh, fun k hk' => ?_⟩
  obtain ⟨k, rfl⟩ : ∃ m, k = m + 1 := ⟨k - 1, by omega⟩
  have hi := hh.index
  simp only at hi
  have hC := hh.2.1
  have hA := hh.1
  have hAC : A ≤ A * C := le_mul_r (by omega) (by omega)
  unfold spec_LatticeOf.f
  simp only [spec_IsVec_eq, hu, hv, Option.bind_some, if_true, Bool.not_true, spec_LatticeOf.j0, Bool.false_eq_true, if_false, spec_l01Det.f, hw.1]
  rw [if_neg hd, hk k (by omega)]
  simp only [Option.bind_some]
  rw [spec_l03Result_eq A B C (by have := hh.1; omega) (by omega)]
  simp only [Option.bind_some]
theorem spec_LatticeOf_not (k : Nat) {ux uy vx vy : Int} (h : ¬ (vecB ux uy = true ∧ vecB vx vy = true)) : spec_LatticeOf.f (k + 1) ux uy vx vy = some (0, 0, 0, 1) := by
  unfold spec_LatticeOf.f
  simp only [spec_IsVec_eq, Option.bind_some, spec_LatticeOf.j0]
  cases h1 : vecB ux uy <;> cases h2 : vecB vx vy <;> simp_all
theorem spec_LatticeOf_zero (k : Nat) {ux uy vx vy : Int} (hu : vecB ux uy = true) (hv : vecB vx vy = true) (hd : ux * vy - uy * vx = 0) : spec_LatticeOf.f (k + 1) ux uy vx vy = some (0, 0, 0, 5) := by
  have h1 := vecB_iff.mp hu
  have h2 := vecB_iff.mp hv
  have hw := (det_wrap (a := ux) (b := uy) (c := vx) (d := vy) (by rw [smallB_iff]; omega))
  unfold spec_LatticeOf.f
  simp only [spec_IsVec_eq, hu, hv, Option.bind_some, if_true, Bool.not_true, spec_LatticeOf.j0, Bool.false_eq_true, if_false, spec_l01Det.f, hw.1, hd]
theorem impl_LatticeOf_is {ux uy vx vy : Int} (hu : vecB ux uy = true) (hv : vecB vx vy = true) (hd : ux * vy - uy * vx ≠ 0) :
    ∃ A B C, Herm (sp2 ux uy vx vy) A B C ∧ ∀ k, 1003100001 ≤ k → impl_LatticeOf.f k ux uy vx vy = some (if latB A B C = true then (A, B, C, 0) else (0, 0, 0, 3)) := by
  have h1 := vecB_iff.mp hu
  have h2 := vecB_iff.mp hv
  have hw := (det_wrap (a := ux) (b := uy) (c := vx) (d := vy) (by rw [smallB_iff]; omega))
  obtain ⟨A, B, C, hh, hk⟩ := impl_latticeOf2 ⟨ux, uy⟩ ⟨vx, vy⟩ (by simp only; omega) (by simp only; omega) (by simp only; omega) (by simp only; omega) hd
  refine ⟨A, B, C, hh, fun k hk' => ?_⟩
  obtain ⟨k, rfl⟩ : ∃ m, k = m + 1 := ⟨k - 1, by omega⟩
  have hi := hh.index
  simp only at hi
  have hA := hh.1
  have hC := hh.2.1
  have hAC : A ≤ A * C := le_mul_r (by omega) (by omega)
  have hCA : C ≤ A * C := le_mul_l (by omega) (by omega)
  unfold impl_LatticeOf.f
  simp only [impl_IsVec_eq, hu, hv, Option.bind_some, if_true, Bool.not_true, impl_LatticeOf.j0, Bool.false_eq_true, if_false, impl_det.f, hw.1]
  rw [if_neg hd, mx_abs (by omega) (by omega)]
  by_cases hg : latB A B C = true
  · have hl := latB_iff.mp hg
    rw [if_pos hg, if_neg (by omega), hk k (by omega)]; rfl
  · have hb1 := hh.2.2.1
    have hb2 := hh.2.2.2.1
    have : ¬ A * C ≤ 64 := fun hq => hg (latB_iff.mpr ⟨by omega, by omega, by omega, hq⟩)
    rw [if_neg hg, if_pos (by omega)]
theorem impl_LatticeOf_not (k : Nat) {ux uy vx vy : Int} (h : ¬ (vecB ux uy = true ∧ vecB vx vy = true)) : impl_LatticeOf.f (k + 1) ux uy vx vy = some (0, 0, 0, 1) := by
  unfold impl_LatticeOf.f
  simp only [impl_IsVec_eq, Option.bind_some, impl_LatticeOf.j0]
  cases h1 : vecB ux uy <;> cases h2 : vecB vx vy <;> simp_all
theorem impl_LatticeOf_zero (k : Nat) {ux uy vx vy : Int} (hu : vecB ux uy = true) (hv : vecB vx vy = true) (hd : ux * vy - uy * vx = 0) : impl_LatticeOf.f (k + 1) ux uy vx vy = some (0, 0, 0, 5) := by
  have h1 := vecB_iff.mp hu
  have h2 := vecB_iff.mp hv
  have hw := (det_wrap (a := ux) (b := uy) (c := vx) (d := vy) (by rw [smallB_iff]; omega))
  unfold impl_LatticeOf.f
  simp only [impl_IsVec_eq, hu, hv, Option.bind_some, if_true, Bool.not_true, impl_LatticeOf.j0, Bool.false_eq_true, if_false, impl_det.f, hw.1, hd]
def St (l : List Int) (p s : Int) : Prop := (l.length : Int) ≤ 4096 ∧ (∀ x ∈ l, 0 ≤ x ∧ x < 256) ∧ 0 ≤ p ∧ p ≤ (l.length : Int) ∧ 0 ≤ s ∧ s < 2147483647
theorem rd_mem {l : List Int} {i : Int} (h0 : 0 ≤ i) (h1 : i < (l.length : Int)) : rd l i ∈ l := by
  unfold rd
  have h : i.toNat < l.length := by omega
  have e : l.getD i.toNat 0 = l[i.toNat] := by simp [List.getD, h]
  rw [e]
  exact List.getElem_mem h
theorem tm_bd {X n : Int} (hX : 0 ≤ X) (hn : 0 < n) : 0 ≤ Int.tmod X n ∧ Int.tmod X n < n := ⟨Int.tmod_nonneg n hX, Int.tmod_lt_of_pos X hn⟩
theorem next_eq {l : List Int} {p s : Int} (h : St l p s) (n : Int) : ∃ r p' s', spec_l01Next.f l p s n = some (r, p', s') ∧ St l p' s' ∧ 0 ≤ r ∧ (r < n ∨ r = 0) := by
  have h0 := h
  obtain ⟨hl, hb, hp0, hp1, hs0, hs1⟩ := h
  unfold spec_l01Next.f
  by_cases hn : n ≤ 1
  · rw [if_pos hn]; exact ⟨0, p, s, rfl, h0, by omega, .inr rfl⟩
  rw [if_neg hn]
  rw [wrap_id (x := s * 48271) (by omega) (by omega), wrap_id (x := s * 48271 + 67) (by omega) (by omega)]
  obtain ⟨a1, a2⟩ := tm_bd (X := s * 48271 + 67) (n := 2147483647) (by omega) (by decide)
  generalize Int.tmod (s * 48271 + 67) 2147483647 = S at a1 a2
  have q0 : 0 ≤ Int.tdiv S 37 ∧ Int.tdiv S 37 ≤ S := by rw [Int.tdiv_eq_ediv_of_nonneg a1]; omega
  have q1 : wrap64 (Int.tdiv S 37) = Int.tdiv S 37 := wrap_id (by omega) (by omega)
  by_cases hp : p < (l.length : Int)
  · rw [if_pos hp, if_pos hp0]
    have m := hb _ (rd_mem hp0 hp)
    rw [wrap_id (x := p + 1) (by omega) (by omega), wrap_id (x := p + 1 - 1) (by omega) (by omega), Int.add_sub_cancel]
    have w1 : wrap64 (rd l p) = rd l p := wrap_id (by omega) (by omega)
    rw [q1, w1, wrap_id (x := Int.tdiv S 37 + rd l p) (by omega) (by omega), if_neg (show ¬ n = 0 by omega), if_neg (show ¬ n = 0 by omega)]
    have t1 := tm_bd (X := rd l p) (n := n) m.1 (by omega)
    have t2 := tm_bd (X := Int.tdiv S 37 + rd l p) (n := n) (by omega) (by omega)
    have st : St l (p + 1) S := ⟨hl, hb, by omega, by omega, a1, a2⟩
    split
    · split
      · exact ⟨_, _, _, rfl, st, t1.1, .inl t1.2⟩
      · exact ⟨_, _, _, rfl, st, t2.1, .inl t2.2⟩
    · exact ⟨_, _, _, rfl, st, t2.1, .inl t2.2⟩
  · rw [if_neg hp, if_neg (show ¬ n = 0 by omega), q1]
    have t1 := tm_bd (X := Int.tdiv S 37) (n := n) (by omega) (by omega)
    exact ⟨_, _, _, rfl, ⟨hl, hb, hp0, hp1, a1, a2⟩, t1.1, .inl t1.2⟩
theorem from_loop {l : List Int} (hl : (l.length : Int) ≤ 4096) (hb : ∀ x ∈ l, 0 ≤ x ∧ x < 256) (p : Int) : ∀ (k : Nat) (i s : Int), 0 ≤ i → i ≤ 64 → 64 - i < (k : Int) → 0 ≤ s → s < 2147483647 →
    ∃ s', spec_l01From.l0 k l i l p s = some (l, p, s') ∧ 0 ≤ s' ∧ s' < 2147483647
  | 0, i, s, h0, h1, h2, _, _ => by omega
  | k + 1, i, s, h0, h1, h2, h3, h4 => by
    unfold spec_l01From.l0
    by_cases hi : i < (l.length : Int)
    · rw [if_pos hi]
      by_cases h6 : i < 64
      · rw [if_pos h6, if_pos h0]
        have m := hb _ (rd_mem h0 hi)
        rw [wrap_id (x := i + 1) (by omega) (by omega), wrap_id (x := rd l i) (by omega) (by omega), wrap_id (x := s * 73) (by omega) (by omega), wrap_id (x := s * 73 + rd l i) (by omega) (by omega)]
        have t := tm_bd (X := s * 73 + rd l i) (n := 2147483647) (by omega) (by decide)
        exact from_loop hl hb p k (i + 1) _ (by omega) (by omega) (by omega) t.1 t.2
      · rw [if_neg h6]; exact ⟨s, rfl, h3, h4⟩
    · rw [if_neg hi]; exact ⟨s, rfl, h3, h4⟩
theorem from_eq {l : List Int} (hl : (l.length : Int) ≤ 4096) (hb : ∀ x ∈ l, 0 ≤ x ∧ x < 256) (k : Nat) (hk : 65 ≤ k) : ∃ p s, spec_l01From.f k l = some (l, p, s) ∧ St l p s := by
  obtain ⟨s, e, h1, h2⟩ := from_loop hl hb 0 k 0 93001 (by omega) (by omega) (by omega) (by omega) (by omega)
  exact ⟨0, s, e, hl, hb, by omega, by omega, h1, h2⟩
theorem pick_eq {l : List Int} {p s : Int} (h : St l p s) (L : List Int) (hL : 0 < L.length) : ∃ v p' s', spec_l01Pick.f l p s L = some (v, p', s') ∧ St l p' s' ∧ v ∈ L := by
  unfold spec_l01Pick.f
  obtain ⟨r, p', s', e, hs, b1, b2⟩ := next_eq h (L.length : Int)
  rw [e]
  simp only [Option.bind_some]
  have hr : r < (L.length : Int) := by rcases b2 with b | b <;> omega
  rw [if_pos b1, if_pos hr]
  exact ⟨_, _, _, rfl, hs, rd_mem b1 hr⟩
theorem draw_eq {l : List Int} {p s : Int} (h : St l p s) : ∃ x y p' s', spec_l01Draw.f l p s = some (x, y, p', s') ∧ St l p' s' ∧ (-1001 ≤ x ∧ x ≤ 1001) ∧ (-1001 ≤ y ∧ y ≤ 1001) := by
  unfold spec_l01Draw.f
  obtain ⟨r, p1, s1, e1, h1, b1, b2⟩ := next_eq h 40
  rw [e1]
  simp only [Option.bind_some]
  split
  · obtain ⟨v, p2, s2, e2, h2, m2⟩ := pick_eq h1 [-1000, 1000, 1001, 0] (by decide)
    rw [e2]
    simp only [Option.bind_some]
    obtain ⟨v', p3, s3, e3, h3, m3⟩ := pick_eq h2 [-1001, 1000, 0] (by decide)
    rw [e3]
    simp only [Option.bind_some]
    simp only [List.mem_cons, List.not_mem_nil, or_false] at m2 m3
    exact ⟨_, _, _, _, rfl, h3, by omega, by omega⟩
  · obtain ⟨v, p2, s2, e2, h2, m2⟩ := pick_eq h1 [4, 9, 30] (by decide)
    rw [e2]
    simp only [Option.bind_some]
    simp only [List.mem_cons, List.not_mem_nil, or_false] at m2
    rw [wrap_id (x := 2 * v) (by omega) (by omega), wrap_id (x := 2 * v + 1) (by omega) (by omega)]
    obtain ⟨r3, p3, s3, e3, h3, b3, c3⟩ := next_eq h2 (2 * v + 1)
    rw [e3]
    simp only [Option.bind_some]
    obtain ⟨r4, p4, s4, e4, h4, b4, c4⟩ := next_eq h3 (2 * v + 1)
    rw [e4]
    simp only [Option.bind_some]
    rw [wrap_id (x := r3 - v) (by omega) (by omega), wrap_id (x := r4 - v) (by omega) (by omega)]
    exact ⟨_, _, _, _, rfl, h4, by omega, by omega⟩
theorem big_eq (l : List Int) : laws_big.f l = some (decide ((l.length : Int) > 4096)) := rfl
theorem draw3_eq {l : List Int} {p s : Int} (h : St l p s) : ∃ a b c p' s', spec_l03Draw.f l p s = some (a, b, c, p', s') ∧ St l p' s' ∧ (-100 ≤ a ∧ a ≤ 100) := by
  unfold spec_l03Draw.f
  obtain ⟨r1, p1, s1, e1, h1, b1, c1⟩ := next_eq h 6
  rw [e1]
  simp only [Option.bind_some]
  obtain ⟨r2, p2, s2, e2, h2, b2, c2⟩ := next_eq h1 6
  rw [e2]
  simp only [Option.bind_some]
  rw [wrap_id (x := 1 + r1) (by omega) (by omega)]
  obtain ⟨r3, p3, s3, e3, h3, b3, c3⟩ := next_eq h2 (1 + r1)
  rw [e3]
  simp only [Option.bind_some]
  obtain ⟨r4, p4, s4, e4, h4, b4, c4⟩ := next_eq h3 60
  rw [e4]
  simp only [Option.bind_some]
  split
  · obtain ⟨v, p5, s5, e5, h5, m5⟩ := pick_eq h4 [0, 64, 65, 8] (by decide)
    rw [e5]
    simp only [List.mem_cons, List.not_mem_nil, or_false] at m5
    exact ⟨_, _, _, _, _, rfl, h5, by omega⟩
  · split
    · obtain ⟨v, p5, s5, e5, h5, m5⟩ := pick_eq h4 [-1, 1 + r1, wrap64 (1 + r1 - 1)] (by simp)
      rw [e5]
      exact ⟨_, _, _, _, _, rfl, h5, by omega⟩
    · split
      · obtain ⟨v, p5, s5, e5, h5, m5⟩ := pick_eq h4 [8, 9] (by decide)
        rw [e5]
        exact ⟨_, _, _, _, _, rfl, h5, by omega⟩
      · exact ⟨_, _, _, _, _, rfl, h4, by omega⟩
theorem drawReduce_eq {l : List Int} (hl : (l.length : Int) ≤ 4096) (hb : ∀ x ∈ l, 0 ≤ x ∧ x < 256) (k : Nat) (hk : 65 ≤ k) : ∃ a b c x y, spec_DrawReduceVec.f k l = some (a, b, c, x, y) ∧ (-100 ≤ a ∧ a ≤ 100) := by
  unfold spec_DrawReduceVec.f
  obtain ⟨p, s, e, h⟩ := from_eq hl hb k hk
  rw [e]
  simp only [Option.bind_some]
  obtain ⟨a, b, c, p1, s1, e1, h1, k1⟩ := draw3_eq h
  rw [e1]
  simp only [Option.bind_some]
  obtain ⟨x, y, p2, s2, e2, h2, _⟩ := draw_eq h1
  rw [e2]
  exact ⟨_, _, _, _, _, rfl, k1⟩
theorem drawIn_eq {l : List Int} (hl : (l.length : Int) ≤ 4096) (hb : ∀ x ∈ l, 0 ≤ x ∧ x < 256) (k : Nat) (hk : 65 ≤ k) : ∃ a b c x y, spec_DrawIsInLattice.f k l = some (a, b, c, x, y) ∧ (-100 ≤ a ∧ a ≤ 100) := by
  unfold spec_DrawIsInLattice.f
  obtain ⟨p, s, e, h⟩ := from_eq hl hb k hk
  rw [e]
  simp only [Option.bind_some]
  obtain ⟨a, b, c, p1, s1, e1, h1, k1⟩ := draw3_eq h
  rw [e1]
  simp only [Option.bind_some]
  obtain ⟨r0, p0, s0, e0, h0, _⟩ := next_eq h1 2
  rw [e0]
  simp only [Option.bind_some]
  split
  · obtain ⟨x, y, p2, s2, e2, h2, _⟩ := draw_eq h0
    rw [e2]
    exact ⟨_, _, _, _, _, rfl, k1⟩
  · obtain ⟨r2, p2, s2, e2, h2, _⟩ := next_eq h0 9
    rw [e2]
    simp only [Option.bind_some]
    obtain ⟨r3, p3, s3, e3, h3, _⟩ := next_eq h2 9
    rw [e3]
    exact ⟨_, _, _, _, _, rfl, k1⟩
theorem drawLat_eq {l : List Int} (hl : (l.length : Int) ≤ 4096) (hb : ∀ x ∈ l, 0 ≤ x ∧ x < 256) (k : Nat) (hk : 65 ≤ k) : ∃ a b c d, spec_DrawLatticeOf.f k l = some (a, b, c, d) := by
  unfold spec_DrawLatticeOf.f
  obtain ⟨p, s, e, h⟩ := from_eq hl hb k hk
  rw [e]
  simp only [Option.bind_some]
  obtain ⟨r0, p0, s0, e0, h0, _⟩ := next_eq h 8
  rw [e0]
  simp only [Option.bind_some]
  split
  · obtain ⟨x, y, p2, s2, e2, h2, _⟩ := draw_eq h0
    rw [e2]
    simp only [Option.bind_some]
    obtain ⟨x3, y3, p3, s3, e3, h3, _⟩ := draw_eq h2
    rw [e3]
    exact ⟨_, _, _, _, rfl⟩
  · obtain ⟨r2, p2, s2, e2, h2, _⟩ := next_eq h0 11
    rw [e2]
    simp only [Option.bind_some]
    obtain ⟨r3, p3, s3, e3, h3, _⟩ := next_eq h2 11
    rw [e3]
    simp only [Option.bind_some]
    obtain ⟨r4, p4, s4, e4, h4, _⟩ := next_eq h3 11
    rw [e4]
    simp only [Option.bind_some]
    obtain ⟨r5, p5, s5, e5, h5, _⟩ := next_eq h4 11
    rw [e5]
    exact ⟨_, _, _, _, rfl⟩
theorem red_in {a b c x y : Int} (hl : latB a b c = true) : L a b c (x - (redV a b c x y).1) (y - (redV a b c x y).2) := by
  obtain ⟨⟨a1, a2⟩, ⟨c1, c2⟩, _⟩ := latB_iff.mp hl
  unfold redV
  simp only
  refine ⟨(x - y / c * b) / a, y / c, ?_, ?_⟩
  · have := Int.emod_add_mul_ediv (x - y / c * b) a
    have e : (x - y / c * b) / a * a = a * ((x - y / c * b) / a) := Int.mul_comm _ _
    omega
  · have := Int.emod_add_mul_ediv y c
    have e : y / c * c = c * (y / c) := Int.mul_comm _ _
    omega
theorem lattices_j1 (k : Nat) {a b c x y : Int} (w : -100 ≤ a ∧ a ≤ 100) : laws_FnLattices.j1 (k + 2) (reduceR a b c x y).2.2 a b c x y (reduceR a b c x y).1 (reduceR a b c x y).2.1 = some true := by
  rw [laws_FnLattices.j1]
  unfold reduceR
  by_cases h : latB a b c = true ∧ vecB x y = true
  · rw [if_pos h, if_pos rfl]
    obtain ⟨⟨a1, a2⟩, ⟨c1, c2⟩, ⟨b1, b2⟩, hac⟩ := latB_iff.mp h.1
    have hin := red_in (x := x) (y := y) h.1
    have r1 : 0 ≤ (redV a b c x y).1 ∧ (redV a b c x y).1 < a := ⟨Int.emod_nonneg _ (by omega), Int.emod_lt_of_pos _ (by omega)⟩
    have r2 : 0 ≤ (redV a b c x y).2 ∧ (redV a b c x y).2 < c := ⟨Int.emod_nonneg _ (by omega), Int.emod_lt_of_pos _ (by omega)⟩
    simp only
    generalize (redV a b c x y).1 = rx at *
    generalize (redV a b c x y).2 = ry at *
    have v1 : vecB rx ry = true := by unfold vecB; simp only [decide_eq_true_eq]; omega
    have v2 : vecB (-1 * rx) (-1 * ry) = true := by unfold vecB; simp only [decide_eq_true_eq]; omega
    have es : scaleR rx ry (-1) = (-1 * rx, -1 * ry, 0) := by unfold scaleR lim; rw [if_pos v1, if_pos (by decide), if_pos v2]
    rw [impl_ScaleVec_eq, es]
    simp only [Option.bind_some]
    rw [impl_AddVecs_eq]
    simp only [Option.bind_some, if_true]
    have ea : addR x y (-1 * rx) (-1 * ry) = lim (x + -1 * rx) (y + -1 * ry) := by unfold addR; rw [if_pos ⟨h.2, v2⟩]
    rw [ea]
    unfold lim
    by_cases hv : vecB (x + -1 * rx) (y + -1 * ry) = true
    · rw [if_pos hv, if_pos rfl, impl_IsInLattice_eq a b c _ _ (by omega) (by omega)]
      simp only [Option.bind_some]
      have ei : inR a b c (x + -1 * rx) (y + -1 * ry) = (true, 0) := by
        unfold inR
        rw [if_pos ⟨h.1, hv⟩, (hasB_iff (by omega)).mpr]
        rw [show x + -1 * rx = x - rx by omega, show y + -1 * ry = y - ry by omega]; exact hin
      rw [ei]
      simp only [if_true]
      rw [if_pos (by omega), if_pos (by omega), if_pos (by omega), decide_eq_true (by omega)]
    · rw [if_neg hv]; simp
  · rw [if_neg h]; simp
/-- What the lattice of two vectors answers. -/
theorem lattices_two (p q r s : Int) : ∃ A B C z, (∀ k, 1003100001 ≤ k → spec_LatticeOf.f k p q r s = some (A, B, C, z)) ∧ (∀ k, 1003100001 ≤ k → impl_LatticeOf.f k p q r s = some (A, B, C, z)) ∧
    (z = 0 → latB A B C = true ∧ vecB p q = true ∧ vecB r s = true ∧ A * C = (p * s - q * r).natAbs ∧ L A B C p q ∧ L A B C r s) := by
  by_cases h : vecB p q = true ∧ vecB r s = true
  · by_cases hd : p * s - q * r = 0
    · refine ⟨0, 0, 0, 5, fun k hk => ?_, fun k hk => ?_, by omega⟩
      · obtain ⟨k, rfl⟩ : ∃ m, k = m + 1 := ⟨k - 1, by omega⟩
        exact spec_LatticeOf_zero _ h.1 h.2 hd
      · obtain ⟨k, rfl⟩ : ∃ m, k = m + 1 := ⟨k - 1, by omega⟩
        exact impl_LatticeOf_zero _ h.1 h.2 hd
    · obtain ⟨A, B, C, hh, hk⟩ := spec_LatticeOf_is h.1 h.2 hd
      obtain ⟨A', B', C', hh', hk'⟩ := impl_LatticeOf_is h.1 h.2 hd
      obtain ⟨rfl, rfl, rfl⟩ := hh.unique hh'
      by_cases hg : latB A B C = true
      · simp only [if_pos hg] at hk hk'
        exact ⟨A, B, C, 0, hk, hk', fun _ => ⟨hg, h.1, h.2, hh.index, (hh.2.2.2.2 p q).mpr ⟨1, 0, by omega, by omega⟩, (hh.2.2.2.2 r s).mpr ⟨0, 1, by omega, by omega⟩⟩⟩
      · simp only [if_neg hg] at hk hk'
        exact ⟨0, 0, 0, 3, hk, hk', by omega⟩
  · refine ⟨0, 0, 0, 1, fun k hk => ?_, fun k hk => ?_, by omega⟩
    · obtain ⟨k, rfl⟩ : ∃ m, k = m + 1 := ⟨k - 1, by omega⟩
      exact spec_LatticeOf_not _ h
    · obtain ⟨k, rfl⟩ : ∃ m, k = m + 1 := ⟨k - 1, by omega⟩
      exact impl_LatticeOf_not _ h
theorem lattices_j0 (k : Nat) {a b c x y p q r s A B C z : Int} (w : -100 ≤ a ∧ a ≤ 100)
    (hz : z = 0 → latB A B C = true ∧ vecB p q = true ∧ vecB r s = true ∧ A * C = (p * s - q * r).natAbs ∧ L A B C p q ∧ L A B C r s) :
    laws_FnLattices.j0 (k + 3) (reduceR a b c x y).2.2 z false a b c x y (reduceR a b c x y).1 (reduceR a b c x y).2.1 p q r s A B C = some true := by
  rw [laws_FnLattices.j0, if_neg (by decide), lattices_j1 k w]
  by_cases h : z = 0
  · obtain ⟨hl, v1, v2, hi, i1, i2⟩ := hz h
    obtain ⟨⟨a1, a2⟩, ⟨c1, c2⟩, ⟨b1, b2⟩, hac⟩ := latB_iff.mp hl
    rw [if_pos h, impl_DetOf_eq, impl_IsInLattice_eq A B C _ _ (by omega) (by omega), impl_IsInLattice_eq A B C _ _ (by omega) (by omega)]
    have e1 : inR A B C p q = (true, 0) := by unfold inR; rw [if_pos ⟨hl, v1⟩, (hasB_iff (by omega)).mpr i1]
    have e2 : inR A B C r s = (true, 0) := by unfold inR; rw [if_pos ⟨hl, v2⟩, (hasB_iff (by omega)).mpr i2]
    have e3 : detR p q r s = (p * s - q * r, 0) := by unfold detR; rw [if_pos ⟨v1, v2⟩]
    rw [e1, e2, e3]
    simp only [Option.bind_some, if_true]
    rw [mx_abs (by omega) (by omega), wrap_id (x := A * C) (by omega) (by omega), hi, if_pos rfl]
  · rw [if_neg h]
theorem main (l0 : List Int) (hm0 : l0.length ≤ maxLen) (y0 : l0.length * 1 ≤ 140737488351232) (w0 : ∀ x ∈ l0, (Go.Lit.int .u8 x).wf = true) : ∃ k, laws_FnLattices.f k l0 = some true := by
  have hb : ∀ x ∈ l0, 0 ≤ x ∧ x < 256 := fun x hx => u8_bd (w0 x hx)
  by_cases hl : (l0.length : Int) ≤ 4096
  · obtain ⟨a, b, c, x, y, e1, k1⟩ := drawReduce_eq hl hb (1003100001 + 3) (by decide)
    obtain ⟨a', b', c', x', y', e2, k2⟩ := drawIn_eq hl hb (1003100001 + 3) (by decide)
    obtain ⟨p, q, r, s, e3⟩ := drawLat_eq hl hb (1003100001 + 3) (by decide)
    obtain ⟨A, B, C, z, hS, hI, hz⟩ := lattices_two p q r s
    have hj := lattices_j0 (b := b) (c := c) (x := x) (y := y) 1003100001 k1 hz
    refine ⟨1003100001 + 3, ?_⟩
    unfold laws_FnLattices.f
    rw [big_eq, e1, e2, e3, decide_eq_false (by omega)]
    simp only [Option.bind_some]
    rw [impl_ReduceVec_eq a b c x y (by omega) (by omega), spec_ReduceVec_eq a b c x y (by omega) (by omega), impl_IsInLattice_eq a' b' c' x' y' (by omega) (by omega), spec_IsInLattice_eq a' b' c' x' y' (by omega) (by omega), hS _ (by decide), hI _ (by decide), impl_IsLattice_eq a b c (by omega) (by omega), spec_IsLattice_eq a b c (by omega) (by omega)]
    simp only [Option.bind_some, Bool.false_eq_true, if_false, beq_self_eq_true, Bool.not_true, Bool.or_self, if_true, bne_self_eq_false]
    exact hj
  · refine ⟨1, ?_⟩
    unfold laws_FnLattices.f
    rw [big_eq, decide_eq_true (by omega)]
    rfl
end Go.Proofs.Ytjjbjaagfjljnaa.PureFnLattices

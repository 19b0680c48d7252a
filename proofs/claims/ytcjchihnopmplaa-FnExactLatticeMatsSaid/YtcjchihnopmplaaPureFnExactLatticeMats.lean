/-
The law FnExactLatticeMats, over numbers and lists alone: the printed functions of the program and of the reference answer alike. No condition but that each number is an int64.
-/
import Derived.Test.YtcjchihnopmplaaB10
import GoSem.Claim
namespace Go.Proofs.Ytcjchihnopmplaa.PureFnExactLatticeMats
open Go.RowKit Go.Proofs.Ytcjchihnopmplaa.F Go.Proofs.YtcjchihnopmplaaW.PrintWords Go.Proofs.YtcjchihnopmplaaW.PrintLast Go.Proofs.YtcjchihnopmplaaW.PrintMore
set_option linter.unusedVariables false
set_option linter.unusedSimpArgs false
theorem gcd_tmod (a b : Int) : Int.gcd b (a.tmod b) = Int.gcd a b := by
  unfold Int.gcd
  rw [Int.natAbs_tmod, Nat.gcd_comm a.natAbs, Nat.gcd_rec b.natAbs a.natAbs, Nat.gcd_comm]
theorem bezout_nat : ∀ (n : Nat) (a b : Int), b.natAbs ≤ n → ∃ s t : Int, (Int.gcd a b : Int) = s * a + t * b := by
  intro n
  induction n with
  | zero =>
    intro a b h
    have hb : b = 0 := by omega
    subst hb
    rcases Int.natAbs_eq a with h | h
    · exact ⟨1, 0, by rw [Int.gcd_zero_right]; omega⟩
    · exact ⟨-1, 0, by rw [Int.gcd_zero_right]; omega⟩
  | succ n ih =>
    intro a b h
    by_cases hb : b = 0
    · exact ih a b (by omega)
    · have h1 : (a.tmod b).natAbs ≤ n := by
        rw [Int.natAbs_tmod]
        have := Nat.mod_lt a.natAbs (show 0 < b.natAbs by omega)
        omega
      obtain ⟨s, t, e⟩ := ih b (a.tmod b) h1
      refine ⟨t, s - t * (a.tdiv b), ?_⟩
      rw [← gcd_tmod a b, e]
      have := Int.mul_tdiv_add_tmod a b
      grind
theorem bezout (a b : Int) : ∃ s t : Int, (Int.gcd a b : Int) = s * a + t * b := bezout_nat _ a b (Nat.le_refl _)
/-- (x, y) is a sum of multiples of (a, 0) and (b, c). -/
def L (a b c x y : Int) : Prop := ∃ m n : Int, x = m * a + n * b ∧ y = n * c
theorem L_iff {a b c x y : Int} (hc : c ≠ 0) : L a b c x y ↔ (y % c = 0 ∧ (x - (y / c) * b) % a = 0) := by
  constructor
  · rintro ⟨m, n, rfl, rfl⟩
    refine ⟨Int.mul_emod_left n c, ?_⟩
    rw [Int.mul_ediv_cancel n hc]
    have : m * a + n * b - n * b = m * a := by omega
    rw [this]; exact Int.mul_emod_left m a
  · rintro ⟨h1, h2⟩
    obtain ⟨n, rfl⟩ := Int.dvd_of_emod_eq_zero h1
    rw [Int.mul_ediv_cancel_left n hc] at h2
    obtain ⟨m, hm⟩ := Int.dvd_of_emod_eq_zero h2
    exact ⟨m, n, by grind, by grind⟩
/-- The index: what spans the same lattice has the same determinant, up to its sign. -/
theorem L_index {a b c ux uy vx vy : Int} (ha : 0 < a) (hc : 0 < c) (h : ∀ x y, L a b c x y ↔ ∃ i j : Int, x = i * ux + j * vx ∧ y = i * uy + j * vy) :
    a * c = (ux * vy - uy * vx).natAbs := by
  obtain ⟨m1, n1, e1, e2⟩ := (h ux uy).mpr ⟨1, 0, by omega, by omega⟩
  obtain ⟨m2, n2, e3, e4⟩ := (h vx vy).mpr ⟨0, 1, by omega, by omega⟩
  obtain ⟨i1, j1, e5, e6⟩ := (h a 0).mp ⟨1, 0, by omega, by omega⟩
  obtain ⟨i2, j2, e7, e8⟩ := (h b c).mp ⟨0, 1, by omega, by omega⟩
  have d1 : (a * c) ∣ (ux * vy - uy * vx) := ⟨m1 * n2 - n1 * m2, by subst e1 e2 e3 e4; grind⟩
  have d2 : (ux * vy - uy * vx) ∣ (a * c) := ⟨i1 * j2 - j1 * i2, by grind⟩
  have hp : 0 < a * c := Int.mul_pos ha hc
  have d1' : (a * c) ∣ ((ux * vy - uy * vx).natAbs : Int) := Int.dvd_natAbs.mpr d1
  have d2' : ((ux * vy - uy * vx).natAbs : Int) ∣ (a * c) := Int.natAbs_dvd.mpr d2
  exact Int.dvd_antisymm (by omega) (by omega) d1' d2'
theorem L_rank {a b c ux uy vx vy : Int} (hu : L a b c ux uy) (hv : L a b c vx vy) (hd : ux * vy - uy * vx ≠ 0) : a ≠ 0 ∧ c ≠ 0 := by
  obtain ⟨m1, n1, e1, e2⟩ := hu
  obtain ⟨m2, n2, e3, e4⟩ := hv
  subst e1 e2 e3 e4
  constructor
  · rintro rfl; apply hd; grind
  · rintro rfl; apply hd; grind
/-- All sums of multiples of two vectors. -/
def S2 (px py vx vy x y : Int) : Prop := ∃ i j : Int, x = i * px + j * vx ∧ y = i * py + j * vy
theorem S2_step (px py vx vy k x y : Int) : S2 vx vy (px - k * vx) (py - k * vy) x y ↔ S2 px py vx vy x y := by
  constructor
  · rintro ⟨i, j, rfl, rfl⟩; exact ⟨j, i - j * k, by grind, by grind⟩
  · rintro ⟨i, j, rfl, rfl⟩; exact ⟨j + i * k, i, by grind, by grind⟩
/-- One vector more: what the divisor step does. -/
theorem L_more {low px py ux uy px' py' vx' low' : Int} (hs : ∀ x y, S2 px' py' vx' 0 x y ↔ S2 px py ux uy x y) (hg : low' = Int.gcd low vx') (x y : Int) :
    L low' px' py' x y ↔ ∃ j, L low px py (x - j * ux) (y - j * uy) := by
  constructor
  · rintro ⟨m, n, e1, e2⟩
    obtain ⟨s, t, e⟩ := bezout low vx'
    obtain ⟨i, j, e3, e4⟩ := (hs (x - m * s * low) y).mp ⟨n, m * t, by subst e1; rw [hg, e]; grind, by grind⟩
    exact ⟨j, m * s, i, by grind, by grind⟩
  · rintro ⟨j, m, n, e1, e2⟩
    obtain ⟨i', j', e3, e4⟩ := (hs (x - m * low) y).mpr ⟨n, j, by grind, by grind⟩
    have d1 : low' ∣ low := by rw [hg]; exact Int.gcd_dvd_left low vx'
    have d2 : low' ∣ vx' := by rw [hg]; exact Int.gcd_dvd_right low vx'
    obtain ⟨p, hp⟩ := d1
    obtain ⟨q, hq⟩ := d2
    exact ⟨m * p + j' * q, i', by grind, by grind⟩
theorem L_neg (a b c x y : Int) : L a (-b) (-c) x y ↔ L a b c x y := by
  constructor
  · rintro ⟨m, n, e1, e2⟩; exact ⟨m, -n, by grind, by grind⟩
  · rintro ⟨m, n, e1, e2⟩; exact ⟨m, -n, by grind, by grind⟩
theorem L_mod (a b c x y : Int) : L a (b % a) c x y ↔ L a b c x y := by
  constructor
  · rintro ⟨m, n, e1, e2⟩; rw [Int.emod_def] at e1; exact ⟨m - n * (b / a), n, by grind, by grind⟩
  · rintro ⟨m, n, e1, e2⟩; refine ⟨m + n * (b / a), n, ?_, e2⟩; rw [Int.emod_def]; grind
theorem L_zero (x y : Int) : L 0 0 0 x y ↔ x = 0 ∧ y = 0 := by
  constructor
  · rintro ⟨m, n, e1, e2⟩; exact ⟨by grind, by grind⟩
  · rintro ⟨rfl, rfl⟩; exact ⟨0, 0, by grind, by grind⟩
theorem L_add {a b c x y x' y' : Int} (h : L a b c x y) (h' : L a b c x' y') (i j : Int) : L a b c (i * x + j * x') (i * y + j * y') := by
  obtain ⟨m, n, rfl, rfl⟩ := h
  obtain ⟨m', n', rfl, rfl⟩ := h'
  exact ⟨i * m + j * m', i * n + j * n', by grind, by grind⟩
theorem tmod_cases (a n : Int) (hn : 0 < n) : (0 ≤ a ∧ a.tmod n = a % n) ∨ (a < 0 ∧ a.tmod n = -((-a) % n)) := by
  rcases Int.lt_or_le a 0 with h | h
  · refine Or.inr ⟨h, ?_⟩
    have : a.tmod n = -((-a).tmod n) := by rw [Int.neg_tmod, Int.neg_neg]
    rw [this, Int.tmod_eq_emod_of_nonneg (by omega)]
  · exact Or.inl ⟨h, Int.tmod_eq_emod_of_nonneg h⟩
theorem tmod_bounds (a n : Int) (hn : 0 < n) : -n < a.tmod n ∧ a.tmod n < n := by
  have h1 := Int.emod_nonneg a (show n ≠ 0 by omega)
  have h2 := Int.emod_lt_of_pos a hn
  have h3 := Int.emod_nonneg (-a) (show n ≠ 0 by omega)
  have h4 := Int.emod_lt_of_pos (-a) hn
  rcases tmod_cases a n hn with ⟨_, e⟩ | ⟨_, e⟩ <;> rw [e] <;> omega
theorem neg_emod_add (a n : Int) (hn : 0 < n) : a % n = (n - (-a) % n) % n := by
  have e := Int.mul_ediv_add_emod (-a) n
  have : n - (-a) % n = a + n * ((-a) / n + 1) := by rw [Int.mul_add]; omega
  rw [this, Int.add_mul_emod_self_left]
theorem mod_add (a n : Int) (hn : 0 < n) : (a.tmod n + n).tmod n = a % n := by
  have h1 := Int.emod_nonneg a (show n ≠ 0 by omega)
  have h2 := Int.emod_lt_of_pos a hn
  have h3 := Int.emod_nonneg (-a) (show n ≠ 0 by omega)
  have h4 := Int.emod_lt_of_pos (-a) hn
  rcases tmod_cases a n hn with ⟨_, e⟩ | ⟨_, e⟩ <;> rw [e, Int.tmod_eq_emod_of_nonneg (by omega)]
  · rw [Int.add_emod_right, Int.emod_emod]
  · rw [neg_emod_add a n hn]; congr 1; omega
theorem mod_if (a n : Int) (hn : 0 < n) : (if a.tmod n < 0 then a.tmod n + n else a.tmod n) = a % n := by
  have h1 := Int.emod_nonneg a (show n ≠ 0 by omega)
  have h3 := Int.emod_nonneg (-a) (show n ≠ 0 by omega)
  have h4 := Int.emod_lt_of_pos (-a) hn
  rcases tmod_cases a n hn with ⟨_, e⟩ | ⟨_, e⟩ <;> rw [e]
  · rw [if_neg (by omega)]
  · split
    · rw [neg_emod_add a n hn, Int.emod_eq_of_lt (a := n - (-a) % n) (b := n) (by omega) (by omega)]; omega
    · have : (-a) % n = 0 := by omega
      rw [neg_emod_add a n hn, this]; simp
theorem tdiv_row (y c : Int) (hc : 0 < c) : (y - y % c).tdiv c = y / c := by
  have e := Int.mul_ediv_add_emod y c
  have : y - y % c = c * (y / c) := by omega
  rw [this, Int.mul_tdiv_cancel_left _ (by omega)]
theorem euclid {px py vx vy : Int} {M : Nat} (hv : vy ≠ 0) (hQ : px.natAbs * vy.natAbs + vx.natAbs * py.natAbs ≤ M) :
    (py.tdiv vy).natAbs ≤ py.natAbs ∧ (py.tdiv vy * vx).natAbs ≤ M ∧ (px - py.tdiv vy * vx).natAbs ≤ M ∧ (py.tdiv vy * vy).natAbs ≤ py.natAbs ∧
      (py - py.tdiv vy * vy).natAbs < vy.natAbs ∧ vx.natAbs * (py - py.tdiv vy * vy).natAbs + (px - py.tdiv vy * vx).natAbs * vy.natAbs ≤ M := by
  have hV : 0 < vy.natAbs := by omega
  have eK : (py.tdiv vy).natAbs = py.natAbs / vy.natAbs := Int.natAbs_tdiv py vy
  have e1 : py - py.tdiv vy * vy = py.tmod vy := by have := Int.mul_tdiv_add_tmod py vy; rw [Int.mul_comm] at this; omega
  have eR : (py.tmod vy).natAbs = py.natAbs % vy.natAbs := Int.natAbs_tmod py vy
  have e2 := Nat.div_add_mod py.natAbs vy.natAbs
  have h3 : (px - py.tdiv vy * vx).natAbs ≤ px.natAbs + (py.tdiv vy).natAbs * vx.natAbs := by
    have := Int.natAbs_sub_le px (py.tdiv vy * vx)
    rw [Int.natAbs_mul] at this; exact this
  have hK := Nat.div_le_self py.natAbs vy.natAbs
  have hR := Nat.mod_lt py.natAbs hV
  rw [e1, eR, Int.natAbs_mul, Int.natAbs_mul, eK]
  rw [eK] at h3
  generalize (px - py.tdiv vy * vx).natAbs = Z at *
  generalize py.natAbs / vy.natAbs = K at *
  generalize py.natAbs % vy.natAbs = R at *
  generalize py.natAbs = P at *
  generalize vy.natAbs = V at *
  generalize vx.natAbs = Y at *
  generalize px.natAbs = X at *
  have q : Y * R + (X + K * Y) * V = X * V + Y * P := by rw [← e2]; grind
  have q2 : Z * V ≤ (X + K * Y) * V := Nat.mul_le_mul_right V h3
  have q3 : X + K * Y ≤ (X + K * Y) * V := Nat.le_mul_of_pos_right _ hV
  have q4 : K * V ≤ P := by rw [Nat.mul_comm] ; omega
  have q5 : 0 ≤ Y * R := Nat.zero_le _
  have q6 : 0 ≤ X := Nat.zero_le _
  refine ⟨hK, ?_, ?_, q4, hR, ?_⟩
  · generalize K * Y = KY at *; omega
  · omega
  · omega
def latB (a b c : Int) : Bool := decide ((1 ≤ a ∧ a ≤ 64) ∧ (1 ≤ c ∧ c ≤ 64) ∧ (0 ≤ b ∧ b ≤ a - 1) ∧ a * c ≤ 64)
theorem wrap_id {x : Int} (h1 : -9223372036854775808 ≤ x) (h2 : x < 9223372036854775808) : wrap64 x = x := by unfold wrap64; omega
theorem prod_bd {a b A B : Int} (ha : -A ≤ a) (ha' : a ≤ A) (hb : -B ≤ b) (hb' : b ≤ B) (hA : 0 ≤ A) : -(A * B) ≤ a * b ∧ a * b ≤ A * B := by
  have h1 : (a * b).natAbs ≤ A.natAbs * B.natAbs := by rw [Int.natAbs_mul]; exact Nat.mul_le_mul (by omega) (by omega)
  have h2 : (A * B).natAbs = A.natAbs * B.natAbs := Int.natAbs_mul A B
  have h3 : 0 ≤ A * B := Int.mul_nonneg hA (by omega)
  omega
theorem latB_iff {a b c : Int} : latB a b c = true ↔ (1 ≤ a ∧ a ≤ 64) ∧ (1 ≤ c ∧ c ≤ 64) ∧ (0 ≤ b ∧ b ≤ a - 1) ∧ a * c ≤ 64 := by unfold latB; rw [decide_eq_true_iff]
/-- Products of small numbers need no wrapping. -/
theorem wrap_mul {a b A B : Int} (ha : -A ≤ a) (ha' : a ≤ A) (hb : -B ≤ b) (hb' : b ≤ B) (hA : 0 ≤ A) (h : A * B < 9223372036854775808) : wrap64 (a * b) = a * b := by
  have := prod_bd ha ha' hb hb' hA; exact wrap_id (by omega) (by omega)
/-- a x + b y for small numbers. -/
theorem lin_wrap {a b x y : Int} (A : Int) (ha : -A ≤ a ∧ a ≤ A) (hb : -A ≤ b ∧ b ≤ A) (hx : -A ≤ x ∧ x ≤ A) (hy : -A ≤ y ∧ y ≤ A) (hA : 0 ≤ A) (hA2 : A ≤ 1000000000) :
    wrap64 (wrap64 (a * x) + wrap64 (b * y)) = a * x + b * y ∧ (-(2 * (A * A)) ≤ a * x + b * y ∧ a * x + b * y ≤ 2 * (A * A)) := by
  have h1 := prod_bd ha.1 ha.2 hx.1 hx.2 hA
  have h2 := prod_bd hb.1 hb.2 hy.1 hy.2 hA
  have h3 : A * A ≤ 1000000000 * 1000000000 := Int.mul_le_mul hA2 hA2 hA (by omega)
  rw [wrap_id (x := a * x) (by omega) (by omega), wrap_id (x := b * y) (by omega) (by omega), wrap_id (by omega) (by omega)]
  omega
theorem mx_abs {a : Int} (h1 : -9223372036854775808 < a) (h2 : a < 9223372036854775808) : mx a (wrap64 (-a)) = (a.natAbs : Int) := by
  rw [wrap_id (by omega) (by omega)]; unfold mx; split <;> omega
def frameB (f : Int) : Bool := decide (f = 0 ∨ f = 1)
/-- The cell of a vector. -/
def redV (a b c x y : Int) : Int × Int := ((x - y / c * b) % a, y % c)
def hasB (a b c x y : Int) : Bool := (redV a b c x y).1 == 0 && (redV a b c x y).2 == 0
theorem hasB_iff {a b c x y : Int} (hc : c ≠ 0) : hasB a b c x y = true ↔ L a b c x y := by
  rw [L_iff hc]; unfold hasB redV; simp [and_comm]
theorem wf_bd {a : Int} (h : (Go.Lit.int .i64 a).wf = true) : -9223372036854775808 ≤ a ∧ a < 9223372036854775808 := by
  simp only [Go.Lit.wf, Bool.and_eq_true, decide_eq_true_eq] at h
  obtain ⟨h1, h2⟩ := h
  have e1 : Go.IntKind.min .i64 = -9223372036854775808 := by decide
  have e2 : Go.IntKind.max .i64 = 9223372036854775807 := by decide
  omega
/-- A reduced form of what some vectors span. -/
def Herm (sp : Int → Int → Prop) (A B C : Int) : Prop := 0 < A ∧ 0 < C ∧ 0 ≤ B ∧ B < A ∧ ∀ x y, L A B C x y ↔ sp x y
def sp2 (ux uy vx vy : Int) : Int → Int → Prop := fun x y => ∃ i j : Int, x = i * ux + j * vx ∧ y = i * uy + j * vy
theorem Herm.index {A B C ux uy vx vy : Int} (h : Herm (sp2 ux uy vx vy) A B C) : A * C = (ux * vy - uy * vx).natAbs := L_index h.1 h.2.1 h.2.2.2.2
/-- One vector more joins the span. -/
def plus (l p q ux uy l' p' q' : Int) : Prop := ∀ x y, L l' p' q' x y ↔ ∃ j, L l p q (x - j * ux) (y - j * uy)
theorem plus_two {l p q l' p' q' ux uy vx vy : Int} (h1 : plus 0 0 0 ux uy l p q) (h2 : plus l p q vx vy l' p' q') (x y : Int) : L l' p' q' x y ↔ sp2 ux uy vx vy x y := by
  rw [h2]
  constructor
  · rintro ⟨j, h⟩
    obtain ⟨i, h⟩ := (h1 _ _).mp h
    rw [L_zero] at h
    exact ⟨i, j, by omega, by omega⟩
  · rintro ⟨i, j, e1, e2⟩
    refine ⟨j, (h1 _ _).mpr ⟨i, ?_⟩⟩
    rw [L_zero]; omega
theorem gcd_le_bd {a b : Int} {M : Nat} (ha : a.natAbs ≤ M) (hb : b.natAbs ≤ M) : Int.gcd a b ≤ M := by
  by_cases h : a = 0
  · subst h; rw [Int.gcd_zero_left]; exact hb
  · exact Nat.le_trans (Int.gcd_le_natAbs_left (a := a) (b := b) h) ha
theorem le_mul_r {a c : Int} (ha : 0 ≤ a) (hc : 1 ≤ c) : a ≤ a * c := by
  have := Int.mul_le_mul_of_nonneg_left hc ha; omega
theorem le_mul_l {a c : Int} (hc : 0 ≤ c) (ha : 1 ≤ a) : c ≤ a * c := by
  have := Int.mul_le_mul_of_nonneg_right ha hc; omega
theorem L_row {a b c x : Int} (hc : c ≠ 0) : L a b c x 0 ↔ a ∣ x := by
  constructor
  · rintro ⟨m, n, e1, e2⟩
    have hn : n = 0 := by rcases Int.mul_eq_zero.mp e2.symm with h | h; exact h; exact absurd h hc
    subst hn; exact ⟨m, by rw [e1, Int.mul_comm]; omega⟩
  · rintro ⟨m, rfl⟩; exact ⟨m, 0, by rw [Int.mul_comm]; omega, by omega⟩
theorem spec_l01In_eq (a b c : Int) : spec_l01In.f a b c = some (decide (b ≤ a ∧ a ≤ c)) := by
  unfold spec_l01In.f; split <;> simp <;> omega
theorem impl_within_eq (a b c : Int) : impl_within.f a b c = some (decide (b ≤ a ∧ a ≤ c)) := by
  unfold impl_within.f; split <;> simp <;> omega
theorem spec_IsLattice_eq (a b c : Int) (h1 : -9223372036854775808 ≤ a) (h2 : a < 9223372036854775808) : spec_IsLattice.f a b c = some (latB a b c) := by
  unfold spec_IsLattice.f latB; simp only [spec_l01In_eq, Option.bind_some]
  by_cases ha : 1 ≤ a ∧ a ≤ 64
  · by_cases hc : 1 ≤ c ∧ c ≤ 64
    · rw [wrap_id (x := a - 1) (by omega) (by omega), wrap_mul (A := 64) (B := 64) (by omega) (by omega) (by omega) (by omega) (by omega) (by omega)]
      simp only [ha, hc, and_self, decide_true, if_true]
      by_cases hb : 0 ≤ b ∧ b ≤ a - 1 <;> simp [hb]
    · simp [ha]; split <;> simp_all <;> omega
  · simp; split <;> simp_all <;> omega
theorem impl_IsLattice_eq (a b c : Int) (h1 : -9223372036854775808 ≤ a) (h2 : a < 9223372036854775808) : impl_IsLattice.f a b c = some (latB a b c) := by
  unfold impl_IsLattice.f latB impl_Lattice_index.f; simp only [impl_within_eq, Option.bind_some]
  by_cases ha : 1 ≤ a ∧ a ≤ 64
  · by_cases hc : 1 ≤ c ∧ c ≤ 64
    · rw [wrap_id (x := a - 1) (by omega) (by omega), wrap_mul (A := 64) (B := 64) (by omega) (by omega) (by omega) (by omega) (by omega) (by omega)]
      simp only [ha, hc, and_self, decide_true, if_true]
      by_cases hb : 0 ≤ b ∧ b ≤ a - 1 <;> simp [hb]
    · simp [ha]; split <;> simp_all <;> omega
  · simp; split <;> simp_all <;> omega
theorem spec_l02Apply_eq (A : Int) {a b c d x y : Int} (hA : 0 ≤ A) (hA2 : A ≤ 1000000000) (ha : -A ≤ a ∧ a ≤ A) (hb : -A ≤ b ∧ b ≤ A) (hc : -A ≤ c ∧ c ≤ A) (hd : -A ≤ d ∧ d ≤ A) (hx : -A ≤ x ∧ x ≤ A) (hy : -A ≤ y ∧ y ≤ A) :
    spec_l02Apply.f a b c d x y = some (a * x + b * y, c * x + d * y) := by
  unfold spec_l02Apply.f; rw [(lin_wrap A ha hb hx hy hA hA2).1, (lin_wrap A hc hd hx hy hA hA2).1]
theorem impl_Mat_apply_eq (A : Int) {a b c d x y : Int} (hA : 0 ≤ A) (hA2 : A ≤ 1000000000) (ha : -A ≤ a ∧ a ≤ A) (hb : -A ≤ b ∧ b ≤ A) (hc : -A ≤ c ∧ c ≤ A) (hd : -A ≤ d ∧ d ≤ A) (hx : -A ≤ x ∧ x ≤ A) (hy : -A ≤ y ∧ y ≤ A) :
    impl_Mat_apply.f a b c d x y = some (a * x + b * y, c * x + d * y) := by
  unfold impl_Mat_apply.f; rw [(lin_wrap A ha hb hx hy hA hA2).1, (lin_wrap A hc hd hx hy hA hA2).1]
theorem spec_IsFrame_eq (f : Int) : spec_IsFrame.f f = some (frameB f) := by
  unfold spec_IsFrame.f frameB
  by_cases h : f = 0
  · simp [h]
  · by_cases h' : f = 1 <;> simp [h, h']
theorem impl_IsFrame_eq (f : Int) : impl_IsFrame.f f = some (frameB f) := by
  unfold impl_IsFrame.f frameB; simp only [impl_within_eq, Option.bind_some]; congr 1; exact decide_eq_decide.mpr (by omega)
theorem frameB_iff {f : Int} : frameB f = true ↔ f = 0 ∨ f = 1 := by unfold frameB; exact decide_eq_true_iff
theorem spec_l01Divisor_eq : ∀ (k : Nat) (a b : Int), b.natAbs < k → a.natAbs < 9223372036854775808 → b.natAbs < 9223372036854775808 → spec_l01Divisor.f k a b = some (Int.gcd a b : Int) := by
  intro k
  induction k with
  | zero => intro a b h; omega
  | succ k ih =>
    intro a b h ha hb
    unfold spec_l01Divisor.f
    by_cases h0 : b = 0
    · subst h0; rw [if_pos rfl, mx_abs (by omega) (by omega), Int.gcd_zero_right]
    · rw [if_neg h0]
      have h1 := Int.natAbs_tmod a b
      have h2 := Nat.mod_lt a.natAbs (show 0 < b.natAbs by omega)
      rw [ih b (a.tmod b) (by omega) (by omega) (by omega), gcd_tmod]; rfl
theorem rd_Mat_at (pre : List S51) (v : S51) (t : List S51) (i : Int) (hi : i = pre.length) : rd_T51 (pre ++ v :: t) i = v := by
  subst hi; unfold rd_T51; simp
theorem eqMatS_loop (l : List S51) (hl : l.length ≤ 1000000) : ∀ (t pre : List S51) (k : Nat), l = pre ++ t → t.length < k → laws_eqMatS.l0 k l l (pre.length : Int) = some true := by
  intro t
  induction t with
  | nil =>
    intro pre k e hk
    obtain ⟨k, rfl⟩ : ∃ m, k = m + 1 := ⟨k - 1, by omega⟩
    rw [laws_eqMatS.l0, if_neg (by rw [e]; simp)]
  | cons x t ih =>
    intro pre k e hk
    simp only [List.length_cons] at hk
    obtain ⟨k, rfl⟩ : ∃ m, k = m + 1 := ⟨k - 1, by omega⟩
    have hlen : l.length = pre.length + (t.length + 1) := by rw [e]; simp
    have hr : rd_T51 l (pre.length : Int) = x := by rw [e]; exact rd_Mat_at pre x t _ rfl
    have h1 := ih (pre ++ [x]) k (by rw [e]; simp) (by omega)
    simp only [List.length_append, List.length_cons, List.length_nil] at h1
    rw [laws_eqMatS.l0, if_pos (by omega), if_pos (by omega), if_pos (by omega), hr, wrap_id (x := (pre.length : Int) + 1) (by omega) (by omega)]
    unfold laws_eqMat.f
    simp only [if_true, Option.bind_some]
    rw [show (pre.length : Int) + 1 = ((pre.length + (0 + 1) : Nat) : Int) by omega]; exact h1
theorem eqMatS_self (k : Nat) (l : List S51) (hl : l.length ≤ 1000000) (hk : l.length < k) : laws_eqMatS.f k l l = some true := by
  unfold laws_eqMatS.f
  rw [if_pos rfl]; exact eqMatS_loop l hl l [] k rfl hk
def marksMat (m : Int) : List S51 → List S51
  | [] => []
  | _ :: t => ⟨m, m + 1, m + 2, m + 3⟩ :: marksMat (m + 4) t
theorem mark_at_Mat (pre : List S51) (v w : S51) (t : List S51) (i : Int) (hi : i = pre.length) : (pre ++ v :: t).set i.toNat w = pre ++ w :: t := by
  subst hi; simp
theorem rd_Mat_at' (pre : List S51) (v : S51) (t : List S51) (i : Int) (hi : i = pre.length) : rd_T51 (pre ++ v :: t) i = v := by
  subst hi; unfold rd_T51; simp
theorem markMat_loop : ∀ (t pre : List S51) (k : Nat) (m : Int), pre.length + t.length ≤ 1000000 → 0 ≤ m → m ≤ 1 + 4 * pre.length → t.length < k →
    laws_markMatS.l0 k (pre ++ t) m (pre.length : Int) = some (m + 4 * t.length, pre ++ marksMat m t) := by
  intro t
  induction t with
  | nil =>
    intro pre k m hl h0 hm hk
    obtain ⟨k, rfl⟩ : ∃ m, k = m + 1 := ⟨k - 1, by omega⟩
    rw [laws_markMatS.l0, if_neg (by simp)]; simp [marksMat]
  | cons x t ih =>
    intro pre k m hl h0 hm hk
    simp only [List.length_cons] at hk hl
    obtain ⟨k, rfl⟩ : ∃ m, k = m + 1 := ⟨k - 1, by omega⟩
    have h1 := ih (pre ++ [⟨m, m + 1, m + 2, m + 3⟩]) k (m + 4) (by simp; omega) (by omega) (by simp; omega) (by omega)
    rw [laws_markMatS.l0, if_pos (by simp; omega), if_pos (by omega)]
    simp only [rd_Mat_at' pre _ t _ rfl, mark_at_Mat pre _ _ t _ rfl, Option.bind_some]
    rw [wrap_id (x := (pre.length : Int) + 1) (by omega) (by omega), wrap_id (x := m + 1) (by omega) (by omega), wrap_id (x := m + 1 + 1) (by omega) (by omega), show m + 1 + 1 = m + 2 by omega, wrap_id (x := m + 2 + 1) (by omega) (by omega), show m + 2 + 1 = m + 3 by omega, wrap_id (x := m + 3 + 1) (by omega) (by omega), show m + 3 + 1 = m + 4 by omega]
    simp only [List.length_append, List.length_cons, List.length_nil, List.append_assoc, List.cons_append, List.nil_append] at h1
    rw [show (pre.length : Int) + 1 = ((pre.length + (0 + 1) : Nat) : Int) by omega, h1]
    simp only [marksMat, List.length_cons]
    congr 2; omega
theorem heldMat_loop : ∀ (t pre : List S51) (k : Nat) (m : Int), pre.length + t.length ≤ 1000000 → 0 ≤ m → m ≤ 1 + 4 * pre.length → t.length < k →
    laws_heldMatS.l0 k (pre ++ marksMat m t) m (pre.length : Int) = some (m + 4 * t.length) := by
  intro t
  induction t with
  | nil =>
    intro pre k m hl h0 hm hk
    obtain ⟨k, rfl⟩ : ∃ m, k = m + 1 := ⟨k - 1, by omega⟩
    rw [laws_heldMatS.l0, if_neg (by simp [marksMat])]; simp
  | cons x t ih =>
    intro pre k m hl h0 hm hk
    simp only [List.length_cons] at hk hl
    obtain ⟨k, rfl⟩ : ∃ m, k = m + 1 := ⟨k - 1, by omega⟩
    have h1 := ih (pre ++ [⟨m, m + 1, m + 2, m + 3⟩]) k (m + 4) (by simp; omega) (by omega) (by simp; omega) (by omega)
    rw [laws_heldMatS.l0, if_pos (by simp [marksMat]; omega), if_pos (by omega)]
    simp only [marksMat, rd_Mat_at' pre _ _ _ rfl]
    rw [wrap_id (x := (pre.length : Int) + 1) (by omega) (by omega), wrap_id (x := m + 1) (by omega) (by omega), wrap_id (x := m + 1 + 1) (by omega) (by omega), show m + 1 + 1 = m + 2 by omega, wrap_id (x := m + 2 + 1) (by omega) (by omega), show m + 2 + 1 = m + 3 by omega, wrap_id (x := m + 3 + 1) (by omega) (by omega), show m + 3 + 1 = m + 4 by omega]
    simp only [if_true]
    simp only [List.length_append, List.length_cons, List.length_nil, List.append_assoc, List.cons_append, List.nil_append] at h1
    rw [show (pre.length : Int) + 1 = ((pre.length + (0 + 1) : Nat) : Int) by omega, h1]
    simp only [List.length_cons]
    congr 1; omega
theorem markedMat (k : Nat) (l : List S51) (hl : l.length ≤ 1000000) (hk : l.length < k) : laws_markMatS.f k l 1 = some (1 + 4 * (l.length : Int), marksMat 1 l) ∧ laws_heldMatS.f k (marksMat 1 l) 1 = some (1 + 4 * (l.length : Int)) :=
  ⟨markMat_loop l [] k 1 (by simpa using hl) (by omega) (by simp) hk, heldMat_loop l [] k 1 (by simpa using hl) (by omega) (by simp) hk⟩
theorem spec_l01Mod_eq {a n : Int} (hn : 0 < n) (hn2 : n ≤ 1000000000000000000) : spec_l01Mod.f a n = some (a % n) := by
  unfold spec_l01Mod.f
  have hb := tmod_bounds a n hn
  rw [if_neg (by omega)]
  rw [wrap_id (by omega) (by omega)]
  have := mod_if a n hn
  split <;> rename_i h
  · rw [if_pos h] at this; rw [this]
  · rw [if_neg h] at this; rw [this]
theorem impl_mod_eq {a n : Int} (hn : 0 < n) (hn2 : n ≤ 1000000000000000000) : impl_mod.f a n = some (a % n) := by
  unfold impl_mod.f
  have hb := tmod_bounds a n hn
  rw [if_neg (by omega), wrap_id (by omega) (by omega), mod_add a n hn]
theorem reduce_bd' {a b c x y : Int} (ha : 1 ≤ a ∧ a ≤ 64) (hc : 1 ≤ c ∧ c ≤ 64) (hb : 0 ≤ b ∧ b ≤ 63) (hx : -1000000 ≤ x ∧ x ≤ 1000000) (hy : -1000000 ≤ y ∧ y ≤ 1000000) :
    (0 ≤ y % c ∧ y % c < c) ∧ (-1000000 ≤ y / c ∧ y / c ≤ 1000000) ∧ (-63000000 ≤ y / c * b ∧ y / c * b ≤ 63000000) := by
  have h1 := Int.emod_nonneg y (show c ≠ 0 by omega)
  have h2 := Int.emod_lt_of_pos y (show 0 < c by omega)
  have h3 := Int.natAbs_ediv_le_natAbs y c
  have h4 := prod_bd (a := y / c) (b := b) (A := 1000000) (B := 63) (by omega) (by omega) (by omega) (by omega) (by omega)
  omega
theorem impl_Lattice_reduce_eq {a b c x y : Int} (ha : 1 ≤ a ∧ a ≤ 64) (hc : 1 ≤ c ∧ c ≤ 64) (hb : 0 ≤ b ∧ b ≤ 63) (hx : -1000000 ≤ x ∧ x ≤ 1000000) (hy : -1000000 ≤ y ∧ y ≤ 1000000) :
    impl_Lattice_reduce.f a b c x y = some (redV a b c x y) := by
  obtain ⟨h1, h2, h3⟩ := reduce_bd' ha hc hb hx hy
  unfold impl_Lattice_reduce.f redV
  rw [impl_mod_eq (by omega) (by omega)]
  simp only [Option.bind_some]
  rw [if_neg (by omega), wrap_id (x := y - y % c) (by omega) (by omega), tdiv_row y c (by omega), wrap_id (x := y / c) (by omega) (by omega), wrap_id (x := y / c * b) (by omega) (by omega), wrap_id (x := x - y / c * b) (by omega) (by omega), impl_mod_eq (by omega) (by omega)]
  rfl
theorem impl_Lattice_has_eq {a b c x y : Int} (ha : 1 ≤ a ∧ a ≤ 64) (hc : 1 ≤ c ∧ c ≤ 64) (hb : 0 ≤ b ∧ b ≤ 63) (hx : -1000000 ≤ x ∧ x ≤ 1000000) (hy : -1000000 ≤ y ∧ y ≤ 1000000) :
    impl_Lattice_has.f a b c x y = some (hasB a b c x y) := by
  unfold impl_Lattice_has.f hasB
  rw [impl_Lattice_reduce_eq ha hc hb hx hy]; rfl
theorem spec_euclid (l : List S47) (low i : Int) : ∀ (n : Nat) (px py vx vy : Int) (M : Nat), M ≤ 10000000000000000 → vy.natAbs ≤ n → px.natAbs ≤ M → vx.natAbs ≤ M → py.natAbs ≤ 1000 → vy.natAbs ≤ 1000 →
    px.natAbs * vy.natAbs + vx.natAbs * py.natAbs ≤ M →
    ∃ px' py' vx', px'.natAbs ≤ M ∧ py'.natAbs ≤ 1000 ∧ vx'.natAbs ≤ M ∧ (∀ x y, S2 px' py' vx' 0 x y ↔ S2 px py vx vy x y) ∧
      ∀ (K : Nat) (R : Option (Int × Int × Int)), (∀ k, K ≤ k → spec_l03Hermite.l1 k l low i px' py' vx' 0 = R) → ∀ k, K + n ≤ k → spec_l03Hermite.l1 k l low i px py vx vy = R := by
  intro n
  induction n with
  | zero =>
    intro px py vx vy M hM hn h1 h2 h3 h4 hQ
    have h0 : vy = 0 := by omega
    subst h0
    exact ⟨px, py, vx, h1, h3, h2, fun x y => Iff.rfl, fun K R h k hk => h k (by omega)⟩
  | succ n ih =>
    intro px py vx vy M hM hn h1 h2 h3 h4 hQ
    by_cases h0 : vy = 0
    · subst h0
      exact ⟨px, py, vx, h1, h3, h2, fun x y => Iff.rfl, fun K R h k hk => h k (by omega)⟩
    · obtain ⟨e1, e2, e3, e4, e5, e6⟩ := euclid (px := px) (py := py) (vx := vx) h0 hQ
      obtain ⟨px', py', vx', b1, b2, b3, hs, hk⟩ := ih vx vy (px - py.tdiv vy * vx) (py - py.tdiv vy * vy) M hM (by omega) h2 e3 h4 (by omega) e6
      refine ⟨px', py', vx', b1, b2, b3, fun x y => (hs x y).trans (S2_step px py vx vy _ x y), fun K R h k hk' => ?_⟩
      obtain ⟨k, rfl⟩ : ∃ m, k = m + 1 := ⟨k - 1, by omega⟩
      rw [spec_l03Hermite.l1, if_neg h0]
      generalize py.tdiv vy = q at *
      rw [wrap_id (x := q) (by omega) (by omega), wrap_id (x := q * vx) (by omega) (by omega), wrap_id (x := q * vy) (by omega) (by omega), wrap_id (x := px - q * vx) (by omega) (by omega), wrap_id (x := py - q * vy) (by omega) (by omega)]
      exact hk K R h k (by omega)
theorem plus_mod {l p q ux uy l' p' q' : Int} (h : plus l p q ux uy l' p' q') : plus l p q ux uy l' (p' % l') q' := fun x y => (L_mod _ _ _ _ _).trans (h x y)
theorem spec_vec_step (l : List S47) (low i ux uy px py : Int) (M : Nat) (hM : 1000 * M + 1000000 ≤ 10000000000000000) (hi : 0 ≤ i ∧ i ≤ 1000) (hl : low.natAbs ≤ M) (hl0 : 0 ≤ low) (hpx : px.natAbs ≤ M) (hpy : py.natAbs ≤ 1000) (hux : ux.natAbs ≤ 1000) (huy : uy.natAbs ≤ 1000) :
    ∃ low' px' py', low'.natAbs ≤ 1000 * M + 1000000 ∧ 0 ≤ low' ∧ px'.natAbs ≤ 1000 * M + 1000000 ∧ py'.natAbs ≤ 1000 ∧ plus low px py ux uy low' px' py' ∧
      ∀ (K : Nat) (R : Option (Int × Int × Int)), (∀ k, K ≤ k → spec_l03Hermite.l0 k l low' (i + 1) px' py' = R) → ∀ k, K + 1000 * M + 1003002 ≤ k → spec_l03Hermite.l1 k l low i px py ux uy = R := by
  have hq1 : px.natAbs * uy.natAbs ≤ M * 1000 := Nat.mul_le_mul hpx huy
  have hq2 : ux.natAbs * py.natAbs ≤ 1000 * 1000 := Nat.mul_le_mul hux hpy
  obtain ⟨px', py', vx', b1, b2, b3, hs, hk⟩ := spec_euclid l low i 1000 px py ux uy (1000 * M + 1000000) hM huy (by omega) (by omega) hpy huy (by omega)
  have hg : Int.gcd low vx' ≤ 1000 * M + 1000000 := gcd_le_bd (by omega) b3
  have hp : plus low px py ux uy (Int.gcd low vx' : Int) px' py' := L_more hs rfl
  by_cases hg0 : (Int.gcd low vx' : Int) > 0
  · have m1 := Int.emod_nonneg px' (show (Int.gcd low vx' : Int) ≠ 0 by omega)
    have m2 := Int.emod_lt_of_pos px' (show 0 < (Int.gcd low vx' : Int) by omega)
    refine ⟨(Int.gcd low vx' : Int), px' % (Int.gcd low vx' : Int), py', by omega, by omega, by omega, b2, plus_mod hp, fun K R h k hk' => ?_⟩
    refine hk (K + 1000 * M + 1000002) R (fun k hk'' => ?_) k (by omega)
    obtain ⟨k, rfl⟩ : ∃ m, k = m + 1 := ⟨k - 1, by omega⟩
    rw [spec_l03Hermite.l1, if_pos rfl, spec_l01Divisor_eq k low vx' (by omega) (by omega) (by omega), wrap_id (x := i + 1) (by omega) (by omega)]
    simp only [Option.bind_some]
    rw [if_pos hg0, spec_l01Mod_eq (by omega) (by omega)]
    exact h k (by omega)
  · refine ⟨(Int.gcd low vx' : Int), px', py', by omega, by omega, b1, b2, hp, fun K R h k hk' => ?_⟩
    refine hk (K + 1000 * M + 1000002) R (fun k hk'' => ?_) k (by omega)
    obtain ⟨k, rfl⟩ : ∃ m, k = m + 1 := ⟨k - 1, by omega⟩
    rw [spec_l03Hermite.l1, if_pos rfl, spec_l01Divisor_eq k low vx' (by omega) (by omega) (by omega), wrap_id (x := i + 1) (by omega) (by omega)]
    simp only [Option.bind_some]
    rw [if_neg hg0]
    exact h k (by omega)
theorem spec_lattice_end (l : List S47) (low px py : Int) (i : Int) (hi : ¬ i < (l.length : Int)) (hl : 0 < low) (hl2 : low ≤ 1000000000000000000) (hp : px.natAbs ≤ 1000000000000000000) (hpy : py.natAbs ≤ 1000) (hy : py ≠ 0) :
    ∃ B C, 0 ≤ B ∧ B < low ∧ 0 < C ∧ (∀ x y, L low B C x y ↔ L low px py x y) ∧ ∀ k, 1 ≤ k → spec_l03Hermite.l0 k l low i px py = some (low, B, C) := by
  by_cases h : py < 0
  · refine ⟨(-px) % low, -py, Int.emod_nonneg _ (by omega), Int.emod_lt_of_pos _ hl, by omega, fun x y => (L_mod _ _ _ _ _).trans (L_neg _ _ _ _ _), fun k hk => ?_⟩
    obtain ⟨k, rfl⟩ : ∃ m, k = m + 1 := ⟨k - 1, by omega⟩
    rw [spec_l03Hermite.l0, if_neg hi, if_pos h]
    unfold spec_l01Scale.f
    simp only [Option.bind_some]
    rw [if_pos (by omega), Int.neg_one_mul, Int.neg_one_mul, wrap_id (x := -px) (by omega) (by omega), wrap_id (x := -py) (by omega) (by omega), spec_l01Mod_eq hl hl2]; rfl
  · refine ⟨px % low, py, Int.emod_nonneg _ (by omega), Int.emod_lt_of_pos _ hl, by omega, fun x y => L_mod _ _ _ _ _, fun k hk => ?_⟩
    obtain ⟨k, rfl⟩ : ∃ m, k = m + 1 := ⟨k - 1, by omega⟩
    rw [spec_l03Hermite.l0, if_neg hi, if_neg h, if_pos (by omega), spec_l01Mod_eq hl hl2]; rfl
theorem spec_hermite2 (u v : S47) (h1 : u.f0.natAbs ≤ 1000) (h2 : u.f1.natAbs ≤ 1000) (h3 : v.f0.natAbs ≤ 1000) (h4 : v.f1.natAbs ≤ 1000) (hd : u.f0 * v.f1 - u.f1 * v.f0 ≠ 0) :
    ∃ A B C, Herm (sp2 u.f0 u.f1 v.f0 v.f1) A B C ∧ ∀ k, 1003100000 ≤ k → spec_l03Hermite.f k [u, v] = some (A, B, C) := by
  obtain ⟨l1, p1, q1, b1, b2, b3, b4, hp1, hk1⟩ := spec_vec_step [u, v] 0 0 u.f0 u.f1 0 0 0 (by omega) (by omega) (by simp) (by omega) (by simp) (by simp) h1 h2
  obtain ⟨l2, p2, q2, c1, c2, c3, c4, hp2, hk2⟩ := spec_vec_step [u, v] l1 1 v.f0 v.f1 p1 q1 1000000 (by omega) (by omega) (by omega) b2 (by omega) b4 h3 h4
  have hsp := plus_two hp1 hp2
  obtain ⟨r1, r2⟩ := L_rank ((hsp u.f0 u.f1).mpr ⟨1, 0, by omega, by omega⟩) ((hsp v.f0 v.f1).mpr ⟨0, 1, by omega, by omega⟩) hd
  obtain ⟨B, C, e1, e2, e3, e4, hk3⟩ := spec_lattice_end [u, v] l2 p2 q2 2 (by simp) (by omega) (by omega) (by omega) c4 r2
  refine ⟨l2, B, C, ⟨by omega, e3, e1, e2, fun x y => (e4 x y).trans (hsp x y)⟩, fun k hk => ?_⟩
  unfold spec_l03Hermite.f
  obtain ⟨k, rfl⟩ : ∃ m, k = m + 1 := ⟨k - 1, by omega⟩
  rw [spec_l03Hermite.l0, if_pos (by simp), if_pos (by decide)]
  refine hk1 1001003100 _ (fun k hk => ?_) k (by omega)
  obtain ⟨k, rfl⟩ : ∃ m, k = m + 1 := ⟨k - 1, by omega⟩
  rw [spec_l03Hermite.l0, if_pos (by simp), if_pos (by decide)]
  refine hk2 1 _ (fun k hk => ?_) k (by omega)
  exact hk3 k hk
def pm0 : List S51 := [⟨-1, 0, 0, -1⟩, ⟨-1, 0, 0, 1⟩, ⟨0, -1, -1, 0⟩, ⟨0, -1, 1, 0⟩, ⟨0, 1, -1, 0⟩, ⟨0, 1, 1, 0⟩, ⟨1, 0, 0, -1⟩, ⟨1, 0, 0, 1⟩]
def pm1 : List S51 := [⟨-1, -1, 0, 1⟩, ⟨-1, -1, 1, 0⟩, ⟨-1, 0, 0, -1⟩, ⟨-1, 0, 1, 1⟩, ⟨0, -1, -1, 0⟩, ⟨0, -1, 1, 1⟩, ⟨0, 1, -1, -1⟩, ⟨0, 1, 1, 0⟩, ⟨1, 0, -1, -1⟩, ⟨1, 0, 0, 1⟩, ⟨1, 1, -1, 0⟩, ⟨1, 1, 0, -1⟩]
def pmL (f : Int) : List S51 := if f = 0 then pm0 else pm1
/-- What a point matrix is: its numbers and its determinant. -/
theorem pm_facts {f a b c d : Int} (hf : f = 0 ∨ f = 1) (h : (⟨a, b, c, d⟩ : S51) ∈ pmL f) : (-1 ≤ a ∧ a ≤ 1) ∧ (-1 ≤ b ∧ b ≤ 1) ∧ (-1 ≤ c ∧ c ≤ 1) ∧ (-1 ≤ d ∧ d ≤ 1) ∧ (a * d - b * c = 1 ∨ a * d - b * c = -1) := by
  rcases hf with rfl | rfl
  · simp only [pmL, pm0, if_true, List.mem_cons, S51.mk.injEq, List.not_mem_nil, or_false] at h
    rcases h with ⟨rfl, rfl, rfl, rfl⟩ | ⟨rfl, rfl, rfl, rfl⟩ | ⟨rfl, rfl, rfl, rfl⟩ | ⟨rfl, rfl, rfl, rfl⟩ | ⟨rfl, rfl, rfl, rfl⟩ | ⟨rfl, rfl, rfl, rfl⟩ | ⟨rfl, rfl, rfl, rfl⟩ | ⟨rfl, rfl, rfl, rfl⟩ <;> decide
  · have e : pmL 1 = pm1 := by unfold pmL; rw [if_neg (by decide)]
    rw [e] at h
    simp only [pm1, List.mem_cons, S51.mk.injEq, List.not_mem_nil, or_false] at h
    rcases h with ⟨rfl, rfl, rfl, rfl⟩ | ⟨rfl, rfl, rfl, rfl⟩ | ⟨rfl, rfl, rfl, rfl⟩ | ⟨rfl, rfl, rfl, rfl⟩ | ⟨rfl, rfl, rfl, rfl⟩ | ⟨rfl, rfl, rfl, rfl⟩ | ⟨rfl, rfl, rfl, rfl⟩ | ⟨rfl, rfl, rfl, rfl⟩ | ⟨rfl, rfl, rfl, rfl⟩ | ⟨rfl, rfl, rfl, rfl⟩ | ⟨rfl, rfl, rfl, rfl⟩ | ⟨rfl, rfl, rfl, rfl⟩ <;> decide
set_option maxRecDepth 100000 in
theorem impl_pm0 (k : Nat) : impl_pointMats.f (k + 82) 0 = some pm0 := by kernel_rfl
set_option maxRecDepth 100000 in
theorem impl_pm1 (k : Nat) : impl_pointMats.f (k + 82) 1 = some pm1 := by kernel_rfl
theorem impl_pointMats_eq (k : Nat) (hk : 82 ≤ k) {f : Int} (hf : f = 0 ∨ f = 1) : impl_pointMats.f k f = some (pmL f) := by
  obtain ⟨k, rfl⟩ : ∃ m, k = m + 82 := ⟨k - 82, by omega⟩
  rcases hf with rfl | rfl
  · rw [impl_pm0]; rfl
  · rw [impl_pm1]; rfl
set_option maxRecDepth 100000 in
theorem spec_pm0 (k : Nat) : spec_l04Mats.f (k + 82) 0 = some pm0 := by kernel_rfl
set_option maxRecDepth 100000 in
theorem spec_pm1 (k : Nat) : spec_l04Mats.f (k + 82) 1 = some pm1 := by kernel_rfl
theorem spec_l04Mats_eq (k : Nat) (hk : 82 ≤ k) {f : Int} (hf : f = 0 ∨ f = 1) : spec_l04Mats.f k f = some (pmL f) := by
  obtain ⟨k, rfl⟩ : ∃ m, k = m + 82 := ⟨k - 82, by omega⟩
  rcases hf with rfl | rfl
  · rw [spec_pm0]; rfl
  · rw [spec_pm1]; rfl
def frLat (f a b c : Int) : Bool := frameB f && latB a b c
theorem spec_l04Code_eq (f a b c : Int) (w : -9223372036854775808 ≤ a ∧ a < 9223372036854775808) : spec_l04Code.f f a b c = some (if frLat f a b c = true then 0 else 1) := by
  unfold spec_l04Code.f frLat
  simp only [spec_IsFrame_eq, spec_IsLattice_eq a b c w.1 w.2, Option.bind_some]
  cases frameB f <;> cases latB a b c <;> rfl
theorem impl_frameCode_eq (f a b c : Int) (w : -9223372036854775808 ≤ a ∧ a < 9223372036854775808) : impl_frameCode.f f a b c = some (if frLat f a b c = true then 0 else 1) := by
  unfold impl_frameCode.f frLat
  simp only [impl_IsFrame_eq, impl_IsLattice_eq a b c w.1 w.2, Option.bind_some]
  cases frameB f <;> cases latB a b c <;> rfl
theorem im_det (p q r s a b c : Int) : (p * a + q * 0) * (r * b + s * c) - (r * a + s * 0) * (p * b + q * c) = (a * c) * (p * s - q * r) := by grind
theorem im_same {a b c ux uy vx vy A B C : Int} (ha : 1 ≤ a) (hc : 1 ≤ c) (hb : 0 ≤ b ∧ b < a) (hh : Herm (sp2 ux uy vx vy) A B C) (hi : A * C = a * c) :
    (A = a ∧ B = b ∧ C = c) ↔ (L a b c ux uy ∧ L a b c vx vy) := by
  obtain ⟨hA, hC, hB0, hB1, hL⟩ := hh
  constructor
  · rintro ⟨rfl, rfl, rfl⟩
    exact ⟨(hL _ _).mpr ⟨1, 0, by omega, by omega⟩, (hL _ _).mpr ⟨0, 1, by omega, by omega⟩⟩
  · rintro ⟨hu, hv⟩
    have hsub : ∀ x y, L A B C x y → L a b c x y := by
      intro x y h
      obtain ⟨i, j, rfl, rfl⟩ := (hL x y).mp h
      exact L_add hu hv i j
    obtain ⟨t, ht⟩ := (L_row (by omega)).mp (hsub A 0 ⟨1, 0, by omega, by omega⟩)
    obtain ⟨m, n, e1, e2⟩ := hsub B C ⟨0, 1, by omega, by omega⟩
    have hac : 1 ≤ a * c := by have := le_mul_r (a := a) (c := c) (by omega) hc; omega
    have ht0 : 1 ≤ t := by
      rcases Int.lt_or_le t 1 with h | h
      · have := Int.mul_le_mul_of_nonneg_left (show t ≤ 0 by omega) (show 0 ≤ a by omega)
        omega
      · exact h
    have hn0 : 1 ≤ n := by
      rcases Int.lt_or_le n 1 with h | h
      · have := Int.mul_le_mul_of_nonneg_right (show n ≤ 0 by omega) (show 0 ≤ c by omega)
        omega
      · exact h
    have htn : t * n = 1 := by
      have e : (a * c) * (t * n - 1) = 0 := by rw [ht, e2] at hi; grind
      rcases Int.mul_eq_zero.mp e with h | h <;> omega
    have h1 := le_mul_r (a := t) (c := n) (by omega) hn0
    have h2 := le_mul_l (a := t) (c := n) (by omega) ht0
    have et : t = 1 := by omega
    have en : n = 1 := by omega
    subst et; subst en
    have eA : A = a := by omega
    have eC : C = c := by omega
    have em : m = 0 := by
      rcases Int.lt_trichotomy m 0 with h | h | h
      · have := Int.mul_le_mul_of_nonneg_right (show m ≤ -1 by omega) (show 0 ≤ a by omega)
        omega
      · exact h
      · have := Int.mul_le_mul_of_nonneg_right (show 1 ≤ m by omega) (show 0 ≤ a by omega)
        omega
    subst em
    exact ⟨eA, by omega, eC⟩
theorem image_eq {f p q r s a b c : Int} (hl : latB a b c = true) (hf : f = 0 ∨ f = 1) (hm : (⟨p, q, r, s⟩ : S51) ∈ pmL f) :
    ∃ A B C, (∀ k, 1003100000 ≤ k → spec_l04Image.f k p q r s a b c = some (A, B, C)) ∧ ((A = a ∧ B = b ∧ C = c) ↔ (hasB a b c (p * a + q * 0) (r * a + s * 0) = true ∧ hasB a b c (p * b + q * c) (r * b + s * c) = true)) := by
  obtain ⟨e1, e2, e3, e4, hd⟩ := pm_facts hf hm
  obtain ⟨⟨a1, a2⟩, ⟨c1, c2⟩, ⟨b1, b2⟩, hac⟩ := latB_iff.mp hl
  have hb : -64 ≤ b ∧ b ≤ 64 := by omega
  have w1 := prod_bd (a := p) (b := a) (A := 1) (B := 64) (by omega) (by omega) (by omega) (by omega) (by omega)
  have w2 := prod_bd (a := r) (b := a) (A := 1) (B := 64) (by omega) (by omega) (by omega) (by omega) (by omega)
  have w3 := prod_bd (a := p) (b := b) (A := 1) (B := 64) (by omega) (by omega) (by omega) (by omega) (by omega)
  have w4 := prod_bd (a := q) (b := c) (A := 1) (B := 64) (by omega) (by omega) (by omega) (by omega) (by omega)
  have w5 := prod_bd (a := r) (b := b) (A := 1) (B := 64) (by omega) (by omega) (by omega) (by omega) (by omega)
  have w6 := prod_bd (a := s) (b := c) (A := 1) (B := 64) (by omega) (by omega) (by omega) (by omega) (by omega)
  have hac1 : a ≤ a * c := le_mul_r (by omega) (by omega)
  have hdet : (p * a + q * 0) * (r * b + s * c) - (r * a + s * 0) * (p * b + q * c) ≠ 0 := by
    rw [im_det]; rcases hd with h | h <;> rw [h] <;> omega
  have hdab : (((p * a + q * 0) * (r * b + s * c) - (r * a + s * 0) * (p * b + q * c)).natAbs : Int) = a * c := by
    rw [im_det]; rcases hd with h | h <;> rw [h] <;> omega
  obtain ⟨A, B, C, hh, hk⟩ := spec_hermite2 ⟨p * a + q * 0, r * a + s * 0⟩ ⟨p * b + q * c, r * b + s * c⟩ (by simp only; omega) (by simp only; omega) (by simp only; omega) (by simp only; omega) hdet
  have hi := hh.index
  simp only at hi
  rw [hdab] at hi
  refine ⟨A, B, C, fun k hk1 => ?_, ?_⟩
  · unfold spec_l04Image.f
    have hbas : spec_l03Basis.f a b c = some [⟨a, 0⟩, ⟨b, c⟩] := rfl
    rw [hbas]
    simp only [Option.bind_some]
    rw [if_pos (by simp), show rd_T47 [(⟨a, 0⟩ : S47), ⟨b, c⟩] 0 = ⟨a, 0⟩ from rfl, show rd_T47 [(⟨a, 0⟩ : S47), ⟨b, c⟩] 1 = ⟨b, c⟩ from rfl]
    dsimp only
    rw [spec_l02Apply_eq 64 (by omega) (by omega) (by omega) (by omega) (by omega) (by omega) (by omega) (by omega)]
    simp only [Option.bind_some]
    rw [if_pos (by simp), spec_l02Apply_eq 64 (by omega) (by omega) (by omega) (by omega) (by omega) (by omega) (by omega) (by omega)]
    simp only [Option.bind_some]
    rw [hk k (by omega)]
    rfl
  · rw [im_same (by omega) (by omega) ⟨by omega, by omega⟩ hh hi, hasB_iff (by omega), hasB_iff (by omega)]
def stableB (a b c : Int) (m : S51) : Bool := hasB a b c (m.f0 * a + m.f1 * 0) (m.f2 * a + m.f3 * 0) && hasB a b c (m.f0 * b + m.f1 * c) (m.f2 * b + m.f3 * c)
theorem stable_loop {f a b c : Int} (hl : latB a b c = true) (hf : f = 0 ∨ f = 1) (T : List S51) (hT : T.length ≤ 1000) (hin : ∀ m ∈ T, m ∈ pmL f) (k : Nat) (hk : 1003100000 ≤ k) :
    ∀ (t pre out : List S51) (i : Int), T = pre ++ t → i = pre.length → out.length ≤ pre.length → spec_l04Stable.l0 (k + t.length + 1) T out i a b c = some (out ++ t.filter (stableB a b c)) := by
  intro t
  induction t with
  | nil => intro pre out i e hi ho; rw [spec_l04Stable.l0, if_neg (by subst hi; subst e; simp)]; simp
  | cons m t ih =>
    intro pre out i e hi ho
    have hlen : T.length = pre.length + (t.length + 1) := by rw [e]; simp
    have hr : rd_T51 T i = m := by rw [e]; subst hi; unfold rd_T51; simp
    have hmem : m ∈ pmL f := hin m (by rw [e]; simp)
    obtain ⟨A, B, C, h1, h2⟩ := image_eq (p := m.f0) (q := m.f1) (r := m.f2) (s := m.f3) hl hf hmem
    rw [show k + (m :: t).length + 1 = (k + t.length + 1) + 1 by simp; omega, spec_l04Stable.l0, if_pos (by omega), if_pos (by omega), wrap_id (x := i + 1) (by omega) (by omega), hr, h1 _ (by omega)]
    simp only [Option.bind_some]
    by_cases h : A = a ∧ B = b ∧ C = c
    · have hs : stableB a b c m = true := by
        have := h2.mp h
        unfold stableB; rw [this.1, this.2]; rfl
      rw [if_pos (by simp [h.1, h.2.1, h.2.2]), if_pos (by omega), ih (pre ++ [m]) _ (i + 1) (by rw [e]; simp) (by rw [hi]; simp) (by simp; omega)]
      simp [hs]
    · have hs : stableB a b c m = false := by
        cases q : stableB a b c m with
        | false => rfl
        | true =>
          unfold stableB at q
          rw [Bool.and_eq_true] at q
          exact absurd (h2.mpr q) h
      rw [if_neg (by simpa using h), ih (pre ++ [m]) out (i + 1) (by rw [e]; simp) (by rw [hi]; simp) (by simp; omega)]
      simp [hs]
theorem pmL_len12 {f : Int} (hf : f = 0 ∨ f = 1) : (pmL f).length ≤ 12 ∧ 0 < (pmL f).length := by
  rcases hf with rfl | rfl <;> decide
theorem spec_l04Stable_eq {f a b c : Int} (hl : latB a b c = true) (hf : f = 0 ∨ f = 1) (k : Nat) (hk : 1003100100 ≤ k) : spec_l04Stable.f k f a b c = some ((pmL f).filter (stableB a b c)) := by
  unfold spec_l04Stable.f
  rw [spec_l04Mats_eq k (by omega) hf]
  simp only [Option.bind_some]
  have hlen := pmL_len12 hf
  obtain ⟨j, rfl⟩ : ∃ j, k = j + (pmL f).length + 1 := ⟨k - (pmL f).length - 1, by omega⟩
  rw [stable_loop hl hf (pmL f) (by omega) (fun m h => h) j (by omega) (pmL f) [] [] 0 rfl rfl (by simp)]
  simp
theorem lat_cl_eq {f a b c : Int} (hl : latB a b c = true) (hf : f = 0 ∨ f = 1) (m : S51) (hm : m ∈ pmL f) : impl_latticeMats_1.f m.f0 m.f1 m.f2 m.f3 a b c a 0 b c = some (!(stableB a b c m)) := by
  obtain ⟨e1, e2, e3, e4, hd⟩ := pm_facts (a := m.f0) (b := m.f1) (c := m.f2) (d := m.f3) hf hm
  obtain ⟨⟨a1, a2⟩, ⟨c1, c2⟩, ⟨b1, b2⟩, hac⟩ := latB_iff.mp hl
  have hb : -64 ≤ b ∧ b ≤ 64 := by omega
  have w1 := prod_bd (a := m.f0) (b := a) (A := 1) (B := 64) (by omega) (by omega) (by omega) (by omega) (by omega)
  have w2 := prod_bd (a := m.f2) (b := a) (A := 1) (B := 64) (by omega) (by omega) (by omega) (by omega) (by omega)
  have w3 := prod_bd (a := m.f0) (b := b) (A := 1) (B := 64) (by omega) (by omega) (by omega) (by omega) (by omega)
  have w4 := prod_bd (a := m.f1) (b := c) (A := 1) (B := 64) (by omega) (by omega) (by omega) (by omega) (by omega)
  have w5 := prod_bd (a := m.f2) (b := b) (A := 1) (B := 64) (by omega) (by omega) (by omega) (by omega) (by omega)
  have w6 := prod_bd (a := m.f3) (b := c) (A := 1) (B := 64) (by omega) (by omega) (by omega) (by omega) (by omega)
  unfold impl_latticeMats_1.f
  rw [impl_Mat_apply_eq 64 (by omega) (by omega) (by omega) (by omega) (by omega) (by omega) (by omega) (by omega)]
  simp only [Option.bind_some]
  rw [impl_Lattice_has_eq (by omega) (by omega) (by omega) (by omega) (by omega)]
  simp only [Option.bind_some]
  unfold stableB
  cases hasB a b c (m.f0 * a + m.f1 * 0) (m.f2 * a + m.f3 * 0) with
  | false => rfl
  | true =>
    rw [if_pos rfl, impl_Mat_apply_eq 64 (by omega) (by omega) (by omega) (by omega) (by omega) (by omega) (by omega) (by omega)]
    simp only [Option.bind_some]
    rw [impl_Lattice_has_eq (by omega) (by omega) (by omega) (by omega) (by omega)]
    rfl
theorem impl_latticeMats_eq {f a b c : Int} (hl : latB a b c = true) (hf : f = 0 ∨ f = 1) (k : Nat) (hk : 82 ≤ k) : impl_latticeMats.f k f a b c = some ((pmL f).filter (stableB a b c)) := by
  have hlen := pmL_len12 hf
  obtain ⟨⟨a1, a2⟩, ⟨c1, c2⟩, ⟨b1, b2⟩, hac⟩ := latB_iff.mp hl
  unfold impl_latticeMats.f
  rw [impl_pointMats_eq k hk hf]
  simp only [Option.bind_some]
  rw [if_pos ⟨⟨by omega, by omega⟩, by omega, hlen.2⟩]
  congr 1
  refine List.filter_congr fun m hm => ?_
  rw [lat_cl_eq hl hf m hm]
  simp
theorem LatticeMats_both {f a b c : Int} (w : -9223372036854775808 ≤ a ∧ a < 9223372036854775808) : ∃ l z, l.length ≤ 12 ∧ (∀ k, 1003100100 ≤ k → spec_LatticeMats.f k f a b c = some (l, z)) ∧ (∀ k, 1003100100 ≤ k → impl_LatticeMats.f k f a b c = some (l, z)) := by
  by_cases h : frLat f a b c = true
  · have h' := h
    unfold frLat at h'
    rw [Bool.and_eq_true] at h'
    have hf := frameB_iff.mp h'.1
    have hlen := pmL_len12 hf
    have hle := List.length_filter_le (stableB a b c) (pmL f)
    refine ⟨(pmL f).filter (stableB a b c), 0, by omega, fun k hk => ?_, fun k hk => ?_⟩
    · unfold spec_LatticeMats.f
      rw [spec_l04Code_eq f a b c w, if_pos h]
      simp only [Option.bind_some]
      rw [if_pos trivial, spec_l04Stable_eq h'.2 hf k hk]
      rfl
    · unfold impl_LatticeMats.f
      rw [impl_frameCode_eq f a b c w, if_pos h]
      simp only [Option.bind_some]
      rw [if_pos trivial, impl_latticeMats_eq h'.2 hf k (by omega)]
      rfl
  · refine ⟨[], 1, by simp, fun k hk => ?_, fun k hk => ?_⟩
    · unfold spec_LatticeMats.f
      rw [spec_l04Code_eq f a b c w, if_neg h]
      simp
    · unfold impl_LatticeMats.f
      rw [impl_frameCode_eq f a b c w, if_neg h]
      simp
theorem main (a0 : Int) (a1_0 : Int) (a1_1 : Int) (a1_2 : Int) (w0 : (Go.Lit.int .i64 a0).wf = true) (w1_0 : (Go.Lit.int .i64 a1_0).wf = true) (w1_1 : (Go.Lit.int .i64 a1_1).wf = true) (w1_2 : (Go.Lit.int .i64 a1_2).wf = true) : ∃ k, laws_FnExactLatticeMats.f k a0 a1_0 a1_1 a1_2 = some true := by
  obtain ⟨l, z, hl, hS, hI⟩ := LatticeMats_both (f := a0) (a := a1_0) (b := a1_1) (c := a1_2) (wf_bd w1_0)
  refine ⟨1003100100 + 1 + 1, ?_⟩
  have hM := markedMat 1003100100 l (by omega) (by omega)
  have hM' := markedMat (1003100100 + 1) l (by omega) (by omega)
  unfold laws_FnExactLatticeMats.f
  try simp only [laws_toLattice.f, Option.bind_some]
  rw [hS _ (by decide), hI _ (by decide)]
  simp only [Option.bind_some]
  rw [eqMatS_self _ l (by omega) (by omega)]
  simp only [Option.bind_some, if_true, bne_self_eq_false]
  rw [laws_FnExactLatticeMats.j0, if_neg (by decide), hM'.1]
  simp only [Option.bind_some]
  rw [hM'.2]
  simp only [Option.bind_some]
  rw [if_neg (by omega)]
  simp only [if_true, eq_self, laws_toLattice.f, Option.bind_some]
  rw [hI _ (by decide)]
  simp only [Option.bind_some]
  rw [eqMatS_self _ l (by omega) (by omega)]
  simp only [Option.bind_some, if_true, bne_self_eq_false]
  rw [laws_FnExactLatticeMats.j1, if_neg (by decide), hM.2]
  simp only [Option.bind_some]
  rw [if_neg (by omega)]
  simp only [if_true, eq_self]
end Go.Proofs.Ytcjchihnopmplaa.PureFnExactLatticeMats

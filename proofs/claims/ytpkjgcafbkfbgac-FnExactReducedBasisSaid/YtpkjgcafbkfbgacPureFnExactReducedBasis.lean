/-
The law FnExactReducedBasis, over numbers and lists alone: the printed functions of the program and of the reference answer alike. No condition but that each number is an int64.
-/
import Derived.Test.YtpkjgcafbkfbgacF27
import GoSem.Claim
namespace Go.Proofs.Ytpkjgcafbkfbgac.PureFnExactReducedBasis
open Go.RowKit Go.Proofs.Ytpkjgcafbkfbgac.F Go.Proofs.YtpkjgcafbkfbgacW.PrintWords Go.Proofs.YtpkjgcafbkfbgacW.PrintLast Go.Proofs.YtpkjgcafbkfbgacW.PrintMore
set_option linter.unusedVariables false
set_option linter.unusedSimpArgs false
theorem gcd_tmod (a b : Int) : Int.gcd b (a.tmod b) = Int.gcd a b := by
  unfold Int.gcd
  rw [Int.natAbs_tmod, Nat.gcd_comm a.natAbs, Nat.gcd_rec b.natAbs a.natAbs, Nat.gcd_comm]
theorem bezout_nat : ∀ (n : Nat) (a b : Int), b.natAbs ≤ n → ∃ s t : Int, (Int.gcd a b : Int) = s * a + t * b := by
  intro n
  induction n with
  | zero =>
    intro a b h
    have hb : b = 0 := by omega
    subst hb
    rcases Int.natAbs_eq a with h | h
    · exact ⟨1, 0, by rw [Int.gcd_zero_right]; omega⟩
    · exact ⟨-1, 0, by rw [Int.gcd_zero_right]; omega⟩
  | succ n ih =>
    intro a b h
    by_cases hb : b = 0
    · exact ih a b (by omega)
    · have h1 : (a.tmod b).natAbs ≤ n := by
        rw [Int.natAbs_tmod]
        have := Nat.mod_lt a.natAbs (show 0 < b.natAbs by omega)
        omega
      obtain ⟨s, t, e⟩ := ih b (a.tmod b) h1
      refine ⟨t, s - t * (a.tdiv b), ?_⟩
      rw [← gcd_tmod a b, e]
      have := Int.mul_tdiv_add_tmod a b
      grind
theorem bezout (a b : Int) : ∃ s t : Int, (Int.gcd a b : Int) = s * a + t * b := bezout_nat _ a b (Nat.le_refl _)
/-- (x, y) is a sum of multiples of (a, 0) and (b, c). -/
def L (a b c x y : Int) : Prop := ∃ m n : Int, x = m * a + n * b ∧ y = n * c
theorem L_iff {a b c x y : Int} (hc : c ≠ 0) : L a b c x y ↔ (y % c = 0 ∧ (x - (y / c) * b) % a = 0) := by
  constructor
  · rintro ⟨m, n, rfl, rfl⟩
    refine ⟨Int.mul_emod_left n c, ?_⟩
    rw [Int.mul_ediv_cancel n hc]
    have : m * a + n * b - n * b = m * a := by omega
    rw [this]; exact Int.mul_emod_left m a
  · rintro ⟨h1, h2⟩
    obtain ⟨n, rfl⟩ := Int.dvd_of_emod_eq_zero h1
    rw [Int.mul_ediv_cancel_left n hc] at h2
    obtain ⟨m, hm⟩ := Int.dvd_of_emod_eq_zero h2
    exact ⟨m, n, by grind, by grind⟩
def Nf (f x y : Int) : Int := x * x + f * x * y + y * y
def Tf (f ux uy vx vy : Int) : Int := 2 * (ux * vx) + f * (ux * vy + uy * vx) + 2 * (uy * vy)
theorem sq_nn (x : Int) : 0 ≤ x * x := by
  rcases Int.le_total 0 x with h | h
  · exact Int.mul_nonneg h h
  · exact Int.mul_nonneg_of_nonpos_of_nonpos h h
theorem Nf_four (f x y : Int) (hf : f = 0 ∨ f = 1) : 3 * (x * x) ≤ 4 * Nf f x y ∧ 3 * (y * y) ≤ 4 * Nf f x y := by
  unfold Nf
  rcases hf with rfl | rfl
  · have := sq_nn x
    have := sq_nn y
    constructor <;> grind
  · have h1 := sq_nn (x + 2 * y)
    have h2 := sq_nn (2 * x + y)
    constructor <;> grind
theorem sq_pos {x : Int} (h : x ≠ 0) : 0 < x * x := by
  rcases Int.lt_or_gt_of_ne h with h | h
  · exact Int.mul_pos_of_neg_of_neg h h
  · exact Int.mul_pos h h
theorem Nf_pos {f x y : Int} (hf : f = 0 ∨ f = 1) (h : ¬ (x = 0 ∧ y = 0)) : 0 < Nf f x y := by
  obtain ⟨h1, h2⟩ := Nf_four f x y hf
  by_cases hx : x = 0
  · have := sq_pos (show y ≠ 0 from fun e => h ⟨hx, e⟩); omega
  · have := sq_pos hx; omega
theorem Nf_nonneg {f x y : Int} (hf : f = 0 ∨ f = 1) : 0 ≤ Nf f x y := by
  obtain ⟨h1, h2⟩ := Nf_four f x y hf
  have := sq_nn x; omega
theorem sq_bound {x m : Int} (hm : 0 ≤ m) (h : x * x < (m + 1) * (m + 1)) : -m ≤ x ∧ x ≤ m := by
  constructor
  · rcases Int.lt_or_le x (-m) with h' | h'
    · have := Int.mul_le_mul (show m + 1 ≤ -x by omega) (show m + 1 ≤ -x by omega) (by omega) (by omega)
      rw [Int.neg_mul_neg] at this; omega
    · exact h'
  · rcases Int.lt_or_le m x with h' | h'
    · have := Int.mul_le_mul (show m + 1 ≤ x by omega) (show m + 1 ≤ x by omega) (by omega) (by omega)
      omega
    · exact h'
theorem Nf_box {f x y N m : Int} (hf : f = 0 ∨ f = 1) (hm : 0 ≤ m) (h : Nf f x y ≤ N) (hN : 4 * N < 3 * ((m + 1) * (m + 1))) : (-m ≤ x ∧ x ≤ m) ∧ (-m ≤ y ∧ y ≤ m) := by
  obtain ⟨h1, h2⟩ := Nf_four f x y hf
  exact ⟨sq_bound hm (by omega), sq_bound hm (by omega)⟩
theorem NT (f ux uy vx vy : Int) : 4 * (Nf f ux uy * Nf f vx vy) = Tf f ux uy vx vy * Tf f ux uy vx vy + (4 - f * f) * ((ux * vy - uy * vx) * (ux * vy - uy * vx)) := by
  unfold Nf Tf; grind
theorem Nf_scale (f g x y : Int) : Nf f (g * x) (g * y) = (g * g) * Nf f x y := by unfold Nf; grind
theorem Tf_sub (f ux uy vx vy k : Int) : Tf f ux uy (vx - k * ux) (vy - k * uy) = Tf f ux uy vx vy - 2 * k * Nf f ux uy := by unfold Nf Tf; grind
theorem det_sub (ux uy vx vy k : Int) : ux * (vy - k * uy) - uy * (vx - k * ux) = ux * vy - uy * vx := by grind
theorem det_L (a b c m n s t : Int) : (m * a + n * b) * (s * c) - (n * c) * (-t * a + s * b) = (s * m + t * n) * (a * c) := by grind
/-- A shortest vector is completed to a basis by a vector that is nearly at right angles. -/
theorem completed {f a b c ux uy : Int} (hf : f = 0 ∨ f = 1) (ha : 0 < a) (hc : 0 < c) (hu : L a b c ux uy) (hu0 : ¬ (ux = 0 ∧ uy = 0))
    (hmin : ∀ x y, L a b c x y → ¬ (x = 0 ∧ y = 0) → Nf f ux uy ≤ Nf f x y) :
    ∃ vx vy, L a b c vx vy ∧ ux * vy - uy * vx = a * c ∧ -Nf f ux uy ≤ Tf f ux uy vx vy ∧ Tf f ux uy vx vy ≤ Nf f ux uy := by
  have hN := Nf_pos hf hu0
  obtain ⟨m, n, e1, e2⟩ := hu
  obtain ⟨s, t, eg⟩ := bezout m n
  have dm : (Int.gcd m n : Int) ∣ m := Int.gcd_dvd_left m n
  have dn : (Int.gcd m n : Int) ∣ n := Int.gcd_dvd_right m n
  have hg0 : 0 ≤ (Int.gcd m n : Int) := by omega
  generalize (Int.gcd m n : Int) = g at *
  obtain ⟨m', rfl⟩ := dm
  obtain ⟨n', rfl⟩ := dn
  have hg : g = 1 := by
    have q1 : ux = g * (m' * a + n' * b) := by rw [e1, Int.mul_add, Int.mul_assoc, Int.mul_assoc]
    have q2 : uy = g * (n' * c) := by rw [e2, Int.mul_assoc]
    have z : ¬ (m' * a + n' * b = 0 ∧ n' * c = 0) := by
      rintro ⟨z1, z2⟩
      rw [z1, Int.mul_zero] at q1; rw [z2, Int.mul_zero] at q2
      exact hu0 ⟨q1, q2⟩
    have le := hmin _ _ ⟨m', n', rfl, rfl⟩ z
    have hN' := Nf_pos hf z
    rw [q1, q2, Nf_scale] at le
    have hgp : g ≠ 0 := by rintro rfl; simp at q1 q2; exact hu0 ⟨q1, q2⟩
    rcases Int.lt_or_le g 2 with h | h
    · omega
    · have : 2 * 2 ≤ g * g := Int.mul_le_mul h h (by omega) (by omega)
      have : 4 * Nf f (m' * a + n' * b) (n' * c) ≤ (g * g) * Nf f (m' * a + n' * b) (n' * c) := Int.mul_le_mul_of_nonneg_right (by omega) (by omega)
      omega
  subst hg
  simp only [Int.one_mul] at *
  have hd : ux * (s * c) - uy * (-t * a + s * b) = a * c := by rw [e1, e2, det_L, ← eg, Int.one_mul]
  refine ⟨(-t * a + s * b) - ((Tf f ux uy (-t * a + s * b) (s * c) + Nf f ux uy) / (2 * Nf f ux uy)) * ux, s * c - ((Tf f ux uy (-t * a + s * b) (s * c) + Nf f ux uy) / (2 * Nf f ux uy)) * uy, ?_, ?_, ?_⟩
  · generalize (Tf f ux uy (-t * a + s * b) (s * c) + Nf f ux uy) / (2 * Nf f ux uy) = k
    rw [e1, e2]
    exact ⟨-t - k * m', s - k * n', by rw [Int.sub_mul, Int.sub_mul, Int.mul_add, Int.mul_assoc, Int.mul_assoc]; omega, by rw [Int.sub_mul, Int.mul_assoc]⟩
  · rw [det_sub]; exact hd
  · rw [Tf_sub]
    generalize Tf f ux uy (-t * a + s * b) (s * c) = T
    generalize Nf f ux uy = N at *
    have h1 := Int.mul_ediv_add_emod (T + N) (2 * N)
    have h2 := Int.emod_nonneg (T + N) (show 2 * N ≠ 0 by omega)
    have h3 := Int.emod_lt_of_pos (T + N) (show 0 < 2 * N by omega)
    generalize (T + N) / (2 * N) = k at *
    have h4 : 2 * N * k = 2 * k * N := by rw [Int.mul_assoc, Int.mul_comm N k, Int.mul_assoc]
    constructor <;> omega
theorem sq_le {T N : Int} (h1 : -N ≤ T) (h2 : T ≤ N) : T * T ≤ N * N := by
  have h := Int.mul_nonneg (show 0 ≤ N - T by omega) (show 0 ≤ N + T by omega)
  have : (N - T) * (N + T) = N * N - T * T := by grind
  omega
/-- How long a shortest vector and its complement are. -/
theorem bounds {f a b c ux uy vx vy : Int} (hf : f = 0 ∨ f = 1) (ha : 0 < a) (hc : 0 < c) (hac : a * c ≤ 64) (hu0 : ¬ (ux = 0 ∧ uy = 0))
    (hmin : ∀ x y, L a b c x y → ¬ (x = 0 ∧ y = 0) → Nf f ux uy ≤ Nf f x y) (hv : L a b c vx vy) (hd : ux * vy - uy * vx = a * c)
    (h1 : -Nf f ux uy ≤ Tf f ux uy vx vy) (h2 : Tf f ux uy vx vy ≤ Nf f ux uy) : Nf f ux uy ≤ 73 ∧ Nf f vx vy ≤ 4114 := by
  have hn : 0 < a * c := Int.mul_pos ha hc
  have hv0 : ¬ (vx = 0 ∧ vy = 0) := by rintro ⟨rfl, rfl⟩; simp at hd; omega
  have le := hmin vx vy hv hv0
  have hN := Nf_pos hf hu0
  have e := NT f ux uy vx vy
  rw [hd] at e
  have hT := sq_le h1 h2
  have hff : 0 ≤ f * f ∧ f * f ≤ 1 := by rcases hf with rfl | rfl <;> decide
  have hsq : (a * c) * (a * c) ≤ 64 * 64 := Int.mul_le_mul hac hac (by omega) (by omega)
  have hsq0 : 0 ≤ (a * c) * (a * c) := by have := sq_nn (a * c); omega
  generalize (a * c) * (a * c) = S at *
  generalize f * f = F at *
  have hS : (4 - F) * S ≤ 4 * S := Int.mul_le_mul_of_nonneg_right (by omega) hsq0
  generalize Tf f ux uy vx vy = T at *
  generalize Nf f ux uy = N at *
  generalize Nf f vx vy = M at *
  have k1 : N * N ≤ N * M := Int.mul_le_mul_of_nonneg_left le (by omega)
  have hN73 : N ≤ 73 := by
    rcases Int.lt_or_le 73 N with h | h
    · have : 74 * 74 ≤ N * N := Int.mul_le_mul (by omega) (by omega) (by omega) (by omega)
      omega
    · exact h
  refine ⟨hN73, ?_⟩
  rcases Int.lt_or_le 4114 M with h | h
  · have k2 : N * 4115 ≤ N * M := Int.mul_le_mul_of_nonneg_left (by omega) (by omega)
    have k3 : N * N ≤ N * 73 := Int.mul_le_mul_of_nonneg_left hN73 (by omega)
    omega
  · exact h
theorem exists_min_nat {α : Type} (P : α → Prop) (f : α → Int) (hf : ∀ x, P x → 0 ≤ f x) : ∀ (n : Nat) (x : α), P x → f x ≤ n → ∃ x, P x ∧ ∀ y, P y → f x ≤ f y := by
  intro n
  induction n with
  | zero => intro x hx h; exact ⟨x, hx, fun y hy => by have := hf y hy; omega⟩
  | succ n ih =>
    intro x hx h
    by_cases hex : ∃ y, P y ∧ f y ≤ n
    · obtain ⟨y, hy, hle⟩ := hex; exact ih y hy hle
    · exact ⟨x, hx, fun y hy => by have : ¬ f y ≤ n := fun hl => hex ⟨y, hy, hl⟩; omega⟩
theorem exists_min {α : Type} (P : α → Prop) (f : α → Int) (hf : ∀ x, P x → 0 ≤ f x) (h : ∃ x, P x) : ∃ x, P x ∧ ∀ y, P y → f x ≤ f y := by
  obtain ⟨x, hx⟩ := h
  exact exists_min_nat P f hf (f x).toNat x hx (by have := hf x hx; omega)
theorem tmod_cases (a n : Int) (hn : 0 < n) : (0 ≤ a ∧ a.tmod n = a % n) ∨ (a < 0 ∧ a.tmod n = -((-a) % n)) := by
  rcases Int.lt_or_le a 0 with h | h
  · refine Or.inr ⟨h, ?_⟩
    have : a.tmod n = -((-a).tmod n) := by rw [Int.neg_tmod, Int.neg_neg]
    rw [this, Int.tmod_eq_emod_of_nonneg (by omega)]
  · exact Or.inl ⟨h, Int.tmod_eq_emod_of_nonneg h⟩
theorem tmod_bounds (a n : Int) (hn : 0 < n) : -n < a.tmod n ∧ a.tmod n < n := by
  have h1 := Int.emod_nonneg a (show n ≠ 0 by omega)
  have h2 := Int.emod_lt_of_pos a hn
  have h3 := Int.emod_nonneg (-a) (show n ≠ 0 by omega)
  have h4 := Int.emod_lt_of_pos (-a) hn
  rcases tmod_cases a n hn with ⟨_, e⟩ | ⟨_, e⟩ <;> rw [e] <;> omega
theorem neg_emod_add (a n : Int) (hn : 0 < n) : a % n = (n - (-a) % n) % n := by
  have e := Int.mul_ediv_add_emod (-a) n
  have : n - (-a) % n = a + n * ((-a) / n + 1) := by rw [Int.mul_add]; omega
  rw [this, Int.add_mul_emod_self_left]
theorem mod_add (a n : Int) (hn : 0 < n) : (a.tmod n + n).tmod n = a % n := by
  have h1 := Int.emod_nonneg a (show n ≠ 0 by omega)
  have h2 := Int.emod_lt_of_pos a hn
  have h3 := Int.emod_nonneg (-a) (show n ≠ 0 by omega)
  have h4 := Int.emod_lt_of_pos (-a) hn
  rcases tmod_cases a n hn with ⟨_, e⟩ | ⟨_, e⟩ <;> rw [e, Int.tmod_eq_emod_of_nonneg (by omega)]
  · rw [Int.add_emod_right, Int.emod_emod]
  · rw [neg_emod_add a n hn]; congr 1; omega
theorem mod_if (a n : Int) (hn : 0 < n) : (if a.tmod n < 0 then a.tmod n + n else a.tmod n) = a % n := by
  have h1 := Int.emod_nonneg a (show n ≠ 0 by omega)
  have h3 := Int.emod_nonneg (-a) (show n ≠ 0 by omega)
  have h4 := Int.emod_lt_of_pos (-a) hn
  rcases tmod_cases a n hn with ⟨_, e⟩ | ⟨_, e⟩ <;> rw [e]
  · rw [if_neg (by omega)]
  · split
    · rw [neg_emod_add a n hn, Int.emod_eq_of_lt (a := n - (-a) % n) (b := n) (by omega) (by omega)]; omega
    · have : (-a) % n = 0 := by omega
      rw [neg_emod_add a n hn, this]; simp
theorem tdiv_row (y c : Int) (hc : 0 < c) : (y - y % c).tdiv c = y / c := by
  have e := Int.mul_ediv_add_emod y c
  have : y - y % c = c * (y / c) := by omega
  rw [this, Int.mul_tdiv_cancel_left _ (by omega)]
theorem sorted_eq {α : Type} (lt : α → α → Prop) (irr : ∀ a, ¬ lt a a) (tr : ∀ a b c, lt a b → lt b c → lt a c) :
    ∀ l1 l2 : List α, l1.Pairwise lt → l2.Pairwise lt → (∀ x, x ∈ l1 ↔ x ∈ l2) → l1 = l2 := by
  intro l1
  induction l1 with
  | nil =>
    intro l2 _ _ h
    cases l2 with
    | nil => rfl
    | cons b t => exact absurd ((h b).mpr (List.mem_cons_self ..)) (by simp)
  | cons a s ih =>
    intro l2 h1 h2 h
    cases l2 with
    | nil => exact absurd ((h a).mp (List.mem_cons_self ..)) (by simp)
    | cons b t =>
      rw [List.pairwise_cons] at h1 h2
      have hab : a = b := by
        rcases List.mem_cons.mp ((h a).mp (List.mem_cons_self ..)) with e | e
        · exact e
        · rcases List.mem_cons.mp ((h b).mpr (List.mem_cons_self ..)) with e' | e'
          · exact e'.symm
          · exact absurd (tr _ _ _ (h1.1 b e') (h2.1 a e)) (irr a)
      subst hab
      congr 1
      refine ih t h1.2 h2.2 fun x => ⟨fun hx => ?_, fun hx => ?_⟩
      · rcases List.mem_cons.mp ((h x).mp (List.mem_cons_of_mem _ hx)) with e | e
        · subst e; exact absurd (h1.1 x hx) (irr x)
        · exact e
      · rcases List.mem_cons.mp ((h x).mpr (List.mem_cons_of_mem _ hx)) with e | e
        · subst e; exact absurd (h2.1 x hx) (irr x)
        · exact e
/-- The order of vectors. -/
def lx (p q : Int × Int) : Prop := p.1 < q.1 ∨ (p.1 = q.1 ∧ p.2 < q.2)
theorem lx_irr (a : Int × Int) : ¬ lx a a := by unfold lx; omega
theorem lx_tr (a b c : Int × Int) : lx a b → lx b c → lx a c := by unfold lx; omega
def rowF (x y : Int) : Nat → List (Int × Int)
  | 0 => []
  | d + 1 => (x, y) :: rowF x (y + 1) d
def boxF (lo : Int) (w : Nat) (x : Int) : Nat → List (Int × Int)
  | 0 => []
  | d + 1 => rowF x lo w ++ boxF lo w (x + 1) d
theorem mem_rowF (x : Int) : ∀ (d : Nat) (y : Int) (v : Int × Int), v ∈ rowF x y d ↔ v.1 = x ∧ y ≤ v.2 ∧ v.2 < y + d := by
  intro d
  induction d with
  | zero => intro y v; simp only [rowF, List.not_mem_nil, false_iff]; omega
  | succ d ih =>
    intro y v
    obtain ⟨v1, v2⟩ := v
    simp only [rowF, List.mem_cons, ih, Prod.mk.injEq]; omega
theorem rowF_sorted (x : Int) : ∀ (d : Nat) (y : Int), (rowF x y d).Pairwise lx := by
  intro d
  induction d with
  | zero => intro y; simp [rowF]
  | succ d ih =>
    intro y
    simp only [rowF, List.pairwise_cons]
    refine ⟨fun v hv => ?_, ih _⟩
    rw [mem_rowF] at hv
    unfold lx; simp only; omega
theorem mem_boxF (lo : Int) (w : Nat) : ∀ (d : Nat) (x : Int) (v : Int × Int), v ∈ boxF lo w x d ↔ (x ≤ v.1 ∧ v.1 < x + d) ∧ (lo ≤ v.2 ∧ v.2 < lo + w) := by
  intro d
  induction d with
  | zero => intro x v; simp only [boxF, List.not_mem_nil, false_iff]; omega
  | succ d ih =>
    intro x v
    simp only [boxF, List.mem_append, ih, mem_rowF]; omega
theorem boxF_sorted (lo : Int) (w : Nat) : ∀ (d : Nat) (x : Int), (boxF lo w x d).Pairwise lx := by
  intro d
  induction d with
  | zero => intro x; simp [boxF]
  | succ d ih =>
    intro x
    simp only [boxF, List.pairwise_append]
    refine ⟨rowF_sorted _ _ _, ih _, fun a ha b hb => ?_⟩
    rw [mem_rowF] at ha
    rw [mem_boxF] at hb
    unfold lx; omega
theorem rowF_len (x : Int) : ∀ (d : Nat) (y : Int), (rowF x y d).length = d := by
  intro d
  induction d with
  | zero => intro y; rfl
  | succ d ih => intro y; simp [rowF, ih]
theorem boxF_len (lo : Int) (w : Nat) : ∀ (d : Nat) (x : Int), (boxF lo w x d).length = d * w := by
  intro d
  induction d with
  | zero => intro x; simp [boxF]
  | succ d ih => intro x; simp [boxF, ih, rowF_len, Nat.add_mul]; omega
/-- All vectors with numbers from -n to n, in order. -/
def box (n : Nat) : List (Int × Int) := boxF (-n) (2 * n + 1) (-n) (2 * n + 1)
theorem mem_box (n : Nat) (v : Int × Int) : v ∈ box n ↔ (-(n : Int) ≤ v.1 ∧ v.1 ≤ n) ∧ (-(n : Int) ≤ v.2 ∧ v.2 ≤ n) := by
  unfold box; rw [mem_boxF]; omega
theorem box_sorted (n : Nat) : (box n).Pairwise lx := boxF_sorted _ _ _ _
theorem filter_box (p q : Int × Int → Bool) (m n : Nat) (hp : ∀ v, p v = true → v ∈ box m) (hq : ∀ v, q v = true → v ∈ box n) (h : ∀ v, p v = q v) : (box m).filter p = (box n).filter q := by
  refine sorted_eq lx lx_irr lx_tr _ _ ((box_sorted m).filter _) ((box_sorted n).filter _) fun v => ?_
  rw [List.mem_filter, List.mem_filter, h v]
  constructor
  · rintro ⟨_, h2⟩; exact ⟨hq v h2, h2⟩
  · rintro ⟨_, h2⟩; exact ⟨hp v (by rw [h v]; exact h2), h2⟩
/-- The last of the best of a list: the choice step by step. -/
def best (p : Int × Int → Bool) (f : Int × Int → Int) : List (Int × Int) → Option (Int × Int) → Option (Int × Int)
  | [], b => b
  | v :: l, b => best p f l (if p v = true then (match b with | none => some v | some u => if f v ≤ f u then some v else some u) else b)
/-- What is the best of a list so far: least, and the last of the least. -/
def isBest (p : Int × Int → Bool) (f : Int × Int → Int) (l : List (Int × Int)) : Option (Int × Int) → Prop
  | none => ∀ v ∈ l, p v = false
  | some u => u ∈ l ∧ p u = true ∧ ∀ v ∈ l, p v = true → f u < f v ∨ (f u = f v ∧ (v = u ∨ lx v u))
theorem best_is (p : Int × Int → Bool) (f : Int × Int → Int) : ∀ (l d : List (Int × Int)) (b : Option (Int × Int)), (d ++ l).Pairwise lx → isBest p f d b → isBest p f (d ++ l) (best p f l b) := by
  intro l
  induction l with
  | nil => intro d b _ h; simpa [best] using h
  | cons v l ih =>
    intro d b hs h
    have e : d ++ v :: l = (d ++ [v]) ++ l := by simp
    rw [e] at hs ⊢
    refine ih (d ++ [v]) _ hs ?_
    have hd : ∀ u ∈ d, lx u v := by
      intro u hu
      have := (List.pairwise_append.mp (List.pairwise_append.mp hs).1).2.2 u hu v (by simp)
      exact this
    by_cases hp : p v = true
    · rw [if_pos hp]
      cases b with
      | none =>
        refine ⟨by simp, hp, fun u hu hpu => ?_⟩
        rcases List.mem_append.mp hu with hu | hu
        · exact absurd hpu (by rw [h u hu]; simp)
        · simp at hu; subst hu; exact Or.inr ⟨rfl, Or.inl rfl⟩
      | some u0 =>
        obtain ⟨m0, p0, h0⟩ := h
        simp only
        by_cases hf : f v ≤ f u0
        · rw [if_pos hf]
          refine ⟨by simp, hp, fun u hu hpu => ?_⟩
          rcases List.mem_append.mp hu with hu | hu
          · have := hd u hu
            rcases h0 u hu hpu with h1 | ⟨h1, _⟩
            · exact Or.inl (by omega)
            · rcases Int.lt_or_eq_of_le hf with h2 | h2
              · exact Or.inl (by omega)
              · exact Or.inr ⟨by omega, Or.inr this⟩
          · simp at hu; subst hu; exact Or.inr ⟨rfl, Or.inl rfl⟩
        · rw [if_neg hf]
          refine ⟨by simp [m0], p0, fun u hu hpu => ?_⟩
          rcases List.mem_append.mp hu with hu | hu
          · exact h0 u hu hpu
          · simp at hu; subst hu; exact Or.inl (by omega)
    · rw [if_neg hp]
      cases b with
      | none =>
        intro u hu
        rcases List.mem_append.mp hu with hu | hu
        · exact h u hu
        · simp at hu; subst hu; simpa using hp
      | some u0 =>
        obtain ⟨m0, p0, h0⟩ := h
        refine ⟨by simp [m0], p0, fun u hu hpu => ?_⟩
        rcases List.mem_append.mp hu with hu | hu
        · exact h0 u hu hpu
        · simp at hu; subst hu; exact absurd hpu hp
/-- Two lists in order, each with the least vectors, have the same best one. -/
theorem best_unique {p : Int × Int → Bool} {f : Int × Int → Int} {l1 l2 : List (Int × Int)} {b1 b2 : Option (Int × Int)} (h1 : isBest p f l1 b1) (h2 : isBest p f l2 b2)
    {w : Int × Int} (hw : p w = true) (hmin : ∀ v, p v = true → f v ≤ f w → v ∈ l1 ∧ v ∈ l2) : b1 = b2 ∧ ∃ u, b1 = some u ∧ p u = true ∧ f u ≤ f w := by
  obtain ⟨w1, w2⟩ := hmin w hw (Int.le_refl _)
  cases b1 with
  | none => exact absurd hw (by rw [h1 w w1]; simp)
  | some u1 =>
    cases b2 with
    | none => exact absurd hw (by rw [h2 w w2]; simp)
    | some u2 =>
      obtain ⟨m1, p1, k1⟩ := h1
      obtain ⟨m2, p2, k2⟩ := h2
      have f1 : f u1 ≤ f w := by rcases k1 w w1 hw with h | ⟨h, _⟩ <;> omega
      have f2 : f u2 ≤ f w := by rcases k2 w w2 hw with h | ⟨h, _⟩ <;> omega
      have q1 := k1 u2 (hmin u2 p2 f2).1 p2
      have q2 := k2 u1 (hmin u1 p1 f1).2 p1
      refine ⟨?_, u1, rfl, p1, f1⟩
      rcases q1 with q1 | ⟨_, q1 | q1⟩
      · rcases q2 with q2 | ⟨q2, _⟩ <;> omega
      · rw [q1]
      · rcases q2 with q2 | ⟨_, q2 | q2⟩
        · omega
        · rw [q2]
        · exact absurd (lx_tr _ _ _ q1 q2) (lx_irr _)
def latB (a b c : Int) : Bool := decide ((1 ≤ a ∧ a ≤ 64) ∧ (1 ≤ c ∧ c ≤ 64) ∧ (0 ≤ b ∧ b ≤ a - 1) ∧ a * c ≤ 64)
theorem wrap_id {x : Int} (h1 : -9223372036854775808 ≤ x) (h2 : x < 9223372036854775808) : wrap64 x = x := by unfold wrap64; omega
theorem prod_bd {a b A B : Int} (ha : -A ≤ a) (ha' : a ≤ A) (hb : -B ≤ b) (hb' : b ≤ B) (hA : 0 ≤ A) : -(A * B) ≤ a * b ∧ a * b ≤ A * B := by
  have h1 : (a * b).natAbs ≤ A.natAbs * B.natAbs := by rw [Int.natAbs_mul]; exact Nat.mul_le_mul (by omega) (by omega)
  have h2 : (A * B).natAbs = A.natAbs * B.natAbs := Int.natAbs_mul A B
  have h3 : 0 ≤ A * B := Int.mul_nonneg hA (by omega)
  omega
theorem latB_iff {a b c : Int} : latB a b c = true ↔ (1 ≤ a ∧ a ≤ 64) ∧ (1 ≤ c ∧ c ≤ 64) ∧ (0 ≤ b ∧ b ≤ a - 1) ∧ a * c ≤ 64 := by unfold latB; rw [decide_eq_true_iff]
/-- Products of small numbers need no wrapping. -/
theorem wrap_mul {a b A B : Int} (ha : -A ≤ a) (ha' : a ≤ A) (hb : -B ≤ b) (hb' : b ≤ B) (hA : 0 ≤ A) (h : A * B < 9223372036854775808) : wrap64 (a * b) = a * b := by
  have := prod_bd ha ha' hb hb' hA; exact wrap_id (by omega) (by omega)
def frameB (f : Int) : Bool := decide (f = 0 ∨ f = 1)
/-- The cell of a vector. -/
def redV (a b c x y : Int) : Int × Int := ((x - y / c * b) % a, y % c)
def hasB (a b c x y : Int) : Bool := (redV a b c x y).1 == 0 && (redV a b c x y).2 == 0
theorem hasB_iff {a b c x y : Int} (hc : c ≠ 0) : hasB a b c x y = true ↔ L a b c x y := by
  rw [L_iff hc]; unfold hasB redV; simp [and_comm]
theorem wf_bd {a : Int} (h : (Go.Lit.int .i64 a).wf = true) : -9223372036854775808 ≤ a ∧ a < 9223372036854775808 := by
  simp only [Go.Lit.wf, Bool.and_eq_true, decide_eq_true_eq] at h
  obtain ⟨h1, h2⟩ := h
  have e1 : Go.IntKind.min .i64 = -9223372036854775808 := by decide
  have e2 : Go.IntKind.max .i64 = 9223372036854775807 := by decide
  omega
theorem spec_l01In_eq (a b c : Int) : spec_l01In.f a b c = some (decide (b ≤ a ∧ a ≤ c)) := by
  unfold spec_l01In.f; split <;> simp <;> omega
theorem impl_within_eq (a b c : Int) : impl_within.f a b c = some (decide (b ≤ a ∧ a ≤ c)) := by
  unfold impl_within.f; split <;> simp <;> omega
theorem spec_IsLattice_eq (a b c : Int) (h1 : -9223372036854775808 ≤ a) (h2 : a < 9223372036854775808) : spec_IsLattice.f a b c = some (latB a b c) := by
  unfold spec_IsLattice.f latB; simp only [spec_l01In_eq, Option.bind_some]
  by_cases ha : 1 ≤ a ∧ a ≤ 64
  · by_cases hc : 1 ≤ c ∧ c ≤ 64
    · rw [wrap_id (x := a - 1) (by omega) (by omega), wrap_mul (A := 64) (B := 64) (by omega) (by omega) (by omega) (by omega) (by omega) (by omega)]
      simp only [ha, hc, and_self, decide_true, if_true]
      by_cases hb : 0 ≤ b ∧ b ≤ a - 1 <;> simp [hb]
    · simp [ha]; split <;> simp_all <;> omega
  · simp; split <;> simp_all <;> omega
theorem impl_IsLattice_eq (a b c : Int) (h1 : -9223372036854775808 ≤ a) (h2 : a < 9223372036854775808) : impl_IsLattice.f a b c = some (latB a b c) := by
  unfold impl_IsLattice.f latB impl_Lattice_index.f; simp only [impl_within_eq, Option.bind_some]
  by_cases ha : 1 ≤ a ∧ a ≤ 64
  · by_cases hc : 1 ≤ c ∧ c ≤ 64
    · rw [wrap_id (x := a - 1) (by omega) (by omega), wrap_mul (A := 64) (B := 64) (by omega) (by omega) (by omega) (by omega) (by omega) (by omega)]
      simp only [ha, hc, and_self, decide_true, if_true]
      by_cases hb : 0 ≤ b ∧ b ≤ a - 1 <;> simp [hb]
    · simp [ha]; split <;> simp_all <;> omega
  · simp; split <;> simp_all <;> omega
theorem spec_IsFrame_eq (f : Int) : spec_IsFrame.f f = some (frameB f) := by
  unfold spec_IsFrame.f frameB
  by_cases h : f = 0
  · simp [h]
  · by_cases h' : f = 1 <;> simp [h, h']
theorem impl_IsFrame_eq (f : Int) : impl_IsFrame.f f = some (frameB f) := by
  unfold impl_IsFrame.f frameB; simp only [impl_within_eq, Option.bind_some]; congr 1; exact decide_eq_decide.mpr (by omega)
theorem spec_l04Norm_eq (f : Int) {x y : Int} (hf : f = 0 ∨ f = 1) (hx : -100000 ≤ x ∧ x ≤ 100000) (hy : -100000 ≤ y ∧ y ≤ 100000) : spec_l04Norm.f f x y = some (Nf f x y) := by
  have h1 := prod_bd hx.1 hx.2 hx.1 hx.2 (by omega)
  have h2 := prod_bd hy.1 hy.2 hy.1 hy.2 (by omega)
  have h3 := prod_bd hx.1 hx.2 hy.1 hy.2 (by omega)
  unfold spec_l04Norm.f Nf
  rw [wrap_id (x := x * x) (by omega) (by omega), wrap_id (x := y * y) (by omega) (by omega), wrap_id (x := x * y) (by omega) (by omega), wrap_id (x := x * x + y * y) (by omega) (by omega)]
  rcases hf with rfl | rfl
  · rw [if_neg (by omega), Int.zero_mul, Int.zero_mul]; congr 1; omega
  · rw [if_pos rfl, wrap_id (by omega) (by omega), Int.one_mul]; congr 1; omega
theorem impl_norm_eq (f : Int) {x y : Int} (hf : f = 0 ∨ f = 1) (hx : -100000 ≤ x ∧ x ≤ 100000) (hy : -100000 ≤ y ∧ y ≤ 100000) : impl_norm.f f x y = some (Nf f x y) := by
  have h1 := prod_bd hx.1 hx.2 hx.1 hx.2 (by omega)
  have h2 := prod_bd hy.1 hy.2 hy.1 hy.2 (by omega)
  have h3 := prod_bd hx.1 hx.2 hy.1 hy.2 (by omega)
  unfold impl_norm.f Nf
  rcases hf with rfl | rfl
  · simp only [Int.zero_mul]
    rw [wrap_id (x := x * x) (by omega) (by omega), wrap_id (x := y * y) (by omega) (by omega), wrap_id (x := 0) (by omega) (by omega), Int.zero_mul, wrap_id (x := 0) (by omega) (by omega), wrap_id (x := x * x + 0) (by omega) (by omega), wrap_id (by omega) (by omega)]
  · simp only [Int.one_mul]
    rw [wrap_id (x := x) (by omega) (by omega), wrap_id (x := x * x) (by omega) (by omega), wrap_id (x := y * y) (by omega) (by omega), wrap_id (x := x * y) (by omega) (by omega), wrap_id (x := x * x + x * y) (by omega) (by omega), wrap_id (by omega) (by omega)]
theorem frameB_iff {f : Int} : frameB f = true ↔ f = 0 ∨ f = 1 := by unfold frameB; exact decide_eq_true_iff
theorem spec_l01Mod_eq {a n : Int} (hn : 0 < n) (hn2 : n ≤ 1000000000000000000) : spec_l01Mod.f a n = some (a % n) := by
  unfold spec_l01Mod.f
  have hb := tmod_bounds a n hn
  rw [if_neg (by omega)]
  rw [wrap_id (by omega) (by omega)]
  have := mod_if a n hn
  split <;> rename_i h
  · rw [if_pos h] at this; rw [this]
  · rw [if_neg h] at this; rw [this]
theorem impl_mod_eq {a n : Int} (hn : 0 < n) (hn2 : n ≤ 1000000000000000000) : impl_mod.f a n = some (a % n) := by
  unfold impl_mod.f
  have hb := tmod_bounds a n hn
  rw [if_neg (by omega), wrap_id (by omega) (by omega), mod_add a n hn]
theorem reduce_bd {a b c x y : Int} (ha : 1 ≤ a ∧ a ≤ 64) (hc : 1 ≤ c ∧ c ≤ 64) (hb : 0 ≤ b ∧ b ≤ 63) (hx : -1000000 ≤ x ∧ x ≤ 1000000) (hy : -1000000 ≤ y ∧ y ≤ 1000000) :
    (0 ≤ y % c ∧ y % c < c) ∧ (-1000000 ≤ y / c ∧ y / c ≤ 1000000) ∧ (-63000000 ≤ y / c * b ∧ y / c * b ≤ 63000000) := by
  have h1 := Int.emod_nonneg y (show c ≠ 0 by omega)
  have h2 := Int.emod_lt_of_pos y (show 0 < c by omega)
  have h3 := Int.natAbs_ediv_le_natAbs y c
  have h4 := prod_bd (a := y / c) (b := b) (A := 1000000) (B := 63) (by omega) (by omega) (by omega) (by omega) (by omega)
  omega
theorem spec_l03Reduce_eq {a b c x y : Int} (ha : 1 ≤ a ∧ a ≤ 64) (hc : 1 ≤ c ∧ c ≤ 64) (hb : 0 ≤ b ∧ b ≤ 63) (hx : -1000000 ≤ x ∧ x ≤ 1000000) (hy : -1000000 ≤ y ∧ y ≤ 1000000) :
    spec_l03Reduce.f a b c x y = some (redV a b c x y) := by
  obtain ⟨h1, h2, h3⟩ := reduce_bd ha hc hb hx hy
  unfold spec_l03Reduce.f redV
  rw [spec_l01Mod_eq (by omega) (by omega)]
  simp only [Option.bind_some]
  rw [if_neg (by omega), wrap_id (x := y - y % c) (by omega) (by omega), tdiv_row y c (by omega), wrap_id (x := y / c) (by omega) (by omega), wrap_id (x := y / c * b) (by omega) (by omega), wrap_id (x := x - y / c * b) (by omega) (by omega), spec_l01Mod_eq (by omega) (by omega)]
  rfl
theorem reduce_bd' {a b c x y : Int} (ha : 1 ≤ a ∧ a ≤ 64) (hc : 1 ≤ c ∧ c ≤ 64) (hb : 0 ≤ b ∧ b ≤ 63) (hx : -1000000 ≤ x ∧ x ≤ 1000000) (hy : -1000000 ≤ y ∧ y ≤ 1000000) :
    (0 ≤ y % c ∧ y % c < c) ∧ (-1000000 ≤ y / c ∧ y / c ≤ 1000000) ∧ (-63000000 ≤ y / c * b ∧ y / c * b ≤ 63000000) := by
  have h1 := Int.emod_nonneg y (show c ≠ 0 by omega)
  have h2 := Int.emod_lt_of_pos y (show 0 < c by omega)
  have h3 := Int.natAbs_ediv_le_natAbs y c
  have h4 := prod_bd (a := y / c) (b := b) (A := 1000000) (B := 63) (by omega) (by omega) (by omega) (by omega) (by omega)
  omega
theorem impl_Lattice_reduce_eq {a b c x y : Int} (ha : 1 ≤ a ∧ a ≤ 64) (hc : 1 ≤ c ∧ c ≤ 64) (hb : 0 ≤ b ∧ b ≤ 63) (hx : -1000000 ≤ x ∧ x ≤ 1000000) (hy : -1000000 ≤ y ∧ y ≤ 1000000) :
    impl_Lattice_reduce.f a b c x y = some (redV a b c x y) := by
  obtain ⟨h1, h2, h3⟩ := reduce_bd' ha hc hb hx hy
  unfold impl_Lattice_reduce.f redV
  rw [impl_mod_eq (by omega) (by omega)]
  simp only [Option.bind_some]
  rw [if_neg (by omega), wrap_id (x := y - y % c) (by omega) (by omega), tdiv_row y c (by omega), wrap_id (x := y / c) (by omega) (by omega), wrap_id (x := y / c * b) (by omega) (by omega), wrap_id (x := x - y / c * b) (by omega) (by omega), impl_mod_eq (by omega) (by omega)]
  rfl
theorem spec_l03Has_eq {a b c x y : Int} (ha : 1 ≤ a ∧ a ≤ 64) (hc : 1 ≤ c ∧ c ≤ 64) (hb : 0 ≤ b ∧ b ≤ 63) (hx : -1000000 ≤ x ∧ x ≤ 1000000) (hy : -1000000 ≤ y ∧ y ≤ 1000000) :
    spec_l03Has.f a b c x y = some (hasB a b c x y) := by
  unfold spec_l03Has.f hasB
  rw [spec_l03Reduce_eq ha hc hb hx hy]; rfl
theorem impl_Lattice_has_eq {a b c x y : Int} (ha : 1 ≤ a ∧ a ≤ 64) (hc : 1 ≤ c ∧ c ≤ 64) (hb : 0 ≤ b ∧ b ≤ 63) (hx : -1000000 ≤ x ∧ x ≤ 1000000) (hy : -1000000 ≤ y ∧ y ≤ 1000000) :
    impl_Lattice_has.f a b c x y = some (hasB a b c x y) := by
  unfold impl_Lattice_has.f hasB
  rw [impl_Lattice_reduce_eq ha hc hb hx hy]; rfl
/-- A vector as the printed lists hold it. -/
def mkSV (v : Int × Int) : S28 := ⟨v.1, v.2⟩
def frLat (f a b c : Int) : Bool := frameB f && latB a b c
theorem spec_l04Code_eq (f a b c : Int) (w : -9223372036854775808 ≤ a ∧ a < 9223372036854775808) : spec_l04Code.f f a b c = some (if frLat f a b c = true then 0 else 1) := by
  unfold spec_l04Code.f frLat
  simp only [spec_IsFrame_eq, spec_IsLattice_eq a b c w.1 w.2, Option.bind_some]
  cases frameB f <;> cases latB a b c <;> rfl
theorem impl_frameCode_eq (f a b c : Int) (w : -9223372036854775808 ≤ a ∧ a < 9223372036854775808) : impl_frameCode.f f a b c = some (if frLat f a b c = true then 0 else 1) := by
  unfold impl_frameCode.f frLat
  simp only [impl_IsFrame_eq, impl_IsLattice_eq a b c w.1 w.2, Option.bind_some]
  cases frameB f <;> cases latB a b c <;> rfl
theorem impl_around_row (n x : Int) (hn : 0 ≤ n ∧ n ≤ 200) (k : Nat) : ∀ (d : Nat) (y : Int) (out : List S28), y + d = n + 1 → -200 ≤ y → out.length + d ≤ 1000000 →
    impl_vecsAround.l1 (k + d + 1) n out x y = impl_vecsAround.l0 k n (out ++ (rowF x y d).map mkSV) (wrap64 (x + 1)) := by
  intro d
  induction d with
  | zero => intro y out h0 hy hl; rw [impl_vecsAround.l1, if_neg (by omega)]; simp [rowF]
  | succ d ih =>
    intro y out h0 hy hl
    rw [show k + (d + 1) + 1 = (k + d + 1) + 1 by omega, impl_vecsAround.l1, if_pos (by omega), if_pos (by omega), wrap_id (x := y + 1) (by omega) (by omega), ih (y + 1) _ (by omega) (by omega) (by simp; omega)]
    simp [rowF, mkSV]
theorem impl_around_box (n : Nat) (hn : n ≤ 200) (k : Nat) : ∀ (d : Nat) (x : Int) (out : List S28), x + d = n + 1 → -200 ≤ x → out.length + d * (2 * n + 1) ≤ 900000 →
    impl_vecsAround.l0 (k + d * (2 * n + 1 + 2) + 1) n out x = some (out ++ (boxF (-n) (2 * n + 1) x d).map mkSV) := by
  intro d
  induction d with
  | zero => intro x out h0 hx hl; rw [impl_vecsAround.l0, if_neg (by omega)]; simp [boxF]
  | succ d ih =>
    intro x out h0 hx hl
    have e : k + (d + 1) * (2 * n + 1 + 2) + 1 = ((k + d * (2 * n + 1 + 2) + 1) + (2 * n + 1) + 1) + 1 := by rw [Nat.add_mul]; omega
    rw [Nat.add_mul] at hl
    rw [e, impl_vecsAround.l0, if_pos (by omega), wrap_id (x := -(n : Int)) (by omega) (by omega), impl_around_row n x (by omega) _ (2 * n + 1) (-n) out (by omega) (by omega) (by omega), wrap_id (x := x + 1) (by omega) (by omega), ih (x + 1) _ (by omega) (by omega) (by simp [rowF_len]; omega)]
    simp [boxF]
theorem impl_vecsAround_eq (n : Nat) (hn : n ≤ 200) (k : Nat) (hk : 200000 ≤ k) : impl_vecsAround.f k n = some ((box n).map mkSV) := by
  unfold impl_vecsAround.f box
  have h1 : (2 * n + 1) * (2 * n + 1 + 2) ≤ 401 * 403 := Nat.mul_le_mul (by omega) (by omega)
  have h2 : (2 * n + 1) * (2 * n + 1) ≤ 401 * 401 := Nat.mul_le_mul (by omega) (by omega)
  obtain ⟨j, rfl⟩ : ∃ j, k = j + (2 * n + 1) * (2 * n + 1 + 2) + 1 := ⟨k - (2 * n + 1) * (2 * n + 1 + 2) - 1, by omega⟩
  rw [wrap_id (x := -(n : Int)) (by omega) (by omega), impl_around_box n hn j (2 * n + 1) (-n) [] (by omega) (by omega) (by simp; omega)]; simp
def nearP (f N : Int) (v : Int × Int) : Bool := decide (Nf f v.1 v.2 ≤ N)
theorem spec_near_row (f N n x : Int) (hf : f = 0 ∨ f = 1) (hn : 0 ≤ n ∧ n ≤ 200) (hx : -200 ≤ x ∧ x ≤ 200) (k : Nat) : ∀ (d : Nat) (y : Int) (out : List S28), y + d = n + 1 → -200 ≤ y → out.length + d ≤ 1000000 →
    spec_l04Near.l1 (k + d + 1) f N n out x y = spec_l04Near.l0 k f N n (out ++ ((rowF x y d).filter (nearP f N)).map mkSV) (wrap64 (x + 1)) := by
  intro d
  induction d with
  | zero => intro y out h0 hy hl; rw [spec_l04Near.l1, if_neg (by omega)]; simp [rowF]
  | succ d ih =>
    intro y out h0 hy hl
    rw [show k + (d + 1) + 1 = (k + d + 1) + 1 by omega, spec_l04Near.l1, if_pos (by omega), spec_l04Norm_eq f hf (by omega) (by omega)]
    simp only [Option.bind_some]
    rw [wrap_id (x := y + 1) (by omega) (by omega)]
    by_cases hN : Nf f x y ≤ N
    · rw [if_pos hN, if_pos (by omega), ih (y + 1) _ (by omega) (by omega) (by simp; omega)]
      have e : nearP f N (x, y) = true := by simp [nearP, hN]
      simp [rowF, e, mkSV]
    · rw [if_neg hN, ih (y + 1) _ (by omega) (by omega) (by omega)]
      have e : nearP f N (x, y) = false := by simp [nearP, hN]
      simp [rowF, e]
theorem filter_row_len (f N x : Int) (d : Nat) (y : Int) : ((rowF x y d).filter (nearP f N)).length ≤ d := by
  have := List.length_filter_le (nearP f N) (rowF x y d)
  rw [rowF_len] at this; exact this
theorem spec_near_box (f N : Int) (hf : f = 0 ∨ f = 1) (n : Nat) (hn : n ≤ 200) (k : Nat) : ∀ (d : Nat) (x : Int) (out : List S28), x + d = n + 1 → -200 ≤ x → out.length + d * (2 * n + 1) ≤ 900000 →
    spec_l04Near.l0 (k + d * (2 * n + 1 + 2) + 1) f N n out x = some (out ++ ((boxF (-n) (2 * n + 1) x d).filter (nearP f N)).map mkSV) := by
  intro d
  induction d with
  | zero => intro x out h0 hx hl; rw [spec_l04Near.l0, if_neg (by omega)]; simp [boxF]
  | succ d ih =>
    intro x out h0 hx hl
    have e : k + (d + 1) * (2 * n + 1 + 2) + 1 = ((k + d * (2 * n + 1 + 2) + 1) + (2 * n + 1) + 1) + 1 := by rw [Nat.add_mul]; omega
    rw [Nat.add_mul] at hl
    have hr := filter_row_len f N x (2 * n + 1) (-n)
    rw [e, spec_l04Near.l0, if_pos (by omega), wrap_id (x := -(n : Int)) (by omega) (by omega), spec_near_row f N n x hf (by omega) (by omega) _ (2 * n + 1) (-n) out (by omega) (by omega) (by omega), wrap_id (x := x + 1) (by omega) (by omega), ih (x + 1) _ (by omega) (by omega) (by simp; omega)]
    simp [boxF]
theorem spec_l04Near_eq (f N : Int) (hf : f = 0 ∨ f = 1) (n : Nat) (hn : n ≤ 200) (k : Nat) (hk : 200000 ≤ k) : spec_l04Near.f k f N n = some (((box n).filter (nearP f N)).map mkSV) := by
  unfold spec_l04Near.f box
  have h1 : (2 * n + 1) * (2 * n + 1 + 2) ≤ 401 * 403 := Nat.mul_le_mul (by omega) (by omega)
  have h2 : (2 * n + 1) * (2 * n + 1) ≤ 401 * 401 := Nat.mul_le_mul (by omega) (by omega)
  obtain ⟨j, rfl⟩ : ∃ j, k = j + (2 * n + 1) * (2 * n + 1 + 2) + 1 := ⟨k - (2 * n + 1) * (2 * n + 1 + 2) - 1, by omega⟩
  rw [wrap_id (x := -(n : Int)) (by omega) (by omega), spec_near_box f N hf n hn j (2 * n + 1) (-n) [] (by omega) (by omega) (by simp; omega)]; simp
def smallL (l : List (Int × Int)) : Prop := ∀ v ∈ l, (-200 ≤ v.1 ∧ v.1 ≤ 200) ∧ (-200 ≤ v.2 ∧ v.2 ≤ 200)
theorem rd_map_at (pre : List S28) (v : Int × Int) (t : List S28) (i : Int) (hi : i = pre.length) : rd_T28 (pre ++ mkSV v :: t) i = mkSV v := by
  subst hi; unfold rd_T28; simp
def leastF (p : Int × Int → Bool) (g : Int × Int → Int) : List (Int × Int) → Int → Int
  | [], m => m
  | v :: l, m => leastF p g l (if p v = true ∧ g v < m then g v else m)
def inP (f a b c : Int) (v : Int × Int) : Bool := decide (Nf f v.1 v.2 > 0) && hasB a b c v.1 v.2
def nF (f : Int) (v : Int × Int) : Int := Nf f v.1 v.2
theorem spec_least {f a b c : Int} (hf : f = 0 ∨ f = 1) (ha : 1 ≤ a ∧ a ≤ 64) (hc : 1 ≤ c ∧ c ≤ 64) (hb : 0 ≤ b ∧ b ≤ 63) (T : List S28) (hT : T.length ≤ 1000000) (k : Nat) :
    ∀ (l : List (Int × Int)) (pre : List S28) (m i : Int), T = pre ++ l.map mkSV → i = pre.length → smallL l →
    spec_l04Shortest.l0 (k + l.length + 1) f T m i a b c = spec_l04Shortest.l1 k f T (leastF (inP f a b c) (nF f) l m) [] 0 a b c := by
  intro l
  induction l with
  | nil => intro pre m i e hi hs; rw [spec_l04Shortest.l0, if_neg (by subst hi; subst e; simp)]; rfl
  | cons v l ih =>
    intro pre m i e hi hs
    have hv := hs v (by simp)
    have hlen : T.length = pre.length + (l.length + 1) := by rw [e]; simp
    have hr : rd_T28 T i = mkSV v := by rw [e]; exact rd_map_at pre v _ i hi
    have hn := ih (pre ++ [mkSV v]) (if inP f a b c v = true ∧ nF f v < m then nF f v else m) (i + 1) (by rw [e]; simp) (by rw [hi]; simp) (fun u hu => hs u (by simp [hu]))
    rw [show k + (v :: l).length + 1 = (k + l.length + 1) + 1 by simp; omega, spec_l04Shortest.l0, if_pos (by omega), if_pos (by omega), hr, wrap_id (x := i + 1) (by omega) (by omega)]
    rw [show (mkSV v).f0 = v.1 from rfl, show (mkSV v).f1 = v.2 from rfl, spec_l04Norm_eq f hf (by omega) (by omega), spec_l03Has_eq ha hc hb (by omega) (by omega)]
    simp only [Option.bind_some]
    rw [leastF, ← hn]
    unfold inP nF
    by_cases h1 : Nf f v.1 v.2 > 0
    · rw [if_pos h1]
      by_cases h2 : Nf f v.1 v.2 < m
      · rw [if_pos h2]
        by_cases h3 : hasB a b c v.1 v.2 = true
        · simp [h1, h2, h3]
        · simp [h1, h2, h3]
      · rw [if_neg h2]; simp [h2]
    · rw [if_neg h1]; simp [h1]
theorem spec_pick {f a b c : Int} (hf : f = 0 ∨ f = 1) (ha : 1 ≤ a ∧ a ≤ 64) (hc : 1 ≤ c ∧ c ≤ 64) (hb : 0 ≤ b ∧ b ≤ 63) (T : List S28) (hT : T.length ≤ 1000000) (k : Nat) (m : Int) :
    ∀ (l : List (Int × Int)) (pre out : List S28) (i : Int), T = pre ++ l.map mkSV → i = pre.length → smallL l → out.length ≤ pre.length →
    spec_l04Shortest.l1 (k + l.length + 1) f T m out i a b c = some (out ++ (l.filter (fun v => (nF f v == m) && hasB a b c v.1 v.2)).map mkSV) := by
  intro l
  induction l with
  | nil => intro pre out i e hi hs ho; rw [spec_l04Shortest.l1, if_neg (by subst hi; subst e; simp)]; simp
  | cons v l ih =>
    intro pre out i e hi hs ho
    have hv := hs v (by simp)
    have hlen : T.length = pre.length + (l.length + 1) := by rw [e]; simp
    have hr : rd_T28 T i = mkSV v := by rw [e]; exact rd_map_at pre v _ i hi
    have hn := fun o (h : o.length ≤ pre.length + 1) => ih (pre ++ [mkSV v]) o (i + 1) (by rw [e]; simp) (by rw [hi]; simp) (fun u hu => hs u (by simp [hu])) (by simpa using h)
    rw [show k + (v :: l).length + 1 = (k + l.length + 1) + 1 by simp; omega, spec_l04Shortest.l1, if_pos (by omega), if_pos (by omega), hr, wrap_id (x := i + 1) (by omega) (by omega)]
    rw [show (mkSV v).f0 = v.1 from rfl, show (mkSV v).f1 = v.2 from rfl, spec_l04Norm_eq f hf (by omega) (by omega), spec_l03Has_eq ha hc hb (by omega) (by omega)]
    simp only [Option.bind_some]
    by_cases h1 : Nf f v.1 v.2 = m
    · rw [if_pos h1]
      by_cases h3 : hasB a b c v.1 v.2 = true
      · rw [if_pos h3, if_pos (by omega), hn _ (by simp; omega)]
        simp [nF, h1, h3, mkSV]
      · rw [if_neg h3, hn _ (by omega)]; simp [nF, h1, h3]
    · rw [if_neg h1, hn _ (by omega)]; simp [nF, h1]
theorem least_is (p : Int × Int → Bool) (g : Int × Int → Int) : ∀ (l : List (Int × Int)) (m : Int), leastF p g l m ≤ m ∧ (∀ v ∈ l, p v = true → leastF p g l m ≤ g v) ∧ (leastF p g l m = m ∨ ∃ v ∈ l, p v = true ∧ leastF p g l m = g v) := by
  intro l
  induction l with
  | nil => intro m; exact ⟨Int.le_refl _, by simp, .inl rfl⟩
  | cons v l ih =>
    intro m
    rw [leastF]
    by_cases h : p v = true ∧ g v < m
    · rw [if_pos h]
      obtain ⟨h1, h2, h3⟩ := ih (g v)
      refine ⟨by omega, fun u hu hp => ?_, ?_⟩
      · rcases List.mem_cons.mp hu with rfl | hu
        · exact h1
        · exact h2 u hu hp
      · rcases h3 with h3 | ⟨u, hu, hp, he⟩
        · exact .inr ⟨v, by simp, h.1, h3⟩
        · exact .inr ⟨u, by simp [hu], hp, he⟩
    · rw [if_neg h]
      obtain ⟨h1, h2, h3⟩ := ih m
      refine ⟨h1, fun u hu hp => ?_, ?_⟩
      · rcases List.mem_cons.mp hu with rfl | hu
        · have : ¬ g u < m := fun hl => h ⟨hp, hl⟩
          omega
        · exact h2 u hu hp
      · rcases h3 with h3 | ⟨u, hu, hp, he⟩
        · exact .inl h3
        · exact .inr ⟨u, by simp [hu], hp, he⟩
def pickF (p : Int × Int → Bool) (g : Int × Int → Int) : List (Int × Int) → List (Int × Int) → Int → List (Int × Int)
  | [], o, m => o
  | v :: l, o, m => if p v = true ∧ ¬ (m > 0 ∧ g v > m) then (if g v = m then pickF p g l (o ++ [v]) m else pickF p g l [v] (g v)) else pickF p g l o m
theorem pick_is (p : Int × Int → Bool) (g : Int × Int → Int) (hg : ∀ v, p v = true → 0 < g v) {M : Int} (hM : 0 < M) (hmin : ∀ v, p v = true → M ≤ g v) : ∀ (l d o : List (Int × Int)) (m : Int),
    (∃ v ∈ d ++ l, p v = true ∧ g v = M) →
    ((m = 0 ∧ o = [] ∧ ∀ v ∈ d, p v = false) ∨ (0 < m ∧ (∀ v ∈ d, p v = true → m ≤ g v) ∧ (∃ v ∈ d, p v = true ∧ g v = m) ∧ o = d.filter (fun v => (g v == m) && p v))) →
    pickF p g l o m = (d ++ l).filter (fun v => (g v == M) && p v) := by
  intro l
  induction l with
  | nil =>
    intro d o m ⟨v, hv, hp, he⟩ h
    simp only [List.append_nil] at hv ⊢
    rw [pickF]
    rcases h with ⟨_, _, h⟩ | ⟨h1, h2, ⟨u, hu, hpu, hgu⟩, h4⟩
    · rw [h v hv] at hp; exact absurd hp (by decide)
    · have := h2 v hv hp
      have := hmin u hpu
      have : m = M := by omega
      subst this; exact h4
  | cons v l ih =>
    intro d o m hex h
    have e : d ++ v :: l = (d ++ [v]) ++ l := by simp
    rw [e] at hex ⊢
    rw [pickF]
    by_cases hp : p v = true
    · have hgv := hg v hp
      by_cases hm : m > 0 ∧ g v > m
      · rw [if_neg (fun q => q.2 hm)]
        refine ih (d ++ [v]) o m hex ?_
        rcases h with ⟨h1, _⟩ | ⟨h1, h2, ⟨u, hu, hpu, hgu⟩, h4⟩
        · omega
        · refine .inr ⟨h1, fun w hw hpw => ?_, ⟨u, by simp [hu], hpu, hgu⟩, ?_⟩
          · rcases List.mem_append.mp hw with hw | hw
            · exact h2 w hw hpw
            · simp at hw; subst hw; omega
          · rw [List.filter_append, h4]
            have : (g v == m) = false := by simp; omega
            simp [this]
      · rw [if_pos ⟨hp, hm⟩]
        by_cases hE : g v = m
        · rw [if_pos hE]
          refine ih (d ++ [v]) _ m hex ?_
          rcases h with ⟨h1, _⟩ | ⟨h1, h2, ⟨u, hu, hpu, hgu⟩, h4⟩
          · omega
          · refine .inr ⟨h1, fun w hw hpw => ?_, ⟨u, by simp [hu], hpu, hgu⟩, ?_⟩
            · rcases List.mem_append.mp hw with hw | hw
              · exact h2 w hw hpw
              · simp at hw; subst hw; omega
            · rw [List.filter_append, h4]; simp [hE, hp]
        · rw [if_neg hE]
          refine ih (d ++ [v]) _ (g v) hex ?_
          refine .inr ⟨hgv, fun w hw hpw => ?_, ⟨v, by simp, hp, rfl⟩, ?_⟩
          · rcases List.mem_append.mp hw with hw | hw
            · rcases h with ⟨h1, _, h3⟩ | ⟨h1, h2, _⟩
              · rw [h3 w hw] at hpw; exact absurd hpw (by decide)
              · have := h2 w hw hpw; omega
            · simp at hw; subst hw; omega
          · rw [List.filter_append]
            have hz : d.filter (fun w => (g w == g v) && p w) = [] := by
              rw [List.filter_eq_nil_iff]
              intro w hw hq
              simp only [Bool.and_eq_true, beq_iff_eq] at hq
              rcases h with ⟨h1, _, h3⟩ | ⟨h1, h2, _⟩
              · rw [h3 w hw] at hq; exact absurd hq.2 (by decide)
              · have := h2 w hw hq.2; omega
            rw [hz]; simp [hp]
    · rw [if_neg (fun q => hp q.1)]
      refine ih (d ++ [v]) o m hex ?_
      have hpf : p v = false := by simpa using hp
      rcases h with ⟨h1, h2, h3⟩ | ⟨h1, h2, ⟨u, hu, hpu, hgu⟩, h4⟩
      · refine .inl ⟨h1, h2, fun w hw => ?_⟩
        rcases List.mem_append.mp hw with hw | hw
        · exact h3 w hw
        · simp at hw; subst hw; exact hpf
      · refine .inr ⟨h1, fun w hw hpw => ?_, ⟨u, by simp [hu], hpu, hgu⟩, ?_⟩
        · rcases List.mem_append.mp hw with hw | hw
          · exact h2 w hw hpw
          · simp at hw; subst hw; exact absurd hpw hp
        · rw [List.filter_append, h4]; simp [hpf]
theorem impl_pick {f a b c : Int} (hf : f = 0 ∨ f = 1) (ha : 1 ≤ a ∧ a ≤ 64) (hc : 1 ≤ c ∧ c ≤ 64) (hb : 0 ≤ b ∧ b ≤ 63) (T : List S28) (hT : T.length ≤ 1000000) (k : Nat) :
    ∀ (l : List (Int × Int)) (pre : List S28) (o : List (Int × Int)) (m i : Int), T = pre ++ l.map mkSV → i = pre.length → smallL l → o.length ≤ pre.length →
    impl_shortestVecs.l0 (k + 2 * l.length + 1) f (o.map mkSV) m T (T.length : Int) i a b c = some ((pickF (inP f a b c) (nF f) l o m).map mkSV) := by
  intro l
  induction l with
  | nil => intro pre o m i e hi hs ho; rw [impl_shortestVecs.l0, if_neg (by subst hi; subst e; simp)]; rfl
  | cons v l ih =>
    intro pre o m i e hi hs ho
    have hv := hs v (by simp)
    have hlen : T.length = pre.length + (l.length + 1) := by rw [e]; simp
    have hr : rd_T28 T i = mkSV v := by rw [e]; exact rd_map_at pre v _ i hi
    have hn := fun o m (h : o.length ≤ pre.length + 1) => ih (pre ++ [mkSV v]) o m (i + 1) (by rw [e]; simp) (by rw [hi]; simp) (fun u hu => hs u (by simp [hu])) (by simpa using h)
    rw [show k + 2 * (v :: l).length + 1 = ((k + 2 * l.length + 1) + 1) + 1 by simp; omega, impl_shortestVecs.l0, if_pos (by omega), if_pos (by omega), if_pos (by omega), hr]
    rw [show (mkSV v).f0 = v.1 from rfl, show (mkSV v).f1 = v.2 from rfl, impl_norm_eq f hf (by omega) (by omega), impl_Lattice_has_eq ha hc hb (by omega) (by omega)]
    simp only [Option.bind_some]
    have hpos := Nf_nonneg (f := f) (x := v.1) (y := v.2) hf
    have go : ∀ q : Bool, impl_shortestVecs.j1 (k + 2 * l.length + 1 + 1) f (o.map mkSV) m (Nf f v.1 v.2) T (T.length : Int) i q a b c v.1 v.2 = if q = true then some ((pickF (inP f a b c) (nF f) l o m).map mkSV) else if Nf f v.1 v.2 = m then some ((pickF (inP f a b c) (nF f) l (o ++ [v]) m).map mkSV) else some ((pickF (inP f a b c) (nF f) l [v] (Nf f v.1 v.2)).map mkSV) := by
      intro q
      rw [impl_shortestVecs.j1, wrap_id (x := i + 1) (by omega) (by omega)]
      cases q with
      | true => rw [if_pos rfl, if_pos rfl, hn o m (by omega)]
      | false =>
        simp only [Bool.false_eq_true, if_false]
        by_cases hE : Nf f v.1 v.2 = m
        · rw [if_pos hE, if_pos hE, if_pos (by simp; omega), ← hn (o ++ [v]) m (by simp; omega)]; simp [mkSV]
        · rw [if_neg hE, if_neg hE, if_pos (by simp), ← hn [v] (Nf f v.1 v.2) (by simp)]; simp [mkSV]
    simp only [go]
    rw [pickF]
    unfold inP nF
    by_cases h1 : Nf f v.1 v.2 = 0
    · simp [h1]
    · have h1' : Nf f v.1 v.2 > 0 := by omega
      rw [if_neg h1]
      by_cases h3 : hasB a b c v.1 v.2 = true
      · rw [if_pos h3]
        by_cases h4 : m > 0
        · rw [if_pos h4]
          by_cases h5 : Nf f v.1 v.2 > m
          · simp [h1', h3, h4, h5]
          · simp only [h1', h3, h4, h5, decide_true, decide_false, Bool.and_self, Bool.false_eq_true, if_false, true_and, not_false_eq_true, and_self, if_true]
            split <;> rfl
        · rw [if_neg h4]
          simp only [h1', h3, h4, decide_true, Bool.and_self, Bool.false_eq_true, if_false, false_and, not_false_eq_true, and_self, if_true]
          split <;> rfl
      · rw [if_neg h3]
        have h3' : hasB a b c v.1 v.2 = false := by simpa using h3
        simp [h3']
theorem inP_iff {f a b c : Int} (hf : f = 0 ∨ f = 1) (hc : c ≠ 0) (v : Int × Int) : inP f a b c v = true ↔ L a b c v.1 v.2 ∧ ¬ (v.1 = 0 ∧ v.2 = 0) := by
  unfold inP
  rw [Bool.and_eq_true, hasB_iff hc, decide_eq_true_eq]
  constructor
  · rintro ⟨h1, h2⟩
    refine ⟨h2, ?_⟩
    rintro ⟨e1, e2⟩
    rw [e1, e2] at h1
    simp [Nf] at h1
  · rintro ⟨h1, h2⟩
    exact ⟨Nf_pos hf h2, h1⟩
theorem lat_min {f a b c : Int} (hf : f = 0 ∨ f = 1) (ha : 1 ≤ a) (hc : 1 ≤ c) (hac : a * c ≤ 64) : ∃ M, 0 < M ∧ M ≤ 73 ∧ M ≤ a * a ∧ (∃ u, inP f a b c u = true ∧ nF f u = M) ∧ (∀ v, inP f a b c v = true → M ≤ nF f v) := by
  have hc0 : c ≠ 0 := by omega
  have h0 : inP f a b c (a, 0) = true := (inP_iff hf hc0 _).mpr ⟨⟨1, 0, by simp, by simp⟩, by simp; omega⟩
  obtain ⟨u, hu, hmin⟩ := exists_min (fun v : Int × Int => inP f a b c v = true) (nF f) (fun v _ => Nf_nonneg hf) ⟨_, h0⟩
  obtain ⟨hL, hu0⟩ := (inP_iff hf hc0 u).mp hu
  have hmin' : ∀ x y, L a b c x y → ¬ (x = 0 ∧ y = 0) → Nf f u.1 u.2 ≤ Nf f x y := fun x y h1 h2 => hmin (x, y) ((inP_iff hf hc0 (x, y)).mpr ⟨h1, h2⟩)
  obtain ⟨vx, vy, hv, hd, k1, k2⟩ := completed hf (by omega) (by omega) hL hu0 hmin'
  have hb := bounds hf (by omega) (by omega) hac hu0 hmin' hv hd k1 k2
  refine ⟨nF f u, Nf_pos hf hu0, hb.1, ?_, ⟨u, hu, rfl⟩, hmin⟩
  have h := hmin (a, 0) h0
  have e : nF f (a, 0) = a * a := by unfold nF Nf; simp
  omega
theorem small_box (n : Nat) (hn : n ≤ 200) : smallL (box n) := by
  intro v hv; rw [mem_box] at hv; omega
theorem box_len (n : Nat) : (box n).length = (2 * n + 1) * (2 * n + 1) := boxF_len _ _ _ _
theorem shortest_both {f a b c : Int} (hf : f = 0 ∨ f = 1) (hl : latB a b c = true) : ∃ (M : Int) (l : List (Int × Int)), l.length ≤ 625 ∧ 0 < M ∧ (∀ v, inP f a b c v = true → M ≤ nF f v) ∧ l ≠ [] ∧ (∀ v ∈ l, inP f a b c v = true ∧ nF f v = M) ∧
    (∀ k, 400000 ≤ k → spec_l04Shortest.f k f a b c = some (l.map mkSV)) ∧ (∀ k, 400000 ≤ k → impl_shortestVecs.f k f a b c = some (l.map mkSV)) := by
  obtain ⟨⟨a1, a2⟩, ⟨c1, c2⟩, ⟨b1, b2⟩, hac⟩ := latB_iff.mp hl
  obtain ⟨M, m1, m2, m3, ⟨u, hu, hM⟩, hmin⟩ := lat_min (b := b) hf a1 c1 hac
  have haa := prod_bd (a := a) (b := a) (A := 64) (B := 64) (by omega) (by omega) (by omega) (by omega) (by omega)
  have inb : ∀ v : Int × Int, nF f v = M → (-9 ≤ v.1 ∧ v.1 ≤ 9) ∧ (-9 ≤ v.2 ∧ v.2 ≤ 9) := fun v hv => Nf_box (N := 73) hf (by omega) (by unfold nF at hv; omega) (by omega)
  have mem_of : ∀ (n : Nat), 9 ≤ n → ∀ v : Int × Int, nF f v = M → v ∈ box n := fun n hn v hv => by
    have := inb v hv
    rw [mem_box]; omega
  refine ⟨M, (box 12).filter (fun v => (nF f v == M) && inP f a b c v), ?_, m1, hmin, ?_, ?_, fun k hk => ?_, fun k hk => ?_⟩
  · have := List.length_filter_le (fun v => (nF f v == M) && inP f a b c v) (box 12)
    rw [box_len] at this; omega
  · intro he
    rw [List.filter_eq_nil_iff] at he
    exact he u (mem_of 12 (by omega) u hM) (by simp [hM, hu])
  · intro v hv
    rw [List.mem_filter] at hv
    simp only [Bool.and_eq_true, beq_iff_eq] at hv
    exact ⟨hv.2.2, hv.2.1⟩
  · unfold spec_l04Shortest.f
    rw [wrap_id (x := a * a) (by omega) (by omega), show (128 : Int) = ((128 : Nat) : Int) from rfl, spec_l04Near_eq f (a * a) hf 128 (by omega) k (by omega)]
    simp only [Option.bind_some]
    have hlen := List.length_filter_le (nearP f (a * a)) (box 128)
    rw [box_len] at hlen
    have hsm : smallL ((box 128).filter (nearP f (a * a))) := fun v hv => small_box 128 (by omega) v (List.mem_filter.mp hv).1
    have key : ((box 128).filter (nearP f (a * a))).filter (fun v => (nF f v == M) && hasB a b c v.1 v.2) = (box 12).filter (fun v => (nF f v == M) && inP f a b c v) := by
      rw [List.filter_filter]
      refine filter_box _ _ 128 12 (fun v hv => ?_) (fun v hv => ?_) (fun v => ?_)
      · simp only [Bool.and_eq_true, beq_iff_eq] at hv
        exact mem_of 128 (by omega) v hv.1.1
      · simp only [Bool.and_eq_true, beq_iff_eq] at hv
        exact mem_of 12 (by omega) v hv.1
      · by_cases hE : nF f v = M
        · have e1 : nearP f (a * a) v = true := by unfold nearP; unfold nF at hE; simp; omega
          have e2 : decide (Nf f v.1 v.2 > 0) = true := by unfold nF at hE; simp; omega
          simp [hE, e1, inP, e2]
        · have e : (nF f v == M) = false := by simpa using hE
          show (((nF f v == M) && hasB a b c v.1 v.2) && nearP f (a * a) v) = ((nF f v == M) && inP f a b c v)
          rw [e]; rfl
    have hin : ∀ v, inP f a b c v = true → nF f v = M → v ∈ (box 128).filter (nearP f (a * a)) := fun v hv hE => by
      rw [List.mem_filter]
      refine ⟨mem_of 128 (by omega) v hE, ?_⟩
      unfold nearP; unfold nF at hE; simp; omega
    generalize (box 128).filter (nearP f (a * a)) = LL at *
    obtain ⟨j, rfl⟩ : ∃ j, k = (j + LL.length + 1) + LL.length + 1 := ⟨k - 2 * LL.length - 2, by omega⟩
    rw [spec_least hf (by omega) (by omega) (by omega) (LL.map mkSV) (by simp; omega) _ LL [] (a * a) 0 (by simp) (by simp) hsm]
    have hleast : leastF (inP f a b c) (nF f) LL (a * a) = M := by
      obtain ⟨h1, h2, h3⟩ := least_is (inP f a b c) (nF f) LL (a * a)
      have h4 := h2 u (hin u hu hM) hu
      rcases h3 with h3 | ⟨w, hw, hpw, hew⟩
      · omega
      · have := hmin w hpw; omega
    rw [hleast, spec_pick hf (by omega) (by omega) (by omega) (LL.map mkSV) (by simp; omega) j M LL [] [] 0 (by simp) (by simp) hsm (by simp), key]
    simp
  · unfold impl_shortestVecs.f
    rw [show (12 : Int) = ((12 : Nat) : Int) from rfl, impl_vecsAround_eq 12 (by omega) k (by omega)]
    simp only [Option.bind_some]
    have hlen := box_len 12
    obtain ⟨j, rfl⟩ : ∃ j, k = j + 2 * (box 12).length + 1 := ⟨k - 2 * (box 12).length - 1, by omega⟩
    have := impl_pick hf (by omega) (by omega) (by omega) ((box 12).map mkSV) (by simp; omega) j (box 12) [] [] 0 0 (by simp) (by simp) (small_box 12 (by omega)) (by simp) (a := a) (b := b) (c := c)
    try simp only [List.map_nil] at this
    rw [this, pick_is (inP f a b c) (nF f) (fun v hv => Nf_pos hf ((inP_iff hf (by omega) v).mp hv).2) m1 hmin (box 12) [] [] 0 ⟨u, by simpa using mem_of 12 (by omega) u hM, hu, hM⟩ (.inl ⟨rfl, rfl, by simp⟩)]
    simp
def pB (a b c ux uy : Int) (v : Int × Int) : Bool := decide (ux * v.2 - uy * v.1 = a * c) && hasB a b c v.1 v.2
theorem best_cons (p : Int × Int → Bool) (g : Int × Int → Int) (v : Int × Int) (l : List (Int × Int)) (b : Option (Int × Int)) :
    best p g (v :: l) b = best p g l (if p v = true then (match b with | none => some v | some u => if g v ≤ g u then some v else some u) else b) := rfl
def vO (b : Option (Int × Int)) : Int × Int := b.getD (0, 0)
theorem det_small {a b c d : Int} (ha : -1000 ≤ a ∧ a ≤ 1000) (hb : -1000 ≤ b ∧ b ≤ 1000) (hc : -1000 ≤ c ∧ c ≤ 1000) (hd : -1000 ≤ d ∧ d ≤ 1000) : spec_l01Det.f a b c d = some (a * d - b * c) ∧ impl_det.f a b c d = some (a * d - b * c) := by
  have h1 := prod_bd (a := a) (b := d) (A := 1000) (B := 1000) (by omega) (by omega) (by omega) (by omega) (by omega)
  have h2 := prod_bd (a := b) (b := c) (A := 1000) (B := 1000) (by omega) (by omega) (by omega) (by omega) (by omega)
  unfold spec_l01Det.f impl_det.f
  rw [wrap_id (x := a * d) (by omega) (by omega), wrap_id (x := b * c) (by omega) (by omega), wrap_id (x := a * d - b * c) (by omega) (by omega)]
  exact ⟨rfl, rfl⟩
def okO (b : Option (Int × Int)) : Prop := ∀ v, b = some v → (-200 ≤ v.1 ∧ v.1 ≤ 200) ∧ (-200 ≤ v.2 ∧ v.2 ≤ 200)
theorem spec_red_loop {f a b c ux uy : Int} (hf : f = 0 ∨ f = 1) (ha : 1 ≤ a ∧ a ≤ 64) (hc : 1 ≤ c ∧ c ≤ 64) (hb : 0 ≤ b ∧ b ≤ 63) (hux : -200 ≤ ux ∧ ux ≤ 200) (huy : -200 ≤ uy ∧ uy ≤ 200) (T : List S28) (hT : T.length ≤ 1000000) (k : Nat) :
    ∀ (l : List (Int × Int)) (pre : List S28) (o : Option (Int × Int)) (i : Int), T = pre ++ l.map mkSV → i = pre.length → smallL l → okO o →
    spec_ReducedBasis.l0 (k + l.length + 1) f o.isSome T i a b c ux uy (vO o).1 (vO o).2 = some (ux, uy, (vO (best (pB a b c ux uy) (nF f) l o)).1, (vO (best (pB a b c ux uy) (nF f) l o)).2, 0) := by
  intro l
  induction l with
  | nil => intro pre o i e hi hs ho; rw [spec_ReducedBasis.l0, if_neg (by subst hi; subst e; simp)]; rfl
  | cons v l ih =>
    intro pre o i e hi hs ho
    have hv := hs v (by simp)
    have hlen : T.length = pre.length + (l.length + 1) := by rw [e]; simp
    have hr : rd_T28 T i = mkSV v := by rw [e]; exact rd_map_at pre v _ i hi
    have hn := fun o ho => ih (pre ++ [mkSV v]) o (i + 1) (by rw [e]; simp) (by rw [hi]; simp) (fun u hu => hs u (by simp [hu])) ho
    have hok : okO (some v) := fun w hw => by cases hw; exact hv
    have wac := prod_bd (a := a) (b := c) (A := 64) (B := 64) (by omega) (by omega) (by omega) (by omega) (by omega)
    rw [show k + (v :: l).length + 1 = (k + l.length + 1) + 1 by simp; omega, spec_ReducedBasis.l0, if_pos (by omega), if_pos (by omega), hr, wrap_id (x := i + 1) (by omega) (by omega), wrap_id (x := a * c) (by omega) (by omega)]
    rw [show (mkSV v).f0 = v.1 from rfl, show (mkSV v).f1 = v.2 from rfl, (det_small (a := ux) (b := uy) (c := v.1) (d := v.2) (by omega) (by omega) (by omega) (by omega)).1, spec_l04Norm_eq f hf (by omega) (by omega), spec_l03Has_eq ha hc hb (by omega) (by omega)]
    simp only [Option.bind_some]
    rw [best_cons]
    unfold pB
    by_cases h1 : ux * v.2 - uy * v.1 = a * c
    · rw [if_pos h1]
      by_cases h2 : hasB a b c v.1 v.2 = true
      · rw [if_pos h2]
        simp only [h1, h2, decide_true, Bool.and_self, if_true]
        cases o with
        | none => exact hn (some v) hok
        | some u =>
          have hu := ho u rfl
          simp only [Option.isSome_some, if_true]
          rw [show vO (some u) = u from rfl, spec_l04Norm_eq f hf (by omega) (by omega)]
          simp only [Option.bind_some]
          by_cases h3 : Nf f v.1 v.2 ≤ Nf f u.1 u.2
          · rw [if_pos h3, if_pos (show nF f v ≤ nF f u from h3)]
            exact hn (some v) hok
          · rw [if_neg h3, if_neg (show ¬ nF f v ≤ nF f u from h3)]
            exact hn (some u) ho
      · rw [if_neg h2]
        have h2' : hasB a b c v.1 v.2 = false := by simpa using h2
        simp only [h1, h2', decide_true, Bool.and_false, Bool.false_eq_true, if_false]
        exact hn o ho
    · rw [if_neg h1]
      simp only [h1, decide_false, Bool.false_and, Bool.false_eq_true, if_false]
      exact hn o ho
def nO (f : Int) (b : Option (Int × Int)) : Int := match b with | none => 0 | some v => nF f v
theorem impl_red_loop {f a b c ux uy : Int} (hf : f = 0 ∨ f = 1) (ha : 1 ≤ a ∧ a ≤ 64) (hc : 1 ≤ c ∧ c ≤ 64) (hb : 0 ≤ b ∧ b ≤ 63) (hux : -200 ≤ ux ∧ ux ≤ 200) (huy : -200 ≤ uy ∧ uy ≤ 200) (T : List S28) (hT : T.length ≤ 1000000) (k : Nat) :
    ∀ (l : List (Int × Int)) (pre : List S28) (o : Option (Int × Int)) (i : Int), T = pre ++ l.map mkSV → i = pre.length → smallL l → (∀ v, o = some v → 0 < nF f v) →
    impl_reducedBasis.l0 (k + l.length + 1) f (nO f o) T (T.length : Int) i a b c ux uy (vO o).1 (vO o).2 = some (ux, uy, (vO (best (pB a b c ux uy) (nF f) l o)).1, (vO (best (pB a b c ux uy) (nF f) l o)).2) := by
  intro l
  induction l with
  | nil => intro pre o i e hi hs ho; rw [impl_reducedBasis.l0, if_neg (by subst hi; subst e; simp)]; rfl
  | cons v l ih =>
    intro pre o i e hi hs ho
    have hv := hs v (by simp)
    have hlen : T.length = pre.length + (l.length + 1) := by rw [e]; simp
    have hr : rd_T28 T i = mkSV v := by rw [e]; exact rd_map_at pre v _ i hi
    have hn := fun o ho => ih (pre ++ [mkSV v]) o (i + 1) (by rw [e]; simp) (by rw [hi]; simp) (fun u hu => hs u (by simp [hu])) ho
    have wac := prod_bd (a := a) (b := c) (A := 64) (B := 64) (by omega) (by omega) (by omega) (by omega) (by omega)
    have hpos : 0 < a * c := Int.mul_pos (by omega) (by omega)
    rw [show k + (v :: l).length + 1 = (k + l.length + 1) + 1 by simp; omega, impl_reducedBasis.l0, if_pos (by omega), if_pos (by omega), if_pos (by omega), hr, wrap_id (x := i + 1) (by omega) (by omega)]
    rw [show (mkSV v).f0 = v.1 from rfl, show (mkSV v).f1 = v.2 from rfl, (det_small (a := ux) (b := uy) (c := v.1) (d := v.2) (by omega) (by omega) (by omega) (by omega)).2, impl_norm_eq f hf (by omega) (by omega), impl_Lattice_has_eq ha hc hb (by omega) (by omega)]
    unfold impl_Lattice_index.f
    rw [wrap_id (x := a * c) (by omega) (by omega)]
    simp only [Option.bind_some]
    rw [best_cons]
    unfold pB
    by_cases h1 : ux * v.2 - uy * v.1 = a * c
    · have hv0 : ¬ (v.1 = 0 ∧ v.2 = 0) := by
        rintro ⟨e1, e2⟩
        rw [e1, e2] at h1
        simp at h1; omega
      have hnv : 0 < nF f v := Nf_pos hf hv0
      have hok : ∀ w, some v = some w → 0 < nF f w := fun w hw => by cases hw; exact hnv
      rw [if_pos h1]
      cases o with
      | none =>
        rw [show nO f none = 0 from rfl, if_pos rfl]
        by_cases h2 : hasB a b c v.1 v.2 = true
        · rw [if_pos h2]
          simp only [h1, h2, decide_true, Bool.and_self, if_true]
          exact hn (some v) hok
        · rw [if_neg h2]
          have h2' : hasB a b c v.1 v.2 = false := by simpa using h2
          simp only [h1, h2', decide_true, Bool.and_false, Bool.false_eq_true, if_false]
          exact hn none ho
      | some u =>
        have hu := ho u rfl
        rw [show nO f (some u) = nF f u from rfl, if_neg (show ¬ nF f u = 0 by omega)]
        by_cases h3 : nF f v ≤ nF f u
        · rw [if_pos (show Nf f v.1 v.2 ≤ nF f u from h3)]
          by_cases h2 : hasB a b c v.1 v.2 = true
          · rw [if_pos h2]
            simp only [h1, h2, h3, decide_true, Bool.and_self, if_true]
            exact hn (some v) hok
          · rw [if_neg h2]
            have h2' : hasB a b c v.1 v.2 = false := by simpa using h2
            simp only [h1, h2', decide_true, Bool.and_false, Bool.false_eq_true, if_false]
            exact hn (some u) ho
        · rw [if_neg (show ¬ Nf f v.1 v.2 ≤ nF f u from h3)]
          by_cases h2 : hasB a b c v.1 v.2 = true
          · simp only [h1, h2, h3, decide_true, Bool.and_self, if_true, if_false]
            exact hn (some u) ho
          · have h2' : hasB a b c v.1 v.2 = false := by simpa using h2
            simp only [h1, h2', decide_true, Bool.and_false, Bool.false_eq_true, if_false]
            exact hn (some u) ho
    · rw [if_neg h1]
      simp only [h1, decide_false, Bool.false_and, Bool.false_eq_true, if_false]
      exact hn o ho
theorem rd_last (l : List (Int × Int)) (hl : l ≠ []) : rd_T28 (l.map mkSV) ((l.length : Int) - 1) = mkSV (l.getLast hl) := by
  have e : l.map mkSV = (l.dropLast.map mkSV) ++ mkSV (l.getLast hl) :: [] := by
    conv => lhs; rw [← List.dropLast_concat_getLast hl]
    simp
  have hp : 0 < l.length := List.length_pos_iff.mpr hl
  rw [e]
  exact rd_map_at _ _ _ _ (by simp; omega)
set_option linter.constructorNameAsVariable false in
theorem ReducedBasis_both {f a b c : Int} (w : -9223372036854775808 ≤ a ∧ a < 9223372036854775808) : ∃ R, (∀ k, 400000 ≤ k → spec_ReducedBasis.f k f a b c = some R) ∧ (∀ k, 400000 ≤ k → impl_ReducedBasis.f k f a b c = some R) := by
  by_cases h : frLat f a b c = true
  · have h' := h
    unfold frLat at h'
    rw [Bool.and_eq_true] at h'
    have hf := frameB_iff.mp h'.1
    obtain ⟨M, l, hll, m1, hmin, hne, hmem, h2, h3⟩ := shortest_both hf h'.2
    obtain ⟨⟨a1, a2⟩, ⟨c1, c2⟩, ⟨b1, b2⟩, hac⟩ := latB_iff.mp h'.2
    have hp : 0 < l.length := List.length_pos_iff.mpr hne
    obtain ⟨hu1, hu2⟩ := hmem (l.getLast hne) (List.getLast_mem hne)
    have hrd := rd_last l hne
    generalize l.getLast hne = u at *
    have hc0 : c ≠ 0 := by omega
    obtain ⟨hL, hu0⟩ := (inP_iff hf hc0 u).mp hu1
    have hmin' : ∀ x y, L a b c x y → ¬ (x = 0 ∧ y = 0) → Nf f u.1 u.2 ≤ Nf f x y := fun x y q1 q2 => by
      have := hmin (x, y) ((inP_iff hf hc0 (x, y)).mpr ⟨q1, q2⟩)
      unfold nF at hu2 this
      simp only at this
      omega
    obtain ⟨vx, vy, hv, hd, k1, k2⟩ := completed hf (by omega) (by omega) hL hu0 hmin'
    obtain ⟨hb1, hb2⟩ := bounds hf (by omega) (by omega) hac hu0 hmin' hv hd k1 k2
    have ub := Nf_box (N := 73) (m := 9) hf (by omega) hb1 (by omega)
    have inb : ∀ v : Int × Int, nF f v ≤ 4114 → (-75 ≤ v.1 ∧ v.1 ≤ 75) ∧ (-75 ≤ v.2 ∧ v.2 ≤ 75) := fun v hv => Nf_box (N := 4114) hf (by omega) hv (by omega)
    have hpw : pB a b c u.1 u.2 (vx, vy) = true := by
      unfold pB
      rw [Bool.and_eq_true, decide_eq_true_eq, hasB_iff hc0]
      exact ⟨hd, hv⟩
    have hs1 : ((box 128).filter (nearP f 32768)).Pairwise lx := (box_sorted 128).filter _
    have q1 : isBest (pB a b c u.1 u.2) (nF f) ((box 128).filter (nearP f 32768)) (best (pB a b c u.1 u.2) (nF f) ((box 128).filter (nearP f 32768)) none) := by
      generalize (box 128).filter (nearP f 32768) = BB at *
      exact best_is (pB a b c u.1 u.2) (nF f) BB [] none hs1 (fun v hv => by cases hv)
    have q2 : isBest (pB a b c u.1 u.2) (nF f) (box 76) (best (pB a b c u.1 u.2) (nF f) (box 76) none) := by
      have hs2 := box_sorted 76
      generalize box 76 = BB at *
      exact best_is (pB a b c u.1 u.2) (nF f) BB [] none hs2 (fun v hv => by cases hv)
    have hm : ∀ v, pB a b c u.1 u.2 v = true → nF f v ≤ nF f (vx, vy) → v ∈ (box 128).filter (nearP f 32768) ∧ v ∈ box 76 := fun v hv hle => by
      have hle' : nF f v ≤ 4114 := by unfold nF at hle ⊢; simp only at hle; omega
      have hbx := inb v hle'
      constructor
      · rw [List.mem_filter, mem_box]
        refine ⟨by omega, ?_⟩
        unfold nearP; unfold nF at hle'; rw [decide_eq_true_eq]; omega
      · rw [mem_box]; omega
    have hbest : best (pB a b c u.1 u.2) (nF f) ((box 128).filter (nearP f 32768)) none = best (pB a b c u.1 u.2) (nF f) (box 76) none := by
      generalize (box 128).filter (nearP f 32768) = LL at *
      generalize box 76 = BB at *
      exact (best_unique q1 q2 hpw hm).1
    refine ⟨(u.1, u.2, (vO (best (pB a b c u.1 u.2) (nF f) (box 76) none)).1, (vO (best (pB a b c u.1 u.2) (nF f) (box 76) none)).2, 0), fun k hk => ?_, fun k hk => ?_⟩
    · unfold spec_ReducedBasis.f
      rw [spec_l04Code_eq f a b c w, if_pos h]
      simp only [Option.bind_some]
      rw [if_pos trivial, h2 k hk]
      simp only [Option.bind_some, List.length_map]
      rw [wrap_id (x := (l.length : Int) - 1) (by omega) (by omega), if_pos (by omega), if_pos (by omega), hrd]
      rw [show (128 : Int) = ((128 : Nat) : Int) from rfl, spec_l04Near_eq f 32768 hf 128 (by omega) k (by omega)]
      simp only [Option.bind_some]
      have hlen := List.length_filter_le (nearP f 32768) (box 128)
      rw [box_len] at hlen
      have hsm : smallL ((box 128).filter (nearP f 32768)) := fun v hv => small_box 128 (by omega) v (List.mem_filter.mp hv).1
      rw [← hbest]
      generalize (box 128).filter (nearP f 32768) = LL at *
      obtain ⟨j, rfl⟩ : ∃ j, k = j + LL.length + 1 := ⟨k - LL.length - 1, by omega⟩
      exact spec_red_loop (ux := u.1) (uy := u.2) hf (by omega) (by omega) (by omega) (by omega) (by omega) (LL.map mkSV) (by simp; omega) j LL [] none 0 (by simp) (by simp) hsm (fun v hv => by cases hv)
    · unfold impl_ReducedBasis.f impl_reducedBasis.f
      rw [impl_frameCode_eq f a b c w, if_pos h]
      simp only [Option.bind_some]
      rw [if_pos trivial, h3 k hk]
      simp only [Option.bind_some, List.length_map]
      rw [wrap_id (x := (l.length : Int) - 1) (by omega) (by omega), if_pos (by omega), if_pos (by omega), hrd]
      rw [show (76 : Int) = ((76 : Nat) : Int) from rfl, impl_vecsAround_eq 76 (by omega) k (by omega)]
      simp only [Option.bind_some]
      have hlen := box_len 76
      obtain ⟨j, rfl⟩ : ∃ j, k = j + (box 76).length + 1 := ⟨k - (box 76).length - 1, by omega⟩
      have hs76 := small_box 76 (by omega)
      generalize box 76 = BB at *
      have e := impl_red_loop (ux := u.1) (uy := u.2) hf (a := a) (b := b) (c := c) (by omega) (by omega) (by omega) (by omega) (by omega) (BB.map mkSV) (by simp; omega) j BB [] none 0 (by simp) (by simp) hs76 (fun v hv => by cases hv)
      rw [show impl_reducedBasis.l0 (j + BB.length + 1) f 0 (BB.map mkSV) ((BB.map mkSV).length : Int) 0 a b c (mkSV u).f0 (mkSV u).f1 0 0 = _ from e]
      rfl
  · refine ⟨(0, 0, 0, 0, 1), fun k hk => ?_, fun k hk => ?_⟩
    · unfold spec_ReducedBasis.f; rw [spec_l04Code_eq f a b c w, if_neg h]; simp
    · unfold impl_ReducedBasis.f; rw [impl_frameCode_eq f a b c w, if_neg h]; simp
theorem main (a0 : Int) (a1_0 : Int) (a1_1 : Int) (a1_2 : Int) (w0 : (Go.Lit.int .i64 a0).wf = true) (w1_0 : (Go.Lit.int .i64 a1_0).wf = true) (w1_1 : (Go.Lit.int .i64 a1_1).wf = true) (w1_2 : (Go.Lit.int .i64 a1_2).wf = true) : ∃ k, laws_FnExactReducedBasis.f k a0 a1_0 a1_1 a1_2 = some true := by
  obtain ⟨R, hS, hI⟩ := ReducedBasis_both (f := a0) (a := a1_0) (b := a1_1) (c := a1_2) (wf_bd w1_0)
  refine ⟨400000, ?_⟩
  unfold laws_FnExactReducedBasis.f
  simp only [laws_toLattice.f, Option.bind_some]
  rw [hS _ (by decide), hI _ (by decide)]
  simp [laws_eqVec.f]
end Go.Proofs.Ytpkjgcafbkfbgac.PureFnExactReducedBasis

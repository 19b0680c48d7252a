import Derived.Test.YtpkjgcafbkfbgabSem
namespace Go.Proofs.Ytpkjgcafbkfbgab.Sem2
open Go.RowKit Go.Proofs.YtpkjgcafbkfbgabW.PrintWords Go.Proofs.YtpkjgcafbkfbgabW.PrintMore
open Go.Proofs.Ytpkjgcafbkfbgab
open Go.Proofs.Ytpkjgcafbkfbgab.Mth Go.Proofs.Ytpkjgcafbkfbgab.Sem
set_option linter.unusedVariables false
/-- A reduced form of what some vectors span. -/
def Herm (sp : Int → Int → Prop) (A B C : Int) : Prop := 0 < A ∧ 0 < C ∧ 0 ≤ B ∧ B < A ∧ ∀ x y, L A B C x y ↔ sp x y
theorem Herm.unique {sp : Int → Int → Prop} {A B C A' B' C' : Int} (h : Herm sp A B C) (h' : Herm sp A' B' C') : A = A' ∧ B = B' ∧ C = C' :=
  L_unique h.1 h.2.1 h.2.2.1 h.2.2.2.1 h'.1 h'.2.1 h'.2.2.1 h'.2.2.2.1 fun x y => (h.2.2.2.2 x y).trans (h'.2.2.2.2 x y).symm
def sp2 (ux uy vx vy : Int) : Int → Int → Prop := fun x y => ∃ i j : Int, x = i * ux + j * vx ∧ y = i * uy + j * vy
def sp4 (a b c a' b' c' : Int) : Int → Int → Prop := fun x y => ∃ m n m' n' : Int, x = m * a + n * b + m' * a' + n' * b' ∧ y = n * c + n' * c'
theorem Herm.index {A B C ux uy vx vy : Int} (h : Herm (sp2 ux uy vx vy) A B C) : A * C = (ux * vy - uy * vx).natAbs := L_index h.1 h.2.1 h.2.2.2.2
/-- One vector more joins the span. -/
def plus (l p q ux uy l' p' q' : Int) : Prop := ∀ x y, L l' p' q' x y ↔ ∃ j, L l p q (x - j * ux) (y - j * uy)
theorem plus_two {l p q l' p' q' ux uy vx vy : Int} (h1 : plus 0 0 0 ux uy l p q) (h2 : plus l p q vx vy l' p' q') (x y : Int) : L l' p' q' x y ↔ sp2 ux uy vx vy x y := by
  rw [h2]
  constructor
  · rintro ⟨j, h⟩
    obtain ⟨i, h⟩ := (h1 _ _).mp h
    rw [L_zero] at h
    exact ⟨i, j, by omega, by omega⟩
  · rintro ⟨i, j, e1, e2⟩
    refine ⟨j, (h1 _ _).mpr ⟨i, ?_⟩⟩
    rw [L_zero]; omega
theorem plus_four {a b c a' b' c' l1 p1 q1 l2 p2 q2 l3 p3 q3 l4 p4 q4 : Int} (h1 : plus 0 0 0 a 0 l1 p1 q1) (h2 : plus l1 p1 q1 b c l2 p2 q2) (h3 : plus l2 p2 q2 a' 0 l3 p3 q3) (h4 : plus l3 p3 q3 b' c' l4 p4 q4) (x y : Int) :
    L l4 p4 q4 x y ↔ sp4 a b c a' b' c' x y := by
  rw [h4]
  constructor
  · rintro ⟨n', h⟩
    obtain ⟨m', h⟩ := (h3 _ _).mp h
    obtain ⟨n, h⟩ := (h2 _ _).mp h
    obtain ⟨m, h⟩ := (h1 _ _).mp h
    rw [L_zero] at h
    exact ⟨m, n, m', n', by omega, by omega⟩
  · rintro ⟨m, n, m', n', e1, e2⟩
    refine ⟨n', (h3 _ _).mpr ⟨m', (h2 _ _).mpr ⟨n, (h1 _ _).mpr ⟨m, ?_⟩⟩⟩⟩
    rw [L_zero]; omega
theorem gcd_le_bd {a b : Int} {M : Nat} (ha : a.natAbs ≤ M) (hb : b.natAbs ≤ M) : Int.gcd a b ≤ M := by
  by_cases h : a = 0
  · subst h; rw [Int.gcd_zero_left]; exact hb
  · exact Nat.le_trans (Int.gcd_le_natAbs_left (a := a) (b := b) h) ha
theorem le_mul_r {a c : Int} (ha : 0 ≤ a) (hc : 1 ≤ c) : a ≤ a * c := by
  have := Int.mul_le_mul_of_nonneg_left hc ha; omega
theorem le_mul_l {a c : Int} (hc : 0 ≤ c) (ha : 1 ≤ a) : c ≤ a * c := by
  have := Int.mul_le_mul_of_nonneg_right ha hc; omega

/-- Is a vector in both lattices? -/
def bothB (a b c a' b' c' x y : Int) : Bool := hasB a b c x y && hasB a' b' c' x y
/-- What the search for the meet of two lattices finds. -/
def MeetAt (a b c a' b' c' W X Y : Int) : Prop := (1 ≤ W ∧ 1 ≤ Y ∧ 0 ≤ X ∧ X < W) ∧ bothB a b c a' b' c' X Y = true ∧ (∀ x, 0 ≤ x → x < X → bothB a b c a' b' c' x Y = false) ∧
  (∀ x y, 1 ≤ y → y < Y → bothB a b c a' b' c' x y = false) ∧ bothB a b c a' b' c' W 0 = true ∧ (∀ x, 1 ≤ x → x < W → bothB a b c a' b' c' x 0 = false)
theorem bothB_iff {a b c a' b' c' x y : Int} (hc : c ≠ 0) (hc' : c' ≠ 0) : bothB a b c a' b' c' x y = true ↔ L a b c x y ∧ L a' b' c' x y := by
  unfold bothB; rw [Bool.and_eq_true, hasB_iff hc, hasB_iff hc']
theorem L_row {a b c x : Int} (hc : c ≠ 0) : L a b c x 0 ↔ a ∣ x := by
  constructor
  · rintro ⟨m, n, e1, e2⟩
    have hn : n = 0 := by rcases Int.mul_eq_zero.mp e2.symm with h | h; exact h; exact absurd h hc
    subst hn; exact ⟨m, by rw [e1, Int.mul_comm]; omega⟩
  · rintro ⟨m, rfl⟩; exact ⟨m, 0, by rw [Int.mul_comm]; omega, by omega⟩
/-- The first number with a property, below a bound. -/
theorem first_below (p : Int → Bool) : ∀ (n : Nat), p n = true → ∃ X : Int, 0 ≤ X ∧ X ≤ n ∧ p X = true ∧ ∀ x, 0 ≤ x → x < X → p x = false := by
  intro n
  induction n using Nat.strongRecOn with
  | ind n ih =>
    intro h
    by_cases hex : ∃ m : Nat, m < n ∧ p m = true
    · obtain ⟨m, hm, hp⟩ := hex
      obtain ⟨X, h1, h2, h3, h4⟩ := ih m hm hp
      exact ⟨X, h1, by omega, h3, h4⟩
    · refine ⟨n, by omega, by omega, h, fun x hx hlt => ?_⟩
      rcases hq : p x with _ | _
      · rfl
      · exact absurd ⟨x.toNat, by omega, by rw [show ((x.toNat : Nat) : Int) = x by omega]; exact hq⟩ hex
theorem meet_at {a b c a' b' c' A B C : Int} (hl : latB a b c = true) (hm : latB a' b' c' = true) (hh : Herm (sp4 a b c a' b' c') A B C) :
    ∃ W X Y, MeetAt a b c a' b' c' W X Y ∧ W * Y * (A * C) = (a * c) * (a' * c') ∧ W = a / Int.gcd a a' * a' ∧ W * Y ≤ 4096 := by
  have l1 := latB_iff.mp hl
  have l2 := latB_iff.mp hm
  obtain ⟨j1, j2⟩ := join_is (by omega) (by omega) (by omega) (by omega) hh.1 hh.2.1 (fun x y => hh.2.2.2.2 x y)
  obtain ⟨Y, y1, y2, y3⟩ := meet_is (a := a) (b := b) (c := c) (a' := a') (b' := b') (c' := c') (A := A) (C := C) (by omega) (by omega) (by omega) (by omega) hh.1 hh.2.1 j1 j2
  have hg : 0 < (Int.gcd a a' : Int) := by have := Int.gcd_pos_of_ne_zero_left a' (show a ≠ 0 by omega); omega
  have hW : a / Int.gcd a a' * a' * Int.gcd a a' = a * a' := by
    have := Int.ediv_mul_cancel (Int.gcd_dvd_left a a')
    rw [Int.mul_assoc, Int.mul_comm a', ← Int.mul_assoc, this]
  have hag : 0 < a / Int.gcd a a' := by
    have := Int.ediv_mul_cancel (Int.gcd_dvd_left a a')
    rw [Int.mul_comm] at this
    exact pos_of_mul hg (by omega)
  have hW0 : 0 < a / Int.gcd a a' * a' := Int.mul_pos hag (by omega)
  have hprod := y3 _ hW
  have d1 : a ∣ a / Int.gcd a a' * a' := by
    obtain ⟨q, hq⟩ := Int.gcd_dvd_right a a'
    refine ⟨q, ?_⟩
    have := Int.ediv_mul_cancel (Int.gcd_dvd_left a a')
    generalize (Int.gcd a a' : Int) = g at *
    rw [hq, ← Int.mul_assoc, this]
  have d2 : a' ∣ a / Int.gcd a a' * a' := ⟨a / Int.gcd a a', Int.mul_comm _ _⟩
  have hmin : ∀ x, 1 ≤ x → a ∣ x → a' ∣ x → a / Int.gcd a a' * a' ≤ x := by
    intro x hx p q
    have h1 : (Int.lcm a a' : Int) ∣ x := Int.coe_lcm_dvd p q
    have h2 : Int.gcd a a' * Int.lcm a a' = (a * a').natAbs := by rw [Int.gcd_mul_lcm, Int.natAbs_mul]
    have hp : 0 < a * a' := Int.mul_pos (by omega) (by omega)
    have h3 : (Int.lcm a a' : Int) * Int.gcd a a' = a / Int.gcd a a' * a' * Int.gcd a a' := by
      rw [hW, Int.mul_comm]
      have : ((Int.gcd a a' * Int.lcm a a' : Nat) : Int) = ((a * a').natAbs : Int) := by rw [h2]
      rw [Int.natCast_mul] at this; omega
    have h4 := Int.eq_of_mul_eq_mul_right (by omega) h3
    rw [← h4]
    exact Int.le_of_dvd (by omega) h1
  generalize hWe : a / Int.gcd a a' * a' = W at *
  have hc : c ≠ 0 := by omega
  have hc' : c' ≠ 0 := by omega
  have mW : L a b c W 0 := (L_row hc).mpr d1
  have mW' : L a' b' c' W 0 := (L_row hc').mpr d2
  obtain ⟨x0, hx1, hx2⟩ := (y2 Y).mpr (Int.dvd_refl Y)
  have e0 := Int.mul_ediv_add_emod x0 W
  have z1 := Int.emod_nonneg x0 (show W ≠ 0 by omega)
  have z2 := Int.emod_lt_of_pos x0 hW0
  have n1 : L a b c (x0 % W) Y := by
    have := L_add hx1 mW 1 (-(x0 / W))
    have r1 : 1 * x0 + -(x0 / W) * W = x0 % W := by rw [Int.neg_mul, Int.mul_comm (x0 / W)]; omega
    rw [r1] at this
    simpa using this
  have n2 : L a' b' c' (x0 % W) Y := by
    have := L_add hx2 mW' 1 (-(x0 / W))
    have r1 : 1 * x0 + -(x0 / W) * W = x0 % W := by rw [Int.neg_mul, Int.mul_comm (x0 / W)]; omega
    rw [r1] at this
    simpa using this
  have n3 : (fun x => bothB a b c a' b' c' x Y) (((x0 % W).toNat : Nat) : Int) = true := by
    have e : (((x0 % W).toNat : Nat) : Int) = x0 % W := by omega
    show bothB a b c a' b' c' (((x0 % W).toNat : Nat) : Int) Y = true
    rw [e]; exact (bothB_iff hc hc').mpr ⟨n1, n2⟩
  obtain ⟨X, k1, k2, k3, k4⟩ := first_below (fun x => bothB a b c a' b' c' x Y) (x0 % W).toNat n3
  have hAC : 0 < A * C := Int.mul_pos hh.1 hh.2.1
  have hWY : 0 < W * Y := Int.mul_pos hW0 y1
  have hle : (a * c) * (a' * c') ≤ 64 * 64 := Int.mul_le_mul l1.2.2.2 l2.2.2.2 (by have := Int.mul_pos (show 0 < a' by omega) (show 0 < c' by omega); omega) (by omega)
  have hle2 := le_mul_r (a := W * Y) (c := A * C) (by omega) (by omega)
  refine ⟨W, X, Y, ⟨⟨by omega, by omega, k1, by omega⟩, k3, k4, ?_, (bothB_iff hc hc').mpr ⟨mW, mW'⟩, ?_⟩, hprod, rfl, by omega⟩
  · intro x y h1 h2
    rcases hq : bothB a b c a' b' c' x y with _ | _
    · rfl
    · have := (y2 y).mp ⟨x, (bothB_iff hc hc').mp hq⟩
      have := Int.le_of_dvd (by omega) this
      omega
  · intro x h1 h2
    rcases hq : bothB a b c a' b' c' x 0 with _ | _
    · rfl
    · obtain ⟨p, q⟩ := (bothB_iff hc hc').mp hq
      have := hmin x h1 ((L_row hc).mp p) ((L_row hc').mp q)
      omega
end Go.Proofs.Ytpkjgcafbkfbgab.Sem2

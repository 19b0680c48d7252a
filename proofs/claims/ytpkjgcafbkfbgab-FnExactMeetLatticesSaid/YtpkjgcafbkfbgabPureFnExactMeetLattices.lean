/-
The law FnExactMeetLattices, over numbers and lists alone: the printed functions of the program and of the reference answer alike. No condition but that each number is an int64.
-/
import Derived.Test.YtpkjgcafbkfbgabF44
import Derived.Test.YtpkjgcafbkfbgabSem
import Derived.Test.YtpkjgcafbkfbgabMth
import Derived.Test.YtpkjgcafbkfbgabSem2
namespace Go.Proofs.Ytpkjgcafbkfbgab.PureFnExactMeetLattices
open Go.RowKit Go.Proofs.Ytpkjgcafbkfbgab.F Go.Proofs.YtpkjgcafbkfbgabW.PrintWords Go.Proofs.YtpkjgcafbkfbgabW.PrintLast Go.Proofs.YtpkjgcafbkfbgabW.PrintMore Go.Proofs.Ytpkjgcafbkfbgab.Sem Go.Proofs.Ytpkjgcafbkfbgab.Mth Go.Proofs.Ytpkjgcafbkfbgab.Sem2
set_option linter.unusedVariables false
set_option linter.unusedSimpArgs false
theorem spec_l01In_eq (a b c : Int) : spec_l01In.f a b c = some (decide (b ≤ a ∧ a ≤ c)) := by
  unfold spec_l01In.f; split <;> simp <;> omega
theorem impl_within_eq (a b c : Int) : impl_within.f a b c = some (decide (b ≤ a ∧ a ≤ c)) := by
  unfold impl_within.f; split <;> simp <;> omega
theorem spec_IsLattice_eq (a b c : Int) (h1 : -9223372036854775808 ≤ a) (h2 : a < 9223372036854775808) : spec_IsLattice.f a b c = some (latB a b c) := by
  unfold spec_IsLattice.f latB; simp only [spec_l01In_eq, Option.bind_some]
  by_cases ha : 1 ≤ a ∧ a ≤ 64
  · by_cases hc : 1 ≤ c ∧ c ≤ 64
    · rw [wrap_id (x := a - 1) (by omega) (by omega), wrap_mul (A := 64) (B := 64) (by omega) (by omega) (by omega) (by omega) (by omega) (by omega)]
      simp only [ha, hc, and_self, decide_true, if_true]
      by_cases hb : 0 ≤ b ∧ b ≤ a - 1 <;> simp [hb]
    · simp [ha]; split <;> simp_all <;> omega
  · simp; split <;> simp_all <;> omega
theorem impl_IsLattice_eq (a b c : Int) (h1 : -9223372036854775808 ≤ a) (h2 : a < 9223372036854775808) : impl_IsLattice.f a b c = some (latB a b c) := by
  unfold impl_IsLattice.f latB impl_Lattice_index.f; simp only [impl_within_eq, Option.bind_some]
  by_cases ha : 1 ≤ a ∧ a ≤ 64
  · by_cases hc : 1 ≤ c ∧ c ≤ 64
    · rw [wrap_id (x := a - 1) (by omega) (by omega), wrap_mul (A := 64) (B := 64) (by omega) (by omega) (by omega) (by omega) (by omega) (by omega)]
      simp only [ha, hc, and_self, decide_true, if_true]
      by_cases hb : 0 ≤ b ∧ b ≤ a - 1 <;> simp [hb]
    · simp [ha]; split <;> simp_all <;> omega
  · simp; split <;> simp_all <;> omega
theorem impl_gcd_eq : ∀ (k : Nat) (a b : Int), b.natAbs < k → a.natAbs < 9223372036854775808 → b.natAbs < 9223372036854775808 → impl_gcd.l0 k a b = some (Int.gcd a b : Int) := by
  intro k
  induction k with
  | zero => intro a b h; omega
  | succ k ih =>
    intro a b h ha hb
    unfold impl_gcd.l0
    by_cases h0 : b = 0
    · subst h0; rw [if_pos rfl, mx_abs (by omega) (by omega), Int.gcd_zero_right]
    · rw [if_neg h0]
      have h1 := Int.natAbs_tmod a b
      have h2 := Nat.mod_lt a.natAbs (show 0 < b.natAbs by omega)
      rw [ih b (a.tmod b) (by omega) (by omega) (by omega), gcd_tmod]
theorem impl_Vec_add_eq {ux uy vx vy : Int} (h1 : -1000000000000000000 ≤ ux + vx ∧ ux + vx ≤ 1000000000000000000) (h2 : -1000000000000000000 ≤ uy + vy ∧ uy + vy ≤ 1000000000000000000) : impl_Vec_add.f ux uy vx vy = some (ux + vx, uy + vy) := by
  unfold impl_Vec_add.f; rw [wrap_id (by omega) (by omega), wrap_id (by omega) (by omega)]
theorem spec_l01Mod_eq {a n : Int} (hn : 0 < n) (hn2 : n ≤ 1000000000000000000) : spec_l01Mod.f a n = some (a % n) := by
  unfold spec_l01Mod.f
  have hb := tmod_bounds a n hn
  rw [if_neg (by omega)]
  rw [wrap_id (by omega) (by omega)]
  have := mod_if a n hn
  split <;> rename_i h
  · rw [if_pos h] at this; rw [this]
  · rw [if_neg h] at this; rw [this]
theorem impl_mod_eq {a n : Int} (hn : 0 < n) (hn2 : n ≤ 1000000000000000000) : impl_mod.f a n = some (a % n) := by
  unfold impl_mod.f
  have hb := tmod_bounds a n hn
  rw [if_neg (by omega), wrap_id (by omega) (by omega), mod_add a n hn]
theorem reduce_bd {a b c x y : Int} (ha : 1 ≤ a ∧ a ≤ 64) (hc : 1 ≤ c ∧ c ≤ 64) (hb : 0 ≤ b ∧ b ≤ 63) (hx : -1000000 ≤ x ∧ x ≤ 1000000) (hy : -1000000 ≤ y ∧ y ≤ 1000000) :
    (0 ≤ y % c ∧ y % c < c) ∧ (-1000000 ≤ y / c ∧ y / c ≤ 1000000) ∧ (-63000000 ≤ y / c * b ∧ y / c * b ≤ 63000000) := by
  have h1 := Int.emod_nonneg y (show c ≠ 0 by omega)
  have h2 := Int.emod_lt_of_pos y (show 0 < c by omega)
  have h3 := Int.natAbs_ediv_le_natAbs y c
  have h4 := prod_bd (a := y / c) (b := b) (A := 1000000) (B := 63) (by omega) (by omega) (by omega) (by omega) (by omega)
  omega
theorem spec_l03Reduce_eq {a b c x y : Int} (ha : 1 ≤ a ∧ a ≤ 64) (hc : 1 ≤ c ∧ c ≤ 64) (hb : 0 ≤ b ∧ b ≤ 63) (hx : -1000000 ≤ x ∧ x ≤ 1000000) (hy : -1000000 ≤ y ∧ y ≤ 1000000) :
    spec_l03Reduce.f a b c x y = some (redV a b c x y) := by
  obtain ⟨h1, h2, h3⟩ := reduce_bd ha hc hb hx hy
  unfold spec_l03Reduce.f redV
  rw [spec_l01Mod_eq (by omega) (by omega)]
  simp only [Option.bind_some]
  rw [if_neg (by omega), wrap_id (x := y - y % c) (by omega) (by omega), tdiv_row y c (by omega), wrap_id (x := y / c) (by omega) (by omega), wrap_id (x := y / c * b) (by omega) (by omega), wrap_id (x := x - y / c * b) (by omega) (by omega), spec_l01Mod_eq (by omega) (by omega)]
  rfl
theorem reduce_bd' {a b c x y : Int} (ha : 1 ≤ a ∧ a ≤ 64) (hc : 1 ≤ c ∧ c ≤ 64) (hb : 0 ≤ b ∧ b ≤ 63) (hx : -1000000 ≤ x ∧ x ≤ 1000000) (hy : -1000000 ≤ y ∧ y ≤ 1000000) :
    (0 ≤ y % c ∧ y % c < c) ∧ (-1000000 ≤ y / c ∧ y / c ≤ 1000000) ∧ (-63000000 ≤ y / c * b ∧ y / c * b ≤ 63000000) := by
  have h1 := Int.emod_nonneg y (show c ≠ 0 by omega)
  have h2 := Int.emod_lt_of_pos y (show 0 < c by omega)
  have h3 := Int.natAbs_ediv_le_natAbs y c
  have h4 := prod_bd (a := y / c) (b := b) (A := 1000000) (B := 63) (by omega) (by omega) (by omega) (by omega) (by omega)
  omega
theorem impl_Lattice_reduce_eq {a b c x y : Int} (ha : 1 ≤ a ∧ a ≤ 64) (hc : 1 ≤ c ∧ c ≤ 64) (hb : 0 ≤ b ∧ b ≤ 63) (hx : -1000000 ≤ x ∧ x ≤ 1000000) (hy : -1000000 ≤ y ∧ y ≤ 1000000) :
    impl_Lattice_reduce.f a b c x y = some (redV a b c x y) := by
  obtain ⟨h1, h2, h3⟩ := reduce_bd' ha hc hb hx hy
  unfold impl_Lattice_reduce.f redV
  rw [impl_mod_eq (by omega) (by omega)]
  simp only [Option.bind_some]
  rw [if_neg (by omega), wrap_id (x := y - y % c) (by omega) (by omega), tdiv_row y c (by omega), wrap_id (x := y / c) (by omega) (by omega), wrap_id (x := y / c * b) (by omega) (by omega), wrap_id (x := x - y / c * b) (by omega) (by omega), impl_mod_eq (by omega) (by omega)]
  rfl
theorem spec_l03Has_eq {a b c x y : Int} (ha : 1 ≤ a ∧ a ≤ 64) (hc : 1 ≤ c ∧ c ≤ 64) (hb : 0 ≤ b ∧ b ≤ 63) (hx : -1000000 ≤ x ∧ x ≤ 1000000) (hy : -1000000 ≤ y ∧ y ≤ 1000000) :
    spec_l03Has.f a b c x y = some (hasB a b c x y) := by
  unfold spec_l03Has.f hasB
  rw [spec_l03Reduce_eq ha hc hb hx hy]; rfl
theorem impl_Lattice_has_eq {a b c x y : Int} (ha : 1 ≤ a ∧ a ≤ 64) (hc : 1 ≤ c ∧ c ≤ 64) (hb : 0 ≤ b ∧ b ≤ 63) (hx : -1000000 ≤ x ∧ x ≤ 1000000) (hy : -1000000 ≤ y ∧ y ≤ 1000000) :
    impl_Lattice_has.f a b c x y = some (hasB a b c x y) := by
  unfold impl_Lattice_has.f hasB
  rw [impl_Lattice_reduce_eq ha hc hb hx hy]; rfl
/-- A vector as the printed lists hold it. -/
def mkSV (v : Int × Int) : S41 := ⟨v.1, v.2⟩
def rowL (a b q : Int) : Nat → List S54
  | 0 => []
  | d + 1 => ⟨a, b, q⟩ :: rowL a (b + 1) q d
theorem rowL_len (a q : Int) : ∀ (d : Nat) (b : Int), (rowL a b q d).length = d := by
  intro d
  induction d with
  | zero => intro b; rfl
  | succ d ih => intro b; simp [rowL, ih]
def subL (n a : Int) : Nat → List S54
  | 0 => []
  | d + 1 => (if n % a = 0 then rowL a 0 (n / a) a.toNat else []) ++ subL n (a + 1) d
theorem subL_len (n : Int) : ∀ (d : Nat) (a : Int), 0 ≤ a → (subL n a d).length ≤ d * (a.toNat + d) := by
  intro d
  induction d with
  | zero => intro a _; simp [subL]
  | succ d ih =>
    intro a ha
    have h1 := ih (a + 1) (by omega)
    have e : (d + 1) * (a.toNat + (d + 1)) = d * ((a + 1).toNat + d) + (a.toNat + (d + 1)) := by
      rw [show (a + 1).toNat = a.toNat + 1 by omega, Nat.add_mul]; simp; rw [show a.toNat + 1 + d = a.toNat + (d + 1) by omega]
    rw [e]
    simp only [subL, List.length_append]
    split
    · rw [rowL_len]; omega
    · simp only [List.length_nil]; omega
def sublS (n : Int) : List S54 × Int := if 1 ≤ n ∧ n ≤ 64 then (subL n 1 n.toNat, 0) else ([], 2)
theorem sublS_len (n : Int) : (sublS n).1.length ≤ 5000 := by
  unfold sublS
  split
  · rename_i h
    have := subL_len n n.toNat 1 (by omega)
    have hm : n.toNat * (Int.toNat 1 + n.toNat) ≤ 64 * 65 := Nat.mul_le_mul (by omega) (by omega)
    simp only; omega
  · simp
theorem impl_euclid (l : List S41) (low len i : Int) : ∀ (n : Nat) (px py vx vy : Int) (M : Nat), M ≤ 10000000000000000 → vy.natAbs ≤ n → px.natAbs ≤ M → vx.natAbs ≤ M → py.natAbs ≤ 1000 → vy.natAbs ≤ 1000 →
    px.natAbs * vy.natAbs + vx.natAbs * py.natAbs ≤ M →
    ∃ px' py' vx', px'.natAbs ≤ M ∧ py'.natAbs ≤ 1000 ∧ vx'.natAbs ≤ M ∧ (∀ x y, S2 px' py' vx' 0 x y ↔ S2 px py vx vy x y) ∧
      ∀ (K : Nat) (R : Option (Int × Int × Int)), (∀ k, K ≤ k → impl_latticeOf.l1 k low l len i px' py' vx' 0 = R) → ∀ k, K + n ≤ k → impl_latticeOf.l1 k low l len i px py vx vy = R := by
  intro n
  induction n with
  | zero =>
    intro px py vx vy M hM hn h1 h2 h3 h4 hQ
    have h0 : vy = 0 := by omega
    subst h0
    exact ⟨px, py, vx, h1, h3, h2, fun x y => Iff.rfl, fun K R h k hk => h k (by omega)⟩
  | succ n ih =>
    intro px py vx vy M hM hn h1 h2 h3 h4 hQ
    by_cases h0 : vy = 0
    · subst h0
      exact ⟨px, py, vx, h1, h3, h2, fun x y => Iff.rfl, fun K R h k hk => h k (by omega)⟩
    · obtain ⟨e1, e2, e3, e4, e5, e6⟩ := euclid (px := px) (py := py) (vx := vx) h0 hQ
      obtain ⟨px', py', vx', b1, b2, b3, hs, hk⟩ := ih vx vy (px - py.tdiv vy * vx) (py - py.tdiv vy * vy) M hM (by omega) h2 e3 h4 (by omega) e6
      refine ⟨px', py', vx', b1, b2, b3, fun x y => (hs x y).trans (S2_step px py vx vy _ x y), fun K R h k hk' => ?_⟩
      obtain ⟨k, rfl⟩ : ∃ m, k = m + 1 := ⟨k - 1, by omega⟩
      rw [impl_latticeOf.l1, if_neg h0]
      unfold impl_Vec_times.f impl_Vec_add.f
      simp only [Option.bind_some]
      generalize py.tdiv vy = q at *
      rw [wrap_id (x := q) (by omega) (by omega), wrap_id (x := -q) (by omega) (by omega), Int.neg_mul, Int.neg_mul, wrap_id (x := -(q * vx)) (by omega) (by omega), wrap_id (x := -(q * vy)) (by omega) (by omega),
        ← Int.sub_eq_add_neg, ← Int.sub_eq_add_neg, wrap_id (x := px - q * vx) (by omega) (by omega), wrap_id (x := py - q * vy) (by omega) (by omega)]
      exact hk K R h k (by omega)
theorem impl_vec_step (l : List S41) (low len i ux uy px py : Int) (M : Nat) (hM : 1000 * M + 1000000 ≤ 10000000000000000) (hi : 0 ≤ i ∧ i ≤ 1000) (hl : low.natAbs ≤ M) (hl0 : 0 ≤ low) (hpx : px.natAbs ≤ M) (hpy : py.natAbs ≤ 1000) (hux : ux.natAbs ≤ 1000) (huy : uy.natAbs ≤ 1000) :
    ∃ low' px' py', low'.natAbs ≤ 1000 * M + 1000000 ∧ 0 ≤ low' ∧ px'.natAbs ≤ 1000 * M + 1000000 ∧ py'.natAbs ≤ 1000 ∧ plus low px py ux uy low' px' py' ∧
      ∀ (K : Nat) (R : Option (Int × Int × Int)), (∀ k, K ≤ k → impl_latticeOf.l0 k low' l len (i + 1) px' py' = R) → ∀ k, K + 1000 * M + 1003002 ≤ k → impl_latticeOf.l1 k low l len i px py ux uy = R := by
  have hq1 : px.natAbs * uy.natAbs ≤ M * 1000 := Nat.mul_le_mul hpx huy
  have hq2 : ux.natAbs * py.natAbs ≤ 1000 * 1000 := Nat.mul_le_mul hux hpy
  obtain ⟨px', py', vx', b1, b2, b3, hs, hk⟩ := impl_euclid l low len i 1000 px py ux uy (1000 * M + 1000000) hM huy (by omega) (by omega) hpy huy (by omega)
  have hg : Int.gcd low vx' ≤ 1000 * M + 1000000 := gcd_le_bd (by omega) b3
  refine ⟨(Int.gcd low vx' : Int), px', py', by omega, by omega, b1, b2, L_more hs rfl, fun K R h k hk' => ?_⟩
  refine hk (K + 1000 * M + 1000002) R (fun k hk'' => ?_) k (by omega)
  obtain ⟨k, rfl⟩ : ∃ m, k = m + 1 := ⟨k - 1, by omega⟩
  rw [impl_latticeOf.l1, if_pos rfl]
  unfold impl_gcd.f
  rw [impl_gcd_eq k low vx' (by omega) (by omega) (by omega), wrap_id (x := i + 1) (by omega) (by omega)]
  simp only [Option.bind_some]
  exact h k (by omega)
theorem impl_lattice_end (l : List S41) (low len px py : Int) (i : Int) (hi : ¬ i < len) (hl : 0 < low) (hl2 : low ≤ 1000000000000000000) (hp : px.natAbs ≤ 1000000000000000000) (hpy : py.natAbs ≤ 1000) (hy : py ≠ 0) :
    ∃ B C, 0 ≤ B ∧ B < low ∧ 0 < C ∧ (∀ x y, L low B C x y ↔ L low px py x y) ∧ ∀ k, 1 ≤ k → impl_latticeOf.l0 k low l len i px py = some (low, B, C) := by
  by_cases h : py < 0
  · refine ⟨(-px) % low, -py, Int.emod_nonneg _ (by omega), Int.emod_lt_of_pos _ hl, by omega, fun x y => (L_mod _ _ _ _ _).trans (L_neg _ _ _ _ _), fun k hk => ?_⟩
    obtain ⟨k, rfl⟩ : ∃ m, k = m + 1 := ⟨k - 1, by omega⟩
    rw [impl_latticeOf.l0, if_neg hi, if_pos h]
    unfold impl_Vec_times.f
    simp only [Option.bind_some]
    rw [Int.neg_one_mul, Int.neg_one_mul, wrap_id (x := -px) (by omega) (by omega), wrap_id (x := -py) (by omega) (by omega), impl_mod_eq hl hl2]; rfl
  · refine ⟨px % low, py, Int.emod_nonneg _ (by omega), Int.emod_lt_of_pos _ hl, by omega, fun x y => L_mod _ _ _ _ _, fun k hk => ?_⟩
    obtain ⟨k, rfl⟩ : ∃ m, k = m + 1 := ⟨k - 1, by omega⟩
    rw [impl_latticeOf.l0, if_neg hi, if_neg h, impl_mod_eq hl hl2]; rfl
theorem impl_latticeOf2 (u v : S41) (h1 : u.f0.natAbs ≤ 1000) (h2 : u.f1.natAbs ≤ 1000) (h3 : v.f0.natAbs ≤ 1000) (h4 : v.f1.natAbs ≤ 1000) (hd : u.f0 * v.f1 - u.f1 * v.f0 ≠ 0) :
    ∃ A B C, Herm (sp2 u.f0 u.f1 v.f0 v.f1) A B C ∧ ∀ k, 1003100000 ≤ k → impl_latticeOf.f k [u, v] = some (A, B, C) := by
  obtain ⟨l1, p1, q1, b1, b2, b3, b4, hp1, hk1⟩ := impl_vec_step [u, v] 0 2 0 u.f0 u.f1 0 0 0 (by omega) (by omega) (by simp) (by omega) (by simp) (by simp) h1 h2
  obtain ⟨l2, p2, q2, c1, c2, c3, c4, hp2, hk2⟩ := impl_vec_step [u, v] l1 2 1 v.f0 v.f1 p1 q1 1000000 (by omega) (by omega) (by omega) b2 (by omega) b4 h3 h4
  have hsp := plus_two hp1 hp2
  obtain ⟨r1, r2⟩ := L_rank ((hsp u.f0 u.f1).mpr ⟨1, 0, by omega, by omega⟩) ((hsp v.f0 v.f1).mpr ⟨0, 1, by omega, by omega⟩) hd
  obtain ⟨B, C, e1, e2, e3, e4, hk3⟩ := impl_lattice_end [u, v] l2 2 p2 q2 2 (by omega) (by omega) (by omega) (by omega) c4 r2
  refine ⟨l2, B, C, ⟨by omega, e3, e1, e2, fun x y => (e4 x y).trans (hsp x y)⟩, fun k hk => ?_⟩
  unfold impl_latticeOf.f
  obtain ⟨k, rfl⟩ : ∃ m, k = m + 1 := ⟨k - 1, by omega⟩
  simp only [List.length_cons, List.length_nil]
  rw [impl_latticeOf.l0, if_pos (by decide), if_pos (by decide), if_pos (by simp)]
  refine hk1 1001003100 _ (fun k hk => ?_) k (by omega)
  obtain ⟨k, rfl⟩ : ∃ m, k = m + 1 := ⟨k - 1, by omega⟩
  rw [impl_latticeOf.l0, if_pos (by decide), if_pos (by decide), if_pos (by simp)]
  refine hk2 1 _ (fun k hk => ?_) k (by omega)
  exact hk3 k hk
theorem impl_latticeOf4 (a b c a' b' c' : Int) (h1 : 1 ≤ a ∧ a ≤ 64) (h2 : 0 ≤ b ∧ b ≤ 64) (h3 : 1 ≤ c ∧ c ≤ 64) (h1' : 1 ≤ a' ∧ a' ≤ 64) (h2' : 0 ≤ b' ∧ b' ≤ 64) (h3' : 1 ≤ c' ∧ c' ≤ 64) :
    ∃ A B C, Herm (sp4 a b c a' b' c') A B C ∧ ∀ k, 20000000000000000 ≤ k → impl_latticeOf.f k [⟨a, 0⟩, ⟨b, c⟩, ⟨a', 0⟩, ⟨b', c'⟩] = some (A, B, C) := by
  obtain ⟨l1, p1, q1, b1, b2, b3, b4, hp1, hk1⟩ := impl_vec_step [⟨a, 0⟩, ⟨b, c⟩, ⟨a', 0⟩, ⟨b', c'⟩] 0 4 0 a 0 0 0 0 (by omega) (by omega) (by simp) (by omega) (by simp) (by simp) (by omega) (by omega)
  obtain ⟨l2, p2, q2, c1, c2, c3, c4, hp2, hk2⟩ := impl_vec_step [⟨a, 0⟩, ⟨b, c⟩, ⟨a', 0⟩, ⟨b', c'⟩] l1 4 1 b c p1 q1 1000000 (by omega) (by omega) (by omega) b2 (by omega) b4 (by omega) (by omega)
  obtain ⟨l3, p3, q3, d1, d2, d3, d4, hp3, hk3⟩ := impl_vec_step [⟨a, 0⟩, ⟨b, c⟩, ⟨a', 0⟩, ⟨b', c'⟩] l2 4 2 a' 0 p2 q2 1001000000 (by omega) (by omega) (by omega) c2 (by omega) c4 (by omega) (by omega)
  obtain ⟨l4, p4, q4, e1, e2, e3, e4, hp4, hk4⟩ := impl_vec_step [⟨a, 0⟩, ⟨b, c⟩, ⟨a', 0⟩, ⟨b', c'⟩] l3 4 3 b' c' p3 q3 1001001000000 (by omega) (by omega) (by omega) d2 (by omega) d4 (by omega) (by omega)
  have hsp := plus_four hp1 hp2 hp3 hp4
  have hd : a * c - 0 * b ≠ 0 := by have := Int.mul_pos (show 0 < a by omega) (show 0 < c by omega); omega
  obtain ⟨r1, r2⟩ := L_rank ((hsp a 0).mpr ⟨1, 0, 0, 0, by omega, by omega⟩) ((hsp b c).mpr ⟨0, 1, 0, 0, by omega, by omega⟩) hd
  obtain ⟨B, C, f1, f2, f3, f4, hk5⟩ := impl_lattice_end [⟨a, 0⟩, ⟨b, c⟩, ⟨a', 0⟩, ⟨b', c'⟩] l4 4 p4 q4 4 (by omega) (by omega) (by omega) (by omega) e4 r2
  refine ⟨l4, B, C, ⟨by omega, f3, f1, f2, fun x y => (f4 x y).trans (hsp x y)⟩, fun k hk => ?_⟩
  unfold impl_latticeOf.f
  obtain ⟨k, rfl⟩ : ∃ m, k = m + 1 := ⟨k - 1, by omega⟩
  simp only [List.length_cons, List.length_nil]
  rw [impl_latticeOf.l0, if_pos (by decide), if_pos (by decide), if_pos (by simp)]
  refine hk1 1100000000000000 _ (fun k hk => ?_) k (by omega)
  obtain ⟨k, rfl⟩ : ∃ m, k = m + 1 := ⟨k - 1, by omega⟩
  rw [impl_latticeOf.l0, if_pos (by decide), if_pos (by decide), if_pos (by simp)]
  refine hk2 1010000000000000 _ (fun k hk => ?_) k (by omega)
  obtain ⟨k, rfl⟩ : ∃ m, k = m + 1 := ⟨k - 1, by omega⟩
  rw [impl_latticeOf.l0, if_pos (by decide), if_pos (by decide), if_pos (by simp)]
  refine hk3 1002000000000000 _ (fun k hk => ?_) k (by omega)
  obtain ⟨k, rfl⟩ : ∃ m, k = m + 1 := ⟨k - 1, by omega⟩
  rw [impl_latticeOf.l0, if_pos (by decide), if_pos (by decide), if_pos (by simp)]
  refine hk4 1 _ (fun k hk => ?_) k (by omega)
  exact hk5 k hk
theorem impl_join_is {a b c a' b' c' : Int} (hl : latB a b c = true) (hm : latB a' b' c' = true) :
    ∃ A B C, Herm (sp4 a b c a' b' c') A B C ∧ ∀ k, 20000000000000000 ≤ k → impl_join.f k a b c a' b' c' = some (A, B, C) := by
  have h1 := latB_iff.mp hl
  have h2 := latB_iff.mp hm
  obtain ⟨A, B, C, hh, hk⟩ := impl_latticeOf4 a b c a' b' c' h1.1 (by omega) h1.2.1 h2.1 (by omega) h2.2.1
  refine ⟨A, B, C, hh, fun k hk' => ?_⟩
  unfold impl_join.f impl_Lattice_basis.f
  simp only [Option.bind_some]
  rw [hk k hk']; rfl
theorem impl_meet_step {a b c a' b' c' : Int} (hl : latB a b c = true) (hm : latB a' b' c' = true) (k : Nat) (W y x : Int) (hx : 0 ≤ x ∧ x ≤ 100000) (hy : 0 ≤ y ∧ y ≤ 100000) :
    impl_meet.l1 (k + 1) W y W x a b c a' b' c' = if x < W then (if bothB a b c a' b' c' x y = true then some (W, x, y) else impl_meet.l1 k W y W (x + 1) a b c a' b' c') else impl_meet.l0 k W (y + 1) a b c a' b' c' := by
  have h1 := latB_iff.mp hl
  have h2 := latB_iff.mp hm
  rw [impl_meet.l1, impl_Lattice_has_eq h1.1 h1.2.1 (by omega) (by omega) (by omega), impl_Lattice_has_eq h2.1 h2.2.1 (by omega) (by omega) (by omega), wrap_id (x := x + 1) (by omega) (by omega), wrap_id (x := y + 1) (by omega) (by omega)]
  simp only [Option.bind_some, bothB, Bool.and_eq_true]
  split
  · cases hasB a b c x y <;> cases hasB a' b' c' x y <;> simp
  · rfl
theorem impl_meet_skip {a b c a' b' c' : Int} (hl : latB a b c = true) (hm : latB a' b' c' = true) (W y : Int) (hW : W ≤ 5000) (hy : 0 ≤ y ∧ y ≤ 100000) (K : Nat) (R : Option (Int × Int × Int)) : ∀ (d : Nat) (x : Int), 0 ≤ x → x + d = W →
    (∀ z, x ≤ z → z < W → bothB a b c a' b' c' z y = false) → (∀ k, K ≤ k → impl_meet.l0 k W (y + 1) a b c a' b' c' = R) → ∀ k, K + d + 1 ≤ k → impl_meet.l1 k W y W x a b c a' b' c' = R := by
  intro d
  induction d with
  | zero =>
    intro x h0 hx hn hc k hk
    obtain ⟨k, rfl⟩ : ∃ m, k = m + 1 := ⟨k - 1, by omega⟩
    rw [impl_meet_step hl hm k W y x (by omega) hy, if_neg (by omega)]; exact hc k (by omega)
  | succ d ih =>
    intro x h0 hx hn hc k hk
    obtain ⟨k, rfl⟩ : ∃ m, k = m + 1 := ⟨k - 1, by omega⟩
    rw [impl_meet_step hl hm k W y x (by omega) hy, if_pos (by omega), hn x (by omega) (by omega), if_neg (by decide)]
    exact ih (x + 1) (by omega) (by omega) (fun z h1 h2 => hn z (by omega) h2) hc k (by omega)
theorem impl_meet_hit {a b c a' b' c' : Int} (hl : latB a b c = true) (hm : latB a' b' c' = true) (W y X : Int) (hW : W ≤ 5000) (hy : 0 ≤ y ∧ y ≤ 100000) (hX : X < W) (hb : bothB a b c a' b' c' X y = true) : ∀ (d : Nat) (x : Int), 0 ≤ x → x + d = X →
    (∀ z, x ≤ z → z < X → bothB a b c a' b' c' z y = false) → ∀ k, d + 1 ≤ k → impl_meet.l1 k W y W x a b c a' b' c' = some (W, X, y) := by
  intro d
  induction d with
  | zero =>
    intro x h0 hx hn k hk
    obtain ⟨k, rfl⟩ : ∃ m, k = m + 1 := ⟨k - 1, by omega⟩
    have hxX : x = X := by omega
    subst hxX
    rw [impl_meet_step hl hm k W y x (by omega) hy, if_pos (by omega), if_pos hb]
  | succ d ih =>
    intro x h0 hx hn k hk
    obtain ⟨k, rfl⟩ : ∃ m, k = m + 1 := ⟨k - 1, by omega⟩
    rw [impl_meet_step hl hm k W y x (by omega) hy, if_pos (by omega), hn x (by omega) (by omega), if_neg (by decide)]
    exact ih (x + 1) (by omega) (by omega) (fun z h1 h2 => hn z (by omega) h2) k (by omega)
theorem impl_meet_rows {a b c a' b' c' W X Y : Int} (hl : latB a b c = true) (hm : latB a' b' c' = true) (hW : W ≤ 5000) (hY : Y ≤ 5000) (h : MeetAt a b c a' b' c' W X Y) : ∀ (n : Nat) (y : Int), 1 ≤ y → y + n = Y →
    ∀ k, n * (W.toNat + 2) + W.toNat + 2 ≤ k → impl_meet.l0 k W y a b c a' b' c' = some (W, X, Y) := by
  obtain ⟨⟨q1, q2, q3, q4⟩, p1, p2, p3, _⟩ := h
  intro n
  induction n with
  | zero =>
    intro y hy he k hk
    obtain ⟨k, rfl⟩ : ∃ m, k = m + 1 := ⟨k - 1, by omega⟩
    have hyY : y = Y := by omega
    subst hyY
    rw [impl_meet.l0]
    exact impl_meet_hit hl hm W y X hW (by omega) q4 p1 X.toNat 0 (by omega) (by omega) p2 k (by omega)
  | succ n ih =>
    intro y hy he k hk
    obtain ⟨k, rfl⟩ : ∃ m, k = m + 1 := ⟨k - 1, by omega⟩
    rw [Nat.add_mul] at hk
    rw [impl_meet.l0]
    exact impl_meet_skip hl hm W y hW (by omega) (n * (W.toNat + 2) + W.toNat + 2) _ W.toNat 0 (by omega) (by omega) (fun z _ _ => p3 z y hy (by omega)) (fun k hk => ih (y + 1) (by omega) (by omega) k hk) k (by omega)
theorem rows_bd {W Y : Int} (h1 : 1 ≤ W) (h2 : 1 ≤ Y) (h : W * Y ≤ 4096) : W ≤ 4096 ∧ Y ≤ 4096 ∧ (Y - 1).toNat * (W.toNat + 2) + W.toNat + 2 ≤ 20000 := by
  have a1 := le_mul_r (a := W) (c := Y) (by omega) h2
  have a2 := le_mul_l (a := W) (c := Y) (by omega) h1
  refine ⟨by omega, by omega, ?_⟩
  have e1 : (((Y - 1).toNat * W.toNat : Nat) : Int) ≤ Y * W := by
    rw [Int.natCast_mul]
    exact Int.mul_le_mul (by omega) (by omega) (by omega) (by omega)
  rw [Int.mul_comm Y] at e1
  rw [Nat.mul_add]
  omega
theorem impl_meet_is {a b c a' b' c' W X Y : Int} (hl : latB a b c = true) (hm : latB a' b' c' = true) (h : MeetAt a b c a' b' c' W X Y) (hW : W = a / Int.gcd a a' * a') (hWY : W * Y ≤ 4096) (k : Nat) (hk : 20000 ≤ k) :
    impl_meet.f k a b c a' b' c' = some (W, X, Y) := by
  have h1 := latB_iff.mp hl
  have h2 := latB_iff.mp hm
  obtain ⟨⟨q1, q2, q3, q4⟩, _⟩ := id h
  obtain ⟨b1, b2, b3⟩ := rows_bd q1 q2 hWY
  unfold impl_meet.f impl_gcd.f
  rw [impl_gcd_eq k a a' (by omega) (by omega) (by omega)]
  have hg := Int.gcd_pos_of_ne_zero_left a' (show a ≠ 0 by omega)
  have hq := Int.natAbs_ediv_le_natAbs a (Int.gcd a a')
  simp only [Option.bind_some]
  rw [if_neg (by omega), tdiv_of_dvd (Int.gcd_dvd_left a a'), wrap_id (x := a / (Int.gcd a a' : Int)) (by omega) (by omega), ← hW, wrap_id (x := W) (by omega) (by omega)]
  exact impl_meet_rows hl hm (by omega) (by omega) h (Y - 1).toNat 1 (by omega) (by omega) k (by omega)
theorem impl_MeetLattices_is {a b c a' b' c' W X Y : Int} (hl : latB a b c = true) (hm : latB a' b' c' = true) (h : MeetAt a b c a' b' c' W X Y) (hW : W = a / Int.gcd a a' * a') (hWY : W * Y ≤ 4096)
    (hp : ∀ A B C, Herm (sp4 a b c a' b' c') A B C → W * Y * (A * C) = (a * c) * (a' * c')) (k : Nat) (hk : 20000000000000001 ≤ k) :
    impl_MeetLattices.f k a b c a' b' c' = some (if W * Y ≤ 64 then (W, X, Y, 0) else (0, 0, 0, 3)) := by
  have h1 := latB_iff.mp hl
  have h2 := latB_iff.mp hm
  obtain ⟨⟨q1, q2, q3, q4⟩, _⟩ := id h
  obtain ⟨b1, b2, b3⟩ := rows_bd q1 q2 hWY
  obtain ⟨k, rfl⟩ : ∃ m, k = m + 1 := ⟨k - 1, by omega⟩
  obtain ⟨A, B, C, hh, hj⟩ := impl_join_is hl hm
  have hpr := hp A B C hh
  have hAC : 0 < A * C := Int.mul_pos hh.1 hh.2.1
  have hac : 0 < a * c := Int.mul_pos (by omega) (by omega)
  have hac' : 0 < a' * c' := Int.mul_pos (by omega) (by omega)
  have hWY0 : 0 < W * Y := Int.mul_pos (by omega) (by omega)
  have hle : (a * c) * (a' * c') ≤ 64 * 64 := Int.mul_le_mul h1.2.2.2 h2.2.2.2 (by omega) (by omega)
  have hle2 := le_mul_l (a := W * Y) (c := A * C) (by omega) (by omega)
  unfold impl_MeetLattices.f
  rw [impl_IsLattice_eq a b c (by omega) (by omega), impl_IsLattice_eq a' b' c' (by omega) (by omega), hl, hm]
  simp only [Option.bind_some, if_true, Bool.not_true, impl_MeetLattices.j0, Bool.false_eq_true, if_false, impl_Lattice_index.f]
  rw [hj k (by omega)]
  simp only [Option.bind_some]
  rw [wrap_id (x := a * c) (by omega) (by omega), wrap_id (x := a' * c') (by omega) (by omega), wrap_id (x := A * C) (by omega) (by omega), ← hpr, wrap_id (x := W * Y * (A * C)) (by omega) (by omega), Int.mul_tdiv_cancel _ (by omega), if_neg (by omega), wrap_id (x := W * Y) (by omega) (by omega)]
  by_cases hg : W * Y ≤ 64
  · rw [if_neg (by omega), if_pos hg, impl_meet_is hl hm h hW hWY k (by omega)]; rfl
  · rw [if_pos (by omega), if_neg hg]
theorem impl_MeetLattices_not (k : Nat) {a b c a' b' c' : Int} (w : -9223372036854775808 ≤ a ∧ a < 9223372036854775808) (w' : -9223372036854775808 ≤ a' ∧ a' < 9223372036854775808) (h : ¬ (latB a b c = true ∧ latB a' b' c' = true)) :
    impl_MeetLattices.f (k + 1) a b c a' b' c' = some (0, 0, 0, 1) := by
  unfold impl_MeetLattices.f
  rw [impl_IsLattice_eq a b c w.1 w.2, impl_IsLattice_eq a' b' c' w'.1 w'.2]
  simp only [Option.bind_some, impl_MeetLattices.j0]
  cases h1 : latB a b c <;> cases h2 : latB a' b' c' <;> simp_all
theorem spec_l03Result_eq' (a b c : Int) (h1 : -9223372036854775808 ≤ a) (h2 : a < 9223372036854775808) : spec_l03Result.f a b c = some (if latB a b c = true then (a, b, c, 0) else (0, 0, 0, 3)) := by
  unfold spec_l03Result.f; simp only [spec_IsLattice_eq a b c h1 h2, Option.bind_some]; split <;> rfl
theorem spec_meet_step {a b c a' b' c' : Int} (hl : latB a b c = true) (hm : latB a' b' c' = true) (k : Nat) (W y x : Int) (hW : 1 ≤ W ∧ W ≤ 5000) (hx : 0 ≤ x ∧ x ≤ 100000) (hy : 0 ≤ y ∧ y ≤ 100000) :
    spec_MeetLattices.l2 (k + 1) W y x a b c a' b' c' = if x < W then (if bothB a b c a' b' c' x y = true then some (if latB W x y = true then (W, x, y, 0) else (0, 0, 0, 3)) else spec_MeetLattices.l2 k W y (x + 1) a b c a' b' c') else spec_MeetLattices.l1 k W (y + 1) a b c a' b' c' := by
  have h1 := latB_iff.mp hl
  have h2 := latB_iff.mp hm
  rw [spec_MeetLattices.l2, spec_l03Has_eq h1.1 h1.2.1 (by omega) (by omega) (by omega), spec_l03Has_eq h2.1 h2.2.1 (by omega) (by omega) (by omega), wrap_id (x := x + 1) (by omega) (by omega), wrap_id (x := y + 1) (by omega) (by omega), spec_l03Result_eq' W x y (by omega) (by omega)]
  simp only [Option.bind_some, bothB, Bool.and_eq_true]
  split
  · cases hasB a b c x y <;> cases hasB a' b' c' x y <;> simp
  · rfl
theorem spec_meet_skip {a b c a' b' c' : Int} (hl : latB a b c = true) (hm : latB a' b' c' = true) (W y : Int) (hW : 1 ≤ W ∧ W ≤ 5000) (hy : 0 ≤ y ∧ y ≤ 100000) (K : Nat) (R : Option (Int × Int × Int × Int)) : ∀ (d : Nat) (x : Int), 0 ≤ x → x + d = W →
    (∀ z, x ≤ z → z < W → bothB a b c a' b' c' z y = false) → (∀ k, K ≤ k → spec_MeetLattices.l1 k W (y + 1) a b c a' b' c' = R) → ∀ k, K + d + 1 ≤ k → spec_MeetLattices.l2 k W y x a b c a' b' c' = R := by
  intro d
  induction d with
  | zero =>
    intro x h0 hx hn hc k hk
    obtain ⟨k, rfl⟩ : ∃ m, k = m + 1 := ⟨k - 1, by omega⟩
    rw [spec_meet_step hl hm k W y x hW (by omega) hy, if_neg (by omega)]; exact hc k (by omega)
  | succ d ih =>
    intro x h0 hx hn hc k hk
    obtain ⟨k, rfl⟩ : ∃ m, k = m + 1 := ⟨k - 1, by omega⟩
    rw [spec_meet_step hl hm k W y x hW (by omega) hy, if_pos (by omega), hn x (by omega) (by omega), if_neg (by decide)]
    exact ih (x + 1) (by omega) (by omega) (fun z h1 h2 => hn z (by omega) h2) hc k (by omega)
theorem spec_meet_hit {a b c a' b' c' : Int} (hl : latB a b c = true) (hm : latB a' b' c' = true) (W y X : Int) (hW : 1 ≤ W ∧ W ≤ 5000) (hy : 0 ≤ y ∧ y ≤ 100000) (hX : X < W) (hb : bothB a b c a' b' c' X y = true) : ∀ (d : Nat) (x : Int), 0 ≤ x → x + d = X →
    (∀ z, x ≤ z → z < X → bothB a b c a' b' c' z y = false) → ∀ k, d + 1 ≤ k → spec_MeetLattices.l2 k W y x a b c a' b' c' = some (if latB W X y = true then (W, X, y, 0) else (0, 0, 0, 3)) := by
  intro d
  induction d with
  | zero =>
    intro x h0 hx hn k hk
    obtain ⟨k, rfl⟩ : ∃ m, k = m + 1 := ⟨k - 1, by omega⟩
    have hxX : x = X := by omega
    subst hxX
    rw [spec_meet_step hl hm k W y x hW (by omega) hy, if_pos (by omega), if_pos hb]
  | succ d ih =>
    intro x h0 hx hn k hk
    obtain ⟨k, rfl⟩ : ∃ m, k = m + 1 := ⟨k - 1, by omega⟩
    rw [spec_meet_step hl hm k W y x hW (by omega) hy, if_pos (by omega), hn x (by omega) (by omega), if_neg (by decide)]
    exact ih (x + 1) (by omega) (by omega) (fun z h1 h2 => hn z (by omega) h2) k (by omega)
theorem spec_meet_rows {a b c a' b' c' W X Y : Int} (hl : latB a b c = true) (hm : latB a' b' c' = true) (hW : W ≤ 5000) (hY : Y ≤ 5000) (h : MeetAt a b c a' b' c' W X Y) : ∀ (n : Nat) (y : Int), 1 ≤ y → y + n = Y →
    ∀ k, n * (W.toNat + 2) + W.toNat + 2 ≤ k → spec_MeetLattices.l1 k W y a b c a' b' c' = some (if latB W X Y = true then (W, X, Y, 0) else (0, 0, 0, 3)) := by
  obtain ⟨⟨q1, q2, q3, q4⟩, p1, p2, p3, _⟩ := h
  intro n
  induction n with
  | zero =>
    intro y hy he k hk
    obtain ⟨k, rfl⟩ : ∃ m, k = m + 1 := ⟨k - 1, by omega⟩
    have hyY : y = Y := by omega
    subst hyY
    rw [spec_MeetLattices.l1]
    exact spec_meet_hit hl hm W y X (by omega) (by omega) q4 p1 X.toNat 0 (by omega) (by omega) p2 k (by omega)
  | succ n ih =>
    intro y hy he k hk
    obtain ⟨k, rfl⟩ : ∃ m, k = m + 1 := ⟨k - 1, by omega⟩
    rw [Nat.add_mul] at hk
    rw [spec_MeetLattices.l1]
    exact spec_meet_skip hl hm W y (by omega) (by omega) (n * (W.toNat + 2) + W.toNat + 2) _ W.toNat 0 (by omega) (by omega) (fun z _ _ => p3 z y hy (by omega)) (fun k hk => ih (y + 1) (by omega) (by omega) k hk) k (by omega)
theorem spec_meet_first {a b c a' b' c' W X Y : Int} (hl : latB a b c = true) (hm : latB a' b' c' = true) (hW : W ≤ 5000) (h : MeetAt a b c a' b' c' W X Y) (K : Nat) (R : Option (Int × Int × Int × Int)) (hc : ∀ k, K ≤ k → spec_MeetLattices.l1 k W 1 a b c a' b' c' = R) :
    ∀ (n : Nat) (x : Int), 1 ≤ x → x + n = W → ∀ k, K + n + 1 ≤ k → spec_MeetLattices.l0 k x a b c a' b' c' = R := by
  have h1 := latB_iff.mp hl
  have h2 := latB_iff.mp hm
  obtain ⟨⟨q1, q2, q3, q4⟩, p1, p2, p3, p4, p5⟩ := h
  intro n
  induction n with
  | zero =>
    intro x hx he k hk
    obtain ⟨k, rfl⟩ : ∃ m, k = m + 1 := ⟨k - 1, by omega⟩
    have hxW : x = W := by omega
    subst hxW
    rw [spec_MeetLattices.l0, spec_l03Has_eq h1.1 h1.2.1 (by omega) (by omega) (by omega), spec_l03Has_eq h2.1 h2.2.1 (by omega) (by omega) (by omega)]
    unfold bothB at p4
    rw [Bool.and_eq_true] at p4
    simp only [Option.bind_some, p4.1, p4.2, if_true]
    exact hc k (by omega)
  | succ n ih =>
    intro x hx he k hk
    obtain ⟨k, rfl⟩ : ∃ m, k = m + 1 := ⟨k - 1, by omega⟩
    rw [spec_MeetLattices.l0, spec_l03Has_eq h1.1 h1.2.1 (by omega) (by omega) (by omega), spec_l03Has_eq h2.1 h2.2.1 (by omega) (by omega) (by omega), wrap_id (x := x + 1) (by omega) (by omega)]
    have hq := p5 x hx (by omega)
    unfold bothB at hq
    have hn := ih (x + 1) (by omega) (by omega) k (by omega)
    simp only [Option.bind_some]
    cases h3 : hasB a b c x 0 <;> cases h4 : hasB a' b' c' x 0 <;> simp_all
theorem rows_bd' {W Y : Int} (h1 : 1 ≤ W) (h2 : 1 ≤ Y) (h : W * Y ≤ 4096) : W ≤ 4096 ∧ Y ≤ 4096 ∧ (Y - 1).toNat * (W.toNat + 2) + W.toNat + 2 ≤ 20000 := by
  have a1 := le_mul_r (a := W) (c := Y) (by omega) h2
  have a2 := le_mul_l (a := W) (c := Y) (by omega) h1
  refine ⟨by omega, by omega, ?_⟩
  have e1 : (((Y - 1).toNat * W.toNat : Nat) : Int) ≤ Y * W := by
    rw [Int.natCast_mul]
    exact Int.mul_le_mul (by omega) (by omega) (by omega) (by omega)
  rw [Int.mul_comm Y] at e1
  rw [Nat.mul_add]
  omega
theorem spec_MeetLattices_is {a b c a' b' c' W X Y : Int} (hl : latB a b c = true) (hm : latB a' b' c' = true) (h : MeetAt a b c a' b' c' W X Y) (hWY : W * Y ≤ 4096) (k : Nat) (hk : 30000 ≤ k) :
    spec_MeetLattices.f k a b c a' b' c' = some (if W * Y ≤ 64 then (W, X, Y, 0) else (0, 0, 0, 3)) := by
  have h1 := latB_iff.mp hl
  have h2 := latB_iff.mp hm
  obtain ⟨⟨q1, q2, q3, q4⟩, _⟩ := id h
  obtain ⟨b1, b2, b3⟩ := rows_bd' q1 q2 hWY
  obtain ⟨k, rfl⟩ : ∃ m, k = m + 1 := ⟨k - 1, by omega⟩
  unfold spec_MeetLattices.f
  rw [spec_IsLattice_eq a b c (by omega) (by omega), spec_IsLattice_eq a' b' c' (by omega) (by omega), hl, hm]
  simp only [Option.bind_some, if_true, Bool.not_true, spec_MeetLattices.j0, Bool.false_eq_true, if_false]
  rw [spec_meet_first hl hm (by omega) h 20000 _ (fun k hk => spec_meet_rows hl hm (by omega) (by omega) h (Y - 1).toNat 1 (by omega) (by omega) k (by omega)) (W - 1).toNat 1 (by omega) (by omega) k (by omega)]
  have a1 := le_mul_r (a := W) (c := Y) (by omega) q2
  have a2 := le_mul_l (a := W) (c := Y) (by omega) q1
  by_cases hg : W * Y ≤ 64
  · rw [if_pos hg, if_pos (latB_iff.mpr ⟨by omega, by omega, by omega, hg⟩)]
  · rw [if_neg hg, if_neg (fun q => hg (latB_iff.mp q).2.2.2)]
theorem spec_MeetLattices_not (k : Nat) {a b c a' b' c' : Int} (w : -9223372036854775808 ≤ a ∧ a < 9223372036854775808) (w' : -9223372036854775808 ≤ a' ∧ a' < 9223372036854775808) (h : ¬ (latB a b c = true ∧ latB a' b' c' = true)) :
    spec_MeetLattices.f (k + 1) a b c a' b' c' = some (0, 0, 0, 1) := by
  unfold spec_MeetLattices.f
  rw [spec_IsLattice_eq a b c w.1 w.2, spec_IsLattice_eq a' b' c' w'.1 w'.2]
  simp only [Option.bind_some, spec_MeetLattices.j0]
  cases h1 : latB a b c <;> cases h2 : latB a' b' c' <;> simp_all
theorem main (a0_0 : Int) (a0_1 : Int) (a0_2 : Int) (a1_0 : Int) (a1_1 : Int) (a1_2 : Int) (w0_0 : (Go.Lit.int .i64 a0_0).wf = true) (w0_1 : (Go.Lit.int .i64 a0_1).wf = true) (w0_2 : (Go.Lit.int .i64 a0_2).wf = true) (w1_0 : (Go.Lit.int .i64 a1_0).wf = true) (w1_1 : (Go.Lit.int .i64 a1_1).wf = true) (w1_2 : (Go.Lit.int .i64 a1_2).wf = true) : ∃ k, laws_FnExactMeetLattices.f k a0_0 a0_1 a0_2 a1_0 a1_1 a1_2 = some true := by
  refine ⟨20000000000000000 + 1, ?_⟩
  unfold laws_FnExactMeetLattices.f
  simp only [laws_toLattice.f, Option.bind_some]
  by_cases h : latB a0_0 a0_1 a0_2 = true ∧ latB a1_0 a1_1 a1_2 = true
  · obtain ⟨A, B, C, hh, _⟩ := impl_join_is h.1 h.2
    obtain ⟨W, X, Y, hM, hpr, hW, hWY⟩ := meet_at h.1 h.2 hh
    have hp : ∀ A' B' C', Herm (sp4 a0_0 a0_1 a0_2 a1_0 a1_1 a1_2) A' B' C' → W * Y * (A' * C') = (a0_0 * a0_2) * (a1_0 * a1_2) := fun A' B' C' h' => by
      obtain ⟨rfl, rfl, rfl⟩ := hh.unique h'; exact hpr
    rw [spec_MeetLattices_is h.1 h.2 hM hWY _ (by omega), impl_MeetLattices_is h.1 h.2 hM hW hWY hp _ (by omega)]; simp [laws_eqLattice.f]
  · rw [spec_MeetLattices_not _ (wf_bd w0_0) (wf_bd w1_0) h, impl_MeetLattices_not _ (wf_bd w0_0) (wf_bd w1_0) h]; simp [laws_eqLattice.f]
end Go.Proofs.Ytpkjgcafbkfbgab.PureFnExactMeetLattices

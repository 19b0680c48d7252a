/-
The law FnDivisors, over numbers and lists alone: the printed functions of the program and of the reference answer alike. No condition but that each number is an int64.
-/
import Derived.Test.YtjjbjaagfjljnaaF6
import GoSem.Claim
namespace Go.Proofs.Ytjjbjaagfjljnaa.PureFnDivisors
open Go.RowKit Go.Proofs.Ytjjbjaagfjljnaa.F Go.Proofs.YtjjbjaagfjljnaaW.PrintWords Go.Proofs.YtjjbjaagfjljnaaW.PrintLast Go.Proofs.YtjjbjaagfjljnaaW.PrintMore
set_option linter.unusedVariables false
set_option linter.unusedSimpArgs false
theorem gcd_tmod (a b : Int) : Int.gcd b (a.tmod b) = Int.gcd a b := by
  unfold Int.gcd
  rw [Int.natAbs_tmod, Nat.gcd_comm a.natAbs, Nat.gcd_rec b.natAbs a.natAbs, Nat.gcd_comm]
/-- (x, y) is a sum of multiples of (a, 0) and (b, c). -/
def L (a b c x y : Int) : Prop := ∃ m n : Int, x = m * a + n * b ∧ y = n * c
theorem tdiv_of_dvd {a b : Int} (h : b ∣ a) : a.tdiv b = a / b := Int.tdiv_eq_ediv_of_dvd h
def vecB (x y : Int) : Bool := decide (-1000 ≤ x ∧ x ≤ 1000 ∧ -1000 ≤ y ∧ y ≤ 1000)
def lim (x y : Int) : Int × Int × Int := if vecB x y = true then (x, y, 0) else (0, 0, 3)
theorem wrap_id {x : Int} (h1 : -9223372036854775808 ≤ x) (h2 : x < 9223372036854775808) : wrap64 x = x := by unfold wrap64; omega
theorem prod_bd {a b A B : Int} (ha : -A ≤ a) (ha' : a ≤ A) (hb : -B ≤ b) (hb' : b ≤ B) (hA : 0 ≤ A) : -(A * B) ≤ a * b ∧ a * b ≤ A * B := by
  have h1 : (a * b).natAbs ≤ A.natAbs * B.natAbs := by rw [Int.natAbs_mul]; exact Nat.mul_le_mul (by omega) (by omega)
  have h2 : (A * B).natAbs = A.natAbs * B.natAbs := Int.natAbs_mul A B
  have h3 : 0 ≤ A * B := Int.mul_nonneg hA (by omega)
  omega
theorem vecB_iff {x y : Int} : vecB x y = true ↔ (-1000 ≤ x ∧ x ≤ 1000) ∧ (-1000 ≤ y ∧ y ≤ 1000) := by unfold vecB; rw [decide_eq_true_iff]; omega
/-- Products of small numbers need no wrapping. -/
theorem wrap_mul {a b A B : Int} (ha : -A ≤ a) (ha' : a ≤ A) (hb : -B ≤ b) (hb' : b ≤ B) (hA : 0 ≤ A) (h : A * B < 9223372036854775808) : wrap64 (a * b) = a * b := by
  have := prod_bd ha ha' hb hb' hA; exact wrap_id (by omega) (by omega)
theorem mx_abs {a : Int} (h1 : -9223372036854775808 < a) (h2 : a < 9223372036854775808) : mx a (wrap64 (-a)) = (a.natAbs : Int) := by
  rw [wrap_id (by omega) (by omega)]; unfold mx; split <;> omega
def scaleR (x y n : Int) : Int × Int × Int := if vecB x y = true then (if -1000 ≤ n ∧ n ≤ 1000 then lim (n * x) (n * y) else (0, 0, 2)) else (0, 0, 1)
def divR (a b : Int) : Int × Int := if (-1000000 ≤ a ∧ a ≤ 1000000) ∧ (-1000000 ≤ b ∧ b ≤ 1000000) then ((Int.gcd a b : Int), 0) else (0, 2)
def primR (x y : Int) : Int × Int × Int × Int := if vecB x y = true then (if x = 0 ∧ y = 0 then (0, 0, 0, 5) else (x / Int.gcd x y, y / Int.gcd x y, (Int.gcd x y : Int), 0)) else (0, 0, 0, 1)
theorem u8_bd {a : Int} (h : (Go.Lit.int .u8 a).wf = true) : 0 ≤ a ∧ a < 256 := by
  simp only [Go.Lit.wf, Bool.and_eq_true, decide_eq_true_eq] at h
  obtain ⟨h1, h2⟩ := h
  have e1 : Go.IntKind.min .u8 = 0 := by decide
  have e2 : Go.IntKind.max .u8 = 255 := by decide
  omega
theorem spec_l01In_eq (a b c : Int) : spec_l01In.f a b c = some (decide (b ≤ a ∧ a ≤ c)) := by
  unfold spec_l01In.f; split <;> simp <;> omega
theorem impl_within_eq (a b c : Int) : impl_within.f a b c = some (decide (b ≤ a ∧ a ≤ c)) := by
  unfold impl_within.f; split <;> simp <;> omega
theorem spec_IsVec_eq (x y : Int) : spec_IsVec.f x y = some (vecB x y) := by
  unfold spec_IsVec.f vecB; simp only [spec_l01In_eq, Option.bind_some]; split <;> simp_all <;> omega
theorem impl_isCoordinate_eq (a : Int) : impl_isCoordinate.f a = some (decide (-1000 ≤ a ∧ a ≤ 1000)) := by
  unfold impl_isCoordinate.f; simp only [impl_within_eq, Option.bind_some]
theorem impl_IsVec_eq (x y : Int) : impl_IsVec.f x y = some (vecB x y) := by
  unfold impl_IsVec.f vecB; simp only [impl_isCoordinate_eq, Option.bind_some]; split <;> simp_all <;> omega
theorem impl_limited_eq (x y : Int) : impl_limited.f x y = some (lim x y) := by
  unfold impl_limited.f lim; simp only [impl_IsVec_eq, Option.bind_some]; split <;> rfl
theorem impl_ScaleVec_eq (x y n : Int) : impl_ScaleVec.f x y n = some (scaleR x y n) := by
  unfold impl_ScaleVec.f scaleR
  simp only [impl_IsVec_eq, Option.bind_some, impl_isCoordinate_eq, impl_Vec_times.f, impl_limited_eq, decide_eq_true_eq]
  split
  · split
    · rename_i h h'
      rw [vecB_iff] at h
      rw [wrap_mul (A := 1000) (B := 1000) (by omega) (by omega) (by omega) (by omega) (by omega) (by omega), wrap_mul (A := 1000) (B := 1000) (by omega) (by omega) (by omega) (by omega) (by omega) (by omega)]
    · rfl
  · rfl
theorem impl_gcd_eq : ∀ (k : Nat) (a b : Int), b.natAbs < k → a.natAbs < 9223372036854775808 → b.natAbs < 9223372036854775808 → impl_gcd.l0 k a b = some (Int.gcd a b : Int) := by
  intro k
  induction k with
  | zero => intro a b h; omega
  | succ k ih =>
    intro a b h ha hb
    unfold impl_gcd.l0
    by_cases h0 : b = 0
    · subst h0; rw [if_pos rfl, mx_abs (by omega) (by omega), Int.gcd_zero_right]
    · rw [if_neg h0]
      have h1 := Int.natAbs_tmod a b
      have h2 := Nat.mod_lt a.natAbs (show 0 < b.natAbs by omega)
      rw [ih b (a.tmod b) (by omega) (by omega) (by omega), gcd_tmod]
theorem spec_l01Divisor_eq : ∀ (k : Nat) (a b : Int), b.natAbs < k → a.natAbs < 9223372036854775808 → b.natAbs < 9223372036854775808 → spec_l01Divisor.f k a b = some (Int.gcd a b : Int) := by
  intro k
  induction k with
  | zero => intro a b h; omega
  | succ k ih =>
    intro a b h ha hb
    unfold spec_l01Divisor.f
    by_cases h0 : b = 0
    · subst h0; rw [if_pos rfl, mx_abs (by omega) (by omega), Int.gcd_zero_right]
    · rw [if_neg h0]
      have h1 := Int.natAbs_tmod a b
      have h2 := Nat.mod_lt a.natAbs (show 0 < b.natAbs by omega)
      rw [ih b (a.tmod b) (by omega) (by omega) (by omega), gcd_tmod]; rfl
theorem spec_PrimitiveVec_eq (k : Nat) (hk : 1001 ≤ k) (x y : Int) : spec_PrimitiveVec.f k x y = some (primR x y) := by
  unfold spec_PrimitiveVec.f primR
  simp only [spec_IsVec_eq, Option.bind_some]
  cases h : vecB x y with
  | false => simp
  | true =>
    rw [vecB_iff] at h
    have hg := Int.gcd_eq_zero_iff (a := x) (b := y)
    rw [spec_l01Divisor_eq k x y (by omega) (by omega) (by omega)]
    simp only [if_true, Option.bind_some]
    by_cases h0 : x = 0 ∧ y = 0
    · rw [if_pos (by omega), if_pos h0]
    · rw [if_neg (by omega), if_neg h0, tdiv_of_dvd (Int.gcd_dvd_left x y), tdiv_of_dvd (Int.gcd_dvd_right x y)]
      have b1 := Int.natAbs_ediv_le_natAbs x (Int.gcd x y)
      have b2 := Int.natAbs_ediv_le_natAbs y (Int.gcd x y)
      rw [wrap_id (by omega) (by omega), wrap_id (by omega) (by omega)]
theorem impl_PrimitiveVec_eq (k : Nat) (hk : 1001 ≤ k) (x y : Int) : impl_PrimitiveVec.f k x y = some (primR x y) := by
  unfold impl_PrimitiveVec.f primR
  simp only [impl_IsVec_eq, Option.bind_some]
  cases h : vecB x y with
  | false => simp
  | true =>
    rw [vecB_iff] at h
    have hg := Int.gcd_eq_zero_iff (a := x) (b := y)
    unfold impl_gcd.f
    rw [impl_gcd_eq k x y (by omega) (by omega) (by omega)]
    simp only [if_true, Option.bind_some]
    by_cases h0 : x = 0 ∧ y = 0
    · rw [if_pos (by omega), if_pos h0]
    · rw [if_neg (by omega), if_neg h0, tdiv_of_dvd (Int.gcd_dvd_left x y), tdiv_of_dvd (Int.gcd_dvd_right x y)]
      have b1 := Int.natAbs_ediv_le_natAbs x (Int.gcd x y)
      have b2 := Int.natAbs_ediv_le_natAbs y (Int.gcd x y)
      rw [wrap_id (by omega) (by omega), wrap_id (by omega) (by omega)]
theorem spec_DivisorOf_eq (k : Nat) (hk : 1000001 ≤ k) (a b : Int) : spec_DivisorOf.f k a b = some (divR a b) := by
  unfold spec_DivisorOf.f divR
  simp only [spec_l01In_eq, Option.bind_some, decide_eq_true_eq]
  by_cases h1 : -1000000 ≤ a ∧ a ≤ 1000000
  · by_cases h2 : -1000000 ≤ b ∧ b ≤ 1000000
    · rw [if_pos h1, if_pos h2, spec_l01Divisor_eq k a b (by omega) (by omega) (by omega), if_pos ⟨h1, h2⟩]; rfl
    · rw [if_pos h1, if_neg h2, if_neg (fun x => h2 x.2)]
  · rw [if_neg h1, if_neg (fun x => h1 x.1)]
theorem impl_DivisorOf_eq (k : Nat) (hk : 1000001 ≤ k) (a b : Int) : impl_DivisorOf.f k a b = some (divR a b) := by
  unfold impl_DivisorOf.f divR
  simp only [impl_within_eq, Option.bind_some, decide_eq_true_eq]
  by_cases h1 : -1000000 ≤ a ∧ a ≤ 1000000
  · by_cases h2 : -1000000 ≤ b ∧ b ≤ 1000000
    · unfold impl_gcd.f; rw [if_pos h1, if_pos h2, impl_gcd_eq k a b (by omega) (by omega) (by omega), if_pos ⟨h1, h2⟩]; rfl
    · rw [if_pos h1, if_neg h2, if_neg (fun x => h2 x.2)]
  · rw [if_neg h1, if_neg (fun x => h1 x.1)]
def St (l : List Int) (p s : Int) : Prop := (l.length : Int) ≤ 4096 ∧ (∀ x ∈ l, 0 ≤ x ∧ x < 256) ∧ 0 ≤ p ∧ p ≤ (l.length : Int) ∧ 0 ≤ s ∧ s < 2147483647
theorem rd_mem {l : List Int} {i : Int} (h0 : 0 ≤ i) (h1 : i < (l.length : Int)) : rd l i ∈ l := by
  unfold rd
  have h : i.toNat < l.length := by omega
  have e : l.getD i.toNat 0 = l[i.toNat] := by simp [List.getD, h]
  rw [e]
  exact List.getElem_mem h
theorem tm_bd {X n : Int} (hX : 0 ≤ X) (hn : 0 < n) : 0 ≤ Int.tmod X n ∧ Int.tmod X n < n := ⟨Int.tmod_nonneg n hX, Int.tmod_lt_of_pos X hn⟩
theorem next_eq {l : List Int} {p s : Int} (h : St l p s) (n : Int) : ∃ r p' s', spec_l01Next.f l p s n = some (r, p', s') ∧ St l p' s' ∧ 0 ≤ r ∧ (r < n ∨ r = 0) := by
  have h0 := h
  obtain ⟨hl, hb, hp0, hp1, hs0, hs1⟩ := h
  unfold spec_l01Next.f
  by_cases hn : n ≤ 1
  · rw [if_pos hn]; exact ⟨0, p, s, rfl, h0, by omega, .inr rfl⟩
  rw [if_neg hn]
  rw [wrap_id (x := s * 48271) (by omega) (by omega), wrap_id (x := s * 48271 + 67) (by omega) (by omega)]
  obtain ⟨a1, a2⟩ := tm_bd (X := s * 48271 + 67) (n := 2147483647) (by omega) (by decide)
  generalize Int.tmod (s * 48271 + 67) 2147483647 = S at a1 a2
  have q0 : 0 ≤ Int.tdiv S 37 ∧ Int.tdiv S 37 ≤ S := by rw [Int.tdiv_eq_ediv_of_nonneg a1]; omega
  have q1 : wrap64 (Int.tdiv S 37) = Int.tdiv S 37 := wrap_id (by omega) (by omega)
  by_cases hp : p < (l.length : Int)
  · rw [if_pos hp, if_pos hp0]
    have m := hb _ (rd_mem hp0 hp)
    rw [wrap_id (x := p + 1) (by omega) (by omega), wrap_id (x := p + 1 - 1) (by omega) (by omega), Int.add_sub_cancel]
    have w1 : wrap64 (rd l p) = rd l p := wrap_id (by omega) (by omega)
    rw [q1, w1, wrap_id (x := Int.tdiv S 37 + rd l p) (by omega) (by omega), if_neg (show ¬ n = 0 by omega), if_neg (show ¬ n = 0 by omega)]
    have t1 := tm_bd (X := rd l p) (n := n) m.1 (by omega)
    have t2 := tm_bd (X := Int.tdiv S 37 + rd l p) (n := n) (by omega) (by omega)
    have st : St l (p + 1) S := ⟨hl, hb, by omega, by omega, a1, a2⟩
    split
    · split
      · exact ⟨_, _, _, rfl, st, t1.1, .inl t1.2⟩
      · exact ⟨_, _, _, rfl, st, t2.1, .inl t2.2⟩
    · exact ⟨_, _, _, rfl, st, t2.1, .inl t2.2⟩
  · rw [if_neg hp, if_neg (show ¬ n = 0 by omega), q1]
    have t1 := tm_bd (X := Int.tdiv S 37) (n := n) (by omega) (by omega)
    exact ⟨_, _, _, rfl, ⟨hl, hb, hp0, hp1, a1, a2⟩, t1.1, .inl t1.2⟩
theorem from_loop {l : List Int} (hl : (l.length : Int) ≤ 4096) (hb : ∀ x ∈ l, 0 ≤ x ∧ x < 256) (p : Int) : ∀ (k : Nat) (i s : Int), 0 ≤ i → i ≤ 64 → 64 - i < (k : Int) → 0 ≤ s → s < 2147483647 →
    ∃ s', spec_l01From.l0 k l i l p s = some (l, p, s') ∧ 0 ≤ s' ∧ s' < 2147483647
  | 0, i, s, h0, h1, h2, _, _ => by omega
  | k + 1, i, s, h0, h1, h2, h3, h4 => by
    unfold spec_l01From.l0
    by_cases hi : i < (l.length : Int)
    · rw [if_pos hi]
      by_cases h6 : i < 64
      · rw [if_pos h6, if_pos h0]
        have m := hb _ (rd_mem h0 hi)
        rw [wrap_id (x := i + 1) (by omega) (by omega), wrap_id (x := rd l i) (by omega) (by omega), wrap_id (x := s * 73) (by omega) (by omega), wrap_id (x := s * 73 + rd l i) (by omega) (by omega)]
        have t := tm_bd (X := s * 73 + rd l i) (n := 2147483647) (by omega) (by decide)
        exact from_loop hl hb p k (i + 1) _ (by omega) (by omega) (by omega) t.1 t.2
      · rw [if_neg h6]; exact ⟨s, rfl, h3, h4⟩
    · rw [if_neg hi]; exact ⟨s, rfl, h3, h4⟩
theorem from_eq {l : List Int} (hl : (l.length : Int) ≤ 4096) (hb : ∀ x ∈ l, 0 ≤ x ∧ x < 256) (k : Nat) (hk : 65 ≤ k) : ∃ p s, spec_l01From.f k l = some (l, p, s) ∧ St l p s := by
  obtain ⟨s, e, h1, h2⟩ := from_loop hl hb 0 k 0 93001 (by omega) (by omega) (by omega) (by omega) (by omega)
  exact ⟨0, s, e, hl, hb, by omega, by omega, h1, h2⟩
theorem pick_eq {l : List Int} {p s : Int} (h : St l p s) (L : List Int) (hL : 0 < L.length) : ∃ v p' s', spec_l01Pick.f l p s L = some (v, p', s') ∧ St l p' s' ∧ v ∈ L := by
  unfold spec_l01Pick.f
  obtain ⟨r, p', s', e, hs, b1, b2⟩ := next_eq h (L.length : Int)
  rw [e]
  simp only [Option.bind_some]
  have hr : r < (L.length : Int) := by rcases b2 with b | b <;> omega
  rw [if_pos b1, if_pos hr]
  exact ⟨_, _, _, rfl, hs, rd_mem b1 hr⟩
theorem draw_eq {l : List Int} {p s : Int} (h : St l p s) : ∃ x y p' s', spec_l01Draw.f l p s = some (x, y, p', s') ∧ St l p' s' ∧ (-1001 ≤ x ∧ x ≤ 1001) ∧ (-1001 ≤ y ∧ y ≤ 1001) := by
  unfold spec_l01Draw.f
  obtain ⟨r, p1, s1, e1, h1, b1, b2⟩ := next_eq h 40
  rw [e1]
  simp only [Option.bind_some]
  split
  · obtain ⟨v, p2, s2, e2, h2, m2⟩ := pick_eq h1 [-1000, 1000, 1001, 0] (by decide)
    rw [e2]
    simp only [Option.bind_some]
    obtain ⟨v', p3, s3, e3, h3, m3⟩ := pick_eq h2 [-1001, 1000, 0] (by decide)
    rw [e3]
    simp only [Option.bind_some]
    simp only [List.mem_cons, List.not_mem_nil, or_false] at m2 m3
    exact ⟨_, _, _, _, rfl, h3, by omega, by omega⟩
  · obtain ⟨v, p2, s2, e2, h2, m2⟩ := pick_eq h1 [4, 9, 30] (by decide)
    rw [e2]
    simp only [Option.bind_some]
    simp only [List.mem_cons, List.not_mem_nil, or_false] at m2
    rw [wrap_id (x := 2 * v) (by omega) (by omega), wrap_id (x := 2 * v + 1) (by omega) (by omega)]
    obtain ⟨r3, p3, s3, e3, h3, b3, c3⟩ := next_eq h2 (2 * v + 1)
    rw [e3]
    simp only [Option.bind_some]
    obtain ⟨r4, p4, s4, e4, h4, b4, c4⟩ := next_eq h3 (2 * v + 1)
    rw [e4]
    simp only [Option.bind_some]
    rw [wrap_id (x := r3 - v) (by omega) (by omega), wrap_id (x := r4 - v) (by omega) (by omega)]
    exact ⟨_, _, _, _, rfl, h4, by omega, by omega⟩
theorem drawPrim_eq {l : List Int} (hl : (l.length : Int) ≤ 4096) (hb : ∀ x ∈ l, 0 ≤ x ∧ x < 256) (k : Nat) (hk : 65 ≤ k) : ∃ x y, spec_DrawPrimitiveVec.f k l = some (x, y) := by
  unfold spec_DrawPrimitiveVec.f
  obtain ⟨p, s, e, h⟩ := from_eq hl hb k hk
  rw [e]
  simp only [Option.bind_some]
  obtain ⟨r, p1, s1, e1, h1, b1, b2⟩ := next_eq h 8
  rw [e1]
  simp only [Option.bind_some]
  split
  · exact ⟨_, _, rfl⟩
  · obtain ⟨x, y, p2, s2, e2, h2, _⟩ := draw_eq h1
    rw [e2]
    exact ⟨_, _, rfl⟩
theorem drawDiv_eq {l : List Int} (hl : (l.length : Int) ≤ 4096) (hb : ∀ x ∈ l, 0 ≤ x ∧ x < 256) (k : Nat) (hk : 65 ≤ k) : ∃ x y, spec_DrawDivisorOf.f k l = some (x, y) := by
  unfold spec_DrawDivisorOf.f
  obtain ⟨p, s, e, h⟩ := from_eq hl hb k hk
  rw [e]
  simp only [Option.bind_some]
  obtain ⟨r, p1, s1, e1, h1, b1, b2⟩ := next_eq h 12
  rw [e1]
  simp only [Option.bind_some]
  split
  · obtain ⟨v, p2, s2, e2, h2, m2⟩ := pick_eq h1 [-1000000, 1000000, 1000001, 0] (by decide)
    rw [e2]
    simp only [Option.bind_some]
    obtain ⟨v', p3, s3, e3, h3, m3⟩ := pick_eq h2 [0, -1000001, 999999] (by decide)
    rw [e3]
    exact ⟨_, _, rfl⟩
  · obtain ⟨r2, p2, s2, e2, h2, _⟩ := next_eq h1 12
    rw [e2]
    simp only [Option.bind_some]
    obtain ⟨r3, p3, s3, e3, h3, _⟩ := next_eq h2 60
    rw [e3]
    simp only [Option.bind_some]
    obtain ⟨r4, p4, s4, e4, h4, _⟩ := next_eq h3 60
    rw [e4]
    exact ⟨_, _, rfl⟩
theorem prim_back {x y : Int} (hv : vecB x y = true) (h : ¬ (x = 0 ∧ y = 0)) : scaleR (x / Int.gcd x y) (y / Int.gcd x y) (Int.gcd x y) = (x, y, 0) ∧ (Int.gcd (x / Int.gcd x y) (y / Int.gcd x y) : Int) = 1 ∧ vecB (x / Int.gcd x y) (y / Int.gcd x y) = true := by
  have hg : 0 < Int.gcd x y := Nat.pos_of_ne_zero fun e => h (Int.gcd_eq_zero_iff.mp e)
  have d1 : (Int.gcd x y : Int) * (x / Int.gcd x y) = x := Int.mul_ediv_cancel' (Int.gcd_dvd_left _ _)
  have d2 : (Int.gcd x y : Int) * (y / Int.gcd x y) = y := Int.mul_ediv_cancel' (Int.gcd_dvd_right _ _)
  have hv' := hv
  unfold vecB at hv'
  simp only [decide_eq_true_eq] at hv'
  have hgb : Int.gcd x y ≤ 1000 := by
    by_cases hx : x = 0
    · have hy : y ≠ 0 := fun e => h ⟨hx, e⟩
      have := Nat.le_of_dvd (Int.natAbs_pos.mpr hy) (Int.gcd_dvd_natAbs_right x y)
      omega
    · have := Nat.le_of_dvd (Int.natAbs_pos.mpr hx) (Int.gcd_dvd_natAbs_left x y)
      omega
  have n1 : (x / Int.gcd x y).natAbs ≤ x.natAbs := by
    have e : x.natAbs = Int.gcd x y * (x / Int.gcd x y).natAbs := by conv => lhs; rw [← d1]
                                                                     rw [Int.natAbs_mul, Int.natAbs_natCast]
    rw [e]; exact Nat.le_mul_of_pos_left _ hg
  have n2 : (y / Int.gcd x y).natAbs ≤ y.natAbs := by
    have e : y.natAbs = Int.gcd x y * (y / Int.gcd x y).natAbs := by conv => lhs; rw [← d2]
                                                                     rw [Int.natAbs_mul, Int.natAbs_natCast]
    rw [e]; exact Nat.le_mul_of_pos_left _ hg
  have hv2 : vecB (x / Int.gcd x y) (y / Int.gcd x y) = true := by
    unfold vecB
    simp only [decide_eq_true_eq]
    omega
  refine ⟨?_, ?_, hv2⟩
  · unfold scaleR lim
    rw [if_pos hv2, if_pos (by omega), d1, d2, if_pos hv]
  · have := Int.gcd_ediv_gcd_ediv_gcd (i := x) (j := y) hg
    omega
theorem big_eq (l : List Int) : laws_big.f l = some (decide ((l.length : Int) > 4096)) := rfl
theorem main (l0 : List Int) (hm0 : l0.length ≤ maxLen) (y0 : l0.length * 1 ≤ 140737488351232) (w0 : ∀ x ∈ l0, (Go.Lit.int .u8 x).wf = true) : ∃ k, laws_FnDivisors.f k l0 = some true := by
  have hb : ∀ x ∈ l0, 0 ≤ x ∧ x < 256 := fun x hx => u8_bd (w0 x hx)
  by_cases hl : (l0.length : Int) ≤ 4096
  · obtain ⟨x, y, e1⟩ := drawPrim_eq hl hb (1000001 + 2) (by decide)
    obtain ⟨a, b, e2⟩ := drawDiv_eq hl hb (1000001 + 2) (by decide)
    refine ⟨1000001 + 2, ?_⟩
    unfold laws_FnDivisors.f
    rw [big_eq, e1, e2, decide_eq_false (by omega)]
    simp only [Option.bind_some, spec_PrimitiveVec_eq (1000001 + 2) (by decide), impl_PrimitiveVec_eq (1000001 + 2) (by decide), spec_DivisorOf_eq (1000001 + 2) (by decide), impl_DivisorOf_eq (1000001 + 2) (by decide)]
    simp only [Bool.false_eq_true, if_false, beq_self_eq_true, Bool.not_true, Bool.or_self, if_true, bne_self_eq_false]
    rw [laws_FnDivisors.j0]
    simp only [Bool.false_eq_true, if_false]
    have fin : laws_FnDivisors.j1 (1000001 + 1) (primR x y).2.2.1 (primR x y).2.2.2 false x y (primR x y).1 (primR x y).2.1 = some true := by
      rw [laws_FnDivisors.j1]
      simp only [Bool.false_eq_true, if_false]
      unfold primR
      by_cases hv : vecB x y = true
      · simp only [hv, if_true]
        by_cases h0 : x = 0 ∧ y = 0
        · simp [h0]
        · obtain ⟨f1, f2, f3⟩ := prim_back hv h0
          simp only [h0, if_false, if_true]
          have hv3 := f3
          unfold vecB at hv3
          simp only [decide_eq_true_eq] at hv3
          rw [impl_ScaleVec_eq, f1, impl_DivisorOf_eq _ (by decide)]
          simp only [Option.bind_some, if_true, beq_self_eq_true, Bool.and_self]
          have e3 : divR (x / (Int.gcd x y : Int)) (y / (Int.gcd x y : Int)) = (1, 0) := by unfold divR; rw [if_pos (by omega), f2]
          rw [e3]
          simp
      · simp [hv]
    have hd : ∀ g h, divR a b = (g, h) → h = 0 → g > 0 → Int.tmod a g = 0 ∧ Int.tmod b g = 0 := by
      intro g h e h0 hg
      unfold divR at e
      split at e
      · simp only [Prod.mk.injEq] at e
        obtain ⟨rfl, _⟩ := e
        exact ⟨Int.tmod_eq_zero_of_dvd (Int.gcd_dvd_left _ _), Int.tmod_eq_zero_of_dvd (Int.gcd_dvd_right _ _)⟩
      · simp only [Prod.mk.injEq] at e; omega
    generalize hR : divR a b = R
    obtain ⟨g, h⟩ := R
    simp only
    split
    · rename_i h0
      split
      · rename_i hg
        obtain ⟨m1, m2⟩ := hd g h hR h0 hg
        rw [if_neg (by omega), if_pos m1, m2]
        exact fin
      · exact fin
    · exact fin
  · refine ⟨1, ?_⟩
    unfold laws_FnDivisors.f
    rw [big_eq, decide_eq_true (by omega)]
    rfl
end Go.Proofs.Ytjjbjaagfjljnaa.PureFnDivisors

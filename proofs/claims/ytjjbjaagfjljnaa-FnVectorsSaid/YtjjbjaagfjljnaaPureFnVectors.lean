/-
The law FnVectors, over numbers and lists alone: the printed functions of the program and of the reference answer alike. No condition but that each number is an int64.
-/
import Derived.Test.YtjjbjaagfjljnaaF13
import GoSem.Claim
namespace Go.Proofs.Ytjjbjaagfjljnaa.PureFnVectors
open Go.RowKit Go.Proofs.Ytjjbjaagfjljnaa.F Go.Proofs.YtjjbjaagfjljnaaW.PrintWords Go.Proofs.YtjjbjaagfjljnaaW.PrintLast Go.Proofs.YtjjbjaagfjljnaaW.PrintMore
set_option linter.unusedVariables false
set_option linter.unusedSimpArgs false
/-- (x, y) is a sum of multiples of (a, 0) and (b, c). -/
def L (a b c x y : Int) : Prop := ∃ m n : Int, x = m * a + n * b ∧ y = n * c
def vecB (x y : Int) : Bool := decide (-1000 ≤ x ∧ x ≤ 1000 ∧ -1000 ≤ y ∧ y ≤ 1000)
def smallB (a b c d : Int) : Bool := decide ((-1000 ≤ a ∧ a ≤ 1000 ∧ -1000 ≤ b ∧ b ≤ 1000) ∧ -1000 ≤ c ∧ c ≤ 1000 ∧ -1000 ≤ d ∧ d ≤ 1000)
def lim (x y : Int) : Int × Int × Int := if vecB x y = true then (x, y, 0) else (0, 0, 3)
theorem wrap_id {x : Int} (h1 : -9223372036854775808 ≤ x) (h2 : x < 9223372036854775808) : wrap64 x = x := by unfold wrap64; omega
theorem prod_bd {a b A B : Int} (ha : -A ≤ a) (ha' : a ≤ A) (hb : -B ≤ b) (hb' : b ≤ B) (hA : 0 ≤ A) : -(A * B) ≤ a * b ∧ a * b ≤ A * B := by
  have h1 : (a * b).natAbs ≤ A.natAbs * B.natAbs := by rw [Int.natAbs_mul]; exact Nat.mul_le_mul (by omega) (by omega)
  have h2 : (A * B).natAbs = A.natAbs * B.natAbs := Int.natAbs_mul A B
  have h3 : 0 ≤ A * B := Int.mul_nonneg hA (by omega)
  omega
theorem vecB_iff {x y : Int} : vecB x y = true ↔ (-1000 ≤ x ∧ x ≤ 1000) ∧ (-1000 ≤ y ∧ y ≤ 1000) := by unfold vecB; rw [decide_eq_true_iff]; omega
theorem smallB_iff {a b c d : Int} : smallB a b c d = true ↔ ((-1000 ≤ a ∧ a ≤ 1000) ∧ (-1000 ≤ b ∧ b ≤ 1000)) ∧ (-1000 ≤ c ∧ c ≤ 1000) ∧ (-1000 ≤ d ∧ d ≤ 1000) := by unfold smallB; rw [decide_eq_true_iff]; omega
/-- Products of small numbers need no wrapping. -/
theorem wrap_mul {a b A B : Int} (ha : -A ≤ a) (ha' : a ≤ A) (hb : -B ≤ b) (hb' : b ≤ B) (hA : 0 ≤ A) (h : A * B < 9223372036854775808) : wrap64 (a * b) = a * b := by
  have := prod_bd ha ha' hb hb' hA; exact wrap_id (by omega) (by omega)
theorem det_wrap {a b c d : Int} (h : smallB a b c d = true) : wrap64 (wrap64 (a * d) - wrap64 (b * c)) = a * d - b * c ∧ (-2000000 ≤ a * d - b * c ∧ a * d - b * c ≤ 2000000) := by
  rw [smallB_iff] at h
  have h1 := prod_bd (A := 1000) (B := 1000) h.1.1.1 h.1.1.2 h.2.2.1 h.2.2.2 (by omega)
  have h2 := prod_bd (A := 1000) (B := 1000) h.1.2.1 h.1.2.2 h.2.1.1 h.2.1.2 (by omega)
  rw [wrap_id (x := a * d) (by omega) (by omega), wrap_id (x := b * c) (by omega) (by omega), wrap_id (by omega) (by omega)]
  omega
def addR (ux uy vx vy : Int) : Int × Int × Int := if vecB ux uy = true ∧ vecB vx vy = true then lim (ux + vx) (uy + vy) else (0, 0, 1)
def scaleR (x y n : Int) : Int × Int × Int := if vecB x y = true then (if -1000 ≤ n ∧ n ≤ 1000 then lim (n * x) (n * y) else (0, 0, 2)) else (0, 0, 1)
def detR (ux uy vx vy : Int) : Int × Int := if vecB ux uy = true ∧ vecB vx vy = true then (ux * vy - uy * vx, 0) else (0, 1)
def cmpv (ux uy vx vy : Int) : Int := if ux < vx ∨ (ux = vx ∧ uy < vy) then -1 else if ux = vx ∧ uy = vy then 0 else 1
def cmpR (ux uy vx vy : Int) : Int × Int := if vecB ux uy = true ∧ vecB vx vy = true then (cmpv ux uy vx vy, 0) else (0, 1)
theorem u8_bd {a : Int} (h : (Go.Lit.int .u8 a).wf = true) : 0 ≤ a ∧ a < 256 := by
  simp only [Go.Lit.wf, Bool.and_eq_true, decide_eq_true_eq] at h
  obtain ⟨h1, h2⟩ := h
  have e1 : Go.IntKind.min .u8 = 0 := by decide
  have e2 : Go.IntKind.max .u8 = 255 := by decide
  omega
theorem spec_l01In_eq (a b c : Int) : spec_l01In.f a b c = some (decide (b ≤ a ∧ a ≤ c)) := by
  unfold spec_l01In.f; split <;> simp <;> omega
theorem impl_within_eq (a b c : Int) : impl_within.f a b c = some (decide (b ≤ a ∧ a ≤ c)) := by
  unfold impl_within.f; split <;> simp <;> omega
theorem spec_IsVec_eq (x y : Int) : spec_IsVec.f x y = some (vecB x y) := by
  unfold spec_IsVec.f vecB; simp only [spec_l01In_eq, Option.bind_some]; split <;> simp_all <;> omega
theorem impl_isCoordinate_eq (a : Int) : impl_isCoordinate.f a = some (decide (-1000 ≤ a ∧ a ≤ 1000)) := by
  unfold impl_isCoordinate.f; simp only [impl_within_eq, Option.bind_some]
theorem impl_IsVec_eq (x y : Int) : impl_IsVec.f x y = some (vecB x y) := by
  unfold impl_IsVec.f vecB; simp only [impl_isCoordinate_eq, Option.bind_some]; split <;> simp_all <;> omega
theorem spec_l01Result_eq (x y : Int) : spec_l01Result.f x y = some (lim x y) := by
  unfold spec_l01Result.f lim; simp only [spec_IsVec_eq, Option.bind_some]; split <;> rfl
theorem impl_limited_eq (x y : Int) : impl_limited.f x y = some (lim x y) := by
  unfold impl_limited.f lim; simp only [impl_IsVec_eq, Option.bind_some]; split <;> rfl
theorem spec_AddVecs_eq (k : Nat) (ux uy vx vy : Int) : spec_AddVecs.f (k + 1) ux uy vx vy = some (addR ux uy vx vy) := by
  unfold spec_AddVecs.f addR
  simp only [spec_IsVec_eq, Option.bind_some, spec_AddVecs.j0, spec_l01Add.f, spec_l01Result_eq]
  cases h : vecB ux uy <;> cases h' : vecB vx vy <;> simp
  rw [vecB_iff] at h h'
  rw [wrap_id (by omega) (by omega), wrap_id (by omega) (by omega)]
theorem impl_AddVecs_eq (k : Nat) (ux uy vx vy : Int) : impl_AddVecs.f (k + 1) ux uy vx vy = some (addR ux uy vx vy) := by
  unfold impl_AddVecs.f addR
  simp only [impl_IsVec_eq, Option.bind_some, impl_AddVecs.j0, impl_Vec_add.f, impl_limited_eq]
  cases h : vecB ux uy <;> cases h' : vecB vx vy <;> simp
  rw [vecB_iff] at h h'
  rw [wrap_id (by omega) (by omega), wrap_id (by omega) (by omega)]
theorem spec_ScaleVec_eq (x y n : Int) : spec_ScaleVec.f x y n = some (scaleR x y n) := by
  unfold spec_ScaleVec.f scaleR
  simp only [spec_IsVec_eq, Option.bind_some, spec_l01In_eq, spec_l01Scale.f, spec_l01Result_eq, decide_eq_true_eq]
  split
  · split
    · rename_i h h'
      rw [vecB_iff] at h
      rw [wrap_mul (A := 1000) (B := 1000) (by omega) (by omega) (by omega) (by omega) (by omega) (by omega), wrap_mul (A := 1000) (B := 1000) (by omega) (by omega) (by omega) (by omega) (by omega) (by omega)]
    · rfl
  · rfl
theorem impl_ScaleVec_eq (x y n : Int) : impl_ScaleVec.f x y n = some (scaleR x y n) := by
  unfold impl_ScaleVec.f scaleR
  simp only [impl_IsVec_eq, Option.bind_some, impl_isCoordinate_eq, impl_Vec_times.f, impl_limited_eq, decide_eq_true_eq]
  split
  · split
    · rename_i h h'
      rw [vecB_iff] at h
      rw [wrap_mul (A := 1000) (B := 1000) (by omega) (by omega) (by omega) (by omega) (by omega) (by omega), wrap_mul (A := 1000) (B := 1000) (by omega) (by omega) (by omega) (by omega) (by omega) (by omega)]
    · rfl
  · rfl
theorem spec_l01Less_eq (ux uy vx vy : Int) : spec_l01Less.f ux uy vx vy = some (decide (ux < vx ∨ (ux = vx ∧ uy < vy))) := by
  unfold spec_l01Less.f
  by_cases h1 : ux < vx
  · rw [if_pos h1, decide_eq_true (Or.inl h1)]
  · rw [if_neg h1]
    by_cases h2 : ux = vx
    · rw [if_pos h2]; congr 1; exact decide_eq_decide.mpr (by omega)
    · rw [if_neg h2, decide_eq_false (by omega)]
theorem spec_CompareVecs_eq (k : Nat) (ux uy vx vy : Int) : spec_CompareVecs.f (k + 1) ux uy vx vy = some (cmpR ux uy vx vy) := by
  unfold spec_CompareVecs.f cmpR cmpv
  simp only [spec_IsVec_eq, Option.bind_some, spec_CompareVecs.j0, spec_l01Less_eq]
  cases h : vecB ux uy <;> cases h' : vecB vx vy <;> simp
  split
  · rfl
  · split
    · rw [if_neg (by omega)]
    · rw [if_pos (by omega)]
theorem impl_compareVecs_eq (k : Nat) (ux uy vx vy : Int) : impl_compareVecs.f (k + 3) ux uy vx vy = some (cmpv ux uy vx vy) := by
  unfold impl_compareVecs.f impl_compareNumbers.f cmpv
  simp only [impl_compareNumbers.l0, List.length_cons, List.length_nil]
  simp [rd, wrap64]
  by_cases h1 : ux = vx
  · subst h1
    by_cases h2 : uy = vy
    · subst h2; simp
    · rw [if_neg h2]
      by_cases h3 : uy < vy <;> simp [h2, h3]
  · by_cases h2 : ux < vx <;> simp [h1, h2]
theorem impl_CompareVecs_eq (k : Nat) (ux uy vx vy : Int) : impl_CompareVecs.f (k + 3) ux uy vx vy = some (cmpR ux uy vx vy) := by
  unfold impl_CompareVecs.f cmpR
  simp only [impl_IsVec_eq, Option.bind_some, impl_compareVecs_eq]
  cases h : vecB ux uy <;> cases h' : vecB vx vy <;> simp
theorem spec_DetOf_eq (ux uy vx vy : Int) : spec_DetOf.f ux uy vx vy = some (detR ux uy vx vy) := by
  unfold spec_DetOf.f detR spec_l01Det.f
  simp only [spec_IsVec_eq, Option.bind_some]
  cases h : vecB ux uy with
  | false => simp
  | true =>
    cases h' : vecB vx vy with
    | false => simp
    | true =>
      rw [vecB_iff] at h h'
      have := (det_wrap (a := ux) (b := uy) (c := vx) (d := vy) (by rw [smallB_iff]; omega)).1
      simp [this]
theorem impl_DetOf_eq (ux uy vx vy : Int) : impl_DetOf.f ux uy vx vy = some (detR ux uy vx vy) := by
  unfold impl_DetOf.f detR impl_det.f
  simp only [impl_IsVec_eq, Option.bind_some]
  cases h : vecB ux uy with
  | false => simp
  | true =>
    cases h' : vecB vx vy with
    | false => simp
    | true =>
      rw [vecB_iff] at h h'
      have := (det_wrap (a := ux) (b := uy) (c := vx) (d := vy) (by rw [smallB_iff]; omega)).1
      simp [this]
def St (l : List Int) (p s : Int) : Prop := (l.length : Int) ≤ 4096 ∧ (∀ x ∈ l, 0 ≤ x ∧ x < 256) ∧ 0 ≤ p ∧ p ≤ (l.length : Int) ∧ 0 ≤ s ∧ s < 2147483647
theorem rd_mem {l : List Int} {i : Int} (h0 : 0 ≤ i) (h1 : i < (l.length : Int)) : rd l i ∈ l := by
  unfold rd
  have h : i.toNat < l.length := by omega
  have e : l.getD i.toNat 0 = l[i.toNat] := by simp [List.getD, h]
  rw [e]
  exact List.getElem_mem h
theorem tm_bd {X n : Int} (hX : 0 ≤ X) (hn : 0 < n) : 0 ≤ Int.tmod X n ∧ Int.tmod X n < n := ⟨Int.tmod_nonneg n hX, Int.tmod_lt_of_pos X hn⟩
theorem next_eq {l : List Int} {p s : Int} (h : St l p s) (n : Int) : ∃ r p' s', spec_l01Next.f l p s n = some (r, p', s') ∧ St l p' s' ∧ 0 ≤ r ∧ (r < n ∨ r = 0) := by
  have h0 := h
  obtain ⟨hl, hb, hp0, hp1, hs0, hs1⟩ := h
  unfold spec_l01Next.f
  by_cases hn : n ≤ 1
  · rw [if_pos hn]; exact ⟨0, p, s, rfl, h0, by omega, .inr rfl⟩
  rw [if_neg hn]
  rw [wrap_id (x := s * 48271) (by omega) (by omega), wrap_id (x := s * 48271 + 67) (by omega) (by omega)]
  obtain ⟨a1, a2⟩ := tm_bd (X := s * 48271 + 67) (n := 2147483647) (by omega) (by decide)
  generalize Int.tmod (s * 48271 + 67) 2147483647 = S at a1 a2
  have q0 : 0 ≤ Int.tdiv S 37 ∧ Int.tdiv S 37 ≤ S := by rw [Int.tdiv_eq_ediv_of_nonneg a1]; omega
  have q1 : wrap64 (Int.tdiv S 37) = Int.tdiv S 37 := wrap_id (by omega) (by omega)
  by_cases hp : p < (l.length : Int)
  · rw [if_pos hp, if_pos hp0]
    have m := hb _ (rd_mem hp0 hp)
    rw [wrap_id (x := p + 1) (by omega) (by omega), wrap_id (x := p + 1 - 1) (by omega) (by omega), Int.add_sub_cancel]
    have w1 : wrap64 (rd l p) = rd l p := wrap_id (by omega) (by omega)
    rw [q1, w1, wrap_id (x := Int.tdiv S 37 + rd l p) (by omega) (by omega), if_neg (show ¬ n = 0 by omega), if_neg (show ¬ n = 0 by omega)]
    have t1 := tm_bd (X := rd l p) (n := n) m.1 (by omega)
    have t2 := tm_bd (X := Int.tdiv S 37 + rd l p) (n := n) (by omega) (by omega)
    have st : St l (p + 1) S := ⟨hl, hb, by omega, by omega, a1, a2⟩
    split
    · split
      · exact ⟨_, _, _, rfl, st, t1.1, .inl t1.2⟩
      · exact ⟨_, _, _, rfl, st, t2.1, .inl t2.2⟩
    · exact ⟨_, _, _, rfl, st, t2.1, .inl t2.2⟩
  · rw [if_neg hp, if_neg (show ¬ n = 0 by omega), q1]
    have t1 := tm_bd (X := Int.tdiv S 37) (n := n) (by omega) (by omega)
    exact ⟨_, _, _, rfl, ⟨hl, hb, hp0, hp1, a1, a2⟩, t1.1, .inl t1.2⟩
theorem from_loop {l : List Int} (hl : (l.length : Int) ≤ 4096) (hb : ∀ x ∈ l, 0 ≤ x ∧ x < 256) (p : Int) : ∀ (k : Nat) (i s : Int), 0 ≤ i → i ≤ 64 → 64 - i < (k : Int) → 0 ≤ s → s < 2147483647 →
    ∃ s', spec_l01From.l0 k l i l p s = some (l, p, s') ∧ 0 ≤ s' ∧ s' < 2147483647
  | 0, i, s, h0, h1, h2, _, _ => by omega
  | k + 1, i, s, h0, h1, h2, h3, h4 => by
    unfold spec_l01From.l0
    by_cases hi : i < (l.length : Int)
    · rw [if_pos hi]
      by_cases h6 : i < 64
      · rw [if_pos h6, if_pos h0]
        have m := hb _ (rd_mem h0 hi)
        rw [wrap_id (x := i + 1) (by omega) (by omega), wrap_id (x := rd l i) (by omega) (by omega), wrap_id (x := s * 73) (by omega) (by omega), wrap_id (x := s * 73 + rd l i) (by omega) (by omega)]
        have t := tm_bd (X := s * 73 + rd l i) (n := 2147483647) (by omega) (by decide)
        exact from_loop hl hb p k (i + 1) _ (by omega) (by omega) (by omega) t.1 t.2
      · rw [if_neg h6]; exact ⟨s, rfl, h3, h4⟩
    · rw [if_neg hi]; exact ⟨s, rfl, h3, h4⟩
theorem from_eq {l : List Int} (hl : (l.length : Int) ≤ 4096) (hb : ∀ x ∈ l, 0 ≤ x ∧ x < 256) (k : Nat) (hk : 65 ≤ k) : ∃ p s, spec_l01From.f k l = some (l, p, s) ∧ St l p s := by
  obtain ⟨s, e, h1, h2⟩ := from_loop hl hb 0 k 0 93001 (by omega) (by omega) (by omega) (by omega) (by omega)
  exact ⟨0, s, e, hl, hb, by omega, by omega, h1, h2⟩
theorem pick_eq {l : List Int} {p s : Int} (h : St l p s) (L : List Int) (hL : 0 < L.length) : ∃ v p' s', spec_l01Pick.f l p s L = some (v, p', s') ∧ St l p' s' ∧ v ∈ L := by
  unfold spec_l01Pick.f
  obtain ⟨r, p', s', e, hs, b1, b2⟩ := next_eq h (L.length : Int)
  rw [e]
  simp only [Option.bind_some]
  have hr : r < (L.length : Int) := by rcases b2 with b | b <;> omega
  rw [if_pos b1, if_pos hr]
  exact ⟨_, _, _, rfl, hs, rd_mem b1 hr⟩
theorem draw_eq {l : List Int} {p s : Int} (h : St l p s) : ∃ x y p' s', spec_l01Draw.f l p s = some (x, y, p', s') ∧ St l p' s' ∧ (-1001 ≤ x ∧ x ≤ 1001) ∧ (-1001 ≤ y ∧ y ≤ 1001) := by
  unfold spec_l01Draw.f
  obtain ⟨r, p1, s1, e1, h1, b1, b2⟩ := next_eq h 40
  rw [e1]
  simp only [Option.bind_some]
  split
  · obtain ⟨v, p2, s2, e2, h2, m2⟩ := pick_eq h1 [-1000, 1000, 1001, 0] (by decide)
    rw [e2]
    simp only [Option.bind_some]
    obtain ⟨v', p3, s3, e3, h3, m3⟩ := pick_eq h2 [-1001, 1000, 0] (by decide)
    rw [e3]
    simp only [Option.bind_some]
    simp only [List.mem_cons, List.not_mem_nil, or_false] at m2 m3
    exact ⟨_, _, _, _, rfl, h3, by omega, by omega⟩
  · obtain ⟨v, p2, s2, e2, h2, m2⟩ := pick_eq h1 [4, 9, 30] (by decide)
    rw [e2]
    simp only [Option.bind_some]
    simp only [List.mem_cons, List.not_mem_nil, or_false] at m2
    rw [wrap_id (x := 2 * v) (by omega) (by omega), wrap_id (x := 2 * v + 1) (by omega) (by omega)]
    obtain ⟨r3, p3, s3, e3, h3, b3, c3⟩ := next_eq h2 (2 * v + 1)
    rw [e3]
    simp only [Option.bind_some]
    obtain ⟨r4, p4, s4, e4, h4, b4, c4⟩ := next_eq h3 (2 * v + 1)
    rw [e4]
    simp only [Option.bind_some]
    rw [wrap_id (x := r3 - v) (by omega) (by omega), wrap_id (x := r4 - v) (by omega) (by omega)]
    exact ⟨_, _, _, _, rfl, h4, by omega, by omega⟩
theorem big_eq (l : List Int) : laws_big.f l = some (decide ((l.length : Int) > 4096)) := rfl
theorem drawAdd_eq {l : List Int} (hl : (l.length : Int) ≤ 4096) (hb : ∀ x ∈ l, 0 ≤ x ∧ x < 256) (k : Nat) (hk : 65 ≤ k) : ∃ a b c d, spec_DrawAddVecs.f k l = some (a, b, c, d) := by
  unfold spec_DrawAddVecs.f
  obtain ⟨p, s, e, h⟩ := from_eq hl hb k hk
  rw [e]
  simp only [Option.bind_some]
  obtain ⟨a, b, p1, s1, e1, h1, _⟩ := draw_eq h
  rw [e1]
  simp only [Option.bind_some]
  obtain ⟨c, d, p2, s2, e2, h2, _⟩ := draw_eq h1
  rw [e2]
  exact ⟨_, _, _, _, rfl⟩
theorem drawScale_eq {l : List Int} (hl : (l.length : Int) ≤ 4096) (hb : ∀ x ∈ l, 0 ≤ x ∧ x < 256) (k : Nat) (hk : 65 ≤ k) : ∃ a b c, spec_DrawScaleVec.f k l = some (a, b, c) := by
  unfold spec_DrawScaleVec.f
  obtain ⟨p, s, e, h⟩ := from_eq hl hb k hk
  rw [e]
  simp only [Option.bind_some]
  obtain ⟨r0, p0, s0, e0, h0, _⟩ := next_eq h 12
  rw [e0]
  simp only [Option.bind_some]
  obtain ⟨a, b, p1, s1, e1, h1, _⟩ := draw_eq h0
  rw [e1]
  simp only [Option.bind_some]
  split
  · obtain ⟨v, p2, s2, e2, h2, _⟩ := pick_eq h1 [-1000, 1000, 1001, -1001] (by decide)
    rw [e2]
    exact ⟨_, _, _, rfl⟩
  · obtain ⟨r, p2, s2, e2, h2, _⟩ := next_eq h1 60
    rw [e2]
    exact ⟨_, _, _, rfl⟩
theorem drawCompare_eq {l : List Int} (hl : (l.length : Int) ≤ 4096) (hb : ∀ x ∈ l, 0 ≤ x ∧ x < 256) (k : Nat) (hk : 65 ≤ k) : ∃ a b c d, spec_DrawCompareVecs.f k l = some (a, b, c, d) := by
  unfold spec_DrawCompareVecs.f
  obtain ⟨p, s, e, h⟩ := from_eq hl hb k hk
  rw [e]
  simp only [Option.bind_some]
  obtain ⟨a, b, p1, s1, e1, h1, _⟩ := draw_eq h
  rw [e1]
  simp only [Option.bind_some]
  obtain ⟨r0, p0, s0, e0, h0, _⟩ := next_eq h1 4
  rw [e0]
  simp only [Option.bind_some]
  split
  · exact ⟨_, _, _, _, rfl⟩
  · split
    · obtain ⟨r, p2, s2, e2, h2, _⟩ := next_eq h0 3
      rw [e2]
      exact ⟨_, _, _, _, rfl⟩
    · obtain ⟨c, d, p2, s2, e2, h2, _⟩ := draw_eq h0
      rw [e2]
      exact ⟨_, _, _, _, rfl⟩
theorem cmp_rev {ux uy vx vy z : Int} (h : cmpR ux uy vx vy = (z, 0)) : cmpR vx vy ux uy = (wrap64 (-z), 0) := by
  unfold cmpR at h ⊢
  by_cases hv : vecB ux uy = true ∧ vecB vx vy = true
  · rw [if_pos hv] at h
    rw [if_pos ⟨hv.2, hv.1⟩]
    simp only [Prod.mk.injEq, and_true] at h ⊢
    subst h
    unfold cmpv
    by_cases h1 : ux < vx ∨ (ux = vx ∧ uy < vy)
    · rw [if_pos h1, if_neg (by omega), if_neg (by omega), wrap_id (by omega) (by omega)]; rfl
    · rw [if_neg h1]
      by_cases h2 : ux = vx ∧ uy = vy
      · rw [if_pos h2, if_neg (by omega), if_pos (by omega), wrap_id (by omega) (by omega)]; rfl
      · rw [if_neg h2, if_pos (by omega), wrap_id (by omega) (by omega)]
  · rw [if_neg hv] at h
    simp at h
theorem scale_det {x y n a b : Int} (h : scaleR x y n = (a, b, 0)) : detR x y a b = (0, 0) := by
  unfold scaleR lim at h
  split at h
  · rename_i hv
    split at h
    · split at h
      · rename_i hl
        simp only [Prod.mk.injEq, and_true] at h
        obtain ⟨rfl, rfl⟩ := h
        unfold detR
        rw [if_pos ⟨hv, hl⟩]
        have : x * (n * y) - y * (n * x) = 0 := by grind
        rw [this]
      · simp at h
    · simp at h
  · simp at h
theorem add_comm' (ux uy vx vy : Int) : addR vx vy ux uy = addR ux uy vx vy := by
  unfold addR
  rw [Int.add_comm vx, Int.add_comm vy]
  by_cases h : vecB ux uy = true ∧ vecB vx vy = true
  · rw [if_pos h, if_pos ⟨h.2, h.1⟩]
  · rw [if_neg h, if_neg (fun q => h ⟨q.2, q.1⟩)]
theorem vectors_j1 (k : Nat) (ux uy vx vy s t n : Int) : laws_FnVectors.j1 (k + 2) (addR ux uy vx vy).2.2 (scaleR s t n).2.2 ux uy vx vy (addR ux uy vx vy).1 (addR ux uy vx vy).2.1 s t (scaleR s t n).1 (scaleR s t n).2.1 = some true := by
  rw [laws_FnVectors.j1, impl_AddVecs_eq, impl_DetOf_eq, add_comm']
  simp only [Option.bind_some, if_true, beq_self_eq_true, Bool.and_self]
  by_cases h : (scaleR s t n).2.2 = 0
  · have e : detR s t (scaleR s t n).1 (scaleR s t n).2.1 = (0, 0) := scale_det (n := n) (by rw [← h])
    rw [if_pos h, e]; simp
  · rw [if_neg h]
theorem vectors_j0 (k : Nat) (ux uy vx vy s t n p q r w : Int) : laws_FnVectors.j0 (k + 4) (addR ux uy vx vy).2.2 (scaleR s t n).2.2 (cmpR p q r w).1 (cmpR p q r w).2 false ux uy vx vy (addR ux uy vx vy).1 (addR ux uy vx vy).2.1 s t (scaleR s t n).1 (scaleR s t n).2.1 p q r w = some true := by
  rw [laws_FnVectors.j0, if_neg (by decide), vectors_j1 (k + 1), impl_CompareVecs_eq]
  by_cases h : (cmpR p q r w).2 = 0
  · have e := cmp_rev (ux := p) (uy := q) (vx := r) (vy := w) (z := (cmpR p q r w).1) (by rw [← h])
    rw [if_pos h, e]; simp
  · rw [if_neg h]
theorem main (l0 : List Int) (hm0 : l0.length ≤ maxLen) (y0 : l0.length * 1 ≤ 140737488351232) (w0 : ∀ x ∈ l0, (Go.Lit.int .u8 x).wf = true) : ∃ k, laws_FnVectors.f k l0 = some true := by
  have hb : ∀ x ∈ l0, 0 ≤ x ∧ x < 256 := fun x hx => u8_bd (w0 x hx)
  by_cases hl : (l0.length : Int) ≤ 4096
  · obtain ⟨ux, uy, vx, vy, e1⟩ := drawAdd_eq hl hb (100 + 4) (by decide)
    obtain ⟨s, t, n, e2⟩ := drawScale_eq hl hb (100 + 4) (by decide)
    obtain ⟨p, q, r, w, e3⟩ := drawCompare_eq hl hb (100 + 4) (by decide)
    have hj := vectors_j0 100 ux uy vx vy s t n p q r w
    refine ⟨100 + 4, ?_⟩
    unfold laws_FnVectors.f
    rw [big_eq, e1, e2, e3, decide_eq_false (by omega)]
    simp only [Option.bind_some]
    rw [impl_AddVecs_eq (103), spec_AddVecs_eq (103), impl_ScaleVec_eq, spec_ScaleVec_eq, impl_DetOf_eq, spec_DetOf_eq, impl_CompareVecs_eq (101), spec_CompareVecs_eq (103), impl_IsVec_eq, spec_IsVec_eq]
    simp only [Option.bind_some, Bool.false_eq_true, if_false, beq_self_eq_true, Bool.not_true, Bool.or_self, if_true, bne_self_eq_false]
    exact hj
  · refine ⟨1, ?_⟩
    unfold laws_FnVectors.f
    rw [big_eq, decide_eq_true (by omega)]
    rfl
end Go.Proofs.Ytjjbjaagfjljnaa.PureFnVectors

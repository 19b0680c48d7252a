/-
The law FnMatrices, over numbers and lists alone: the printed functions of the program and of the reference answer alike. No condition but that each number is an int64.
-/
import Derived.Test.YtcjchihnopmplaaM9
import GoSem.Claim

namespace Go.Proofs.Ytcjchihnopmplaa.PureFnMatrices
open Go.RowKit Go.Proofs.Ytcjchihnopmplaa.F Go.Proofs.YtcjchihnopmplaaW.PrintWords Go.Proofs.YtcjchihnopmplaaW.PrintLast Go.Proofs.YtcjchihnopmplaaW.PrintMore
set_option linter.unusedVariables false
set_option linter.unusedSimpArgs false
/-- (x, y) is a sum of multiples of (a, 0) and (b, c). -/
def L (a b c x y : Int) : Prop := ∃ m n : Int, x = m * a + n * b ∧ y = n * c
def vecB (x y : Int) : Bool := decide (-1000 ≤ x ∧ x ≤ 1000 ∧ -1000 ≤ y ∧ y ≤ 1000)
def smallB (a b c d : Int) : Bool := decide ((-1000 ≤ a ∧ a ≤ 1000 ∧ -1000 ≤ b ∧ b ≤ 1000) ∧ -1000 ≤ c ∧ c ≤ 1000 ∧ -1000 ≤ d ∧ d ≤ 1000)
def matB (a b c d : Int) : Bool := smallB a b c d && (a * d - b * c == 1 || a * d - b * c == -1)
def lim (x y : Int) : Int × Int × Int := if vecB x y = true then (x, y, 0) else (0, 0, 3)
theorem wrap_id {x : Int} (h1 : -9223372036854775808 ≤ x) (h2 : x < 9223372036854775808) : wrap64 x = x := by unfold wrap64; omega
theorem prod_bd {a b A B : Int} (ha : -A ≤ a) (ha' : a ≤ A) (hb : -B ≤ b) (hb' : b ≤ B) (hA : 0 ≤ A) : -(A * B) ≤ a * b ∧ a * b ≤ A * B := by
  have h1 : (a * b).natAbs ≤ A.natAbs * B.natAbs := by rw [Int.natAbs_mul]; exact Nat.mul_le_mul (by omega) (by omega)
  have h2 : (A * B).natAbs = A.natAbs * B.natAbs := Int.natAbs_mul A B
  have h3 : 0 ≤ A * B := Int.mul_nonneg hA (by omega)
  omega
theorem vecB_iff {x y : Int} : vecB x y = true ↔ (-1000 ≤ x ∧ x ≤ 1000) ∧ (-1000 ≤ y ∧ y ≤ 1000) := by unfold vecB; rw [decide_eq_true_iff]; omega
theorem smallB_iff {a b c d : Int} : smallB a b c d = true ↔ ((-1000 ≤ a ∧ a ≤ 1000) ∧ (-1000 ≤ b ∧ b ≤ 1000)) ∧ (-1000 ≤ c ∧ c ≤ 1000) ∧ (-1000 ≤ d ∧ d ≤ 1000) := by unfold smallB; rw [decide_eq_true_iff]; omega
theorem matB_iff {a b c d : Int} : matB a b c d = true ↔ smallB a b c d = true ∧ (a * d - b * c = 1 ∨ a * d - b * c = -1) := by unfold matB; simp
theorem det_wrap {a b c d : Int} (h : smallB a b c d = true) : wrap64 (wrap64 (a * d) - wrap64 (b * c)) = a * d - b * c ∧ (-2000000 ≤ a * d - b * c ∧ a * d - b * c ≤ 2000000) := by
  rw [smallB_iff] at h
  have h1 := prod_bd (A := 1000) (B := 1000) h.1.1.1 h.1.1.2 h.2.2.1 h.2.2.2 (by omega)
  have h2 := prod_bd (A := 1000) (B := 1000) h.1.2.1 h.1.2.2 h.2.1.1 h.2.1.2 (by omega)
  rw [wrap_id (x := a * d) (by omega) (by omega), wrap_id (x := b * c) (by omega) (by omega), wrap_id (by omega) (by omega)]
  omega
/-- a x + b y for small numbers. -/
theorem lin_wrap {a b x y : Int} (A : Int) (ha : -A ≤ a ∧ a ≤ A) (hb : -A ≤ b ∧ b ≤ A) (hx : -A ≤ x ∧ x ≤ A) (hy : -A ≤ y ∧ y ≤ A) (hA : 0 ≤ A) (hA2 : A ≤ 1000000000) :
    wrap64 (wrap64 (a * x) + wrap64 (b * y)) = a * x + b * y ∧ (-(2 * (A * A)) ≤ a * x + b * y ∧ a * x + b * y ≤ 2 * (A * A)) := by
  have h1 := prod_bd ha.1 ha.2 hx.1 hx.2 hA
  have h2 := prod_bd hb.1 hb.2 hy.1 hy.2 hA
  have h3 : A * A ≤ 1000000000 * 1000000000 := Int.mul_le_mul hA2 hA2 hA (by omega)
  rw [wrap_id (x := a * x) (by omega) (by omega), wrap_id (x := b * y) (by omega) (by omega), wrap_id (by omega) (by omega)]
  omega
def invR (a b c d : Int) : Int × Int × Int × Int × Int := if matB a b c d = true then ((a * d - b * c) * d, -(a * d - b * c) * b, -(a * d - b * c) * c, (a * d - b * c) * a, 0) else (0, 0, 0, 0, 1)
def mul1 (a b c d a' b' c' d' : Int) : Int × Int × Int × Int := (a * a' + b * c', a * b' + b * d', c * a' + d * c', c * b' + d * d')
def limM (m : Int × Int × Int × Int) : Int × Int × Int × Int × Int := if smallB m.1 m.2.1 m.2.2.1 m.2.2.2 = true then (m.1, m.2.1, m.2.2.1, m.2.2.2, 0) else (0, 0, 0, 0, 3)
def mulR (a b c d a' b' c' d' : Int) : Int × Int × Int × Int × Int := if matB a b c d = true ∧ matB a' b' c' d' = true then limM (mul1 a b c d a' b' c' d') else (0, 0, 0, 0, 1)
def appR (a b c d x y : Int) : Int × Int × Int := if matB a b c d = true ∧ vecB x y = true then lim (a * x + b * y) (c * x + d * y) else (0, 0, 1)
def ordV (a b c d : Int) : Int := if a = 1 ∧ b = 0 ∧ c = 0 ∧ d = 1 then 1 else if (a * d - b * c = -1 ∧ a + d = 0) ∨ (a = -1 ∧ b = 0 ∧ c = 0 ∧ d = -1) then 2
  else if a * d - b * c = 1 ∧ a + d = -1 then 3 else if a * d - b * c = 1 ∧ a + d = 0 then 4 else if a * d - b * c = 1 ∧ a + d = 1 then 6 else 0
theorem u8_bd {a : Int} (h : (Go.Lit.int .u8 a).wf = true) : 0 ≤ a ∧ a < 256 := by
  simp only [Go.Lit.wf, Bool.and_eq_true, decide_eq_true_eq] at h
  obtain ⟨h1, h2⟩ := h
  have e1 : Go.IntKind.min .u8 = 0 := by decide
  have e2 : Go.IntKind.max .u8 = 255 := by decide
  omega
theorem spec_l01In_eq (a b c : Int) : spec_l01In.f a b c = some (decide (b ≤ a ∧ a ≤ c)) := by
  unfold spec_l01In.f; split <;> simp <;> omega
theorem impl_within_eq (a b c : Int) : impl_within.f a b c = some (decide (b ≤ a ∧ a ≤ c)) := by
  unfold impl_within.f; split <;> simp <;> omega
theorem spec_IsVec_eq (x y : Int) : spec_IsVec.f x y = some (vecB x y) := by
  unfold spec_IsVec.f vecB; simp only [spec_l01In_eq, Option.bind_some]; split <;> simp_all <;> omega
theorem impl_isCoordinate_eq (a : Int) : impl_isCoordinate.f a = some (decide (-1000 ≤ a ∧ a ≤ 1000)) := by
  unfold impl_isCoordinate.f; simp only [impl_within_eq, Option.bind_some]
theorem impl_IsVec_eq (x y : Int) : impl_IsVec.f x y = some (vecB x y) := by
  unfold impl_IsVec.f vecB; simp only [impl_isCoordinate_eq, Option.bind_some]; split <;> simp_all <;> omega
theorem spec_l01Result_eq (x y : Int) : spec_l01Result.f x y = some (lim x y) := by
  unfold spec_l01Result.f lim; simp only [spec_IsVec_eq, Option.bind_some]; split <;> rfl
theorem impl_limited_eq (x y : Int) : impl_limited.f x y = some (lim x y) := by
  unfold impl_limited.f lim; simp only [impl_IsVec_eq, Option.bind_some]; split <;> rfl
theorem spec_l02Small_eq (a b c d : Int) : spec_l02Small.f a b c d = some (smallB a b c d) := by
  unfold spec_l02Small.f smallB; simp only [spec_IsVec_eq, Option.bind_some, vecB]; split <;> simp_all <;> omega
theorem impl_Mat_isSmall_eq (a b c d : Int) : impl_Mat_isSmall.f a b c d = some (smallB a b c d) := by
  unfold impl_Mat_isSmall.f smallB; simp only [impl_isCoordinate_eq, Option.bind_some, decide_eq_true_eq]
  by_cases h1 : -1000 ≤ a ∧ a ≤ 1000
  · rw [if_pos h1]
    by_cases h2 : -1000 ≤ b ∧ b ≤ 1000
    · rw [if_pos h2]
      by_cases h3 : -1000 ≤ c ∧ c ≤ 1000
      · rw [if_pos h3]
        by_cases h4 : -1000 ≤ d ∧ d ≤ 1000
        · rw [decide_eq_true h4, decide_eq_true (by omega)]
        · rw [decide_eq_false h4, decide_eq_false (by omega)]
      · rw [if_neg h3, decide_eq_false (by omega)]
    · rw [if_neg h2, decide_eq_false (by omega)]
  · rw [if_neg h1, decide_eq_false (by omega)]
theorem spec_IsMat_eq (a b c d : Int) : spec_IsMat.f a b c d = some (matB a b c d) := by
  unfold spec_IsMat.f matB spec_l02Det.f
  simp only [spec_l02Small_eq, Option.bind_some]
  cases h : smallB a b c d with
  | false => simp
  | true => rw [(det_wrap h).1]; simp; split <;> simp_all
theorem impl_IsMat_eq (a b c d : Int) : impl_IsMat.f a b c d = some (matB a b c d) := by
  unfold impl_IsMat.f matB impl_Mat_det.f
  simp only [impl_Mat_isSmall_eq, Option.bind_some]
  cases h : smallB a b c d with
  | false => simp
  | true => rw [(det_wrap h).1]; simp; split <;> simp_all
theorem spec_l02Inverse_eq (a b c d : Int) (h : matB a b c d = true) : spec_l02Inverse.f a b c d = some ((a * d - b * c) * d, -(a * d - b * c) * b, -(a * d - b * c) * c, (a * d - b * c) * a) := by
  obtain ⟨h1, h2⟩ := matB_iff.mp h
  unfold spec_l02Inverse.f spec_l02Det.f
  simp only [Option.bind_some, (det_wrap h1).1]
  rw [smallB_iff] at h1
  generalize a * d - b * c = D at *
  rw [wrap_id (x := -D) (by omega) (by omega)]
  rcases h2 with rfl | rfl
  all_goals
    simp only [Int.one_mul, Int.neg_mul, Int.neg_neg]
    rw [wrap_id (x := _) (by omega) (by omega), wrap_id (x := _) (by omega) (by omega), wrap_id (x := _) (by omega) (by omega), wrap_id (x := _) (by omega) (by omega)]
theorem impl_Mat_inverse_eq (a b c d : Int) (h : matB a b c d = true) : impl_Mat_inverse.f a b c d = some ((a * d - b * c) * d, -(a * d - b * c) * b, -(a * d - b * c) * c, (a * d - b * c) * a) := by
  obtain ⟨h1, h2⟩ := matB_iff.mp h
  unfold impl_Mat_inverse.f impl_Mat_det.f
  simp only [Option.bind_some, (det_wrap h1).1]
  rw [smallB_iff] at h1
  generalize a * d - b * c = D at *
  rw [wrap_id (x := -D) (by omega) (by omega)]
  rcases h2 with rfl | rfl
  all_goals
    simp only [Int.one_mul, Int.neg_mul, Int.neg_neg]
    rw [wrap_id (x := _) (by omega) (by omega), wrap_id (x := _) (by omega) (by omega), wrap_id (x := _) (by omega) (by omega), wrap_id (x := _) (by omega) (by omega)]
theorem spec_InverseMat_eq (a b c d : Int) : spec_InverseMat.f a b c d = some (invR a b c d) := by
  unfold spec_InverseMat.f invR
  simp only [spec_IsMat_eq, Option.bind_some]
  split
  · rename_i h; rw [spec_l02Inverse_eq _ _ _ _ h]; rfl
  · rfl
theorem impl_InverseMat_eq (a b c d : Int) : impl_InverseMat.f a b c d = some (invR a b c d) := by
  unfold impl_InverseMat.f invR
  simp only [impl_IsMat_eq, Option.bind_some]
  split
  · rename_i h; rw [impl_Mat_inverse_eq _ _ _ _ h]; rfl
  · rfl
theorem spec_l02Multiply_eq {a b c d a' b' c' d' : Int} (h : smallB a b c d = true) (h' : smallB a' b' c' d' = true) : spec_l02Multiply.f a b c d a' b' c' d' = some (mul1 a b c d a' b' c' d') := by
  rw [smallB_iff] at h h'
  unfold spec_l02Multiply.f mul1
  rw [(lin_wrap 1000 (by omega) (by omega) (by omega) (by omega) (by omega) (by omega)).1, (lin_wrap 1000 (by omega) (by omega) (by omega) (by omega) (by omega) (by omega)).1,
    (lin_wrap 1000 (by omega) (by omega) (by omega) (by omega) (by omega) (by omega)).1, (lin_wrap 1000 (by omega) (by omega) (by omega) (by omega) (by omega) (by omega)).1]
theorem impl_Mat_times_eq {a b c d a' b' c' d' : Int} (h : smallB a b c d = true) (h' : smallB a' b' c' d' = true) : impl_Mat_times.f a b c d a' b' c' d' = some (mul1 a b c d a' b' c' d') := by
  rw [smallB_iff] at h h'
  unfold impl_Mat_times.f mul1
  rw [(lin_wrap 1000 (by omega) (by omega) (by omega) (by omega) (by omega) (by omega)).1, (lin_wrap 1000 (by omega) (by omega) (by omega) (by omega) (by omega) (by omega)).1,
    (lin_wrap 1000 (by omega) (by omega) (by omega) (by omega) (by omega) (by omega)).1, (lin_wrap 1000 (by omega) (by omega) (by omega) (by omega) (by omega) (by omega)).1]
theorem spec_l02Result_eq (m : Int × Int × Int × Int) : spec_l02Result.f m.1 m.2.1 m.2.2.1 m.2.2.2 = some (limM m) := by
  unfold spec_l02Result.f limM; simp only [spec_l02Small_eq, Option.bind_some]; split <;> rfl
theorem spec_MultiplyMats_eq (k : Nat) (a b c d a' b' c' d' : Int) : spec_MultiplyMats.f (k + 1) a b c d a' b' c' d' = some (mulR a b c d a' b' c' d') := by
  unfold spec_MultiplyMats.f mulR
  simp only [spec_IsMat_eq, Option.bind_some, spec_MultiplyMats.j0]
  cases h : matB a b c d with
  | false => simp
  | true =>
    cases h' : matB a' b' c' d' with
    | false => simp
    | true => simp [spec_l02Multiply_eq (matB_iff.mp h).1 (matB_iff.mp h').1, spec_l02Result_eq]
theorem impl_MultiplyMats_eq (k : Nat) (a b c d a' b' c' d' : Int) : impl_MultiplyMats.f (k + 1) a b c d a' b' c' d' = some (mulR a b c d a' b' c' d') := by
  unfold impl_MultiplyMats.f mulR
  simp only [impl_IsMat_eq, Option.bind_some, impl_MultiplyMats.j0]
  cases h : matB a b c d with
  | false => simp
  | true =>
    cases h' : matB a' b' c' d' with
    | false => simp
    | true =>
      simp only [impl_Mat_times_eq (matB_iff.mp h).1 (matB_iff.mp h').1, impl_Mat_isSmall_eq, limM, Option.bind_some, if_true, Bool.not_true, Bool.false_eq_true, if_false, and_self]
      split <;> rfl
theorem spec_l02Apply_eq (A : Int) {a b c d x y : Int} (hA : 0 ≤ A) (hA2 : A ≤ 1000000000) (ha : -A ≤ a ∧ a ≤ A) (hb : -A ≤ b ∧ b ≤ A) (hc : -A ≤ c ∧ c ≤ A) (hd : -A ≤ d ∧ d ≤ A) (hx : -A ≤ x ∧ x ≤ A) (hy : -A ≤ y ∧ y ≤ A) :
    spec_l02Apply.f a b c d x y = some (a * x + b * y, c * x + d * y) := by
  unfold spec_l02Apply.f; rw [(lin_wrap A ha hb hx hy hA hA2).1, (lin_wrap A hc hd hx hy hA hA2).1]
theorem impl_Mat_apply_eq (A : Int) {a b c d x y : Int} (hA : 0 ≤ A) (hA2 : A ≤ 1000000000) (ha : -A ≤ a ∧ a ≤ A) (hb : -A ≤ b ∧ b ≤ A) (hc : -A ≤ c ∧ c ≤ A) (hd : -A ≤ d ∧ d ≤ A) (hx : -A ≤ x ∧ x ≤ A) (hy : -A ≤ y ∧ y ≤ A) :
    impl_Mat_apply.f a b c d x y = some (a * x + b * y, c * x + d * y) := by
  unfold impl_Mat_apply.f; rw [(lin_wrap A ha hb hx hy hA hA2).1, (lin_wrap A hc hd hx hy hA hA2).1]
theorem spec_ApplyMat_eq (k : Nat) (a b c d x y : Int) : spec_ApplyMat.f (k + 1) a b c d x y = some (appR a b c d x y) := by
  unfold spec_ApplyMat.f appR
  simp only [spec_IsMat_eq, spec_IsVec_eq, Option.bind_some, spec_ApplyMat.j0, spec_l01Result_eq]
  cases h : matB a b c d with
  | false => simp
  | true =>
    cases h' : vecB x y with
    | false => simp
    | true =>
      have h1 := smallB_iff.mp (matB_iff.mp h).1
      have h2 := vecB_iff.mp h'
      simp [spec_l02Apply_eq 1000 (by omega) (by omega) h1.1.1 h1.1.2 h1.2.1 h1.2.2 h2.1 h2.2]
theorem impl_ApplyMat_eq (k : Nat) (a b c d x y : Int) : impl_ApplyMat.f (k + 1) a b c d x y = some (appR a b c d x y) := by
  unfold impl_ApplyMat.f appR
  simp only [impl_IsMat_eq, impl_IsVec_eq, Option.bind_some, impl_ApplyMat.j0, impl_limited_eq]
  cases h : matB a b c d with
  | false => simp
  | true =>
    cases h' : vecB x y with
    | false => simp
    | true =>
      have h1 := smallB_iff.mp (matB_iff.mp h).1
      have h2 := vecB_iff.mp h'
      simp [impl_Mat_apply_eq 1000 (by omega) (by omega) h1.1.1 h1.1.2 h1.2.1 h1.2.2 h2.1 h2.2]
def St (l : List Int) (p s : Int) : Prop := (l.length : Int) ≤ 4096 ∧ (∀ x ∈ l, 0 ≤ x ∧ x < 256) ∧ 0 ≤ p ∧ p ≤ (l.length : Int) ∧ 0 ≤ s ∧ s < 2147483647
theorem rd_mem {l : List Int} {i : Int} (h0 : 0 ≤ i) (h1 : i < (l.length : Int)) : rd l i ∈ l := by
  unfold rd
  have h : i.toNat < l.length := by omega
  have e : l.getD i.toNat 0 = l[i.toNat] := by simp [List.getD, h]
  rw [e]
  exact List.getElem_mem h
theorem tm_bd {X n : Int} (hX : 0 ≤ X) (hn : 0 < n) : 0 ≤ Int.tmod X n ∧ Int.tmod X n < n := ⟨Int.tmod_nonneg n hX, Int.tmod_lt_of_pos X hn⟩
theorem next_eq {l : List Int} {p s : Int} (h : St l p s) (n : Int) : ∃ r p' s', spec_l01Next.f l p s n = some (r, p', s') ∧ St l p' s' ∧ 0 ≤ r ∧ (r < n ∨ r = 0) := by
  have h0 := h
  obtain ⟨hl, hb, hp0, hp1, hs0, hs1⟩ := h
  unfold spec_l01Next.f
  by_cases hn : n ≤ 1
  · rw [if_pos hn]; exact ⟨0, p, s, rfl, h0, by omega, .inr rfl⟩
  rw [if_neg hn]
  rw [wrap_id (x := s * 48271) (by omega) (by omega), wrap_id (x := s * 48271 + 67) (by omega) (by omega)]
  obtain ⟨a1, a2⟩ := tm_bd (X := s * 48271 + 67) (n := 2147483647) (by omega) (by decide)
  generalize Int.tmod (s * 48271 + 67) 2147483647 = S at a1 a2
  have q0 : 0 ≤ Int.tdiv S 37 ∧ Int.tdiv S 37 ≤ S := by rw [Int.tdiv_eq_ediv_of_nonneg a1]; omega
  have q1 : wrap64 (Int.tdiv S 37) = Int.tdiv S 37 := wrap_id (by omega) (by omega)
  by_cases hp : p < (l.length : Int)
  · rw [if_pos hp, if_pos hp0]
    have m := hb _ (rd_mem hp0 hp)
    rw [wrap_id (x := p + 1) (by omega) (by omega), wrap_id (x := p + 1 - 1) (by omega) (by omega), Int.add_sub_cancel]
    have w1 : wrap64 (rd l p) = rd l p := wrap_id (by omega) (by omega)
    rw [q1, w1, wrap_id (x := Int.tdiv S 37 + rd l p) (by omega) (by omega), if_neg (show ¬ n = 0 by omega), if_neg (show ¬ n = 0 by omega)]
    have t1 := tm_bd (X := rd l p) (n := n) m.1 (by omega)
    have t2 := tm_bd (X := Int.tdiv S 37 + rd l p) (n := n) (by omega) (by omega)
    have st : St l (p + 1) S := ⟨hl, hb, by omega, by omega, a1, a2⟩
    split
    · split
      · exact ⟨_, _, _, rfl, st, t1.1, .inl t1.2⟩
      · exact ⟨_, _, _, rfl, st, t2.1, .inl t2.2⟩
    · exact ⟨_, _, _, rfl, st, t2.1, .inl t2.2⟩
  · rw [if_neg hp, if_neg (show ¬ n = 0 by omega), q1]
    have t1 := tm_bd (X := Int.tdiv S 37) (n := n) (by omega) (by omega)
    exact ⟨_, _, _, rfl, ⟨hl, hb, hp0, hp1, a1, a2⟩, t1.1, .inl t1.2⟩
theorem from_loop {l : List Int} (hl : (l.length : Int) ≤ 4096) (hb : ∀ x ∈ l, 0 ≤ x ∧ x < 256) (p : Int) : ∀ (k : Nat) (i s : Int), 0 ≤ i → i ≤ 64 → 64 - i < (k : Int) → 0 ≤ s → s < 2147483647 →
    ∃ s', spec_l01From.l0 k l i l p s = some (l, p, s') ∧ 0 ≤ s' ∧ s' < 2147483647
  | 0, i, s, h0, h1, h2, _, _ => by omega
  | k + 1, i, s, h0, h1, h2, h3, h4 => by
    unfold spec_l01From.l0
    by_cases hi : i < (l.length : Int)
    · rw [if_pos hi]
      by_cases h6 : i < 64
      · rw [if_pos h6, if_pos h0]
        have m := hb _ (rd_mem h0 hi)
        rw [wrap_id (x := i + 1) (by omega) (by omega), wrap_id (x := rd l i) (by omega) (by omega), wrap_id (x := s * 73) (by omega) (by omega), wrap_id (x := s * 73 + rd l i) (by omega) (by omega)]
        have t := tm_bd (X := s * 73 + rd l i) (n := 2147483647) (by omega) (by decide)
        exact from_loop hl hb p k (i + 1) _ (by omega) (by omega) (by omega) t.1 t.2
      · rw [if_neg h6]; exact ⟨s, rfl, h3, h4⟩
    · rw [if_neg hi]; exact ⟨s, rfl, h3, h4⟩
theorem from_eq {l : List Int} (hl : (l.length : Int) ≤ 4096) (hb : ∀ x ∈ l, 0 ≤ x ∧ x < 256) (k : Nat) (hk : 65 ≤ k) : ∃ p s, spec_l01From.f k l = some (l, p, s) ∧ St l p s := by
  obtain ⟨s, e, h1, h2⟩ := from_loop hl hb 0 k 0 93001 (by omega) (by omega) (by omega) (by omega) (by omega)
  exact ⟨0, s, e, hl, hb, by omega, by omega, h1, h2⟩
theorem pick_eq {l : List Int} {p s : Int} (h : St l p s) (L : List Int) (hL : 0 < L.length) : ∃ v p' s', spec_l01Pick.f l p s L = some (v, p', s') ∧ St l p' s' ∧ v ∈ L := by
  unfold spec_l01Pick.f
  obtain ⟨r, p', s', e, hs, b1, b2⟩ := next_eq h (L.length : Int)
  rw [e]
  simp only [Option.bind_some]
  have hr : r < (L.length : Int) := by rcases b2 with b | b <;> omega
  rw [if_pos b1, if_pos hr]
  exact ⟨_, _, _, rfl, hs, rd_mem b1 hr⟩
theorem draw_eq {l : List Int} {p s : Int} (h : St l p s) : ∃ x y p' s', spec_l01Draw.f l p s = some (x, y, p', s') ∧ St l p' s' ∧ (-1001 ≤ x ∧ x ≤ 1001) ∧ (-1001 ≤ y ∧ y ≤ 1001) := by
  unfold spec_l01Draw.f
  obtain ⟨r, p1, s1, e1, h1, b1, b2⟩ := next_eq h 40
  rw [e1]
  simp only [Option.bind_some]
  split
  · obtain ⟨v, p2, s2, e2, h2, m2⟩ := pick_eq h1 [-1000, 1000, 1001, 0] (by decide)
    rw [e2]
    simp only [Option.bind_some]
    obtain ⟨v', p3, s3, e3, h3, m3⟩ := pick_eq h2 [-1001, 1000, 0] (by decide)
    rw [e3]
    simp only [Option.bind_some]
    simp only [List.mem_cons, List.not_mem_nil, or_false] at m2 m3
    exact ⟨_, _, _, _, rfl, h3, by omega, by omega⟩
  · obtain ⟨v, p2, s2, e2, h2, m2⟩ := pick_eq h1 [4, 9, 30] (by decide)
    rw [e2]
    simp only [Option.bind_some]
    simp only [List.mem_cons, List.not_mem_nil, or_false] at m2
    rw [wrap_id (x := 2 * v) (by omega) (by omega), wrap_id (x := 2 * v + 1) (by omega) (by omega)]
    obtain ⟨r3, p3, s3, e3, h3, b3, c3⟩ := next_eq h2 (2 * v + 1)
    rw [e3]
    simp only [Option.bind_some]
    obtain ⟨r4, p4, s4, e4, h4, b4, c4⟩ := next_eq h3 (2 * v + 1)
    rw [e4]
    simp only [Option.bind_some]
    rw [wrap_id (x := r3 - v) (by omega) (by omega), wrap_id (x := r4 - v) (by omega) (by omega)]
    exact ⟨_, _, _, _, rfl, h4, by omega, by omega⟩
theorem big_eq (l : List Int) : laws_big.f l = some (decide ((l.length : Int) > 4096)) := rfl
def bdM (B a b c d : Int) : Prop := (-B ≤ a ∧ a ≤ B) ∧ (-B ≤ b ∧ b ≤ B) ∧ (-B ≤ c ∧ c ≤ B) ∧ (-B ≤ d ∧ d ≤ B)
theorem mul_bdM {A B a b c d a' b' c' d' : Int} (hA : 0 ≤ A) (hA2 : A ≤ 1000) (hB2 : B ≤ 1000) (h : bdM A a b c d) (h' : bdM B a' b' c' d') :
    ∃ p q r s, spec_l02Multiply.f a b c d a' b' c' d' = some (p, q, r, s) ∧ bdM (2 * (A * B)) p q r s := by
  obtain ⟨h1, h2, h3, h4⟩ := h
  obtain ⟨g1, g2, g3, g4⟩ := h'
  have s1 : smallB a b c d = true := smallB_iff.mpr ⟨⟨by omega, by omega⟩, by omega, by omega⟩
  have s2 : smallB a' b' c' d' = true := smallB_iff.mpr ⟨⟨by omega, by omega⟩, by omega, by omega⟩
  rw [spec_l02Multiply_eq s1 s2]
  unfold mul1
  refine ⟨_, _, _, _, rfl, ?_⟩
  have p1 := prod_bd h1.1 h1.2 g1.1 g1.2 hA
  have p2 := prod_bd h2.1 h2.2 g3.1 g3.2 hA
  have p3 := prod_bd h1.1 h1.2 g2.1 g2.2 hA
  have p4 := prod_bd h2.1 h2.2 g4.1 g4.2 hA
  have p5 := prod_bd h3.1 h3.2 g1.1 g1.2 hA
  have p6 := prod_bd h4.1 h4.2 g3.1 g3.2 hA
  have p7 := prod_bd h3.1 h3.2 g2.1 g2.2 hA
  have p8 := prod_bd h4.1 h4.2 g4.1 g4.2 hA
  unfold bdM
  omega
theorem inv_lo {c : Int} (h : -10 ≤ c ∧ c ≤ 10) : spec_l02Inverse.f 1 0 c 1 = some (1, 0, -c, 1) := by
  unfold spec_l02Inverse.f spec_l02Det.f
  have e : wrap64 (wrap64 (1 * 1) - wrap64 (0 * c)) = 1 := by unfold wrap64; omega
  simp only [Option.bind_some, e]
  rw [wrap_id (x := -1) (by omega) (by omega), wrap_id (x := 1 * 1) (by omega) (by omega), wrap_id (x := -1 * 0) (by omega) (by omega), wrap_id (x := -1 * c) (by omega) (by omega)]
  congr 3; congr 1; omega
theorem inv_up {b : Int} (h : -10 ≤ b ∧ b ≤ 10) : spec_l02Inverse.f 1 b 0 1 = some (1, -b, 0, 1) := by
  unfold spec_l02Inverse.f spec_l02Det.f
  have e : wrap64 (wrap64 (1 * 1) - wrap64 (b * 0)) = 1 := by unfold wrap64; omega
  simp only [Option.bind_some, e]
  rw [wrap_id (x := -1) (by omega) (by omega), wrap_id (x := 1 * 1) (by omega) (by omega), wrap_id (x := -1 * 0) (by omega) (by omega), wrap_id (x := -1 * b) (by omega) (by omega)]
  congr 2; congr 1; omega
theorem fin_step {l : List Int} {p s : Int} (h : St l p s) {n B a b c d : Int} (hn : 0 < n) (hn2 : n ≤ 10) (hB : 0 ≤ B) (hB2 : 16 * B ≤ 1000) (hb : bdM B a b c d) :
    ∃ p' s' a' b' c' d', St l p' s' ∧ bdM (16 * B) a' b' c' d' ∧ ∀ k, spec_l02DrawFinite.l0 (k + 1) n l p s a b c d = spec_l02DrawFinite.l0 k (n - 1) l p' s' a' b' c' d' := by
  obtain ⟨r1, p1, s1, e1, h1, b1, c1⟩ := next_eq h 5
  obtain ⟨r2, p2, s2, e2, h2, b2, c2⟩ := next_eq h1 2
  by_cases hr : r2 = 0
  · obtain ⟨r3, p3, s3, e3, h3, b3, c3⟩ := next_eq h2 5
    obtain ⟨t1, t2, t3, t4, q1, q2⟩ := mul_bdM (A := 2) (B := B) (a := 1) (b := 0) (c := r3 - 2) (d := 1) (by omega) (by omega) (by omega) (by unfold bdM; omega) hb
    obtain ⟨u1, u2, u3, u4, q3, q4⟩ := mul_bdM (A := 2 * (2 * B)) (B := 2) (a' := 1) (b' := 0) (c' := -(r3 - 2)) (d' := 1) (by omega) (by omega) (by omega) q2 (by unfold bdM; omega)
    refine ⟨p3, s3, u1, u2, u3, u4, h3, by unfold bdM at q4 ⊢; omega, fun k => ?_⟩
    rw [spec_l02DrawFinite.l0, if_pos hn, e1]
    simp only [Option.bind_some]
    rw [e2]
    simp only [Option.bind_some]
    rw [if_pos hr, e3]
    simp only [Option.bind_some]
    rw [wrap_id (x := r3 - 2) (by omega) (by omega), wrap_id (x := n - 1) (by omega) (by omega), q1, inv_lo (by omega)]
    simp only [Option.bind_some]
    rw [q3]
    rfl
  · obtain ⟨t1, t2, t3, t4, q1, q2⟩ := mul_bdM (A := 2) (B := B) (a := 1) (b := r1 - 2) (c := 0) (d := 1) (by omega) (by omega) (by omega) (by unfold bdM; omega) hb
    obtain ⟨u1, u2, u3, u4, q3, q4⟩ := mul_bdM (A := 2 * (2 * B)) (B := 2) (a' := 1) (b' := -(r1 - 2)) (c' := 0) (d' := 1) (by omega) (by omega) (by omega) q2 (by unfold bdM; omega)
    refine ⟨p2, s2, u1, u2, u3, u4, h2, by unfold bdM at q4 ⊢; omega, fun k => ?_⟩
    rw [spec_l02DrawFinite.l0, if_pos hn, e1]
    simp only [Option.bind_some]
    rw [e2]
    simp only [Option.bind_some]
    rw [if_neg hr]
    rw [wrap_id (x := r1 - 2) (by omega) (by omega), wrap_id (x := n - 1) (by omega) (by omega), q1, inv_up (by omega)]
    simp only [Option.bind_some]
    rw [q3]
    rfl
theorem fin_end (k : Nat) (l : List Int) (p s a b c d : Int) : spec_l02DrawFinite.l0 (k + 1) 0 l p s a b c d = some (a, b, c, d, p, s) := by
  rw [spec_l02DrawFinite.l0, if_neg (by decide)]
theorem fin_all {l : List Int} {p s : Int} (h : St l p s) {n a b c d : Int} (hn : 0 ≤ n ∧ n ≤ 2) (hb : bdM 1 a b c d) (k : Nat) :
    ∃ p' s' a' b' c' d', St l p' s' ∧ bdM 256 a' b' c' d' ∧ spec_l02DrawFinite.l0 (k + 3) n l p s a b c d = some (a', b', c', d', p', s') := by
  have hh : n = 0 ∨ n = 1 ∨ n = 2 := by omega
  rcases hh with rfl | rfl | rfl
  · exact ⟨p, s, a, b, c, d, h, by unfold bdM at hb ⊢; omega, fin_end _ _ _ _ _ _ _ _⟩
  · obtain ⟨p1, s1, a1, b1, c1, d1, h1, hb1, e1⟩ := fin_step (n := 1) h (by decide) (by decide) (by decide) (by decide) hb
    exact ⟨p1, s1, a1, b1, c1, d1, h1, by unfold bdM at hb1 ⊢; omega, (e1 _).trans (fin_end _ _ _ _ _ _ _ _)⟩
  · obtain ⟨p1, s1, a1, b1, c1, d1, h1, hb1, e1⟩ := fin_step (n := 2) h (by decide) (by decide) (by decide) (by decide) hb
    obtain ⟨p2, s2, a2, b2, c2, d2, h2, hb2, e2⟩ := fin_step (n := 2 - 1) h1 (by decide) (by decide) (by decide) (by decide) hb1
    exact ⟨p2, s2, a2, b2, c2, d2, h2, by unfold bdM at hb2 ⊢; omega, (e1 _).trans ((e2 _).trans (fin_end _ _ _ _ _ _ _ _))⟩
theorem rd_SM_mem {L : List S51} {i : Int} (h0 : 0 ≤ i) (h1 : i < (L.length : Int)) : rd_T51 L i ∈ L := by
  unfold rd_T51
  have h : i.toNat < L.length := by omega
  have e : L.getD i.toNat z51 = L[i.toNat] := by simp [List.getD, h]
  rw [e]
  exact List.getElem_mem h
theorem drawFin_eq {l : List Int} {p s : Int} (h : St l p s) (k : Nat) : ∃ p' s' a' b' c' d', St l p' s' ∧ bdM 256 a' b' c' d' ∧ spec_l02DrawFinite.f (k + 3) l p s = some (a', b', c', d', p', s') := by
  unfold spec_l02DrawFinite.f
  obtain ⟨r1, p1, s1, e1, h1, b1, c1⟩ := next_eq h 8
  obtain ⟨r2, p2, s2, e2, h2, b2, c2⟩ := next_eq h1 3
  simp only [Option.bind_some]
  have hm : ∀ m ∈ ([⟨1, 0, 0, 1⟩, ⟨-1, 0, 0, -1⟩, ⟨0, -1, 1, 0⟩, ⟨0, -1, 1, 1⟩, ⟨-1, -1, 1, 0⟩, ⟨1, 0, 0, -1⟩, ⟨0, 1, 1, 0⟩, ⟨1, 1, 0, -1⟩] : List S51), bdM 1 m.f0 m.f1 m.f2 m.f3 := by
    intro m hm
    simp only [List.mem_cons, List.not_mem_nil, or_false] at hm
    rcases hm with rfl | rfl | rfl | rfl | rfl | rfl | rfl | rfl <;> (unfold bdM; decide)
  rw [e1]
  simp only [Option.bind_some]
  rw [if_pos b1, if_pos (by simp; omega), e2]
  simp only [Option.bind_some]
  exact fin_all h2 (by omega) (hm _ (rd_SM_mem b1 (by simp; omega))) k
def goodM (a b c d : Int) : Prop := bdM 999 a b c d ∨ ordV a b c d = 0
def okD (l : List Int) (n C : Int) (K : Nat) : Prop := ∀ p s a b c d k, St l p s → bdM C a b c d → K ≤ k →
  ∃ p' s' a' b' c' d', St l p' s' ∧ goodM a' b' c' d' ∧ spec_l02Draw.l0 k n l p s a b c d = some (a', b', c', d', p', s')
theorem draw2_end (l : List Int) : okD l 0 256 1 := by
  intro p s a b c d k h hb hk
  obtain ⟨k, rfl⟩ : ∃ m, k = m + 1 := ⟨k - 1, by omega⟩
  obtain ⟨r1, p1, s1, e1, h1, b1, c1⟩ := next_eq h 20
  rw [spec_l02Draw.l0, if_neg (by decide), e1]
  simp only [Option.bind_some]
  by_cases h0 : r1 = 0
  · rw [if_pos h0, wrap_id (x := a + 1) (by unfold bdM at hb; omega) (by unfold bdM at hb; omega)]
    exact ⟨_, _, _, _, _, _, h1, .inl (by unfold bdM at hb ⊢; omega), rfl⟩
  · rw [if_neg h0]
    by_cases h2 : r1 = 1
    · rw [if_pos h2]
      obtain ⟨v, p2, s2, e2, h3, m3⟩ := pick_eq h1 [999, 1000, 1001] (by decide)
      rw [e2]
      simp only [List.mem_cons, List.not_mem_nil, or_false] at m3
      refine ⟨_, _, _, _, _, _, h3, .inr ?_, rfl⟩
      unfold ordV
      rw [if_neg (by omega), if_neg (by omega), if_neg (by omega), if_neg (by omega), if_neg (by omega)]
    · rw [if_neg h2]
      exact ⟨_, _, _, _, _, _, h1, .inl (by unfold bdM at hb ⊢; omega), rfl⟩
theorem draw2_step {l : List Int} {n C : Int} {K : Nat} (hn : 0 ≤ n ∧ n ≤ 10) (hC : 0 ≤ C) (hC2 : C ≤ 1000) (ih : okD l n (2 * (C * 2)) K) : okD l (n + 1) C (K + 1) := by
  intro p s a b c d k h hb hk
  obtain ⟨k, rfl⟩ : ∃ m, k = m + 1 := ⟨k - 1, by omega⟩
  obtain ⟨r1, p1, s1, e1, h1, b1, c1⟩ := next_eq h 5
  rw [spec_l02Draw.l0, if_pos (by omega)]
  simp only [Option.bind_some]
  rw [e1]
  simp only [Option.bind_some]
  have hm : ∀ m ∈ ([⟨1, 1, 0, 1⟩, ⟨1, 0, 1, 1⟩, ⟨1, -2, 0, 1⟩, ⟨0, 1, 1, 0⟩, ⟨-1, 0, 0, 1⟩] : List S51), bdM 2 m.f0 m.f1 m.f2 m.f3 := by
    intro m hm
    simp only [List.mem_cons, List.not_mem_nil, or_false] at hm
    rcases hm with rfl | rfl | rfl | rfl | rfl <;> (unfold bdM; decide)
  have hmm := hm _ (rd_SM_mem b1 (by simp; omega))
  obtain ⟨t1, t2, t3, t4, q1, q2⟩ := mul_bdM hC hC2 (by omega) hb hmm
  rw [if_pos b1, if_pos (by simp; omega), q1]
  simp only [Option.bind_some]
  rw [wrap_id (x := n + 1 - 1) (by omega) (by omega), Int.add_sub_cancel]
  exact ih _ _ _ _ _ _ _ h1 q2 (by omega)
theorem draw2_eq {l : List Int} {p s : Int} (h : St l p s) (k : Nat) (hk : 10 ≤ k) : ∃ p' s' a' b' c' d', St l p' s' ∧ goodM a' b' c' d' ∧ spec_l02Draw.f k l p s = some (a', b', c', d', p', s') := by
  unfold spec_l02Draw.f
  obtain ⟨r1, p1, s1, e1, h1, b1, c1⟩ := next_eq h 3
  rw [e1]
  simp only [Option.bind_some]
  split
  · obtain ⟨k, rfl⟩ : ∃ m, k = m + 3 := ⟨k - 3, by omega⟩
    obtain ⟨p2, s2, a, b, c, d, h2, hb, e2⟩ := drawFin_eq h1 k
    rw [e2]
    exact ⟨p2, s2, a, b, c, d, h2, .inl (by unfold bdM at hb ⊢; omega), rfl⟩
  · obtain ⟨r2, p2, s2, e2, h2, b2, c2⟩ := next_eq h1 5
    rw [e2]
    unfold spec_l02Unit.f
    simp only [Option.bind_some]
    have o0 := draw2_end l
    have o1 : okD l 1 64 2 := draw2_step (n := 0) (by decide) (by decide) (by decide) o0
    have o2 : okD l 2 16 3 := draw2_step (n := 1) (by decide) (by decide) (by decide) o1
    have o3 : okD l 3 4 4 := draw2_step (n := 2) (by decide) (by decide) (by decide) o2
    have o4 : okD l 4 1 5 := draw2_step (n := 3) (by decide) (by decide) (by decide) o3
    have hr : r2 = 0 ∨ r2 = 1 ∨ r2 = 2 ∨ r2 = 3 ∨ r2 = 4 := by omega
    rcases hr with rfl | rfl | rfl | rfl | rfl
    · exact o0 _ _ _ _ _ _ _ h2 (by unfold bdM; decide) (by omega)
    · exact o1 _ _ _ _ _ _ _ h2 (by unfold bdM; decide) (by omega)
    · exact o2 _ _ _ _ _ _ _ h2 (by unfold bdM; decide) (by omega)
    · exact o3 _ _ _ _ _ _ _ h2 (by unfold bdM; decide) (by omega)
    · exact o4 _ _ _ _ _ _ _ h2 (by unfold bdM; decide) (by omega)
theorem drawMul_eq {l : List Int} (hl : (l.length : Int) ≤ 4096) (hb : ∀ x ∈ l, 0 ≤ x ∧ x < 256) (k : Nat) (hk : 65 ≤ k) : ∃ a b c d a' b' c' d', spec_DrawMultiplyMats.f k l = some (a, b, c, d, a', b', c', d') := by
  unfold spec_DrawMultiplyMats.f
  obtain ⟨p, s, e, h⟩ := from_eq hl hb k hk
  rw [e]
  simp only [Option.bind_some]
  obtain ⟨p1, s1, a, b, c, d, h1, _, e1⟩ := draw2_eq h k (by omega)
  rw [e1]
  simp only [Option.bind_some]
  obtain ⟨p2, s2, a', b', c', d', h2, _, e2⟩ := draw2_eq h1 k (by omega)
  rw [e2]
  exact ⟨_, _, _, _, _, _, _, _, rfl⟩
theorem drawInv_eq {l : List Int} (hl : (l.length : Int) ≤ 4096) (hb : ∀ x ∈ l, 0 ≤ x ∧ x < 256) (k : Nat) (hk : 65 ≤ k) : ∃ a b c d, spec_DrawInverseMat.f k l = some (a, b, c, d) := by
  unfold spec_DrawInverseMat.f
  obtain ⟨p, s, e, h⟩ := from_eq hl hb k hk
  rw [e]
  simp only [Option.bind_some]
  obtain ⟨p1, s1, a, b, c, d, h1, _, e1⟩ := draw2_eq h k (by omega)
  rw [e1]
  exact ⟨_, _, _, _, rfl⟩
theorem drawApp_eq {l : List Int} (hl : (l.length : Int) ≤ 4096) (hb : ∀ x ∈ l, 0 ≤ x ∧ x < 256) (k : Nat) (hk : 65 ≤ k) : ∃ a b c d x y, spec_DrawApplyMat.f k l = some (a, b, c, d, x, y) := by
  unfold spec_DrawApplyMat.f
  obtain ⟨p, s, e, h⟩ := from_eq hl hb k hk
  rw [e]
  simp only [Option.bind_some]
  obtain ⟨p1, s1, a, b, c, d, h1, _, e1⟩ := draw2_eq h k (by omega)
  rw [e1]
  simp only [Option.bind_some]
  obtain ⟨x, y, p2, s2, e2, h2, _⟩ := draw_eq h1
  rw [e2]
  exact ⟨_, _, _, _, _, _, rfl⟩
theorem impl_Mul_k (k : Nat) (hk : 1 ≤ k) (a b c d a' b' c' d' : Int) : impl_MultiplyMats.f k a b c d a' b' c' d' = some (mulR a b c d a' b' c' d') := by
  obtain ⟨j, rfl⟩ : ∃ j, k = j + 1 := ⟨k - 1, by omega⟩
  exact impl_MultiplyMats_eq j a b c d a' b' c' d'
theorem spec_Mul_k (k : Nat) (hk : 1 ≤ k) (a b c d a' b' c' d' : Int) : spec_MultiplyMats.f k a b c d a' b' c' d' = some (mulR a b c d a' b' c' d') := by
  obtain ⟨j, rfl⟩ : ∃ j, k = j + 1 := ⟨k - 1, by omega⟩
  exact spec_MultiplyMats_eq j a b c d a' b' c' d'
theorem impl_App_k (k : Nat) (hk : 1 ≤ k) (a b c d x y : Int) : impl_ApplyMat.f k a b c d x y = some (appR a b c d x y) := by
  obtain ⟨j, rfl⟩ : ∃ j, k = j + 1 := ⟨k - 1, by omega⟩
  exact impl_ApplyMat_eq j a b c d x y
theorem spec_App_k (k : Nat) (hk : 1 ≤ k) (a b c d x y : Int) : spec_ApplyMat.f k a b c d x y = some (appR a b c d x y) := by
  obtain ⟨j, rfl⟩ : ∃ j, k = j + 1 := ⟨k - 1, by omega⟩
  exact spec_ApplyMat_eq j a b c d x y
theorem mul_ok {a b c d a' b' c' d' : Int} (h : (mulR a b c d a' b' c' d').2.2.2.2 = 0) : mulR a b c d a' b' c' d' = (a * a' + b * c', a * b' + b * d', c * a' + d * c', c * b' + d * d', 0) := by
  unfold mulR limM mul1 at h ⊢
  split at h
  · split at h
    · rename_i h1 h2
      rw [if_pos h1, if_pos h2]
    · exact absurd h (by decide)
  · exact absurd h (by decide)
theorem app_ok {a b c d x y : Int} (h : (appR a b c d x y).2.2 = 0) : appR a b c d x y = (a * x + b * y, c * x + d * y, 0) := by
  unfold appR lim at h ⊢
  split at h
  · split at h
    · rename_i h1 h2
      rw [if_pos h1, if_pos h2]
    · exact absurd h (by decide)
  · exact absurd h (by decide)
theorem inv_unit {a b c d : Int} (h : matB a b c d = true) : ∀ t : Int, a * d - b * c = t → (t = 1 ∨ t = -1) → mulR a b c d (t * d) (-t * b) (-t * c) (t * a) = (1, 0, 0, 1, 0) := by
  intro t e ht
  have hs := smallB_iff.mp (matB_iff.mp h).1
  have h2 : matB (t * d) (-t * b) (-t * c) (t * a) = true := by
    refine matB_iff.mpr ⟨smallB_iff.mpr ?_, ?_⟩
    · rcases ht with rfl | rfl <;> omega
    · rcases ht with rfl | rfl
      · left; grind
      · right; grind
  have p1 : a * (t * d) + b * (-t * c) = 1 := by rcases ht with rfl | rfl <;> grind
  have p2 : a * (-t * b) + b * (t * a) = 0 := by rcases ht with rfl | rfl <;> grind
  have p3 : c * (t * d) + d * (-t * c) = 0 := by rcases ht with rfl | rfl <;> grind
  have p4 : c * (-t * b) + d * (t * a) = 1 := by rcases ht with rfl | rfl <;> grind
  unfold mulR mul1
  rw [if_pos ⟨h, h2⟩, p1, p2, p3, p4]
  rfl
theorem inv_back {a b c d : Int} (h : (invR a b c d).2.2.2.2 = 0) : mulR a b c d (invR a b c d).1 (invR a b c d).2.1 (invR a b c d).2.2.1 (invR a b c d).2.2.2.1 = (1, 0, 0, 1, 0) := by
  unfold invR at h ⊢
  split at h
  · rename_i hm
    rw [if_pos hm]
    exact inv_unit hm _ rfl (matB_iff.mp hm).2
  · exact absurd h (by decide)
theorem mat_j1 (k : Nat) (hk : 1 ≤ k) (a b c d a' b' c' d' : Int) : laws_FnMatrices.j1 (k + 1) (mulR a b c d a' b' c' d').2.2.2.2 a b c d a' b' c' d' (mulR a b c d a' b' c' d').1 (mulR a b c d a' b' c' d').2.1 (mulR a b c d a' b' c' d').2.2.1 (mulR a b c d a' b' c' d').2.2.2.1 = some true := by
  rw [laws_FnMatrices.j1]
  by_cases h : (mulR a b c d a' b' c' d').2.2.2.2 = 0
  · rw [if_pos h, mul_ok h]
    simp only
    rw [impl_App_k k hk]
    simp only [Option.bind_some]
    rw [impl_App_k k hk]
    simp only [Option.bind_some]
    rw [impl_App_k k hk]
    simp only [Option.bind_some]
    by_cases c1 : (appR a' b' c' d' 3 (-2)).2.2 = 0
    · rw [if_pos c1]
      by_cases c2 : (appR a b c d (appR a' b' c' d' 3 (-2)).1 (appR a' b' c' d' 3 (-2)).2.1).2.2 = 0
      · rw [if_pos c2]
        by_cases c3 : (appR (a * a' + b * c') (a * b' + b * d') (c * a' + d * c') (c * b' + d * d') 3 (-2)).2.2 = 0
        · rw [if_pos c3, app_ok c3, app_ok c2, app_ok c1]
          simp only
          have e1 : a * (a' * 3 + b' * -2) + b * (c' * 3 + d' * -2) = (a * a' + b * c') * 3 + (a * b' + b * d') * -2 := by grind
          have e2 : c * (a' * 3 + b' * -2) + d * (c' * 3 + d' * -2) = (c * a' + d * c') * 3 + (c * b' + d * d') * -2 := by grind
          rw [e1, e2]
          simp
        · rw [if_neg c3]
      · rw [if_neg c2]
    · rw [if_neg c1]
  · rw [if_neg h]
theorem mat_j0 (k : Nat) (hk : 1 ≤ k) (a b c d a' b' c' d' x y z w : Int) : laws_FnMatrices.j0 (k + 2) (mulR a b c d a' b' c' d').2.2.2.2 (invR x y z w).2.2.2.2 false a b c d a' b' c' d' (mulR a b c d a' b' c' d').1 (mulR a b c d a' b' c' d').2.1 (mulR a b c d a' b' c' d').2.2.1 (mulR a b c d a' b' c' d').2.2.2.1 x y z w (invR x y z w).1 (invR x y z w).2.1 (invR x y z w).2.2.1 (invR x y z w).2.2.2.1 = some true := by
  rw [laws_FnMatrices.j0, if_neg (by decide)]
  by_cases h : (invR x y z w).2.2.2.2 = 0
  · rw [if_pos h, impl_Mul_k (k + 1) (by omega), inv_back h]
    simp only [Option.bind_some]
    rw [if_pos trivial, if_neg (by decide)]
    exact mat_j1 k hk a b c d a' b' c' d'
  · rw [if_neg h]
    exact mat_j1 k hk a b c d a' b' c' d'
theorem main (l0 : List Int) (hm0 : l0.length ≤ maxLen) (y0 : l0.length * 1 ≤ 140737488351232) (w0 : ∀ x ∈ l0, (Go.Lit.int .u8 x).wf = true) : ∃ k, laws_FnMatrices.f k l0 = some true := by
  have hb : ∀ x ∈ l0, 0 ≤ x ∧ x < 256 := fun x hx => u8_bd (w0 x hx)
  by_cases hl : (l0.length : Int) ≤ 4096
  · obtain ⟨a, b, c, d, a', b', c', d', e1⟩ := drawMul_eq hl hb (1000 + 2) (by decide)
    obtain ⟨x, y, z, w, e2⟩ := drawInv_eq hl hb (1000 + 2) (by decide)
    obtain ⟨m1, m2, m3, m4, v1, v2, e3⟩ := drawApp_eq hl hb (1000 + 2) (by decide)
    have fin := mat_j0 1000 (by decide) a b c d a' b' c' d' x y z w
    refine ⟨1000 + 2, ?_⟩
    unfold laws_FnMatrices.f
    rw [big_eq, e1, decide_eq_false (by omega)]
    simp only [Option.bind_some, Bool.false_eq_true, if_false]
    rw [impl_Mul_k _ (by decide), spec_Mul_k _ (by decide)]
    simp only [Option.bind_some]
    rw [e2]
    simp only [Option.bind_some]
    rw [impl_InverseMat_eq, spec_InverseMat_eq]
    simp only [Option.bind_some]
    rw [e3]
    simp only [Option.bind_some]
    rw [impl_App_k _ (by decide), spec_App_k _ (by decide)]
    simp only [Option.bind_some]
    generalize appR m1 m2 m3 m4 v1 v2 = A
    rw [impl_IsMat_eq, spec_IsMat_eq]
    simp only [Option.bind_some, bne_self_eq_false, beq_self_eq_true, Bool.not_true, Bool.or_self, Bool.false_eq_true, if_false, if_true]
    exact fin
  · refine ⟨0, ?_⟩
    unfold laws_FnMatrices.f
    rw [big_eq]
    simp only [Option.bind_some]
    rw [if_pos (by rw [decide_eq_true_eq]; omega)]
end Go.Proofs.Ytcjchihnopmplaa.PureFnMatrices

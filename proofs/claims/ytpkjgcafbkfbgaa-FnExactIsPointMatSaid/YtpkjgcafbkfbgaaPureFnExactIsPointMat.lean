/-
The law FnExactIsPointMat, over numbers and lists alone: the printed functions of the program and of the reference answer alike. No condition but that each number is an int64.
-/
import Derived.Test.YtpkjgcafbkfbgaaF28
import GoSem.Claim
namespace Go.Proofs.Ytpkjgcafbkfbgaa.PureFnExactIsPointMat
open Go.RowKit Go.Proofs.Ytpkjgcafbkfbgaa.F Go.Proofs.YtpkjgcafbkfbgaaW.PrintWords Go.Proofs.YtpkjgcafbkfbgaaW.PrintLast Go.Proofs.YtpkjgcafbkfbgaaW.PrintMore
set_option linter.unusedVariables false
set_option linter.unusedSimpArgs false
def Nf (f x y : Int) : Int := x * x + f * x * y + y * y
theorem sq_nn (x : Int) : 0 ≤ x * x := by
  rcases Int.le_total 0 x with h | h
  · exact Int.mul_nonneg h h
  · exact Int.mul_nonneg_of_nonpos_of_nonpos h h
theorem Nf_four (f x y : Int) (hf : f = 0 ∨ f = 1) : 3 * (x * x) ≤ 4 * Nf f x y ∧ 3 * (y * y) ≤ 4 * Nf f x y := by
  unfold Nf
  rcases hf with rfl | rfl
  · have := sq_nn x
    have := sq_nn y
    constructor <;> grind
  · have h1 := sq_nn (x + 2 * y)
    have h2 := sq_nn (2 * x + y)
    constructor <;> grind
theorem sq_bound {x m : Int} (hm : 0 ≤ m) (h : x * x < (m + 1) * (m + 1)) : -m ≤ x ∧ x ≤ m := by
  constructor
  · rcases Int.lt_or_le x (-m) with h' | h'
    · have := Int.mul_le_mul (show m + 1 ≤ -x by omega) (show m + 1 ≤ -x by omega) (by omega) (by omega)
      rw [Int.neg_mul_neg] at this; omega
    · exact h'
  · rcases Int.lt_or_le m x with h' | h'
    · have := Int.mul_le_mul (show m + 1 ≤ x by omega) (show m + 1 ≤ x by omega) (by omega) (by omega)
      omega
    · exact h'
theorem Nf_box {f x y N m : Int} (hf : f = 0 ∨ f = 1) (hm : 0 ≤ m) (h : Nf f x y ≤ N) (hN : 4 * N < 3 * ((m + 1) * (m + 1))) : (-m ≤ x ∧ x ≤ m) ∧ (-m ≤ y ∧ y ≤ m) := by
  obtain ⟨h1, h2⟩ := Nf_four f x y hf
  exact ⟨sq_bound hm (by omega), sq_bound hm (by omega)⟩
def vecB (x y : Int) : Bool := decide (-1000 ≤ x ∧ x ≤ 1000 ∧ -1000 ≤ y ∧ y ≤ 1000)
def smallB (a b c d : Int) : Bool := decide ((-1000 ≤ a ∧ a ≤ 1000 ∧ -1000 ≤ b ∧ b ≤ 1000) ∧ -1000 ≤ c ∧ c ≤ 1000 ∧ -1000 ≤ d ∧ d ≤ 1000)
def matB (a b c d : Int) : Bool := smallB a b c d && (a * d - b * c == 1 || a * d - b * c == -1)
theorem wrap_id {x : Int} (h1 : -9223372036854775808 ≤ x) (h2 : x < 9223372036854775808) : wrap64 x = x := by unfold wrap64; omega
theorem prod_bd {a b A B : Int} (ha : -A ≤ a) (ha' : a ≤ A) (hb : -B ≤ b) (hb' : b ≤ B) (hA : 0 ≤ A) : -(A * B) ≤ a * b ∧ a * b ≤ A * B := by
  have h1 : (a * b).natAbs ≤ A.natAbs * B.natAbs := by rw [Int.natAbs_mul]; exact Nat.mul_le_mul (by omega) (by omega)
  have h2 : (A * B).natAbs = A.natAbs * B.natAbs := Int.natAbs_mul A B
  have h3 : 0 ≤ A * B := Int.mul_nonneg hA (by omega)
  omega
theorem smallB_iff {a b c d : Int} : smallB a b c d = true ↔ ((-1000 ≤ a ∧ a ≤ 1000) ∧ (-1000 ≤ b ∧ b ≤ 1000)) ∧ (-1000 ≤ c ∧ c ≤ 1000) ∧ (-1000 ≤ d ∧ d ≤ 1000) := by unfold smallB; rw [decide_eq_true_iff]; omega
theorem matB_iff {a b c d : Int} : matB a b c d = true ↔ smallB a b c d = true ∧ (a * d - b * c = 1 ∨ a * d - b * c = -1) := by unfold matB; simp
theorem det_wrap {a b c d : Int} (h : smallB a b c d = true) : wrap64 (wrap64 (a * d) - wrap64 (b * c)) = a * d - b * c ∧ (-2000000 ≤ a * d - b * c ∧ a * d - b * c ≤ 2000000) := by
  rw [smallB_iff] at h
  have h1 := prod_bd (A := 1000) (B := 1000) h.1.1.1 h.1.1.2 h.2.2.1 h.2.2.2 (by omega)
  have h2 := prod_bd (A := 1000) (B := 1000) h.1.2.1 h.1.2.2 h.2.1.1 h.2.1.2 (by omega)
  rw [wrap_id (x := a * d) (by omega) (by omega), wrap_id (x := b * c) (by omega) (by omega), wrap_id (by omega) (by omega)]
  omega
def frameB (f : Int) : Bool := decide (f = 0 ∨ f = 1)
theorem spec_l01In_eq (a b c : Int) : spec_l01In.f a b c = some (decide (b ≤ a ∧ a ≤ c)) := by
  unfold spec_l01In.f; split <;> simp <;> omega
theorem impl_within_eq (a b c : Int) : impl_within.f a b c = some (decide (b ≤ a ∧ a ≤ c)) := by
  unfold impl_within.f; split <;> simp <;> omega
theorem spec_IsVec_eq (x y : Int) : spec_IsVec.f x y = some (vecB x y) := by
  unfold spec_IsVec.f vecB; simp only [spec_l01In_eq, Option.bind_some]; split <;> simp_all <;> omega
theorem spec_l02Small_eq (a b c d : Int) : spec_l02Small.f a b c d = some (smallB a b c d) := by
  unfold spec_l02Small.f smallB; simp only [spec_IsVec_eq, Option.bind_some, vecB]; split <;> simp_all <;> omega
theorem spec_IsMat_eq (a b c d : Int) : spec_IsMat.f a b c d = some (matB a b c d) := by
  unfold spec_IsMat.f matB spec_l02Det.f
  simp only [spec_l02Small_eq, Option.bind_some]
  cases h : smallB a b c d with
  | false => simp
  | true => rw [(det_wrap h).1]; simp; split <;> simp_all
theorem spec_IsFrame_eq (f : Int) : spec_IsFrame.f f = some (frameB f) := by
  unfold spec_IsFrame.f frameB
  by_cases h : f = 0
  · simp [h]
  · by_cases h' : f = 1 <;> simp [h, h']
theorem impl_IsFrame_eq (f : Int) : impl_IsFrame.f f = some (frameB f) := by
  unfold impl_IsFrame.f frameB; simp only [impl_within_eq, Option.bind_some]; congr 1; exact decide_eq_decide.mpr (by omega)
theorem spec_l04Norm_eq (f : Int) {x y : Int} (hf : f = 0 ∨ f = 1) (hx : -100000 ≤ x ∧ x ≤ 100000) (hy : -100000 ≤ y ∧ y ≤ 100000) : spec_l04Norm.f f x y = some (Nf f x y) := by
  have h1 := prod_bd hx.1 hx.2 hx.1 hx.2 (by omega)
  have h2 := prod_bd hy.1 hy.2 hy.1 hy.2 (by omega)
  have h3 := prod_bd hx.1 hx.2 hy.1 hy.2 (by omega)
  unfold spec_l04Norm.f Nf
  rw [wrap_id (x := x * x) (by omega) (by omega), wrap_id (x := y * y) (by omega) (by omega), wrap_id (x := x * y) (by omega) (by omega), wrap_id (x := x * x + y * y) (by omega) (by omega)]
  rcases hf with rfl | rfl
  · rw [if_neg (by omega), Int.zero_mul, Int.zero_mul]; congr 1; omega
  · rw [if_pos rfl, wrap_id (by omega) (by omega), Int.one_mul]; congr 1; omega
def pm0 : List S41 := [⟨-1, 0, 0, -1⟩, ⟨-1, 0, 0, 1⟩, ⟨0, -1, -1, 0⟩, ⟨0, -1, 1, 0⟩, ⟨0, 1, -1, 0⟩, ⟨0, 1, 1, 0⟩, ⟨1, 0, 0, -1⟩, ⟨1, 0, 0, 1⟩]
def pm1 : List S41 := [⟨-1, -1, 0, 1⟩, ⟨-1, -1, 1, 0⟩, ⟨-1, 0, 0, -1⟩, ⟨-1, 0, 1, 1⟩, ⟨0, -1, -1, 0⟩, ⟨0, -1, 1, 1⟩, ⟨0, 1, -1, -1⟩, ⟨0, 1, 1, 0⟩, ⟨1, 0, -1, -1⟩, ⟨1, 0, 0, 1⟩, ⟨1, 1, -1, 0⟩, ⟨1, 1, 0, -1⟩]
def pmL (f : Int) : List S41 := if f = 0 then pm0 else pm1
theorem pmL_len (f : Int) : (pmL f).length ≤ 12 := by unfold pmL; split <;> decide
def keepsB (f a b c d : Int) : Bool := Nf f a c == 1 && Nf f b d == 1 && Nf f (a + b) (c + d) == 2 + f
theorem pm_mem (f a b c d : Int) (hf : f = 0 ∨ f = 1) : (smallB a b c d = true ∧ keepsB f a b c d = true) ↔ (⟨a, b, c, d⟩ : S41) ∈ pmL f := by
  constructor
  · rintro ⟨hs, hk⟩
    have hk' := hk
    unfold keepsB at hk'
    simp only [Bool.and_eq_true, beq_iff_eq] at hk'
    obtain ⟨⟨h1, h2⟩, h3⟩ := hk'
    have b1 := Nf_box (m := 1) (N := 1) hf (by omega) (show Nf f a c ≤ 1 by omega) (by omega)
    have b2 := Nf_box (m := 1) (N := 1) hf (by omega) (show Nf f b d ≤ 1 by omega) (by omega)
    have ha : a = -1 ∨ a = 0 ∨ a = 1 := by omega
    have hb : b = -1 ∨ b = 0 ∨ b = 1 := by omega
    have hc : c = -1 ∨ c = 0 ∨ c = 1 := by omega
    have hd : d = -1 ∨ d = 0 ∨ d = 1 := by omega
    clear h1 h2 h3 b1 b2 hs
    rcases hf with rfl | rfl
    · rcases ha with rfl | rfl | rfl <;> rcases hb with rfl | rfl | rfl <;> rcases hc with rfl | rfl | rfl <;> rcases hd with rfl | rfl | rfl <;> first | (exfalso; revert hk; decide) | simp [pmL, pm0]
    · rcases ha with rfl | rfl | rfl <;> rcases hb with rfl | rfl | rfl <;> rcases hc with rfl | rfl | rfl <;> rcases hd with rfl | rfl | rfl <;> first | (exfalso; revert hk; decide) | simp [pmL, pm1]
  · intro h
    rcases hf with rfl | rfl
    · simp only [pmL, pm0, if_true, List.mem_cons, S41.mk.injEq, List.not_mem_nil, or_false] at h
      rcases h with ⟨rfl, rfl, rfl, rfl⟩ | ⟨rfl, rfl, rfl, rfl⟩ | ⟨rfl, rfl, rfl, rfl⟩ | ⟨rfl, rfl, rfl, rfl⟩ | ⟨rfl, rfl, rfl, rfl⟩ | ⟨rfl, rfl, rfl, rfl⟩ | ⟨rfl, rfl, rfl, rfl⟩ | ⟨rfl, rfl, rfl, rfl⟩ <;> decide
    · have e : pmL 1 = pm1 := by unfold pmL; rw [if_neg (by decide)]
      rw [e] at h
      simp only [pm1, List.mem_cons, S41.mk.injEq, List.not_mem_nil, or_false] at h
      rcases h with ⟨rfl, rfl, rfl, rfl⟩ | ⟨rfl, rfl, rfl, rfl⟩ | ⟨rfl, rfl, rfl, rfl⟩ | ⟨rfl, rfl, rfl, rfl⟩ | ⟨rfl, rfl, rfl, rfl⟩ | ⟨rfl, rfl, rfl, rfl⟩ | ⟨rfl, rfl, rfl, rfl⟩ | ⟨rfl, rfl, rfl, rfl⟩ | ⟨rfl, rfl, rfl, rfl⟩ | ⟨rfl, rfl, rfl, rfl⟩ | ⟨rfl, rfl, rfl, rfl⟩ | ⟨rfl, rfl, rfl, rfl⟩ <;> decide
/-- What a point matrix is: its numbers and its determinant. -/
theorem pm_facts {f a b c d : Int} (hf : f = 0 ∨ f = 1) (h : (⟨a, b, c, d⟩ : S41) ∈ pmL f) : (-1 ≤ a ∧ a ≤ 1) ∧ (-1 ≤ b ∧ b ≤ 1) ∧ (-1 ≤ c ∧ c ≤ 1) ∧ (-1 ≤ d ∧ d ≤ 1) ∧ (a * d - b * c = 1 ∨ a * d - b * c = -1) := by
  rcases hf with rfl | rfl
  · simp only [pmL, pm0, if_true, List.mem_cons, S41.mk.injEq, List.not_mem_nil, or_false] at h
    rcases h with ⟨rfl, rfl, rfl, rfl⟩ | ⟨rfl, rfl, rfl, rfl⟩ | ⟨rfl, rfl, rfl, rfl⟩ | ⟨rfl, rfl, rfl, rfl⟩ | ⟨rfl, rfl, rfl, rfl⟩ | ⟨rfl, rfl, rfl, rfl⟩ | ⟨rfl, rfl, rfl, rfl⟩ | ⟨rfl, rfl, rfl, rfl⟩ <;> decide
  · have e : pmL 1 = pm1 := by unfold pmL; rw [if_neg (by decide)]
    rw [e] at h
    simp only [pm1, List.mem_cons, S41.mk.injEq, List.not_mem_nil, or_false] at h
    rcases h with ⟨rfl, rfl, rfl, rfl⟩ | ⟨rfl, rfl, rfl, rfl⟩ | ⟨rfl, rfl, rfl, rfl⟩ | ⟨rfl, rfl, rfl, rfl⟩ | ⟨rfl, rfl, rfl, rfl⟩ | ⟨rfl, rfl, rfl, rfl⟩ | ⟨rfl, rfl, rfl, rfl⟩ | ⟨rfl, rfl, rfl, rfl⟩ | ⟨rfl, rfl, rfl, rfl⟩ | ⟨rfl, rfl, rfl, rfl⟩ | ⟨rfl, rfl, rfl, rfl⟩ | ⟨rfl, rfl, rfl, rfl⟩ <;> decide
/-- Is a matrix a point matrix of a frame? -/
def pmB (f a b c d : Int) : Bool := frameB f && matB a b c d && keepsB f a b c d
theorem pmB_iff {f a b c d : Int} : pmB f a b c d = true ↔ (f = 0 ∨ f = 1) ∧ (⟨a, b, c, d⟩ : S41) ∈ pmL f := by
  unfold pmB
  simp only [Bool.and_eq_true]
  constructor
  · rintro ⟨⟨h1, h2⟩, h3⟩
    have hf : f = 0 ∨ f = 1 := by simpa [frameB] using h1
    exact ⟨hf, (pm_mem f a b c d hf).mp ⟨(matB_iff.mp h2).1, h3⟩⟩
  · rintro ⟨hf, h⟩
    obtain ⟨h1, h2⟩ := (pm_mem f a b c d hf).mpr h
    have h3 := pm_facts hf h
    exact ⟨⟨by simpa [frameB] using hf, matB_iff.mpr ⟨h1, h3.2.2.2.2⟩⟩, h2⟩
set_option maxRecDepth 100000 in
theorem impl_pm0 (k : Nat) : impl_pointMats.f (k + 82) 0 = some pm0 := by kernel_rfl
set_option maxRecDepth 100000 in
theorem impl_pm1 (k : Nat) : impl_pointMats.f (k + 82) 1 = some pm1 := by kernel_rfl
theorem impl_pointMats_eq (k : Nat) (hk : 82 ≤ k) {f : Int} (hf : f = 0 ∨ f = 1) : impl_pointMats.f k f = some (pmL f) := by
  obtain ⟨k, rfl⟩ : ∃ m, k = m + 82 := ⟨k - 82, by omega⟩
  rcases hf with rfl | rfl
  · rw [impl_pm0]; rfl
  · rw [impl_pm1]; rfl
theorem spec_l04Keeps_eq (f : Int) {a b c d : Int} (hf : f = 0 ∨ f = 1) (h : smallB a b c d = true) : spec_l04Keeps.f f a b c d = some (keepsB f a b c d) := by
  rw [smallB_iff] at h
  unfold spec_l04Keeps.f keepsB
  rw [spec_l04Norm_eq f hf (by omega) (by omega), spec_l04Norm_eq f hf (by omega) (by omega)]
  unfold spec_l01Add.f
  simp only [Option.bind_some]
  rw [wrap_id (x := a + b) (by omega) (by omega), wrap_id (x := c + d) (by omega) (by omega), spec_l04Norm_eq f hf (by omega) (by omega), wrap_id (x := 2 + f) (by omega) (by omega)]
  simp only [Option.bind_some]
  by_cases h1 : Nf f a c = 1
  · by_cases h2 : Nf f b d = 1
    · rw [if_pos h1, if_pos h2, h1, h2]; simp
    · rw [if_pos h1, if_neg h2, h1]; simp [h2]
  · rw [if_neg h1]; simp [h1]
theorem spec_IsPointMat_eq (f a b c d : Int) : spec_IsPointMat.f f a b c d = some (pmB f a b c d) := by
  unfold spec_IsPointMat.f pmB
  simp only [spec_IsFrame_eq, spec_IsMat_eq, Option.bind_some]
  cases h1 : frameB f with
  | false => simp
  | true =>
    cases h2 : matB a b c d with
    | false => simp
    | true =>
      rw [spec_l04Keeps_eq f (by simpa [frameB] using h1) (matB_iff.mp h2).1]; simp
theorem rd_mat_at (pre : List S41) (v : S41) (t : List S41) (i : Int) (hi : i = pre.length) : rd_T41 (pre ++ v :: t) i = v := by
  subst hi; unfold rd_T41; simp
theorem mat_index (a b c d : Int) : ∀ (t pre : List S41) (k : Nat) (n : Int), n = ((pre ++ t).length : Int) → (pre ++ t).length ≤ 1000 → t.length < k →
    ∃ j, impl_Mat_88.l0 k (pre ++ t) n (pre.length : Int) a b c d = some j ∧ (0 ≤ j ↔ (⟨a, b, c, d⟩ : S41) ∈ t) := by
  intro t
  induction t with
  | nil =>
    intro pre k n hn hl hk
    obtain ⟨k, rfl⟩ : ∃ m, k = m + 1 := ⟨k - 1, by omega⟩
    refine ⟨-1, ?_, by simp⟩
    rw [impl_Mat_88.l0, if_neg (by rw [hn]; simp)]
  | cons x t ih =>
    intro pre k n hn hl hk
    obtain ⟨k, rfl⟩ : ∃ m, k = m + 1 := ⟨k - 1, by omega⟩
    simp only [List.length_append, List.length_cons] at hn hl hk
    rw [impl_Mat_88.l0, if_pos (by omega), if_pos (by omega), if_pos (by simp; omega), rd_mat_at pre x t _ rfl, wrap_id (x := (pre.length : Int) + 1) (by omega) (by omega)]
    obtain ⟨x0, x1, x2, x3⟩ := x
    by_cases h : a = x0 ∧ b = x1 ∧ c = x2 ∧ d = x3
    · refine ⟨(pre.length : Int), ?_, ?_⟩
      · rw [if_pos (by simpa using h)]
      · obtain ⟨rfl, rfl, rfl, rfl⟩ := h; simp
    · rw [if_neg (by simpa using h)]
      obtain ⟨j, h1, h2⟩ := ih (pre ++ [⟨x0, x1, x2, x3⟩]) k n (by simp; omega) (by simp; omega) (by omega)
      refine ⟨j, ?_, ?_⟩
      · rw [← h1]; simp
      · rw [h2]; simp only [List.mem_cons, S41.mk.injEq]
        constructor
        · intro q; exact Or.inr q
        · rintro (q | q)
          · exact absurd q h
          · exact q
theorem impl_IsPointMat_eq (k : Nat) (hk : 82 ≤ k) (f a b c d : Int) : impl_IsPointMat.f k f a b c d = some (pmB f a b c d) := by
  unfold impl_IsPointMat.f impl_Mat_67.f impl_Mat_88.f
  simp only [impl_IsFrame_eq, Option.bind_some]
  by_cases h1 : frameB f = true
  · have hf : f = 0 ∨ f = 1 := by simpa [frameB] using h1
    have hl := pmL_len f
    rw [if_pos h1, impl_pointMats_eq k hk hf]
    simp only [Option.bind_some]
    obtain ⟨j, h2, h3⟩ := mat_index a b c d (pmL f) [] k ((pmL f).length : Int) rfl (by simp; omega) (by omega)
    simp only [List.nil_append, List.length_nil] at h2
    rw [show ((0 : Nat) : Int) = 0 from rfl] at h2
    rw [h2]
    simp only [Option.bind_some]
    congr 1
    rw [Bool.eq_iff_iff, pmB_iff, decide_eq_true_iff]
    constructor
    · intro q; exact ⟨hf, h3.mp q⟩
    · intro q; exact h3.mpr q.2
  · rw [if_neg h1]
    unfold pmB
    simp [h1]
theorem main (a0 : Int) (a1_0 : Int) (a1_1 : Int) (a1_2 : Int) (a1_3 : Int) (w0 : (Go.Lit.int .i64 a0).wf = true) (w1_0 : (Go.Lit.int .i64 a1_0).wf = true) (w1_1 : (Go.Lit.int .i64 a1_1).wf = true) (w1_2 : (Go.Lit.int .i64 a1_2).wf = true) (w1_3 : (Go.Lit.int .i64 a1_3).wf = true) : ∃ k, laws_FnExactIsPointMat.f k a0 a1_0 a1_1 a1_2 a1_3 = some true := by
  refine ⟨82, ?_⟩
  unfold laws_FnExactIsPointMat.f
  simp only [laws_toMat.f, Option.bind_some]
  rw [spec_IsPointMat_eq, impl_IsPointMat_eq _ (by decide)]
  simp
end Go.Proofs.Ytpkjgcafbkfbgaa.PureFnExactIsPointMat

/-
The law FnExactPointMats, over numbers and lists alone: the printed functions of the program and of the reference answer alike. No condition but that each number is an int64.
-/
import Derived.Test.YtpkjgcafbkfbgabF37
import GoSem.Claim
namespace Go.Proofs.Ytpkjgcafbkfbgab.PureFnExactPointMats
open Go.RowKit Go.Proofs.Ytpkjgcafbkfbgab.F Go.Proofs.YtpkjgcafbkfbgabW.PrintWords Go.Proofs.YtpkjgcafbkfbgabW.PrintLast Go.Proofs.YtpkjgcafbkfbgabW.PrintMore
set_option linter.unusedVariables false
set_option linter.unusedSimpArgs false
theorem wrap_id {x : Int} (h1 : -9223372036854775808 ≤ x) (h2 : x < 9223372036854775808) : wrap64 x = x := by unfold wrap64; omega
def frameB (f : Int) : Bool := decide (f = 0 ∨ f = 1)
theorem impl_within_eq (a b c : Int) : impl_within.f a b c = some (decide (b ≤ a ∧ a ≤ c)) := by
  unfold impl_within.f; split <;> simp <;> omega
theorem spec_IsFrame_eq (f : Int) : spec_IsFrame.f f = some (frameB f) := by
  unfold spec_IsFrame.f frameB
  by_cases h : f = 0
  · simp [h]
  · by_cases h' : f = 1 <;> simp [h, h']
theorem impl_IsFrame_eq (f : Int) : impl_IsFrame.f f = some (frameB f) := by
  unfold impl_IsFrame.f frameB; simp only [impl_within_eq, Option.bind_some]; congr 1; exact decide_eq_decide.mpr (by omega)
theorem rd_Mat_at (pre : List S24) (v : S24) (t : List S24) (i : Int) (hi : i = pre.length) : rd_T24 (pre ++ v :: t) i = v := by
  subst hi; unfold rd_T24; simp
theorem eqMatS_loop (l : List S24) (hl : l.length ≤ 1000000) : ∀ (t pre : List S24) (k : Nat), l = pre ++ t → t.length < k → laws_eqMatS.l0 k l l (pre.length : Int) = some true := by
  intro t
  induction t with
  | nil =>
    intro pre k e hk
    obtain ⟨k, rfl⟩ : ∃ m, k = m + 1 := ⟨k - 1, by omega⟩
    rw [laws_eqMatS.l0, if_neg (by rw [e]; simp)]
  | cons x t ih =>
    intro pre k e hk
    simp only [List.length_cons] at hk
    obtain ⟨k, rfl⟩ : ∃ m, k = m + 1 := ⟨k - 1, by omega⟩
    have hlen : l.length = pre.length + (t.length + 1) := by rw [e]; simp
    have hr : rd_T24 l (pre.length : Int) = x := by rw [e]; exact rd_Mat_at pre x t _ rfl
    have h1 := ih (pre ++ [x]) k (by rw [e]; simp) (by omega)
    simp only [List.length_append, List.length_cons, List.length_nil] at h1
    rw [laws_eqMatS.l0, if_pos (by omega), if_pos (by omega), if_pos (by omega), hr, wrap_id (x := (pre.length : Int) + 1) (by omega) (by omega)]
    unfold laws_eqMat.f
    simp only [if_true, Option.bind_some]
    rw [show (pre.length : Int) + 1 = ((pre.length + (0 + 1) : Nat) : Int) by omega]; exact h1
theorem eqMatS_self (k : Nat) (l : List S24) (hl : l.length ≤ 1000000) (hk : l.length < k) : laws_eqMatS.f k l l = some true := by
  unfold laws_eqMatS.f
  rw [if_pos rfl]; exact eqMatS_loop l hl l [] k rfl hk
def marksMat (m : Int) : List S24 → List S24
  | [] => []
  | _ :: t => ⟨m, m + 1, m + 2, m + 3⟩ :: marksMat (m + 4) t
theorem mark_at_Mat (pre : List S24) (v w : S24) (t : List S24) (i : Int) (hi : i = pre.length) : (pre ++ v :: t).set i.toNat w = pre ++ w :: t := by
  subst hi; simp
theorem rd_Mat_at' (pre : List S24) (v : S24) (t : List S24) (i : Int) (hi : i = pre.length) : rd_T24 (pre ++ v :: t) i = v := by
  subst hi; unfold rd_T24; simp
theorem markMat_loop : ∀ (t pre : List S24) (k : Nat) (m : Int), pre.length + t.length ≤ 1000000 → 0 ≤ m → m ≤ 1 + 4 * pre.length → t.length < k →
    laws_markMatS.l0 k (pre ++ t) m (pre.length : Int) = some (m + 4 * t.length, pre ++ marksMat m t) := by
  intro t
  induction t with
  | nil =>
    intro pre k m hl h0 hm hk
    obtain ⟨k, rfl⟩ : ∃ m, k = m + 1 := ⟨k - 1, by omega⟩
    rw [laws_markMatS.l0, if_neg (by simp)]; simp [marksMat]
  | cons x t ih =>
    intro pre k m hl h0 hm hk
    simp only [List.length_cons] at hk hl
    obtain ⟨k, rfl⟩ : ∃ m, k = m + 1 := ⟨k - 1, by omega⟩
    have h1 := ih (pre ++ [⟨m, m + 1, m + 2, m + 3⟩]) k (m + 4) (by simp; omega) (by omega) (by simp; omega) (by omega)
    rw [laws_markMatS.l0, if_pos (by simp; omega), if_pos (by omega)]
    simp only [rd_Mat_at' pre _ t _ rfl, mark_at_Mat pre _ _ t _ rfl, Option.bind_some]
    rw [wrap_id (x := (pre.length : Int) + 1) (by omega) (by omega), wrap_id (x := m + 1) (by omega) (by omega), wrap_id (x := m + 1 + 1) (by omega) (by omega), show m + 1 + 1 = m + 2 by omega, wrap_id (x := m + 2 + 1) (by omega) (by omega), show m + 2 + 1 = m + 3 by omega, wrap_id (x := m + 3 + 1) (by omega) (by omega), show m + 3 + 1 = m + 4 by omega]
    simp only [List.length_append, List.length_cons, List.length_nil, List.append_assoc, List.cons_append, List.nil_append] at h1
    rw [show (pre.length : Int) + 1 = ((pre.length + (0 + 1) : Nat) : Int) by omega, h1]
    simp only [marksMat, List.length_cons]
    congr 2; omega
theorem heldMat_loop : ∀ (t pre : List S24) (k : Nat) (m : Int), pre.length + t.length ≤ 1000000 → 0 ≤ m → m ≤ 1 + 4 * pre.length → t.length < k →
    laws_heldMatS.l0 k (pre ++ marksMat m t) m (pre.length : Int) = some (m + 4 * t.length) := by
  intro t
  induction t with
  | nil =>
    intro pre k m hl h0 hm hk
    obtain ⟨k, rfl⟩ : ∃ m, k = m + 1 := ⟨k - 1, by omega⟩
    rw [laws_heldMatS.l0, if_neg (by simp [marksMat])]; simp
  | cons x t ih =>
    intro pre k m hl h0 hm hk
    simp only [List.length_cons] at hk hl
    obtain ⟨k, rfl⟩ : ∃ m, k = m + 1 := ⟨k - 1, by omega⟩
    have h1 := ih (pre ++ [⟨m, m + 1, m + 2, m + 3⟩]) k (m + 4) (by simp; omega) (by omega) (by simp; omega) (by omega)
    rw [laws_heldMatS.l0, if_pos (by simp [marksMat]; omega), if_pos (by omega)]
    simp only [marksMat, rd_Mat_at' pre _ _ _ rfl]
    rw [wrap_id (x := (pre.length : Int) + 1) (by omega) (by omega), wrap_id (x := m + 1) (by omega) (by omega), wrap_id (x := m + 1 + 1) (by omega) (by omega), show m + 1 + 1 = m + 2 by omega, wrap_id (x := m + 2 + 1) (by omega) (by omega), show m + 2 + 1 = m + 3 by omega, wrap_id (x := m + 3 + 1) (by omega) (by omega), show m + 3 + 1 = m + 4 by omega]
    simp only [if_true]
    simp only [List.length_append, List.length_cons, List.length_nil, List.append_assoc, List.cons_append, List.nil_append] at h1
    rw [show (pre.length : Int) + 1 = ((pre.length + (0 + 1) : Nat) : Int) by omega, h1]
    simp only [List.length_cons]
    congr 1; omega
theorem markedMat (k : Nat) (l : List S24) (hl : l.length ≤ 1000000) (hk : l.length < k) : laws_markMatS.f k l 1 = some (1 + 4 * (l.length : Int), marksMat 1 l) ∧ laws_heldMatS.f k (marksMat 1 l) 1 = some (1 + 4 * (l.length : Int)) :=
  ⟨markMat_loop l [] k 1 (by simpa using hl) (by omega) (by simp) hk, heldMat_loop l [] k 1 (by simpa using hl) (by omega) (by simp) hk⟩
def pm0 : List S24 := [⟨-1, 0, 0, -1⟩, ⟨-1, 0, 0, 1⟩, ⟨0, -1, -1, 0⟩, ⟨0, -1, 1, 0⟩, ⟨0, 1, -1, 0⟩, ⟨0, 1, 1, 0⟩, ⟨1, 0, 0, -1⟩, ⟨1, 0, 0, 1⟩]
def pm1 : List S24 := [⟨-1, -1, 0, 1⟩, ⟨-1, -1, 1, 0⟩, ⟨-1, 0, 0, -1⟩, ⟨-1, 0, 1, 1⟩, ⟨0, -1, -1, 0⟩, ⟨0, -1, 1, 1⟩, ⟨0, 1, -1, -1⟩, ⟨0, 1, 1, 0⟩, ⟨1, 0, -1, -1⟩, ⟨1, 0, 0, 1⟩, ⟨1, 1, -1, 0⟩, ⟨1, 1, 0, -1⟩]
def pmL (f : Int) : List S24 := if f = 0 then pm0 else pm1
theorem pmL_len (f : Int) : (pmL f).length ≤ 12 := by unfold pmL; split <;> decide
def pmS (f : Int) : List S24 × Int := if frameB f = true then (pmL f, 0) else ([], 1)
theorem pmS_len (f : Int) : (pmS f).1.length ≤ 5000 := by
  unfold pmS
  split
  · have := pmL_len f; simp only; omega
  · simp
set_option maxRecDepth 100000 in
theorem impl_pm0 (k : Nat) : impl_pointMats.f (k + 82) 0 = some pm0 := by kernel_rfl
set_option maxRecDepth 100000 in
theorem impl_pm1 (k : Nat) : impl_pointMats.f (k + 82) 1 = some pm1 := by kernel_rfl
theorem impl_pointMats_eq (k : Nat) (hk : 82 ≤ k) {f : Int} (hf : f = 0 ∨ f = 1) : impl_pointMats.f k f = some (pmL f) := by
  obtain ⟨k, rfl⟩ : ∃ m, k = m + 82 := ⟨k - 82, by omega⟩
  rcases hf with rfl | rfl
  · rw [impl_pm0]; rfl
  · rw [impl_pm1]; rfl
set_option maxRecDepth 100000 in
theorem spec_pm0 (k : Nat) : spec_l04Mats.f (k + 82) 0 = some pm0 := by kernel_rfl
set_option maxRecDepth 100000 in
theorem spec_pm1 (k : Nat) : spec_l04Mats.f (k + 82) 1 = some pm1 := by kernel_rfl
theorem spec_l04Mats_eq (k : Nat) (hk : 82 ≤ k) {f : Int} (hf : f = 0 ∨ f = 1) : spec_l04Mats.f k f = some (pmL f) := by
  obtain ⟨k, rfl⟩ : ∃ m, k = m + 82 := ⟨k - 82, by omega⟩
  rcases hf with rfl | rfl
  · rw [spec_pm0]; rfl
  · rw [spec_pm1]; rfl
theorem spec_PointMats_eq (k : Nat) (hk : 82 ≤ k) (f : Int) : spec_PointMats.f k f = some (pmS f) := by
  unfold spec_PointMats.f pmS
  simp only [spec_IsFrame_eq, Option.bind_some]
  split
  · rename_i h; rw [spec_l04Mats_eq k hk (by simpa [frameB] using h)]; rfl
  · rfl
theorem impl_PointMats_eq (k : Nat) (hk : 82 ≤ k) (f : Int) : impl_PointMats.f k f = some (pmS f) := by
  unfold impl_PointMats.f pmS
  simp only [impl_IsFrame_eq, Option.bind_some]
  split
  · rename_i h; rw [impl_pointMats_eq k hk (by simpa [frameB] using h)]; rfl
  · rfl
theorem main (a0 : Int) (w0 : (Go.Lit.int .i64 a0).wf = true) : ∃ k, laws_FnExactPointMats.f k a0 = some true := by
  have hS := fun k (hk : 5001 ≤ k) => spec_PointMats_eq k (by omega) a0
  have hI := fun k (hk : 5001 ≤ k) => impl_PointMats_eq k (by omega) a0
  have hl := pmS_len a0
  generalize pmS a0 = R at hS hI hl
  obtain ⟨l, z⟩ := R
  simp only at hl
  refine ⟨5001 + 1 + 1, ?_⟩
  have hM := markedMat 5001 l (by omega) (by omega)
  have hM' := markedMat (5001 + 1) l (by omega) (by omega)
  unfold laws_FnExactPointMats.f
  try simp only [Option.bind_some]
  rw [hS _ (by decide), hI _ (by decide)]
  simp only [Option.bind_some]
  rw [eqMatS_self _ l (by omega) (by omega)]
  simp only [Option.bind_some, if_true, bne_self_eq_false]
  rw [laws_FnExactPointMats.j0, if_neg (by decide), hM'.1]
  simp only [Option.bind_some]
  rw [hM'.2]
  simp only [Option.bind_some]
  rw [if_neg (by omega)]
  simp only [if_true, eq_self, Option.bind_some]
  rw [hI _ (by decide)]
  simp only [Option.bind_some]
  rw [eqMatS_self _ l (by omega) (by omega)]
  simp only [Option.bind_some, if_true, bne_self_eq_false]
  rw [laws_FnExactPointMats.j1, if_neg (by decide), hM.2]
  simp only [Option.bind_some]
  rw [if_neg (by omega)]
  simp only [if_true, eq_self]
end Go.Proofs.Ytpkjgcafbkfbgab.PureFnExactPointMats

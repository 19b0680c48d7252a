/-
The law FnExactCellsOf, over numbers and lists alone: the printed functions of the program and of the reference answer alike. No condition but that each number is an int64.
-/
import Derived.Test.YtpkjgcafbkfbgabF24
import Derived.Test.YtpkjgcafbkfbgabSem
import Derived.Test.YtpkjgcafbkfbgabMth
namespace Go.Proofs.Ytpkjgcafbkfbgab.PureFnExactCellsOf
open Go.RowKit Go.Proofs.Ytpkjgcafbkfbgab.F Go.Proofs.YtpkjgcafbkfbgabW.PrintWords Go.Proofs.YtpkjgcafbkfbgabW.PrintLast Go.Proofs.YtpkjgcafbkfbgabW.PrintMore Go.Proofs.Ytpkjgcafbkfbgab.Sem Go.Proofs.Ytpkjgcafbkfbgab.Mth
set_option linter.unusedVariables false
set_option linter.unusedSimpArgs false
theorem spec_l01In_eq (a b c : Int) : spec_l01In.f a b c = some (decide (b ≤ a ∧ a ≤ c)) := by
  unfold spec_l01In.f; split <;> simp <;> omega
theorem impl_within_eq (a b c : Int) : impl_within.f a b c = some (decide (b ≤ a ∧ a ≤ c)) := by
  unfold impl_within.f; split <;> simp <;> omega
theorem spec_IsLattice_eq (a b c : Int) (h1 : -9223372036854775808 ≤ a) (h2 : a < 9223372036854775808) : spec_IsLattice.f a b c = some (latB a b c) := by
  unfold spec_IsLattice.f latB; simp only [spec_l01In_eq, Option.bind_some]
  by_cases ha : 1 ≤ a ∧ a ≤ 64
  · by_cases hc : 1 ≤ c ∧ c ≤ 64
    · rw [wrap_id (x := a - 1) (by omega) (by omega), wrap_mul (A := 64) (B := 64) (by omega) (by omega) (by omega) (by omega) (by omega) (by omega)]
      simp only [ha, hc, and_self, decide_true, if_true]
      by_cases hb : 0 ≤ b ∧ b ≤ a - 1 <;> simp [hb]
    · simp [ha]; split <;> simp_all <;> omega
  · simp; split <;> simp_all <;> omega
theorem impl_IsLattice_eq (a b c : Int) (h1 : -9223372036854775808 ≤ a) (h2 : a < 9223372036854775808) : impl_IsLattice.f a b c = some (latB a b c) := by
  unfold impl_IsLattice.f latB impl_Lattice_index.f; simp only [impl_within_eq, Option.bind_some]
  by_cases ha : 1 ≤ a ∧ a ≤ 64
  · by_cases hc : 1 ≤ c ∧ c ≤ 64
    · rw [wrap_id (x := a - 1) (by omega) (by omega), wrap_mul (A := 64) (B := 64) (by omega) (by omega) (by omega) (by omega) (by omega) (by omega)]
      simp only [ha, hc, and_self, decide_true, if_true]
      by_cases hb : 0 ≤ b ∧ b ≤ a - 1 <;> simp [hb]
    · simp [ha]; split <;> simp_all <;> omega
  · simp; split <;> simp_all <;> omega
theorem rd_Vec_at (pre : List S41) (v : S41) (t : List S41) (i : Int) (hi : i = pre.length) : rd_T41 (pre ++ v :: t) i = v := by
  subst hi; unfold rd_T41; simp
theorem eqVecS_loop (l : List S41) (hl : l.length ≤ 1000000) : ∀ (t pre : List S41) (k : Nat), l = pre ++ t → t.length < k → laws_eqVecS.l0 k l l (pre.length : Int) = some true := by
  intro t
  induction t with
  | nil =>
    intro pre k e hk
    obtain ⟨k, rfl⟩ : ∃ m, k = m + 1 := ⟨k - 1, by omega⟩
    rw [laws_eqVecS.l0, if_neg (by rw [e]; simp)]
  | cons x t ih =>
    intro pre k e hk
    simp only [List.length_cons] at hk
    obtain ⟨k, rfl⟩ : ∃ m, k = m + 1 := ⟨k - 1, by omega⟩
    have hlen : l.length = pre.length + (t.length + 1) := by rw [e]; simp
    have hr : rd_T41 l (pre.length : Int) = x := by rw [e]; exact rd_Vec_at pre x t _ rfl
    have h1 := ih (pre ++ [x]) k (by rw [e]; simp) (by omega)
    simp only [List.length_append, List.length_cons, List.length_nil] at h1
    rw [laws_eqVecS.l0, if_pos (by omega), if_pos (by omega), if_pos (by omega), hr, wrap_id (x := (pre.length : Int) + 1) (by omega) (by omega)]
    unfold laws_eqVec.f
    simp only [if_true, Option.bind_some]
    rw [show (pre.length : Int) + 1 = ((pre.length + (0 + 1) : Nat) : Int) by omega]; exact h1
theorem eqVecS_self (k : Nat) (l : List S41) (hl : l.length ≤ 1000000) (hk : l.length < k) : laws_eqVecS.f k l l = some true := by
  unfold laws_eqVecS.f
  rw [if_pos rfl]; exact eqVecS_loop l hl l [] k rfl hk
def marksVec (m : Int) : List S41 → List S41
  | [] => []
  | _ :: t => ⟨m, m + 1⟩ :: marksVec (m + 2) t
theorem mark_at_Vec (pre : List S41) (v w : S41) (t : List S41) (i : Int) (hi : i = pre.length) : (pre ++ v :: t).set i.toNat w = pre ++ w :: t := by
  subst hi; simp
theorem rd_Vec_at' (pre : List S41) (v : S41) (t : List S41) (i : Int) (hi : i = pre.length) : rd_T41 (pre ++ v :: t) i = v := by
  subst hi; unfold rd_T41; simp
theorem markVec_loop : ∀ (t pre : List S41) (k : Nat) (m : Int), pre.length + t.length ≤ 1000000 → 0 ≤ m → m ≤ 1 + 2 * pre.length → t.length < k →
    laws_markVecS.l0 k (pre ++ t) m (pre.length : Int) = some (m + 2 * t.length, pre ++ marksVec m t) := by
  intro t
  induction t with
  | nil =>
    intro pre k m hl h0 hm hk
    obtain ⟨k, rfl⟩ : ∃ m, k = m + 1 := ⟨k - 1, by omega⟩
    rw [laws_markVecS.l0, if_neg (by simp)]; simp [marksVec]
  | cons x t ih =>
    intro pre k m hl h0 hm hk
    simp only [List.length_cons] at hk hl
    obtain ⟨k, rfl⟩ : ∃ m, k = m + 1 := ⟨k - 1, by omega⟩
    have h1 := ih (pre ++ [⟨m, m + 1⟩]) k (m + 2) (by simp; omega) (by omega) (by simp; omega) (by omega)
    rw [laws_markVecS.l0, if_pos (by simp; omega), if_pos (by omega)]
    simp only [rd_Vec_at' pre _ t _ rfl, mark_at_Vec pre _ _ t _ rfl, Option.bind_some]
    rw [wrap_id (x := (pre.length : Int) + 1) (by omega) (by omega), wrap_id (x := m + 1) (by omega) (by omega), wrap_id (x := m + 1 + 1) (by omega) (by omega), show m + 1 + 1 = m + 2 by omega]
    simp only [List.length_append, List.length_cons, List.length_nil, List.append_assoc, List.cons_append, List.nil_append] at h1
    rw [show (pre.length : Int) + 1 = ((pre.length + (0 + 1) : Nat) : Int) by omega, h1]
    simp only [marksVec, List.length_cons]
    congr 2; omega
theorem heldVec_loop : ∀ (t pre : List S41) (k : Nat) (m : Int), pre.length + t.length ≤ 1000000 → 0 ≤ m → m ≤ 1 + 2 * pre.length → t.length < k →
    laws_heldVecS.l0 k (pre ++ marksVec m t) m (pre.length : Int) = some (m + 2 * t.length) := by
  intro t
  induction t with
  | nil =>
    intro pre k m hl h0 hm hk
    obtain ⟨k, rfl⟩ : ∃ m, k = m + 1 := ⟨k - 1, by omega⟩
    rw [laws_heldVecS.l0, if_neg (by simp [marksVec])]; simp
  | cons x t ih =>
    intro pre k m hl h0 hm hk
    simp only [List.length_cons] at hk hl
    obtain ⟨k, rfl⟩ : ∃ m, k = m + 1 := ⟨k - 1, by omega⟩
    have h1 := ih (pre ++ [⟨m, m + 1⟩]) k (m + 2) (by simp; omega) (by omega) (by simp; omega) (by omega)
    rw [laws_heldVecS.l0, if_pos (by simp [marksVec]; omega), if_pos (by omega)]
    simp only [marksVec, rd_Vec_at' pre _ _ _ rfl]
    rw [wrap_id (x := (pre.length : Int) + 1) (by omega) (by omega), wrap_id (x := m + 1) (by omega) (by omega), wrap_id (x := m + 1 + 1) (by omega) (by omega), show m + 1 + 1 = m + 2 by omega]
    simp only [if_true]
    simp only [List.length_append, List.length_cons, List.length_nil, List.append_assoc, List.cons_append, List.nil_append] at h1
    rw [show (pre.length : Int) + 1 = ((pre.length + (0 + 1) : Nat) : Int) by omega, h1]
    simp only [List.length_cons]
    congr 1; omega
theorem markedVec (k : Nat) (l : List S41) (hl : l.length ≤ 1000000) (hk : l.length < k) : laws_markVecS.f k l 1 = some (1 + 2 * (l.length : Int), marksVec 1 l) ∧ laws_heldVecS.f k (marksVec 1 l) 1 = some (1 + 2 * (l.length : Int)) :=
  ⟨markVec_loop l [] k 1 (by simpa using hl) (by omega) (by simp) hk, heldVec_loop l [] k 1 (by simpa using hl) (by omega) (by simp) hk⟩
/-- A vector as the printed lists hold it. -/
def mkSV (v : Int × Int) : S41 := ⟨v.1, v.2⟩
theorem spec_cells_row (k : Nat) (a b c x : Int) (hc : c ≤ 64) : ∀ (d : Nat) (y : Int) (out : List S41), 0 ≤ y → y + d = c → out.length + d ≤ 1000000 →
    spec_l03Cells.l1 (k + d + 1) out x y a b c = spec_l03Cells.l0 k (out ++ (rowF x y d).map mkSV) (wrap64 (x + 1)) a b c := by
  intro d
  induction d with
  | zero => intro y out h0 hy hl; rw [spec_l03Cells.l1, if_neg (by omega)]; simp [rowF]
  | succ d ih =>
    intro y out h0 hy hl
    rw [show k + (d + 1) + 1 = (k + d + 1) + 1 by omega, spec_l03Cells.l1, if_pos (by omega), if_pos (by omega), wrap_id (x := y + 1) (by omega) (by omega), ih (y + 1) _ (by omega) (by omega) (by simp; omega)]
    simp [rowF, mkSV]
theorem spec_cells_box (k : Nat) (a b c : Int) (hc : 0 ≤ c ∧ c ≤ 64) (ha : a ≤ 64) : ∀ (d : Nat) (x : Int) (out : List S41), 0 ≤ x → x + d = a → out.length + d * 64 ≤ 100000 →
    spec_l03Cells.l0 (k + d * (c.toNat + 2) + 1) out x a b c = some (out ++ (boxF 0 c.toNat x d).map mkSV) := by
  intro d
  induction d with
  | zero => intro x out h0 hx hl; rw [spec_l03Cells.l0, if_neg (by omega)]; simp [boxF]
  | succ d ih =>
    intro x out h0 hx hl
    have e : k + (d + 1) * (c.toNat + 2) + 1 = ((k + d * (c.toNat + 2) + 1) + c.toNat + 1) + 1 := by rw [Nat.add_mul]; omega
    rw [e, spec_l03Cells.l0, if_pos (by omega), spec_cells_row _ a b c x (by omega) c.toNat 0 out (by omega) (by omega) (by omega), wrap_id (x := x + 1) (by omega) (by omega), ih (x + 1) _ (by omega) (by omega) (by simp [rowF_len]; omega)]
    simp [boxF]
theorem spec_l03Cells_eq (k : Nat) (hk : 5000 ≤ k) {a b c : Int} (ha : 1 ≤ a ∧ a ≤ 64) (hc : 1 ≤ c ∧ c ≤ 64) : spec_l03Cells.f k a b c = some ((boxF 0 c.toNat 0 a.toNat).map mkSV) := by
  unfold spec_l03Cells.f
  have hm : a.toNat * (c.toNat + 2) ≤ 64 * 66 := Nat.mul_le_mul (by omega) (by omega)
  obtain ⟨j, rfl⟩ : ∃ j, k = j + a.toNat * (c.toNat + 2) + 1 := ⟨k - a.toNat * (c.toNat + 2) - 1, by omega⟩
  rw [spec_cells_box j a b c (by omega) (by omega) a.toNat 0 [] (by omega) (by omega) (by simp; omega)]; simp
theorem impl_cells_row (k : Nat) (a b c x n : Int) (hc : c ≤ 64) : ∀ (d : Nat) (y : Int) (out : List S41), 0 ≤ y → y + d = c → out.length + d ≤ 1000000 →
    impl_Lattice_cells.l1 (k + d + 1) out x n x c y a b c = impl_Lattice_cells.l0 k (out ++ (rowF x y d).map mkSV) n (wrap64 (x + 1)) a b c := by
  intro d
  induction d with
  | zero => intro y out h0 hy hl; rw [impl_Lattice_cells.l1, if_neg (by omega)]; simp [rowF]
  | succ d ih =>
    intro y out h0 hy hl
    rw [show k + (d + 1) + 1 = (k + d + 1) + 1 by omega, impl_Lattice_cells.l1, if_pos (by omega), if_pos (by omega), wrap_id (x := y + 1) (by omega) (by omega), ih (y + 1) _ (by omega) (by omega) (by simp; omega)]
    simp [rowF, mkSV]
theorem impl_cells_box (k : Nat) (a b c : Int) (hc : 0 ≤ c ∧ c ≤ 64) (ha : a ≤ 64) : ∀ (d : Nat) (x : Int) (out : List S41), 0 ≤ x → x + d = a → out.length + d * 64 ≤ 100000 →
    impl_Lattice_cells.l0 (k + d * (c.toNat + 2) + 1) out a x a b c = some (out ++ (boxF 0 c.toNat x d).map mkSV) := by
  intro d
  induction d with
  | zero => intro x out h0 hx hl; rw [impl_Lattice_cells.l0, if_neg (by omega)]; simp [boxF]
  | succ d ih =>
    intro x out h0 hx hl
    have e : k + (d + 1) * (c.toNat + 2) + 1 = ((k + d * (c.toNat + 2) + 1) + c.toNat + 1) + 1 := by rw [Nat.add_mul]; omega
    rw [e, impl_Lattice_cells.l0, if_pos (by omega), impl_cells_row _ a b c x a (by omega) c.toNat 0 out (by omega) (by omega) (by omega), wrap_id (x := x + 1) (by omega) (by omega), ih (x + 1) _ (by omega) (by omega) (by simp [rowF_len]; omega)]
    simp [boxF]
theorem impl_Lattice_cells_eq (k : Nat) (hk : 5000 ≤ k) {a b c : Int} (ha : 1 ≤ a ∧ a ≤ 64) (hc : 1 ≤ c ∧ c ≤ 64) : impl_Lattice_cells.f k a b c = some ((boxF 0 c.toNat 0 a.toNat).map mkSV) := by
  unfold impl_Lattice_cells.f
  have hm : a.toNat * (c.toNat + 2) ≤ 64 * 66 := Nat.mul_le_mul (by omega) (by omega)
  obtain ⟨j, rfl⟩ : ∃ j, k = j + a.toNat * (c.toNat + 2) + 1 := ⟨k - a.toNat * (c.toNat + 2) - 1, by omega⟩
  rw [impl_cells_box j a b c (by omega) (by omega) a.toNat 0 [] (by omega) (by omega) (by simp; omega)]; simp
def cellsS (a b c : Int) : List S41 × Int := if latB a b c = true then ((boxF 0 c.toNat 0 a.toNat).map mkSV, 0) else ([], 1)
theorem cellsS_len (a b c : Int) : (cellsS a b c).1.length ≤ 5000 := by
  unfold cellsS
  split
  · rename_i h
    have hl := latB_iff.mp h
    have hm : a.toNat * c.toNat ≤ 64 * 64 := Nat.mul_le_mul (by omega) (by omega)
    simp [boxF_len]; omega
  · simp
theorem spec_CellsOf_eq (k : Nat) (hk : 5000 ≤ k) (a b c : Int) (h1 : -9223372036854775808 ≤ a) (h2 : a < 9223372036854775808) :
    spec_CellsOf.f k a b c = some (cellsS a b c) := by
  unfold spec_CellsOf.f cellsS
  simp only [spec_IsLattice_eq a b c h1 h2, Option.bind_some]
  split
  · rename_i h
    have hl := latB_iff.mp h
    rw [spec_l03Cells_eq k hk hl.1 hl.2.1]; rfl
  · rfl
theorem impl_CellsOf_eq (k : Nat) (hk : 5000 ≤ k) (a b c : Int) (h1 : -9223372036854775808 ≤ a) (h2 : a < 9223372036854775808) :
    impl_CellsOf.f k a b c = some (cellsS a b c) := by
  unfold impl_CellsOf.f cellsS
  simp only [impl_IsLattice_eq a b c h1 h2, Option.bind_some]
  split
  · rename_i h
    have hl := latB_iff.mp h
    rw [impl_Lattice_cells_eq k hk hl.1 hl.2.1]; rfl
  · rfl
def rowL (a b q : Int) : Nat → List S54
  | 0 => []
  | d + 1 => ⟨a, b, q⟩ :: rowL a (b + 1) q d
theorem rowL_len (a q : Int) : ∀ (d : Nat) (b : Int), (rowL a b q d).length = d := by
  intro d
  induction d with
  | zero => intro b; rfl
  | succ d ih => intro b; simp [rowL, ih]
def subL (n a : Int) : Nat → List S54
  | 0 => []
  | d + 1 => (if n % a = 0 then rowL a 0 (n / a) a.toNat else []) ++ subL n (a + 1) d
theorem subL_len (n : Int) : ∀ (d : Nat) (a : Int), 0 ≤ a → (subL n a d).length ≤ d * (a.toNat + d) := by
  intro d
  induction d with
  | zero => intro a _; simp [subL]
  | succ d ih =>
    intro a ha
    have h1 := ih (a + 1) (by omega)
    have e : (d + 1) * (a.toNat + (d + 1)) = d * ((a + 1).toNat + d) + (a.toNat + (d + 1)) := by
      rw [show (a + 1).toNat = a.toNat + 1 by omega, Nat.add_mul]; simp; rw [show a.toNat + 1 + d = a.toNat + (d + 1) by omega]
    rw [e]
    simp only [subL, List.length_append]
    split
    · rw [rowL_len]; omega
    · simp only [List.length_nil]; omega
def sublS (n : Int) : List S54 × Int := if 1 ≤ n ∧ n ≤ 64 then (subL n 1 n.toNat, 0) else ([], 2)
theorem sublS_len (n : Int) : (sublS n).1.length ≤ 5000 := by
  unfold sublS
  split
  · rename_i h
    have := subL_len n n.toNat 1 (by omega)
    have hm : n.toNat * (Int.toNat 1 + n.toNat) ≤ 64 * 65 := Nat.mul_le_mul (by omega) (by omega)
    simp only; omega
  · simp
theorem main (a0_0 : Int) (a0_1 : Int) (a0_2 : Int) (w0_0 : (Go.Lit.int .i64 a0_0).wf = true) (w0_1 : (Go.Lit.int .i64 a0_1).wf = true) (w0_2 : (Go.Lit.int .i64 a0_2).wf = true) : ∃ k, laws_FnExactCellsOf.f k a0_0 a0_1 a0_2 = some true := by
  have hS := fun k (hk : 5001 ≤ k) => spec_CellsOf_eq k (by omega) a0_0 a0_1 a0_2 (wf_bd w0_0).1 (wf_bd w0_0).2
  have hI := fun k (hk : 5001 ≤ k) => impl_CellsOf_eq k (by omega) a0_0 a0_1 a0_2 (wf_bd w0_0).1 (wf_bd w0_0).2
  have hl := cellsS_len a0_0 a0_1 a0_2
  generalize cellsS a0_0 a0_1 a0_2 = R at hS hI hl
  obtain ⟨l, z⟩ := R
  simp only at hl
  refine ⟨5001 + 1 + 1, ?_⟩
  have hM := markedVec 5001 l (by omega) (by omega)
  have hM' := markedVec (5001 + 1) l (by omega) (by omega)
  unfold laws_FnExactCellsOf.f
  try simp only [laws_toLattice.f, Option.bind_some]
  rw [hS _ (by decide), hI _ (by decide)]
  simp only [Option.bind_some]
  rw [eqVecS_self _ l (by omega) (by omega)]
  simp only [Option.bind_some, if_true, bne_self_eq_false]
  rw [laws_FnExactCellsOf.j0, if_neg (by decide), hM'.1]
  simp only [Option.bind_some]
  rw [hM'.2]
  simp only [Option.bind_some]
  rw [if_neg (by omega)]
  simp only [if_true, eq_self, laws_toLattice.f, Option.bind_some]
  rw [hI _ (by decide)]
  simp only [Option.bind_some]
  rw [eqVecS_self _ l (by omega) (by omega)]
  simp only [Option.bind_some, if_true, bne_self_eq_false]
  rw [laws_FnExactCellsOf.j1, if_neg (by decide), hM.2]
  simp only [Option.bind_some]
  rw [if_neg (by omega)]
  simp only [if_true, eq_self]
end Go.Proofs.Ytpkjgcafbkfbgab.PureFnExactCellsOf

/-
The law FnExactSublatticesOf, over numbers and lists alone: the printed functions of the program and of the reference answer alike. No condition but that each number is an int64.
-/
import Derived.Test.YtpkjgcafbkfbgabF12
import Derived.Test.YtpkjgcafbkfbgabSem
import Derived.Test.YtpkjgcafbkfbgabMth
namespace Go.Proofs.Ytpkjgcafbkfbgab.PureFnExactSublatticesOf
open Go.RowKit Go.Proofs.Ytpkjgcafbkfbgab.F Go.Proofs.YtpkjgcafbkfbgabW.PrintWords Go.Proofs.YtpkjgcafbkfbgabW.PrintLast Go.Proofs.YtpkjgcafbkfbgabW.PrintMore Go.Proofs.Ytpkjgcafbkfbgab.Sem Go.Proofs.Ytpkjgcafbkfbgab.Mth
set_option linter.unusedVariables false
set_option linter.unusedSimpArgs false
theorem spec_l01In_eq (a b c : Int) : spec_l01In.f a b c = some (decide (b ≤ a ∧ a ≤ c)) := by
  unfold spec_l01In.f; split <;> simp <;> omega
theorem impl_within_eq (a b c : Int) : impl_within.f a b c = some (decide (b ≤ a ∧ a ≤ c)) := by
  unfold impl_within.f; split <;> simp <;> omega
theorem rd_Lattice_at (pre : List S54) (v : S54) (t : List S54) (i : Int) (hi : i = pre.length) : rd_T54 (pre ++ v :: t) i = v := by
  subst hi; unfold rd_T54; simp
theorem eqLatticeS_loop (l : List S54) (hl : l.length ≤ 1000000) : ∀ (t pre : List S54) (k : Nat), l = pre ++ t → t.length < k → laws_eqLatticeS.l0 k l l (pre.length : Int) = some true := by
  intro t
  induction t with
  | nil =>
    intro pre k e hk
    obtain ⟨k, rfl⟩ : ∃ m, k = m + 1 := ⟨k - 1, by omega⟩
    rw [laws_eqLatticeS.l0, if_neg (by rw [e]; simp)]
  | cons x t ih =>
    intro pre k e hk
    simp only [List.length_cons] at hk
    obtain ⟨k, rfl⟩ : ∃ m, k = m + 1 := ⟨k - 1, by omega⟩
    have hlen : l.length = pre.length + (t.length + 1) := by rw [e]; simp
    have hr : rd_T54 l (pre.length : Int) = x := by rw [e]; exact rd_Lattice_at pre x t _ rfl
    have h1 := ih (pre ++ [x]) k (by rw [e]; simp) (by omega)
    simp only [List.length_append, List.length_cons, List.length_nil] at h1
    rw [laws_eqLatticeS.l0, if_pos (by omega), if_pos (by omega), if_pos (by omega), hr, wrap_id (x := (pre.length : Int) + 1) (by omega) (by omega)]
    unfold laws_eqLattice.f
    simp only [if_true, Option.bind_some]
    rw [show (pre.length : Int) + 1 = ((pre.length + (0 + 1) : Nat) : Int) by omega]; exact h1
theorem eqLatticeS_self (k : Nat) (l : List S54) (hl : l.length ≤ 1000000) (hk : l.length < k) : laws_eqLatticeS.f k l l = some true := by
  unfold laws_eqLatticeS.f
  rw [if_pos rfl]; exact eqLatticeS_loop l hl l [] k rfl hk
def marksLattice (m : Int) : List S54 → List S54
  | [] => []
  | _ :: t => ⟨m, m + 1, m + 2⟩ :: marksLattice (m + 3) t
theorem mark_at_Lattice (pre : List S54) (v w : S54) (t : List S54) (i : Int) (hi : i = pre.length) : (pre ++ v :: t).set i.toNat w = pre ++ w :: t := by
  subst hi; simp
theorem rd_Lattice_at' (pre : List S54) (v : S54) (t : List S54) (i : Int) (hi : i = pre.length) : rd_T54 (pre ++ v :: t) i = v := by
  subst hi; unfold rd_T54; simp
theorem markLattice_loop : ∀ (t pre : List S54) (k : Nat) (m : Int), pre.length + t.length ≤ 1000000 → 0 ≤ m → m ≤ 1 + 3 * pre.length → t.length < k →
    laws_markLatticeS.l0 k (pre ++ t) m (pre.length : Int) = some (m + 3 * t.length, pre ++ marksLattice m t) := by
  intro t
  induction t with
  | nil =>
    intro pre k m hl h0 hm hk
    obtain ⟨k, rfl⟩ : ∃ m, k = m + 1 := ⟨k - 1, by omega⟩
    rw [laws_markLatticeS.l0, if_neg (by simp)]; simp [marksLattice]
  | cons x t ih =>
    intro pre k m hl h0 hm hk
    simp only [List.length_cons] at hk hl
    obtain ⟨k, rfl⟩ : ∃ m, k = m + 1 := ⟨k - 1, by omega⟩
    have h1 := ih (pre ++ [⟨m, m + 1, m + 2⟩]) k (m + 3) (by simp; omega) (by omega) (by simp; omega) (by omega)
    rw [laws_markLatticeS.l0, if_pos (by simp; omega), if_pos (by omega)]
    simp only [rd_Lattice_at' pre _ t _ rfl, mark_at_Lattice pre _ _ t _ rfl, Option.bind_some]
    rw [wrap_id (x := (pre.length : Int) + 1) (by omega) (by omega), wrap_id (x := m + 1) (by omega) (by omega), wrap_id (x := m + 1 + 1) (by omega) (by omega), show m + 1 + 1 = m + 2 by omega, wrap_id (x := m + 2 + 1) (by omega) (by omega), show m + 2 + 1 = m + 3 by omega]
    simp only [List.length_append, List.length_cons, List.length_nil, List.append_assoc, List.cons_append, List.nil_append] at h1
    rw [show (pre.length : Int) + 1 = ((pre.length + (0 + 1) : Nat) : Int) by omega, h1]
    simp only [marksLattice, List.length_cons]
    congr 2; omega
theorem heldLattice_loop : ∀ (t pre : List S54) (k : Nat) (m : Int), pre.length + t.length ≤ 1000000 → 0 ≤ m → m ≤ 1 + 3 * pre.length → t.length < k →
    laws_heldLatticeS.l0 k (pre ++ marksLattice m t) m (pre.length : Int) = some (m + 3 * t.length) := by
  intro t
  induction t with
  | nil =>
    intro pre k m hl h0 hm hk
    obtain ⟨k, rfl⟩ : ∃ m, k = m + 1 := ⟨k - 1, by omega⟩
    rw [laws_heldLatticeS.l0, if_neg (by simp [marksLattice])]; simp
  | cons x t ih =>
    intro pre k m hl h0 hm hk
    simp only [List.length_cons] at hk hl
    obtain ⟨k, rfl⟩ : ∃ m, k = m + 1 := ⟨k - 1, by omega⟩
    have h1 := ih (pre ++ [⟨m, m + 1, m + 2⟩]) k (m + 3) (by simp; omega) (by omega) (by simp; omega) (by omega)
    rw [laws_heldLatticeS.l0, if_pos (by simp [marksLattice]; omega), if_pos (by omega)]
    simp only [marksLattice, rd_Lattice_at' pre _ _ _ rfl]
    rw [wrap_id (x := (pre.length : Int) + 1) (by omega) (by omega), wrap_id (x := m + 1) (by omega) (by omega), wrap_id (x := m + 1 + 1) (by omega) (by omega), show m + 1 + 1 = m + 2 by omega, wrap_id (x := m + 2 + 1) (by omega) (by omega), show m + 2 + 1 = m + 3 by omega]
    simp only [if_true]
    simp only [List.length_append, List.length_cons, List.length_nil, List.append_assoc, List.cons_append, List.nil_append] at h1
    rw [show (pre.length : Int) + 1 = ((pre.length + (0 + 1) : Nat) : Int) by omega, h1]
    simp only [List.length_cons]
    congr 1; omega
theorem markedLattice (k : Nat) (l : List S54) (hl : l.length ≤ 1000000) (hk : l.length < k) : laws_markLatticeS.f k l 1 = some (1 + 3 * (l.length : Int), marksLattice 1 l) ∧ laws_heldLatticeS.f k (marksLattice 1 l) 1 = some (1 + 3 * (l.length : Int)) :=
  ⟨markLattice_loop l [] k 1 (by simpa using hl) (by omega) (by simp) hk, heldLattice_loop l [] k 1 (by simpa using hl) (by omega) (by simp) hk⟩
/-- A vector as the printed lists hold it. -/
def mkSV (v : Int × Int) : S41 := ⟨v.1, v.2⟩
def rowL (a b q : Int) : Nat → List S54
  | 0 => []
  | d + 1 => ⟨a, b, q⟩ :: rowL a (b + 1) q d
theorem rowL_len (a q : Int) : ∀ (d : Nat) (b : Int), (rowL a b q d).length = d := by
  intro d
  induction d with
  | zero => intro b; rfl
  | succ d ih => intro b; simp [rowL, ih]
def subL (n a : Int) : Nat → List S54
  | 0 => []
  | d + 1 => (if n % a = 0 then rowL a 0 (n / a) a.toNat else []) ++ subL n (a + 1) d
theorem subL_len (n : Int) : ∀ (d : Nat) (a : Int), 0 ≤ a → (subL n a d).length ≤ d * (a.toNat + d) := by
  intro d
  induction d with
  | zero => intro a _; simp [subL]
  | succ d ih =>
    intro a ha
    have h1 := ih (a + 1) (by omega)
    have e : (d + 1) * (a.toNat + (d + 1)) = d * ((a + 1).toNat + d) + (a.toNat + (d + 1)) := by
      rw [show (a + 1).toNat = a.toNat + 1 by omega, Nat.add_mul]; simp; rw [show a.toNat + 1 + d = a.toNat + (d + 1) by omega]
    rw [e]
    simp only [subL, List.length_append]
    split
    · rw [rowL_len]; omega
    · simp only [List.length_nil]; omega
def sublS (n : Int) : List S54 × Int := if 1 ≤ n ∧ n ≤ 64 then (subL n 1 n.toNat, 0) else ([], 2)
theorem sublS_len (n : Int) : (sublS n).1.length ≤ 5000 := by
  unfold sublS
  split
  · rename_i h
    have := subL_len n n.toNat 1 (by omega)
    have hm : n.toNat * (Int.toNat 1 + n.toNat) ≤ 64 * 65 := Nat.mul_le_mul (by omega) (by omega)
    simp only; omega
  · simp
theorem spec_sub_row (n a : Int) (hn : 1 ≤ n ∧ n ≤ 64) (ha : 1 ≤ a ∧ a ≤ 64) (hd : n % a = 0) (K : Nat) (R : Option (List S54 × Int)) : ∀ (d : Nat) (b : Int) (out : List S54), 0 ≤ b → b + d = a → out.length + d ≤ 1000000 →
    (∀ k, K ≤ k → spec_SublatticesOf.l0 k n (out ++ rowL a b (n / a) d) (a + 1) = R) → ∀ k, K + d + 1 ≤ k → spec_SublatticesOf.l1 k n out a b = R := by
  have hq := Int.natAbs_ediv_le_natAbs n a
  have ht : n.tmod a = n % a := Int.tmod_eq_emod_of_nonneg (by omega)
  have ht2 : n.tdiv a = n / a := Int.tdiv_eq_ediv_of_nonneg (by omega)
  intro d
  induction d with
  | zero =>
    intro b out h0 hb hl hc k hk
    obtain ⟨k, rfl⟩ : ∃ m, k = m + 1 := ⟨k - 1, by omega⟩
    have := hc k (by omega)
    simp only [rowL, List.append_nil] at this
    rw [spec_SublatticesOf.l1, if_neg (by omega), ht, if_pos hd, if_neg (by omega), wrap_id (x := a + 1) (by omega) (by omega)]; exact this
  | succ d ih =>
    intro b out h0 hb hl hc k hk
    obtain ⟨k, rfl⟩ : ∃ m, k = m + 1 := ⟨k - 1, by omega⟩
    rw [spec_SublatticesOf.l1, if_neg (by omega), ht, if_pos hd, if_pos (by omega), if_pos (by omega), ht2, wrap_id (x := n / a) (by omega) (by omega), wrap_id (x := b + 1) (by omega) (by omega)]
    exact ih (b + 1) _ (by omega) (by omega) (by simp; omega) (fun k hk => by have := hc k hk; simpa [rowL] using this) k (by omega)
theorem spec_sub_all (n : Int) (hn : 1 ≤ n ∧ n ≤ 64) : ∀ (d : Nat) (a : Int) (out : List S54), 1 ≤ a → a + d = n + 1 → out.length + d * 64 ≤ 100000 →
    ∀ k, d * 66 + 1 ≤ k → spec_SublatticesOf.l0 k n out a = some (out ++ subL n a d, 0) := by
  intro d
  induction d with
  | zero =>
    intro a out h0 ha hl k hk
    obtain ⟨k, rfl⟩ : ∃ m, k = m + 1 := ⟨k - 1, by omega⟩
    rw [spec_SublatticesOf.l0, if_neg (by omega)]; simp [subL]
  | succ d ih =>
    intro a out h0 ha hl k hk
    obtain ⟨k, rfl⟩ : ∃ m, k = m + 1 := ⟨k - 1, by omega⟩
    have ht : n.tmod a = n % a := Int.tmod_eq_emod_of_nonneg (by omega)
    rw [spec_SublatticesOf.l0, if_pos (by omega)]
    by_cases hd : n % a = 0
    · refine spec_sub_row n a hn (by omega) hd (d * 66 + 1) _ a.toNat 0 out (by omega) (by omega) (by omega) (fun k hk => ?_) k (by omega)
      have := ih (a + 1) (out ++ rowL a 0 (n / a) a.toNat) (by omega) (by omega) (by simp [rowL_len]; omega) k hk
      rw [this]; simp [subL, hd]
    · obtain ⟨k, rfl⟩ : ∃ m, k = m + 1 := ⟨k - 1, by omega⟩
      rw [spec_SublatticesOf.l1, if_neg (by omega), ht, if_neg hd, wrap_id (x := a + 1) (by omega) (by omega), ih (a + 1) out (by omega) (by omega) (by omega) k (by omega)]
      simp [subL, hd]
theorem spec_SublatticesOf_eq (k : Nat) (hk : 5000 ≤ k) (n : Int) : spec_SublatticesOf.f k n = some (sublS n) := by
  unfold spec_SublatticesOf.f sublS
  simp only [spec_l01In_eq, Option.bind_some, decide_eq_true_eq]
  split
  · rename_i h
    rw [spec_sub_all n h n.toNat 1 [] (by omega) (by omega) (by simp; omega) k (by omega)]; simp
  · rfl
theorem impl_sub_row (n a : Int) (hn : 1 ≤ n ∧ n ≤ 64) (ha : 1 ≤ a ∧ a ≤ 64) (hd : n % a = 0) (K : Nat) (R : Option (List S54)) : ∀ (d : Nat) (b : Int) (out : List S54), 0 ≤ b → b + d = a → out.length + d ≤ 1000000 →
    (∀ k, K ≤ k → impl_sublattices.l0 k n (out ++ rowL a b (n / a) d) (a + 1) = R) → ∀ k, K + d + 1 ≤ k → impl_sublattices.l1 k n out a a b = R := by
  have hq := Int.natAbs_ediv_le_natAbs n a
  have ht : n.tmod a = n % a := Int.tmod_eq_emod_of_nonneg (by omega)
  have ht2 : n.tdiv a = n / a := Int.tdiv_eq_ediv_of_nonneg (by omega)
  intro d
  induction d with
  | zero =>
    intro b out h0 hb hl hc k hk
    obtain ⟨k, rfl⟩ : ∃ m, k = m + 1 := ⟨k - 1, by omega⟩
    have := hc k (by omega)
    simp only [rowL, List.append_nil] at this
    rw [impl_sublattices.l1, if_neg (by omega), wrap_id (x := a + 1) (by omega) (by omega)]; exact this
  | succ d ih =>
    intro b out h0 hb hl hc k hk
    obtain ⟨k, rfl⟩ : ∃ m, k = m + 1 := ⟨k - 1, by omega⟩
    rw [impl_sublattices.l1, if_pos (by omega), if_neg (by omega), ht, if_pos hd, if_pos (by omega), ht2, wrap_id (x := n / a) (by omega) (by omega), wrap_id (x := b + 1) (by omega) (by omega)]
    exact ih (b + 1) _ (by omega) (by omega) (by simp; omega) (fun k hk => by have := hc k hk; simpa [rowL] using this) k (by omega)
theorem impl_sub_skip (n a : Int) (hn : 1 ≤ n ∧ n ≤ 64) (ha : 1 ≤ a ∧ a ≤ 64) (hd : ¬ n % a = 0) (K : Nat) (R : Option (List S54)) (out : List S54) : ∀ (d : Nat) (b : Int), 0 ≤ b → b + d = a →
    (∀ k, K ≤ k → impl_sublattices.l0 k n out (a + 1) = R) → ∀ k, K + d + 1 ≤ k → impl_sublattices.l1 k n out a a b = R := by
  have ht : n.tmod a = n % a := Int.tmod_eq_emod_of_nonneg (by omega)
  intro d
  induction d with
  | zero =>
    intro b h0 hb hc k hk
    obtain ⟨k, rfl⟩ : ∃ m, k = m + 1 := ⟨k - 1, by omega⟩
    rw [impl_sublattices.l1, if_neg (by omega), wrap_id (x := a + 1) (by omega) (by omega)]; exact hc k (by omega)
  | succ d ih =>
    intro b h0 hb hc k hk
    obtain ⟨k, rfl⟩ : ∃ m, k = m + 1 := ⟨k - 1, by omega⟩
    rw [impl_sublattices.l1, if_pos (by omega), if_neg (by omega), ht, if_neg hd, wrap_id (x := b + 1) (by omega) (by omega)]
    exact ih (b + 1) (by omega) (by omega) hc k (by omega)
theorem impl_sub_all (n : Int) (hn : 1 ≤ n ∧ n ≤ 64) : ∀ (d : Nat) (a : Int) (out : List S54), 1 ≤ a → a + d = n + 1 → out.length + d * 64 ≤ 100000 →
    ∀ k, d * 66 + 1 ≤ k → impl_sublattices.l0 k n out a = some (out ++ subL n a d) := by
  intro d
  induction d with
  | zero =>
    intro a out h0 ha hl k hk
    obtain ⟨k, rfl⟩ : ∃ m, k = m + 1 := ⟨k - 1, by omega⟩
    rw [impl_sublattices.l0, if_neg (by omega)]; simp [subL]
  | succ d ih =>
    intro a out h0 ha hl k hk
    obtain ⟨k, rfl⟩ : ∃ m, k = m + 1 := ⟨k - 1, by omega⟩
    rw [impl_sublattices.l0, if_pos (by omega)]
    by_cases hd : n % a = 0
    · refine impl_sub_row n a hn (by omega) hd (d * 66 + 1) _ a.toNat 0 out (by omega) (by omega) (by omega) (fun k hk => ?_) k (by omega)
      have := ih (a + 1) (out ++ rowL a 0 (n / a) a.toNat) (by omega) (by omega) (by simp [rowL_len]; omega) k hk
      rw [this]; simp [subL, hd]
    · refine impl_sub_skip n a hn (by omega) hd (d * 66 + 1) _ out a.toNat 0 (by omega) (by omega) (fun k hk => ?_) k (by omega)
      rw [ih (a + 1) out (by omega) (by omega) (by omega) k hk]; simp [subL, hd]
theorem impl_SublatticesOf_eq (k : Nat) (hk : 5000 ≤ k) (n : Int) : impl_SublatticesOf.f k n = some (sublS n) := by
  unfold impl_SublatticesOf.f sublS impl_sublattices.f
  simp only [impl_within_eq, Option.bind_some, decide_eq_true_eq]
  split
  · rename_i h
    rw [impl_sub_all n h n.toNat 1 [] (by omega) (by omega) (by simp; omega) k (by omega)]; simp
  · rfl
theorem main (a0 : Int) (w0 : (Go.Lit.int .i64 a0).wf = true) : ∃ k, laws_FnExactSublatticesOf.f k a0 = some true := by
  have hS := fun k (hk : 5001 ≤ k) => spec_SublatticesOf_eq k (by omega) a0
  have hI := fun k (hk : 5001 ≤ k) => impl_SublatticesOf_eq k (by omega) a0
  have hl := sublS_len a0
  generalize sublS a0 = R at hS hI hl
  obtain ⟨l, z⟩ := R
  simp only at hl
  refine ⟨5001 + 1 + 1, ?_⟩
  have hM := markedLattice 5001 l (by omega) (by omega)
  have hM' := markedLattice (5001 + 1) l (by omega) (by omega)
  unfold laws_FnExactSublatticesOf.f
  try simp only [Option.bind_some]
  rw [hS _ (by decide), hI _ (by decide)]
  simp only [Option.bind_some]
  rw [eqLatticeS_self _ l (by omega) (by omega)]
  simp only [Option.bind_some, if_true, bne_self_eq_false]
  rw [laws_FnExactSublatticesOf.j0, if_neg (by decide), hM'.1]
  simp only [Option.bind_some]
  rw [hM'.2]
  simp only [Option.bind_some]
  rw [if_neg (by omega)]
  simp only [if_true, eq_self, Option.bind_some]
  rw [hI _ (by decide)]
  simp only [Option.bind_some]
  rw [eqLatticeS_self _ l (by omega) (by omega)]
  simp only [Option.bind_some, if_true, bne_self_eq_false]
  rw [laws_FnExactSublatticesOf.j1, if_neg (by decide), hM.2]
  simp only [Option.bind_some]
  rw [if_neg (by omega)]
  simp only [if_true, eq_self]
end Go.Proofs.Ytpkjgcafbkfbgab.PureFnExactSublatticesOf

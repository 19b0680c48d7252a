/-
The law FnExactNearVecs, over numbers and lists alone: the printed functions of the program and of the reference answer alike. No condition but that each number is an int64.
-/
import Derived.Test.YtcjchihnopmplaaN3
import GoSem.Claim
namespace Go.Proofs.Ytcjchihnopmplaa.PureFnExactNearVecs
open Go.RowKit Go.Proofs.Ytcjchihnopmplaa.F Go.Proofs.YtcjchihnopmplaaW.PrintWords Go.Proofs.YtcjchihnopmplaaW.PrintLast Go.Proofs.YtcjchihnopmplaaW.PrintMore
set_option linter.unusedVariables false
set_option linter.unusedSimpArgs false
def Nf (f x y : Int) : Int := x * x + f * x * y + y * y
def rowF (x y : Int) : Nat → List (Int × Int)
  | 0 => []
  | d + 1 => (x, y) :: rowF x (y + 1) d
def boxF (lo : Int) (w : Nat) (x : Int) : Nat → List (Int × Int)
  | 0 => []
  | d + 1 => rowF x lo w ++ boxF lo w (x + 1) d
theorem rowF_len (x : Int) : ∀ (d : Nat) (y : Int), (rowF x y d).length = d := by
  intro d
  induction d with
  | zero => intro y; rfl
  | succ d ih => intro y; simp [rowF, ih]
/-- All vectors with numbers from -n to n, in order. -/
def box (n : Nat) : List (Int × Int) := boxF (-n) (2 * n + 1) (-n) (2 * n + 1)
theorem wrap_id {x : Int} (h1 : -9223372036854775808 ≤ x) (h2 : x < 9223372036854775808) : wrap64 x = x := by unfold wrap64; omega
theorem prod_bd {a b A B : Int} (ha : -A ≤ a) (ha' : a ≤ A) (hb : -B ≤ b) (hb' : b ≤ B) (hA : 0 ≤ A) : -(A * B) ≤ a * b ∧ a * b ≤ A * B := by
  have h1 : (a * b).natAbs ≤ A.natAbs * B.natAbs := by rw [Int.natAbs_mul]; exact Nat.mul_le_mul (by omega) (by omega)
  have h2 : (A * B).natAbs = A.natAbs * B.natAbs := Int.natAbs_mul A B
  have h3 : 0 ≤ A * B := Int.mul_nonneg hA (by omega)
  omega
def frameB (f : Int) : Bool := decide (f = 0 ∨ f = 1)
theorem spec_IsFrame_eq (f : Int) : spec_IsFrame.f f = some (frameB f) := by
  unfold spec_IsFrame.f frameB
  by_cases h : f = 0
  · simp [h]
  · by_cases h' : f = 1 <;> simp [h, h']
theorem spec_l04Norm_eq (f : Int) {x y : Int} (hf : f = 0 ∨ f = 1) (hx : -100000 ≤ x ∧ x ≤ 100000) (hy : -100000 ≤ y ∧ y ≤ 100000) : spec_l04Norm.f f x y = some (Nf f x y) := by
  have h1 := prod_bd hx.1 hx.2 hx.1 hx.2 (by omega)
  have h2 := prod_bd hy.1 hy.2 hy.1 hy.2 (by omega)
  have h3 := prod_bd hx.1 hx.2 hy.1 hy.2 (by omega)
  unfold spec_l04Norm.f Nf
  rw [wrap_id (x := x * x) (by omega) (by omega), wrap_id (x := y * y) (by omega) (by omega), wrap_id (x := x * y) (by omega) (by omega), wrap_id (x := x * x + y * y) (by omega) (by omega)]
  rcases hf with rfl | rfl
  · rw [if_neg (by omega), Int.zero_mul, Int.zero_mul]; congr 1; omega
  · rw [if_pos rfl, wrap_id (by omega) (by omega), Int.one_mul]; congr 1; omega
theorem frameB_iff {f : Int} : frameB f = true ↔ f = 0 ∨ f = 1 := by unfold frameB; exact decide_eq_true_iff
theorem rd_Vec_at (pre : List S47) (v : S47) (t : List S47) (i : Int) (hi : i = pre.length) : rd_T47 (pre ++ v :: t) i = v := by
  subst hi; unfold rd_T47; simp
theorem eqVecS_loop (l : List S47) (hl : l.length ≤ 1000000) : ∀ (t pre : List S47) (k : Nat), l = pre ++ t → t.length < k → laws_eqVecS.l0 k l l (pre.length : Int) = some true := by
  intro t
  induction t with
  | nil =>
    intro pre k e hk
    obtain ⟨k, rfl⟩ : ∃ m, k = m + 1 := ⟨k - 1, by omega⟩
    rw [laws_eqVecS.l0, if_neg (by rw [e]; simp)]
  | cons x t ih =>
    intro pre k e hk
    simp only [List.length_cons] at hk
    obtain ⟨k, rfl⟩ : ∃ m, k = m + 1 := ⟨k - 1, by omega⟩
    have hlen : l.length = pre.length + (t.length + 1) := by rw [e]; simp
    have hr : rd_T47 l (pre.length : Int) = x := by rw [e]; exact rd_Vec_at pre x t _ rfl
    have h1 := ih (pre ++ [x]) k (by rw [e]; simp) (by omega)
    simp only [List.length_append, List.length_cons, List.length_nil] at h1
    rw [laws_eqVecS.l0, if_pos (by omega), if_pos (by omega), if_pos (by omega), hr, wrap_id (x := (pre.length : Int) + 1) (by omega) (by omega)]
    unfold laws_eqVec.f
    simp only [if_true, Option.bind_some]
    rw [show (pre.length : Int) + 1 = ((pre.length + (0 + 1) : Nat) : Int) by omega]; exact h1
theorem eqVecS_self (k : Nat) (l : List S47) (hl : l.length ≤ 1000000) (hk : l.length < k) : laws_eqVecS.f k l l = some true := by
  unfold laws_eqVecS.f
  rw [if_pos rfl]; exact eqVecS_loop l hl l [] k rfl hk
def marksVec (m : Int) : List S47 → List S47
  | [] => []
  | _ :: t => ⟨m, m + 1⟩ :: marksVec (m + 2) t
theorem mark_at_Vec (pre : List S47) (v w : S47) (t : List S47) (i : Int) (hi : i = pre.length) : (pre ++ v :: t).set i.toNat w = pre ++ w :: t := by
  subst hi; simp
theorem rd_Vec_at' (pre : List S47) (v : S47) (t : List S47) (i : Int) (hi : i = pre.length) : rd_T47 (pre ++ v :: t) i = v := by
  subst hi; unfold rd_T47; simp
theorem markVec_loop : ∀ (t pre : List S47) (k : Nat) (m : Int), pre.length + t.length ≤ 1000000 → 0 ≤ m → m ≤ 1 + 2 * pre.length → t.length < k →
    laws_markVecS.l0 k (pre ++ t) m (pre.length : Int) = some (m + 2 * t.length, pre ++ marksVec m t) := by
  intro t
  induction t with
  | nil =>
    intro pre k m hl h0 hm hk
    obtain ⟨k, rfl⟩ : ∃ m, k = m + 1 := ⟨k - 1, by omega⟩
    rw [laws_markVecS.l0, if_neg (by simp)]; simp [marksVec]
  | cons x t ih =>
    intro pre k m hl h0 hm hk
    simp only [List.length_cons] at hk hl
    obtain ⟨k, rfl⟩ : ∃ m, k = m + 1 := ⟨k - 1, by omega⟩
    have h1 := ih (pre ++ [⟨m, m + 1⟩]) k (m + 2) (by simp; omega) (by omega) (by simp; omega) (by omega)
    rw [laws_markVecS.l0, if_pos (by simp; omega), if_pos (by omega)]
    simp only [rd_Vec_at' pre _ t _ rfl, mark_at_Vec pre _ _ t _ rfl, Option.bind_some]
    rw [wrap_id (x := (pre.length : Int) + 1) (by omega) (by omega), wrap_id (x := m + 1) (by omega) (by omega), wrap_id (x := m + 1 + 1) (by omega) (by omega), show m + 1 + 1 = m + 2 by omega]
    simp only [List.length_append, List.length_cons, List.length_nil, List.append_assoc, List.cons_append, List.nil_append] at h1
    rw [show (pre.length : Int) + 1 = ((pre.length + (0 + 1) : Nat) : Int) by omega, h1]
    simp only [marksVec, List.length_cons]
    congr 2; omega
theorem heldVec_loop : ∀ (t pre : List S47) (k : Nat) (m : Int), pre.length + t.length ≤ 1000000 → 0 ≤ m → m ≤ 1 + 2 * pre.length → t.length < k →
    laws_heldVecS.l0 k (pre ++ marksVec m t) m (pre.length : Int) = some (m + 2 * t.length) := by
  intro t
  induction t with
  | nil =>
    intro pre k m hl h0 hm hk
    obtain ⟨k, rfl⟩ : ∃ m, k = m + 1 := ⟨k - 1, by omega⟩
    rw [laws_heldVecS.l0, if_neg (by simp [marksVec])]; simp
  | cons x t ih =>
    intro pre k m hl h0 hm hk
    simp only [List.length_cons] at hk hl
    obtain ⟨k, rfl⟩ : ∃ m, k = m + 1 := ⟨k - 1, by omega⟩
    have h1 := ih (pre ++ [⟨m, m + 1⟩]) k (m + 2) (by simp; omega) (by omega) (by simp; omega) (by omega)
    rw [laws_heldVecS.l0, if_pos (by simp [marksVec]; omega), if_pos (by omega)]
    simp only [marksVec, rd_Vec_at' pre _ _ _ rfl]
    rw [wrap_id (x := (pre.length : Int) + 1) (by omega) (by omega), wrap_id (x := m + 1) (by omega) (by omega), wrap_id (x := m + 1 + 1) (by omega) (by omega), show m + 1 + 1 = m + 2 by omega]
    simp only [if_true]
    simp only [List.length_append, List.length_cons, List.length_nil, List.append_assoc, List.cons_append, List.nil_append] at h1
    rw [show (pre.length : Int) + 1 = ((pre.length + (0 + 1) : Nat) : Int) by omega, h1]
    simp only [List.length_cons]
    congr 1; omega
theorem markedVec (k : Nat) (l : List S47) (hl : l.length ≤ 1000000) (hk : l.length < k) : laws_markVecS.f k l 1 = some (1 + 2 * (l.length : Int), marksVec 1 l) ∧ laws_heldVecS.f k (marksVec 1 l) 1 = some (1 + 2 * (l.length : Int)) :=
  ⟨markVec_loop l [] k 1 (by simpa using hl) (by omega) (by simp) hk, heldVec_loop l [] k 1 (by simpa using hl) (by omega) (by simp) hk⟩
/-- A vector as the printed lists hold it. -/
def mkSV (v : Int × Int) : S47 := ⟨v.1, v.2⟩
def nearP (f N : Int) (v : Int × Int) : Bool := decide (Nf f v.1 v.2 ≤ N)
theorem spec_near_row (f N n x : Int) (hf : f = 0 ∨ f = 1) (hn : 0 ≤ n ∧ n ≤ 200) (hx : -200 ≤ x ∧ x ≤ 200) (k : Nat) : ∀ (d : Nat) (y : Int) (out : List S47), y + d = n + 1 → -200 ≤ y → out.length + d ≤ 1000000 →
    spec_l04Near.l1 (k + d + 1) f N n out x y = spec_l04Near.l0 k f N n (out ++ ((rowF x y d).filter (nearP f N)).map mkSV) (wrap64 (x + 1)) := by
  intro d
  induction d with
  | zero => intro y out h0 hy hl; rw [spec_l04Near.l1, if_neg (by omega)]; simp [rowF]
  | succ d ih =>
    intro y out h0 hy hl
    rw [show k + (d + 1) + 1 = (k + d + 1) + 1 by omega, spec_l04Near.l1, if_pos (by omega), spec_l04Norm_eq f hf (by omega) (by omega)]
    simp only [Option.bind_some]
    rw [wrap_id (x := y + 1) (by omega) (by omega)]
    by_cases hN : Nf f x y ≤ N
    · rw [if_pos hN, if_pos (by omega), ih (y + 1) _ (by omega) (by omega) (by simp; omega)]
      have e : nearP f N (x, y) = true := by simp [nearP, hN]
      simp [rowF, e, mkSV]
    · rw [if_neg hN, ih (y + 1) _ (by omega) (by omega) (by omega)]
      have e : nearP f N (x, y) = false := by simp [nearP, hN]
      simp [rowF, e]
theorem filter_row_len (f N x : Int) (d : Nat) (y : Int) : ((rowF x y d).filter (nearP f N)).length ≤ d := by
  have := List.length_filter_le (nearP f N) (rowF x y d)
  rw [rowF_len] at this; exact this
theorem spec_near_box (f N : Int) (hf : f = 0 ∨ f = 1) (n : Nat) (hn : n ≤ 200) (k : Nat) : ∀ (d : Nat) (x : Int) (out : List S47), x + d = n + 1 → -200 ≤ x → out.length + d * (2 * n + 1) ≤ 900000 →
    spec_l04Near.l0 (k + d * (2 * n + 1 + 2) + 1) f N n out x = some (out ++ ((boxF (-n) (2 * n + 1) x d).filter (nearP f N)).map mkSV) := by
  intro d
  induction d with
  | zero => intro x out h0 hx hl; rw [spec_l04Near.l0, if_neg (by omega)]; simp [boxF]
  | succ d ih =>
    intro x out h0 hx hl
    have e : k + (d + 1) * (2 * n + 1 + 2) + 1 = ((k + d * (2 * n + 1 + 2) + 1) + (2 * n + 1) + 1) + 1 := by rw [Nat.add_mul]; omega
    rw [Nat.add_mul] at hl
    have hr := filter_row_len f N x (2 * n + 1) (-n)
    rw [e, spec_l04Near.l0, if_pos (by omega), wrap_id (x := -(n : Int)) (by omega) (by omega), spec_near_row f N n x hf (by omega) (by omega) _ (2 * n + 1) (-n) out (by omega) (by omega) (by omega), wrap_id (x := x + 1) (by omega) (by omega), ih (x + 1) _ (by omega) (by omega) (by simp; omega)]
    simp [boxF]
theorem spec_l04Near_eq (f N : Int) (hf : f = 0 ∨ f = 1) (n : Nat) (hn : n ≤ 200) (k : Nat) (hk : 200000 ≤ k) : spec_l04Near.f k f N n = some (((box n).filter (nearP f N)).map mkSV) := by
  unfold spec_l04Near.f box
  have h1 : (2 * n + 1) * (2 * n + 1 + 2) ≤ 401 * 403 := Nat.mul_le_mul (by omega) (by omega)
  have h2 : (2 * n + 1) * (2 * n + 1) ≤ 401 * 401 := Nat.mul_le_mul (by omega) (by omega)
  obtain ⟨j, rfl⟩ : ∃ j, k = j + (2 * n + 1) * (2 * n + 1 + 2) + 1 := ⟨k - (2 * n + 1) * (2 * n + 1 + 2) - 1, by omega⟩
  rw [wrap_id (x := -(n : Int)) (by omega) (by omega), spec_near_box f N hf n hn j (2 * n + 1) (-n) [] (by omega) (by omega) (by simp; omega)]; simp
def nearS (f N : Int) : List S47 × Int := if frameB f = true then (if 0 ≤ N ∧ N ≤ 100 then (((box 12).filter (nearP f N)).map mkSV, 0) else ([], 2)) else ([], 1)
theorem nearS_len (f N : Int) : (nearS f N).1.length ≤ 5000 := by
  have hl : (box 12).length = 625 := by kernel_rfl
  unfold nearS
  split
  · split
    · simp only [List.length_map]
      have := List.length_filter_le (nearP f N) (box 12)
      omega
    · simp
  · simp
theorem spec_NearVecs_eq (k : Nat) (hk : 200000 ≤ k) (f N : Int) : spec_NearVecs.f k f N = some (nearS f N) := by
  have eI : spec_l01In.f N 0 100 = some (decide (0 ≤ N ∧ N ≤ 100)) := by
    unfold spec_l01In.f
    by_cases h : N ≥ 0
    · rw [if_pos h]; congr 1; by_cases h2 : N ≤ 100
      · rw [decide_eq_true h2, decide_eq_true ⟨h, h2⟩]
      · rw [decide_eq_false h2, decide_eq_false (fun q => h2 q.2)]
    · rw [if_neg h, decide_eq_false (fun q => h q.1)]
  unfold spec_NearVecs.f nearS
  rw [spec_IsFrame_eq, eI]
  simp only [Option.bind_some]
  by_cases hf : frameB f = true
  · rw [if_pos hf, if_pos hf]
    by_cases hN : 0 ≤ N ∧ N ≤ 100
    · rw [if_pos (decide_eq_true hN), if_pos hN, show (12 : Int) = ((12 : Nat) : Int) from rfl, spec_l04Near_eq f N (frameB_iff.mp hf) 12 (by omega) k (by omega)]
      rfl
    · rw [if_neg (by rw [decide_eq_false hN]; decide), if_neg hN]
  · rw [if_neg hf, if_neg hf]
theorem impl_NearVecs_eq (k : Nat) (hk : 200000 ≤ k) (f N : Int) : impl_NearVecs.f k f N = some (nearS f N) := by
  have e : impl_NearVecs.f k f N = spec_NearVecs.f k f N := rfl
  rw [e, spec_NearVecs_eq k hk]
theorem main (a0 : Int) (a1 : Int) (w0 : (Go.Lit.int .i64 a0).wf = true) (w1 : (Go.Lit.int .i64 a1).wf = true) : ∃ k, laws_FnExactNearVecs.f k a0 a1 = some true := by
  have hS := fun k (hk : 200000 ≤ k) => spec_NearVecs_eq k (by omega) a0 a1
  have hI := fun k (hk : 200000 ≤ k) => impl_NearVecs_eq k (by omega) a0 a1
  have hl := nearS_len a0 a1
  generalize nearS a0 a1 = R at hS hI hl
  obtain ⟨l, z⟩ := R
  simp only at hl
  refine ⟨200000 + 1 + 1, ?_⟩
  have hM := markedVec 200000 l (by omega) (by omega)
  have hM' := markedVec (200000 + 1) l (by omega) (by omega)
  unfold laws_FnExactNearVecs.f
  try simp only [Option.bind_some]
  rw [hS _ (by decide), hI _ (by decide)]
  simp only [Option.bind_some]
  rw [eqVecS_self _ l (by omega) (by omega)]
  simp only [Option.bind_some, if_true, bne_self_eq_false]
  rw [laws_FnExactNearVecs.j0, if_neg (by decide), hM'.1]
  simp only [Option.bind_some]
  rw [hM'.2]
  simp only [Option.bind_some]
  rw [if_neg (by omega)]
  simp only [if_true, eq_self, Option.bind_some]
  rw [hI _ (by decide)]
  simp only [Option.bind_some]
  rw [eqVecS_self _ l (by omega) (by omega)]
  simp only [Option.bind_some, if_true, bne_self_eq_false]
  rw [laws_FnExactNearVecs.j1, if_neg (by decide), hM.2]
  simp only [Option.bind_some]
  rw [if_neg (by omega)]
  simp only [if_true, eq_self]
end Go.Proofs.Ytcjchihnopmplaa.PureFnExactNearVecs

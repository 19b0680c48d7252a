/-
The law FnCells, over numbers and lists alone: the printed functions of the program and of the reference answer alike. No condition but that each number is an int64.
-/
import Derived.Test.YtiknfddggcbblaaDoorC10
import GoSem.Claim
import Derived.Lib.SplitLaws
namespace Go.Proofs.YtiknfddggcbblaaDoor.PureFnCells
open Go.RowKit Go.Proofs.YtiknfddggcbblaaDoor.F Go.Proofs.YtiknfddggcbblaaDoorW.PrintWords Go.Proofs.YtiknfddggcbblaaDoorW.PrintLast Go.Proofs.YtiknfddggcbblaaDoorW.PrintMore
set_option linter.unusedVariables false
set_option linter.unusedSimpArgs false
/-- (x, y) is a sum of multiples of (a, 0) and (b, c). -/
def L (a b c x y : Int) : Prop := ∃ m n : Int, x = m * a + n * b ∧ y = n * c
/-- The index: what spans the same lattice has the same determinant, up to its sign. -/
theorem L_index {a b c ux uy vx vy : Int} (ha : 0 < a) (hc : 0 < c) (h : ∀ x y, L a b c x y ↔ ∃ i j : Int, x = i * ux + j * vx ∧ y = i * uy + j * vy) :
    a * c = (ux * vy - uy * vx).natAbs := by
  obtain ⟨m1, n1, e1, e2⟩ := (h ux uy).mpr ⟨1, 0, by omega, by omega⟩
  obtain ⟨m2, n2, e3, e4⟩ := (h vx vy).mpr ⟨0, 1, by omega, by omega⟩
  obtain ⟨i1, j1, e5, e6⟩ := (h a 0).mp ⟨1, 0, by omega, by omega⟩
  obtain ⟨i2, j2, e7, e8⟩ := (h b c).mp ⟨0, 1, by omega, by omega⟩
  have d1 : (a * c) ∣ (ux * vy - uy * vx) := ⟨m1 * n2 - n1 * m2, by subst e1 e2 e3 e4; grind⟩
  have d2 : (ux * vy - uy * vx) ∣ (a * c) := ⟨i1 * j2 - j1 * i2, by grind⟩
  have hp : 0 < a * c := Int.mul_pos ha hc
  have d1' : (a * c) ∣ ((ux * vy - uy * vx).natAbs : Int) := Int.dvd_natAbs.mpr d1
  have d2' : ((ux * vy - uy * vx).natAbs : Int) ∣ (a * c) := Int.natAbs_dvd.mpr d2
  exact Int.dvd_antisymm (by omega) (by omega) d1' d2'
theorem tmod_cases (a n : Int) (hn : 0 < n) : (0 ≤ a ∧ a.tmod n = a % n) ∨ (a < 0 ∧ a.tmod n = -((-a) % n)) := by
  rcases Int.lt_or_le a 0 with h | h
  · refine Or.inr ⟨h, ?_⟩
    have : a.tmod n = -((-a).tmod n) := by rw [Int.neg_tmod, Int.neg_neg]
    rw [this, Int.tmod_eq_emod_of_nonneg (by omega)]
  · exact Or.inl ⟨h, Int.tmod_eq_emod_of_nonneg h⟩
theorem tmod_bounds (a n : Int) (hn : 0 < n) : -n < a.tmod n ∧ a.tmod n < n := by
  have h1 := Int.emod_nonneg a (show n ≠ 0 by omega)
  have h2 := Int.emod_lt_of_pos a hn
  have h3 := Int.emod_nonneg (-a) (show n ≠ 0 by omega)
  have h4 := Int.emod_lt_of_pos (-a) hn
  rcases tmod_cases a n hn with ⟨_, e⟩ | ⟨_, e⟩ <;> rw [e] <;> omega
theorem neg_emod_add (a n : Int) (hn : 0 < n) : a % n = (n - (-a) % n) % n := by
  have e := Int.mul_ediv_add_emod (-a) n
  have : n - (-a) % n = a + n * ((-a) / n + 1) := by rw [Int.mul_add]; omega
  rw [this, Int.add_mul_emod_self_left]
theorem mod_add (a n : Int) (hn : 0 < n) : (a.tmod n + n).tmod n = a % n := by
  have h1 := Int.emod_nonneg a (show n ≠ 0 by omega)
  have h2 := Int.emod_lt_of_pos a hn
  have h3 := Int.emod_nonneg (-a) (show n ≠ 0 by omega)
  have h4 := Int.emod_lt_of_pos (-a) hn
  rcases tmod_cases a n hn with ⟨_, e⟩ | ⟨_, e⟩ <;> rw [e, Int.tmod_eq_emod_of_nonneg (by omega)]
  · rw [Int.add_emod_right, Int.emod_emod]
  · rw [neg_emod_add a n hn]; congr 1; omega
theorem tdiv_row (y c : Int) (hc : 0 < c) : (y - y % c).tdiv c = y / c := by
  have e := Int.mul_ediv_add_emod y c
  have : y - y % c = c * (y / c) := by omega
  rw [this, Int.mul_tdiv_cancel_left _ (by omega)]
def rowF (x y : Int) : Nat → List (Int × Int)
  | 0 => []
  | d + 1 => (x, y) :: rowF x (y + 1) d
def boxF (lo : Int) (w : Nat) (x : Int) : Nat → List (Int × Int)
  | 0 => []
  | d + 1 => rowF x lo w ++ boxF lo w (x + 1) d
theorem mem_rowF (x : Int) : ∀ (d : Nat) (y : Int) (v : Int × Int), v ∈ rowF x y d ↔ v.1 = x ∧ y ≤ v.2 ∧ v.2 < y + d := by
  intro d
  induction d with
  | zero => intro y v; simp only [rowF, List.not_mem_nil, false_iff]; omega
  | succ d ih =>
    intro y v
    obtain ⟨v1, v2⟩ := v
    simp only [rowF, List.mem_cons, ih, Prod.mk.injEq]; omega
theorem mem_boxF (lo : Int) (w : Nat) : ∀ (d : Nat) (x : Int) (v : Int × Int), v ∈ boxF lo w x d ↔ (x ≤ v.1 ∧ v.1 < x + d) ∧ (lo ≤ v.2 ∧ v.2 < lo + w) := by
  intro d
  induction d with
  | zero => intro x v; simp only [boxF, List.not_mem_nil, false_iff]; omega
  | succ d ih =>
    intro x v
    simp only [boxF, List.mem_append, ih, mem_rowF]; omega
theorem rowF_len (x : Int) : ∀ (d : Nat) (y : Int), (rowF x y d).length = d := by
  intro d
  induction d with
  | zero => intro y; rfl
  | succ d ih => intro y; simp [rowF, ih]
theorem boxF_len (lo : Int) (w : Nat) : ∀ (d : Nat) (x : Int), (boxF lo w x d).length = d * w := by
  intro d
  induction d with
  | zero => intro x; simp [boxF]
  | succ d ih => intro x; simp [boxF, ih, rowF_len, Nat.add_mul]; omega
def vecB (x y : Int) : Bool := decide (-1000 ≤ x ∧ x ≤ 1000 ∧ -1000 ≤ y ∧ y ≤ 1000)
def latB (a b c : Int) : Bool := decide ((1 ≤ a ∧ a ≤ 64) ∧ (1 ≤ c ∧ c ≤ 64) ∧ (0 ≤ b ∧ b ≤ a - 1) ∧ a * c ≤ 64)
theorem wrap_id {x : Int} (h1 : -9223372036854775808 ≤ x) (h2 : x < 9223372036854775808) : wrap64 x = x := by unfold wrap64; omega
theorem prod_bd {a b A B : Int} (ha : -A ≤ a) (ha' : a ≤ A) (hb : -B ≤ b) (hb' : b ≤ B) (hA : 0 ≤ A) : -(A * B) ≤ a * b ∧ a * b ≤ A * B := by
  have h1 : (a * b).natAbs ≤ A.natAbs * B.natAbs := by rw [Int.natAbs_mul]; exact Nat.mul_le_mul (by omega) (by omega)
  have h2 : (A * B).natAbs = A.natAbs * B.natAbs := Int.natAbs_mul A B
  have h3 : 0 ≤ A * B := Int.mul_nonneg hA (by omega)
  omega
theorem vecB_iff {x y : Int} : vecB x y = true ↔ (-1000 ≤ x ∧ x ≤ 1000) ∧ (-1000 ≤ y ∧ y ≤ 1000) := by unfold vecB; rw [decide_eq_true_iff]; omega
theorem latB_iff {a b c : Int} : latB a b c = true ↔ (1 ≤ a ∧ a ≤ 64) ∧ (1 ≤ c ∧ c ≤ 64) ∧ (0 ≤ b ∧ b ≤ a - 1) ∧ a * c ≤ 64 := by unfold latB; rw [decide_eq_true_iff]
/-- Products of small numbers need no wrapping. -/
theorem wrap_mul {a b A B : Int} (ha : -A ≤ a) (ha' : a ≤ A) (hb : -B ≤ b) (hb' : b ≤ B) (hA : 0 ≤ A) (h : A * B < 9223372036854775808) : wrap64 (a * b) = a * b := by
  have := prod_bd ha ha' hb hb' hA; exact wrap_id (by omega) (by omega)
def cmpv (ux uy vx vy : Int) : Int := if ux < vx ∨ (ux = vx ∧ uy < vy) then -1 else if ux = vx ∧ uy = vy then 0 else 1
def cmpR (ux uy vx vy : Int) : Int × Int := if vecB ux uy = true ∧ vecB vx vy = true then (cmpv ux uy vx vy, 0) else (0, 1)
/-- The cell of a vector. -/
def redV (a b c x y : Int) : Int × Int := ((x - y / c * b) % a, y % c)
def reduceR (a b c x y : Int) : Int × Int × Int := if latB a b c = true ∧ vecB x y = true then ((redV a b c x y).1, (redV a b c x y).2, 0) else (0, 0, 1)
theorem u8_bd {a : Int} (h : (Go.Lit.int .u8 a).wf = true) : 0 ≤ a ∧ a < 256 := by
  simp only [Go.Lit.wf, Bool.and_eq_true, decide_eq_true_eq] at h
  obtain ⟨h1, h2⟩ := h
  have e1 : Go.IntKind.min .u8 = 0 := by decide
  have e2 : Go.IntKind.max .u8 = 255 := by decide
  omega
/-- A reduced form of what some vectors span. -/
def Herm (sp : Int → Int → Prop) (A B C : Int) : Prop := 0 < A ∧ 0 < C ∧ 0 ≤ B ∧ B < A ∧ ∀ x y, L A B C x y ↔ sp x y
def sp2 (ux uy vx vy : Int) : Int → Int → Prop := fun x y => ∃ i j : Int, x = i * ux + j * vx ∧ y = i * uy + j * vy
theorem Herm.index {A B C ux uy vx vy : Int} (h : Herm (sp2 ux uy vx vy) A B C) : A * C = (ux * vy - uy * vx).natAbs := L_index h.1 h.2.1 h.2.2.2.2
theorem spec_l01In_eq (a b c : Int) : spec_l01In.f a b c = some (decide (b ≤ a ∧ a ≤ c)) := by
  unfold spec_l01In.f; split <;> simp <;> omega
theorem impl_within_eq (a b c : Int) : impl_within.f a b c = some (decide (b ≤ a ∧ a ≤ c)) := by
  unfold impl_within.f; split <;> simp <;> omega
theorem impl_isCoordinate_eq (a : Int) : impl_isCoordinate.f a = some (decide (-1000 ≤ a ∧ a ≤ 1000)) := by
  unfold impl_isCoordinate.f; simp only [impl_within_eq, Option.bind_some]
theorem impl_IsVec_eq (x y : Int) : impl_IsVec.f x y = some (vecB x y) := by
  unfold impl_IsVec.f vecB; simp only [impl_isCoordinate_eq, Option.bind_some]; split <;> simp_all <;> omega
theorem spec_IsLattice_eq (a b c : Int) (h1 : -9223372036854775808 ≤ a) (h2 : a < 9223372036854775808) : spec_IsLattice.f a b c = some (latB a b c) := by
  unfold spec_IsLattice.f latB; simp only [spec_l01In_eq, Option.bind_some]
  by_cases ha : 1 ≤ a ∧ a ≤ 64
  · by_cases hc : 1 ≤ c ∧ c ≤ 64
    · rw [wrap_id (x := a - 1) (by omega) (by omega), wrap_mul (A := 64) (B := 64) (by omega) (by omega) (by omega) (by omega) (by omega) (by omega)]
      simp only [ha, hc, and_self, decide_true, if_true]
      by_cases hb : 0 ≤ b ∧ b ≤ a - 1 <;> simp [hb]
    · simp [ha]; split <;> simp_all <;> omega
  · simp; split <;> simp_all <;> omega
theorem impl_IsLattice_eq (a b c : Int) (h1 : -9223372036854775808 ≤ a) (h2 : a < 9223372036854775808) : impl_IsLattice.f a b c = some (latB a b c) := by
  unfold impl_IsLattice.f latB impl_Lattice_index.f; simp only [impl_within_eq, Option.bind_some]
  by_cases ha : 1 ≤ a ∧ a ≤ 64
  · by_cases hc : 1 ≤ c ∧ c ≤ 64
    · rw [wrap_id (x := a - 1) (by omega) (by omega), wrap_mul (A := 64) (B := 64) (by omega) (by omega) (by omega) (by omega) (by omega) (by omega)]
      simp only [ha, hc, and_self, decide_true, if_true]
      by_cases hb : 0 ≤ b ∧ b ≤ a - 1 <;> simp [hb]
    · simp [ha]; split <;> simp_all <;> omega
  · simp; split <;> simp_all <;> omega
theorem impl_compareVecs_eq (k : Nat) (ux uy vx vy : Int) : impl_compareVecs.f (k + 3) ux uy vx vy = some (cmpv ux uy vx vy) := by
  unfold impl_compareVecs.f impl_compareNumbers.f cmpv
  simp only [impl_compareNumbers.l0, List.length_cons, List.length_nil]
  simp [rd, wrap64]
  by_cases h1 : ux = vx
  · subst h1
    by_cases h2 : uy = vy
    · subst h2; simp
    · rw [if_neg h2]
      by_cases h3 : uy < vy <;> simp [h2, h3]
  · by_cases h2 : ux < vx <;> simp [h1, h2]
theorem impl_CompareVecs_eq (k : Nat) (ux uy vx vy : Int) : impl_CompareVecs.f (k + 3) ux uy vx vy = some (cmpR ux uy vx vy) := by
  unfold impl_CompareVecs.f cmpR
  simp only [impl_IsVec_eq, Option.bind_some, impl_compareVecs_eq]
  cases h : vecB ux uy <;> cases h' : vecB vx vy <;> simp
theorem impl_mod_eq {a n : Int} (hn : 0 < n) (hn2 : n ≤ 1000000000000000000) : impl_mod.f a n = some (a % n) := by
  unfold impl_mod.f
  have hb := tmod_bounds a n hn
  rw [if_neg (by omega), wrap_id (by omega) (by omega), mod_add a n hn]
theorem reduce_bd' {a b c x y : Int} (ha : 1 ≤ a ∧ a ≤ 64) (hc : 1 ≤ c ∧ c ≤ 64) (hb : 0 ≤ b ∧ b ≤ 63) (hx : -1000000 ≤ x ∧ x ≤ 1000000) (hy : -1000000 ≤ y ∧ y ≤ 1000000) :
    (0 ≤ y % c ∧ y % c < c) ∧ (-1000000 ≤ y / c ∧ y / c ≤ 1000000) ∧ (-63000000 ≤ y / c * b ∧ y / c * b ≤ 63000000) := by
  have h1 := Int.emod_nonneg y (show c ≠ 0 by omega)
  have h2 := Int.emod_lt_of_pos y (show 0 < c by omega)
  have h3 := Int.natAbs_ediv_le_natAbs y c
  have h4 := prod_bd (a := y / c) (b := b) (A := 1000000) (B := 63) (by omega) (by omega) (by omega) (by omega) (by omega)
  omega
theorem impl_Lattice_reduce_eq {a b c x y : Int} (ha : 1 ≤ a ∧ a ≤ 64) (hc : 1 ≤ c ∧ c ≤ 64) (hb : 0 ≤ b ∧ b ≤ 63) (hx : -1000000 ≤ x ∧ x ≤ 1000000) (hy : -1000000 ≤ y ∧ y ≤ 1000000) :
    impl_Lattice_reduce.f a b c x y = some (redV a b c x y) := by
  obtain ⟨h1, h2, h3⟩ := reduce_bd' ha hc hb hx hy
  unfold impl_Lattice_reduce.f redV
  rw [impl_mod_eq (by omega) (by omega)]
  simp only [Option.bind_some]
  rw [if_neg (by omega), wrap_id (x := y - y % c) (by omega) (by omega), tdiv_row y c (by omega), wrap_id (x := y / c) (by omega) (by omega), wrap_id (x := y / c * b) (by omega) (by omega), wrap_id (x := x - y / c * b) (by omega) (by omega), impl_mod_eq (by omega) (by omega)]
  rfl
theorem impl_latticeVecCode_eq (a b c x y : Int) (h1 : -9223372036854775808 ≤ a) (h2 : a < 9223372036854775808) : impl_latticeVecCode.f a b c x y = some (if latB a b c = true ∧ vecB x y = true then 0 else 1) := by
  unfold impl_latticeVecCode.f
  simp only [impl_IsLattice_eq a b c h1 h2, impl_IsVec_eq, Option.bind_some]
  by_cases h : latB a b c = true
  · by_cases h' : vecB x y = true
    · rw [if_pos h, if_pos h', if_pos ⟨h, h'⟩]
    · rw [if_pos h, if_neg h', if_neg (fun q => h' q.2)]
  · rw [if_neg h, if_neg (fun q => h q.1)]
theorem impl_ReduceVec_eq (a b c x y : Int) (h1 : -9223372036854775808 ≤ a) (h2 : a < 9223372036854775808) : impl_ReduceVec.f a b c x y = some (reduceR a b c x y) := by
  unfold impl_ReduceVec.f reduceR
  simp only [impl_latticeVecCode_eq a b c x y h1 h2, Option.bind_some]
  by_cases h : latB a b c = true ∧ vecB x y = true
  · have hl := latB_iff.mp h.1
    have hv := vecB_iff.mp h.2
    simp only [h, and_self, if_true]
    rw [impl_Lattice_reduce_eq hl.1 hl.2.1 (by omega) (by omega) (by omega)]; rfl
  · rw [if_neg h, if_neg h]; rfl
/-- A vector as the printed lists hold it. -/
def mkSV (v : Int × Int) : S31 := ⟨v.1, v.2⟩
theorem spec_cells_row (k : Nat) (a b c x : Int) (hc : c ≤ 64) : ∀ (d : Nat) (y : Int) (out : List S31), 0 ≤ y → y + d = c → out.length + d ≤ 1000000 →
    spec_l03Cells.l1 (k + d + 1) out x y a b c = spec_l03Cells.l0 k (out ++ (rowF x y d).map mkSV) (wrap64 (x + 1)) a b c := by
  intro d
  induction d with
  | zero => intro y out h0 hy hl; rw [spec_l03Cells.l1, if_neg (by omega)]; simp [rowF]
  | succ d ih =>
    intro y out h0 hy hl
    rw [show k + (d + 1) + 1 = (k + d + 1) + 1 by omega, spec_l03Cells.l1, if_pos (by omega), if_pos (by omega), wrap_id (x := y + 1) (by omega) (by omega), ih (y + 1) _ (by omega) (by omega) (by simp; omega)]
    simp [rowF, mkSV]
theorem spec_cells_box (k : Nat) (a b c : Int) (hc : 0 ≤ c ∧ c ≤ 64) (ha : a ≤ 64) : ∀ (d : Nat) (x : Int) (out : List S31), 0 ≤ x → x + d = a → out.length + d * 64 ≤ 100000 →
    spec_l03Cells.l0 (k + d * (c.toNat + 2) + 1) out x a b c = some (out ++ (boxF 0 c.toNat x d).map mkSV) := by
  intro d
  induction d with
  | zero => intro x out h0 hx hl; rw [spec_l03Cells.l0, if_neg (by omega)]; simp [boxF]
  | succ d ih =>
    intro x out h0 hx hl
    have e : k + (d + 1) * (c.toNat + 2) + 1 = ((k + d * (c.toNat + 2) + 1) + c.toNat + 1) + 1 := by rw [Nat.add_mul]; omega
    rw [e, spec_l03Cells.l0, if_pos (by omega), spec_cells_row _ a b c x (by omega) c.toNat 0 out (by omega) (by omega) (by omega), wrap_id (x := x + 1) (by omega) (by omega), ih (x + 1) _ (by omega) (by omega) (by simp [rowF_len]; omega)]
    simp [boxF]
theorem spec_l03Cells_eq (k : Nat) (hk : 5000 ≤ k) {a b c : Int} (ha : 1 ≤ a ∧ a ≤ 64) (hc : 1 ≤ c ∧ c ≤ 64) : spec_l03Cells.f k a b c = some ((boxF 0 c.toNat 0 a.toNat).map mkSV) := by
  unfold spec_l03Cells.f
  have hm : a.toNat * (c.toNat + 2) ≤ 64 * 66 := Nat.mul_le_mul (by omega) (by omega)
  obtain ⟨j, rfl⟩ : ∃ j, k = j + a.toNat * (c.toNat + 2) + 1 := ⟨k - a.toNat * (c.toNat + 2) - 1, by omega⟩
  rw [spec_cells_box j a b c (by omega) (by omega) a.toNat 0 [] (by omega) (by omega) (by simp; omega)]; simp
theorem impl_cells_row (k : Nat) (a b c x n : Int) (hc : c ≤ 64) : ∀ (d : Nat) (y : Int) (out : List S31), 0 ≤ y → y + d = c → out.length + d ≤ 1000000 →
    impl_Lattice_cells.l1 (k + d + 1) out x n x c y a b c = impl_Lattice_cells.l0 k (out ++ (rowF x y d).map mkSV) n (wrap64 (x + 1)) a b c := by
  intro d
  induction d with
  | zero => intro y out h0 hy hl; rw [impl_Lattice_cells.l1, if_neg (by omega)]; simp [rowF]
  | succ d ih =>
    intro y out h0 hy hl
    rw [show k + (d + 1) + 1 = (k + d + 1) + 1 by omega, impl_Lattice_cells.l1, if_pos (by omega), if_pos (by omega), wrap_id (x := y + 1) (by omega) (by omega), ih (y + 1) _ (by omega) (by omega) (by simp; omega)]
    simp [rowF, mkSV]
theorem impl_cells_box (k : Nat) (a b c : Int) (hc : 0 ≤ c ∧ c ≤ 64) (ha : a ≤ 64) : ∀ (d : Nat) (x : Int) (out : List S31), 0 ≤ x → x + d = a → out.length + d * 64 ≤ 100000 →
    impl_Lattice_cells.l0 (k + d * (c.toNat + 2) + 1) out a x a b c = some (out ++ (boxF 0 c.toNat x d).map mkSV) := by
  intro d
  induction d with
  | zero => intro x out h0 hx hl; rw [impl_Lattice_cells.l0, if_neg (by omega)]; simp [boxF]
  | succ d ih =>
    intro x out h0 hx hl
    have e : k + (d + 1) * (c.toNat + 2) + 1 = ((k + d * (c.toNat + 2) + 1) + c.toNat + 1) + 1 := by rw [Nat.add_mul]; omega
    rw [e, impl_Lattice_cells.l0, if_pos (by omega), impl_cells_row _ a b c x a (by omega) c.toNat 0 out (by omega) (by omega) (by omega), wrap_id (x := x + 1) (by omega) (by omega), ih (x + 1) _ (by omega) (by omega) (by simp [rowF_len]; omega)]
    simp [boxF]
theorem impl_Lattice_cells_eq (k : Nat) (hk : 5000 ≤ k) {a b c : Int} (ha : 1 ≤ a ∧ a ≤ 64) (hc : 1 ≤ c ∧ c ≤ 64) : impl_Lattice_cells.f k a b c = some ((boxF 0 c.toNat 0 a.toNat).map mkSV) := by
  unfold impl_Lattice_cells.f
  have hm : a.toNat * (c.toNat + 2) ≤ 64 * 66 := Nat.mul_le_mul (by omega) (by omega)
  obtain ⟨j, rfl⟩ : ∃ j, k = j + a.toNat * (c.toNat + 2) + 1 := ⟨k - a.toNat * (c.toNat + 2) - 1, by omega⟩
  rw [impl_cells_box j a b c (by omega) (by omega) a.toNat 0 [] (by omega) (by omega) (by simp; omega)]; simp
def cellsS (a b c : Int) : List S31 × Int := if latB a b c = true then ((boxF 0 c.toNat 0 a.toNat).map mkSV, 0) else ([], 1)
theorem cellsS_len (a b c : Int) : (cellsS a b c).1.length ≤ 5000 := by
  unfold cellsS
  split
  · rename_i h
    have hl := latB_iff.mp h
    have hm : a.toNat * c.toNat ≤ 64 * 64 := Nat.mul_le_mul (by omega) (by omega)
    simp [boxF_len]; omega
  · simp
theorem spec_CellsOf_eq (k : Nat) (hk : 5000 ≤ k) (a b c : Int) (h1 : -9223372036854775808 ≤ a) (h2 : a < 9223372036854775808) :
    spec_CellsOf.f k a b c = some (cellsS a b c) := by
  unfold spec_CellsOf.f cellsS
  simp only [spec_IsLattice_eq a b c h1 h2, Option.bind_some]
  split
  · rename_i h
    have hl := latB_iff.mp h
    rw [spec_l03Cells_eq k hk hl.1 hl.2.1]; rfl
  · rfl
theorem impl_CellsOf_eq (k : Nat) (hk : 5000 ≤ k) (a b c : Int) (h1 : -9223372036854775808 ≤ a) (h2 : a < 9223372036854775808) :
    impl_CellsOf.f k a b c = some (cellsS a b c) := by
  unfold impl_CellsOf.f cellsS
  simp only [impl_IsLattice_eq a b c h1 h2, Option.bind_some]
  split
  · rename_i h
    have hl := latB_iff.mp h
    rw [impl_Lattice_cells_eq k hk hl.1 hl.2.1]; rfl
  · rfl
def St (l : List Int) (p s : Int) : Prop := (l.length : Int) ≤ 4096 ∧ (∀ x ∈ l, 0 ≤ x ∧ x < 256) ∧ 0 ≤ p ∧ p ≤ (l.length : Int) ∧ 0 ≤ s ∧ s < 2147483647
theorem rd_mem {l : List Int} {i : Int} (h0 : 0 ≤ i) (h1 : i < (l.length : Int)) : rd l i ∈ l := by
  unfold rd
  have h : i.toNat < l.length := by omega
  have e : l.getD i.toNat 0 = l[i.toNat] := by simp [List.getD, h]
  rw [e]
  exact List.getElem_mem h
theorem tm_bd {X n : Int} (hX : 0 ≤ X) (hn : 0 < n) : 0 ≤ Int.tmod X n ∧ Int.tmod X n < n := ⟨Int.tmod_nonneg n hX, Int.tmod_lt_of_pos X hn⟩
theorem next_eq {l : List Int} {p s : Int} (h : St l p s) (n : Int) : ∃ r p' s', spec_l01Next.f l p s n = some (r, p', s') ∧ St l p' s' ∧ 0 ≤ r ∧ (r < n ∨ r = 0) := by
  have h0 := h
  obtain ⟨hl, hb, hp0, hp1, hs0, hs1⟩ := h
  unfold spec_l01Next.f
  by_cases hn : n ≤ 1
  · rw [if_pos hn]; exact ⟨0, p, s, rfl, h0, by omega, .inr rfl⟩
  rw [if_neg hn]
  rw [wrap_id (x := s * 48271) (by omega) (by omega), wrap_id (x := s * 48271 + 67) (by omega) (by omega)]
  obtain ⟨a1, a2⟩ := tm_bd (X := s * 48271 + 67) (n := 2147483647) (by omega) (by decide)
  generalize Int.tmod (s * 48271 + 67) 2147483647 = S at a1 a2
  have q0 : 0 ≤ Int.tdiv S 37 ∧ Int.tdiv S 37 ≤ S := by rw [Int.tdiv_eq_ediv_of_nonneg a1]; omega
  have q1 : wrap64 (Int.tdiv S 37) = Int.tdiv S 37 := wrap_id (by omega) (by omega)
  by_cases hp : p < (l.length : Int)
  · rw [if_pos hp, if_pos hp0]
    have m := hb _ (rd_mem hp0 hp)
    rw [wrap_id (x := p + 1) (by omega) (by omega), wrap_id (x := p + 1 - 1) (by omega) (by omega), Int.add_sub_cancel]
    have w1 : wrap64 (rd l p) = rd l p := wrap_id (by omega) (by omega)
    rw [q1, w1, wrap_id (x := Int.tdiv S 37 + rd l p) (by omega) (by omega), if_neg (show ¬ n = 0 by omega), if_neg (show ¬ n = 0 by omega)]
    have t1 := tm_bd (X := rd l p) (n := n) m.1 (by omega)
    have t2 := tm_bd (X := Int.tdiv S 37 + rd l p) (n := n) (by omega) (by omega)
    have st : St l (p + 1) S := ⟨hl, hb, by omega, by omega, a1, a2⟩
    split
    · split
      · exact ⟨_, _, _, rfl, st, t1.1, .inl t1.2⟩
      · exact ⟨_, _, _, rfl, st, t2.1, .inl t2.2⟩
    · exact ⟨_, _, _, rfl, st, t2.1, .inl t2.2⟩
  · rw [if_neg hp, if_neg (show ¬ n = 0 by omega), q1]
    have t1 := tm_bd (X := Int.tdiv S 37) (n := n) (by omega) (by omega)
    exact ⟨_, _, _, rfl, ⟨hl, hb, hp0, hp1, a1, a2⟩, t1.1, .inl t1.2⟩
theorem from_loop {l : List Int} (hl : (l.length : Int) ≤ 4096) (hb : ∀ x ∈ l, 0 ≤ x ∧ x < 256) (p : Int) : ∀ (k : Nat) (i s : Int), 0 ≤ i → i ≤ 64 → 64 - i < (k : Int) → 0 ≤ s → s < 2147483647 →
    ∃ s', spec_l01From.l0 k l i l p s = some (l, p, s') ∧ 0 ≤ s' ∧ s' < 2147483647
  | 0, i, s, h0, h1, h2, _, _ => by omega
  | k + 1, i, s, h0, h1, h2, h3, h4 => by
    unfold spec_l01From.l0
    by_cases hi : i < (l.length : Int)
    · rw [if_pos hi]
      by_cases h6 : i < 64
      · rw [if_pos h6, if_pos h0]
        have m := hb _ (rd_mem h0 hi)
        rw [wrap_id (x := i + 1) (by omega) (by omega), wrap_id (x := rd l i) (by omega) (by omega), wrap_id (x := s * 73) (by omega) (by omega), wrap_id (x := s * 73 + rd l i) (by omega) (by omega)]
        have t := tm_bd (X := s * 73 + rd l i) (n := 2147483647) (by omega) (by decide)
        exact from_loop hl hb p k (i + 1) _ (by omega) (by omega) (by omega) t.1 t.2
      · rw [if_neg h6]; exact ⟨s, rfl, h3, h4⟩
    · rw [if_neg hi]; exact ⟨s, rfl, h3, h4⟩
theorem from_eq {l : List Int} (hl : (l.length : Int) ≤ 4096) (hb : ∀ x ∈ l, 0 ≤ x ∧ x < 256) (k : Nat) (hk : 65 ≤ k) : ∃ p s, spec_l01From.f k l = some (l, p, s) ∧ St l p s := by
  obtain ⟨s, e, h1, h2⟩ := from_loop hl hb 0 k 0 93001 (by omega) (by omega) (by omega) (by omega) (by omega)
  exact ⟨0, s, e, hl, hb, by omega, by omega, h1, h2⟩
theorem pick_eq {l : List Int} {p s : Int} (h : St l p s) (L : List Int) (hL : 0 < L.length) : ∃ v p' s', spec_l01Pick.f l p s L = some (v, p', s') ∧ St l p' s' ∧ v ∈ L := by
  unfold spec_l01Pick.f
  obtain ⟨r, p', s', e, hs, b1, b2⟩ := next_eq h (L.length : Int)
  rw [e]
  simp only [Option.bind_some]
  have hr : r < (L.length : Int) := by rcases b2 with b | b <;> omega
  rw [if_pos b1, if_pos hr]
  exact ⟨_, _, _, rfl, hs, rd_mem b1 hr⟩
theorem big_eq (l : List Int) : laws_big.f l = some (decide ((l.length : Int) > 4096)) := rfl
theorem draw3_eq {l : List Int} {p s : Int} (h : St l p s) : ∃ a b c p' s', spec_l03Draw.f l p s = some (a, b, c, p', s') ∧ St l p' s' ∧ (-100 ≤ a ∧ a ≤ 100) := by
  unfold spec_l03Draw.f
  obtain ⟨r1, p1, s1, e1, h1, b1, c1⟩ := next_eq h 6
  rw [e1]
  simp only [Option.bind_some]
  obtain ⟨r2, p2, s2, e2, h2, b2, c2⟩ := next_eq h1 6
  rw [e2]
  simp only [Option.bind_some]
  rw [wrap_id (x := 1 + r1) (by omega) (by omega)]
  obtain ⟨r3, p3, s3, e3, h3, b3, c3⟩ := next_eq h2 (1 + r1)
  rw [e3]
  simp only [Option.bind_some]
  obtain ⟨r4, p4, s4, e4, h4, b4, c4⟩ := next_eq h3 60
  rw [e4]
  simp only [Option.bind_some]
  split
  · obtain ⟨v, p5, s5, e5, h5, m5⟩ := pick_eq h4 [0, 64, 65, 8] (by decide)
    rw [e5]
    simp only [List.mem_cons, List.not_mem_nil, or_false] at m5
    exact ⟨_, _, _, _, _, rfl, h5, by omega⟩
  · split
    · obtain ⟨v, p5, s5, e5, h5, m5⟩ := pick_eq h4 [-1, 1 + r1, wrap64 (1 + r1 - 1)] (by simp)
      rw [e5]
      exact ⟨_, _, _, _, _, rfl, h5, by omega⟩
    · split
      · obtain ⟨v, p5, s5, e5, h5, m5⟩ := pick_eq h4 [8, 9] (by decide)
        rw [e5]
        exact ⟨_, _, _, _, _, rfl, h5, by omega⟩
      · exact ⟨_, _, _, _, _, rfl, h4, by omega⟩
theorem rd_SV_at (pre : List S31) (v : S31) (t : List S31) (i : Int) (hi : i = pre.length) : rd_T31 (pre ++ v :: t) i = v := by
  subst hi; unfold rd_T31; simp
theorem like9V_loop (l : List S31) (hl : l.length ≤ 1000000) (k : Nat) : ∀ (t pre : List S31) (i : Int), l = pre ++ t → i = pre.length → laws_likeVecs9.l0 (k + t.length + 1) l l i = some true := by
  intro t
  induction t with
  | nil => intro pre i e hi; rw [laws_likeVecs9.l0, if_neg (by subst hi; subst e; simp)]
  | cons v t ih =>
    intro pre i e hi
    have hlen : l.length = pre.length + (t.length + 1) := by rw [e]; simp
    have hn := ih (pre ++ [v]) (i + 1) (by rw [e]; simp) (by rw [hi]; simp)
    rw [show k + (v :: t).length + 1 = (k + t.length + 1) + 1 by simp; omega, laws_likeVecs9.l0, if_pos (by omega), if_pos (by omega), if_pos (by omega), wrap_id (x := i + 1) (by omega) (by omega), if_neg (by simp)]
    exact hn
theorem like9V_self (k : Nat) (l : List S31) (hl : l.length ≤ 1000000) (hk : l.length < k) : laws_likeVecs9.f k l l = some true := by
  unfold laws_likeVecs9.f
  rw [if_pos rfl]
  obtain ⟨j, rfl⟩ : ∃ j, k = j + l.length + 1 := ⟨k - l.length - 1, by omega⟩
  exact like9V_loop l hl j l [] 0 rfl rfl
theorem ba_app (a b : List UInt8) : (⟨a.toArray⟩ : ByteArray) ++ (⟨b.toArray⟩ : ByteArray) = ⟨(a ++ b).toArray⟩ := by
  apply ByteArray.ext
  simp
theorem ba_size (a : List UInt8) : (⟨a.toArray⟩ : ByteArray).size = a.length := by simp [ByteArray.size]
theorem one_str (n : Nat) (h : n < 10) : strOfNums [(wrap64 (48 + (n : Int))) % 256] = ⟨[UInt8.ofNat (48 + n)].toArray⟩ := by
  rw [wrap_id (by omega) (by omega), show (48 + (n : Int)) % 256 = ((48 + n : Nat) : Int) by omega]
  unfold strOfNums
  simp only [List.map_cons, List.map_nil, Int.toNat_natCast]
theorem dec_len : ∀ (d n : Nat), n < 10 ^ (d + 1) → (Lib.decDigits n).length ≤ d + 1 := by
  intro d
  induction d with
  | zero => intro n h; rw [Lib.decDigits_one (by simpa using h)]; simp
  | succ d ih =>
    intro n h
    by_cases h10 : n < 10
    · rw [Lib.decDigits_one h10]; simp
    · rw [Lib.decDigits, dif_neg h10, List.length_append]
      have := ih (n / 10) (by rw [Nat.pow_succ] at h; omega)
      simp only [List.length_cons, List.length_nil]; omega
theorem spec_l01Dec_eq (k : Nat) : ∀ (d n : Nat), d ≤ 17 → n < 10 ^ (d + 1) → spec_l01Dec.f (k + d + 1) (n : Int) = some ⟨(Lib.decDigits n).toArray⟩ := by
  intro d
  induction d with
  | zero =>
    intro n hd h
    have h10 : n < 10 := by simpa using h
    rw [spec_l01Dec.f, if_pos (by omega), one_str n h10, Lib.decDigits_one h10]
  | succ d ih =>
    intro n hd h
    by_cases h10 : n < 10
    · rw [spec_l01Dec.f, if_pos (by omega), one_str n h10, Lib.decDigits_one h10]
    · have hp : n < 10 ^ 18 := Nat.lt_of_lt_of_le h (Nat.pow_le_pow_right (by decide) (by omega))
      have hp2 : (10 : Nat) ^ 18 = 1000000000000000000 := by decide
      have hn : n / 10 < 10 ^ (d + 1) := by rw [Nat.pow_succ] at h; omega
      have e1 : Int.tdiv (n : Int) 10 = ((n / 10 : Nat) : Int) := rfl
      have e2 : Int.tmod (n : Int) 10 = ((n % 10 : Nat) : Int) := rfl
      have hl := dec_len d (n / 10) hn
      rw [show k + (d + 1) + 1 = (k + d + 1) + 1 from rfl, spec_l01Dec.f, if_neg (by omega), e1, e2, wrap_id (by omega) (by omega), ih (n / 10) (by omega) hn]
      simp only [Option.bind_some]
      rw [one_str (n % 10) (by omega), ba_size, ba_size, if_pos (by simp only [List.length_cons, List.length_nil]; omega), ba_app]
      rw [Lib.decDigits.eq_1 n, dif_neg h10]
theorem itoa_len {n : Int} (h : -1000000000000 ≤ n ∧ n ≤ 1000000000000) : (Lib.itoa n).length ≤ 14 := by
  have hp : (10 : Nat) ^ 13 = 10000000000000 := by decide
  unfold Lib.itoa
  split
  · have := dec_len 12 n.natAbs (by rw [hp]; omega)
    simp only [List.length_cons]; omega
  · have := dec_len 12 n.toNat (by rw [hp]; omega)
    omega
theorem spec_l01Number_eq (k : Nat) (hk : 13 ≤ k) {n : Int} (h : -1000000000000 ≤ n ∧ n ≤ 1000000000000) : spec_l01Number.f k n = some ⟨(Lib.itoa n).toArray⟩ := by
  obtain ⟨j, rfl⟩ : ∃ j, k = j + 12 + 1 := ⟨k - 13, by omega⟩
  have hp : (10 : Nat) ^ 13 = 10000000000000 := by decide
  unfold spec_l01Number.f Lib.itoa
  by_cases hn : n < 0
  · have e : wrap64 (-n) = ((n.natAbs : Nat) : Int) := by rw [wrap_id (by omega) (by omega)]; omega
    have hl := dec_len 12 n.natAbs (by rw [hp]; omega)
    rw [if_pos hn, if_pos hn, e, spec_l01Dec_eq j 12 n.natAbs (by omega) (by rw [hp]; omega)]
    simp only [Option.bind_some]
    rw [ba_size, if_pos (by omega), show (⟨#[45]⟩ : ByteArray) = ⟨[45].toArray⟩ from rfl, ba_app]
    rfl
  · have e : n = ((n.toNat : Nat) : Int) := by omega
    rw [if_neg hn, if_neg hn]
    conv => lhs; rw [e]
    rw [spec_l01Dec_eq j 12 n.toNat (by omega) (by rw [hp]; omega)]
    rfl
theorem impl_text_eq (k : Nat) {n : Int} (h : -1000000000000 ≤ n ∧ n ≤ 1000000000000) : impl_text.f k n = some ⟨(Lib.itoa n).toArray⟩ := by
  unfold impl_text.f
  rw [if_pos (by omega)]
def itoaB (n : Int) : ByteArray := ⟨(Lib.itoa n).toArray⟩
theorem rd_at_ (pre : List Int) (v : Int) (t : List Int) (i : Int) (hi : i = pre.length) : rd (pre ++ v :: t) i = v := by
  subst hi; unfold rd; simp
theorem joined_loop (sep : ByteArray) (T : List Int) (hT : T.length ≤ 1000) (hb : ∀ n ∈ T, -1000000000000 ≤ n ∧ n ≤ 1000000000000) (k : Nat) :
    ∀ (t pre : List Int) (out : List ByteArray) (i : Int), T = pre ++ t → i = pre.length → out.length = pre.length →
    impl_joined.l0 (k + t.length + 1) sep out T (T.length : Int) i = (strings_Join.f k (out ++ t.map itoaB) sep) := by
  intro t
  induction t with
  | nil =>
    intro pre out i e hi ho
    rw [impl_joined.l0, if_neg (by subst hi; subst e; simp)]
    simp
  | cons v t ih =>
    intro pre out i e hi ho
    have hlen : T.length = pre.length + (t.length + 1) := by rw [e]; simp
    have hr : rd T i = v := by rw [e]; exact rd_at_ pre v t i hi
    rw [show k + (v :: t).length + 1 = (k + t.length + 1) + 1 by simp; omega, impl_joined.l0, if_pos (by omega), if_pos (by omega), if_pos (by omega), hr, impl_text_eq _ (hb v (by rw [e]; simp))]
    simp only [Option.bind_some]
    rw [if_pos (by omega), wrap_id (x := i + 1) (by omega) (by omega), ih (pre ++ [v]) _ (i + 1) (by rw [e]; simp) (by rw [hi]; simp) (by simp; omega)]
    simp [itoaB]
def textL (T : List Int) : List UInt8 := Lib.join (T.map Lib.itoa) [44]
theorem textL_len : ∀ (T : List Int), (∀ n ∈ T, -1000000000000 ≤ n ∧ n ≤ 1000000000000) → (Lib.joinTail [44] (T.map Lib.itoa)).length ≤ 15 * T.length := by
  intro T
  induction T with
  | nil => intro _; simp [Lib.joinTail]
  | cons v t ih =>
    intro h
    have h1 := ih (fun n hn => h n (List.mem_cons_of_mem _ hn))
    have h2 := itoa_len (h v List.mem_cons_self)
    unfold Lib.joinTail at h1 ⊢
    simp only [List.map_cons, List.flatten_cons, List.length_append, List.length_cons, List.length_nil] at h1 ⊢
    omega
theorem textL_cons (v : Int) (t : List Int) : textL (v :: t) = Lib.itoa v ++ Lib.joinTail [44] (t.map Lib.itoa) := by
  unfold textL
  rw [List.map_cons]
  exact Lib.join_cons _ _ _
theorem impl_joined_eq (k : Nat) (v : Int) (t : List Int) (ht : t.length ≤ 900) (hb : ∀ n ∈ v :: t, -1000000000000 ≤ n ∧ n ≤ 1000000000000) (hk : 1000 ≤ k) :
    impl_joined.f k ⟨#[44]⟩ (v :: t) = some ⟨(textL (v :: t)).toArray⟩ := by
  unfold impl_joined.f
  obtain ⟨j, rfl⟩ : ∃ j, k = j + (v :: t).length + 1 := ⟨k - (v :: t).length - 1, by simp; omega⟩
  rw [joined_loop ⟨#[44]⟩ (v :: t) (by simp; omega) hb j (v :: t) [] [] 0 rfl rfl rfl]
  have e : (([] ++ (v :: t).map itoaB).map (fun x : ByteArray => x.data.toList)) = (v :: t).map Lib.itoa := by simp [itoaB]
  have hl := textL_len t (fun n hn => hb n (List.mem_cons_of_mem _ hn))
  have hv := itoa_len (hb v List.mem_cons_self)
  have e2 := textL_cons v t
  unfold textL at e2 ⊢
  unfold strings_Join.f
  rw [e, show (⟨#[44]⟩ : ByteArray).data.toList = [44] from rfl, if_pos ⟨by simp, by simp; omega, by rw [e2, List.length_append]; omega⟩]
theorem rd_at2 (pre : List Int) (v : Int) (t : List Int) (i : Int) (hi : i = pre.length) : rd (pre ++ v :: t) i = v := by
  subst hi; unfold rd; simp
theorem specJoin_loop (T : List Int) (hT : T.length ≤ 1000) (hb : ∀ n ∈ T, -1000000000000 ≤ n ∧ n ≤ 1000000000000) (k : Nat) (hk : 13 ≤ k) :
    ∀ (t pre : List Int) (out : List UInt8) (i : Int), T = pre ++ t → i = pre.length → 0 < pre.length → out.length ≤ 15 * pre.length →
    spec_l01Join.l0 (k + t.length + 1) T ⟨#[44]⟩ ⟨out.toArray⟩ i = some ⟨(out ++ (t.map fun n => [44] ++ Lib.itoa n).flatten).toArray⟩ := by
  intro t
  induction t with
  | nil =>
    intro pre out i e hi hp ho
    rw [spec_l01Join.l0, if_neg (by subst hi; subst e; simp)]
    simp
  | cons v t ih =>
    intro pre out i e hi hp ho
    have hlen : T.length = pre.length + (t.length + 1) := by rw [e]; simp
    have hr : rd T i = v := by rw [e]; exact rd_at2 pre v t i hi
    have hv := hb v (by rw [e]; simp)
    have hl := itoa_len hv
    rw [show k + (v :: t).length + 1 = (k + t.length + 1) + 1 by simp; omega, spec_l01Join.l0, if_pos (by omega), if_pos (by omega), show (⟨#[44]⟩ : ByteArray) = ⟨[44].toArray⟩ from rfl, ba_size, ba_size, if_pos (by simp only [List.length_cons, List.length_nil]; omega), if_pos (by omega), hr, spec_l01Number_eq _ (by omega) hv]
    simp only [Option.bind_some]
    rw [ba_app, ba_size, ba_size, if_pos (by simp only [List.length_append, List.length_cons, List.length_nil]; omega), ba_app, wrap_id (x := i + 1) (by omega) (by omega)]
    have := ih (pre ++ [v]) (out ++ [44] ++ Lib.itoa v) (i + 1) (by rw [e]; simp) (by rw [hi]; simp) (by simp) (by simp only [List.length_append, List.length_cons, List.length_nil]; omega)
    rw [show (⟨[44].toArray⟩ : ByteArray) = ⟨#[44]⟩ from rfl, this]
    simp
theorem spec_l01Join_eq (k : Nat) (v : Int) (t : List Int) (ht : t.length ≤ 900) (hb : ∀ n ∈ v :: t, -1000000000000 ≤ n ∧ n ≤ 1000000000000) (hk : 1000 ≤ k) :
    spec_l01Join.f k (v :: t) ⟨#[44]⟩ = some ⟨(textL (v :: t)).toArray⟩ := by
  unfold spec_l01Join.f
  have hl := itoa_len (hb v List.mem_cons_self)
  obtain ⟨j, rfl⟩ : ∃ j, k = j + t.length + 1 + 1 := ⟨k - t.length - 2, by omega⟩
  have hr : rd (v :: t) 0 = v := rfl
  rw [spec_l01Join.l0, if_pos (by simp), if_neg (by decide), if_pos (by decide), hr, spec_l01Number_eq _ (by omega) (hb v List.mem_cons_self)]
  simp only [Option.bind_some]
  rw [show (⟨#[]⟩ : ByteArray) = ⟨([] : List UInt8).toArray⟩ from rfl, ba_size, ba_size, if_pos (by simp only [List.length_nil]; omega), ba_app, wrap_id (x := 0 + 1) (by omega) (by omega)]
  rw [specJoin_loop (v :: t) (by simp; omega) hb j (by omega) t [v] ([] ++ Lib.itoa v) (0 + 1) rfl rfl (by simp) (by simp only [List.nil_append, List.length_cons, List.length_nil]; omega)]
  rw [textL_cons]
  unfold Lib.joinTail
  simp [List.map_map, Function.comp_def]
theorem spec_LatticeText_eq (k : Nat) (hk : 1000 ≤ k) (a b c : Int) (h1 : -9223372036854775808 ≤ a) (h2 : a < 9223372036854775808) : spec_LatticeText.f k a b c = some (if latB a b c = true then ⟨(textL [a, b, c]).toArray⟩ else ⟨#[]⟩) := by
  unfold spec_LatticeText.f
  rw [spec_IsLattice_eq a b c h1 h2]
  simp only [Option.bind_some]
  by_cases h : latB a b c = true
  · obtain ⟨⟨a1, a2⟩, ⟨c1, c2⟩, ⟨b1, b2⟩, hac⟩ := latB_iff.mp h
    rw [if_pos h, if_pos h, spec_l01Join_eq k a [b, c] (by simp) (fun n hn => by simp at hn; rcases hn with rfl | rfl | rfl <;> omega) hk]
    rfl
  · rw [if_neg h, if_neg h]
theorem impl_LatticeText_eq (k : Nat) (hk : 1000 ≤ k) (a b c : Int) (h1 : -9223372036854775808 ≤ a) (h2 : a < 9223372036854775808) : impl_LatticeText.f k a b c = some (if latB a b c = true then ⟨(textL [a, b, c]).toArray⟩ else ⟨#[]⟩) := by
  unfold impl_LatticeText.f
  rw [impl_IsLattice_eq a b c h1 h2]
  simp only [Option.bind_some]
  by_cases h : latB a b c = true
  · obtain ⟨⟨a1, a2⟩, ⟨c1, c2⟩, ⟨b1, b2⟩, hac⟩ := latB_iff.mp h
    rw [if_pos h, if_pos h, impl_joined_eq k a [b, c] (by simp) (fun n hn => by simp at hn; rcases hn with rfl | rfl | rfl <;> omega) hk]
    rfl
  · rw [if_neg h, if_neg h]
def spA (cur : List UInt8) : List UInt8 → List (List UInt8)
  | [] => [cur]
  | b :: l => if b = 44 then cur :: spA [] l else spA (cur ++ [b]) l
def mkB (l : List UInt8) : ByteArray := ⟨l.toArray⟩
theorem mkB_size (l : List UInt8) : (mkB l).size = l.length := by simp [mkB, ByteArray.size]
theorem mkB_data (x : ByteArray) : mkB x.data.toList = x := by cases x; simp [mkB]
theorem mkB_list (l : List UInt8) : (mkB l).data.toList = l := by simp [mkB]
theorem mkB_inj {a b : List UInt8} (h : mkB a = mkB b) : a = b := by rw [← mkB_list a, ← mkB_list b, h]
theorem mkB_tl (a : ByteArray) : a.toList = a.data.toList := Lib.toList_data a
theorem spA_pre (c : List UInt8) : ∀ (l cur : List UInt8), spA (c ++ cur) l = match spA cur l with | [] => [] | h :: t => (c ++ h) :: t := by
  intro l
  induction l with
  | nil => intro cur; rfl
  | cons b l ih =>
    intro cur
    by_cases hb : b = 44
    · simp [spA, hb]
    · simp only [spA, if_neg hb, List.append_assoc]
      exact ih (cur ++ [b])
theorem splitK_spA : ∀ (l : List UInt8), Lib.splitK [44] 0 (Lib.count l [44]) l = spA [] l := by
  intro l
  induction l with
  | nil => rfl
  | cons b l ih =>
    by_cases hb : b = 44
    · subst hb
      have hix : Lib.index (44 :: l) [44] = 0 := by rw [Lib.index]; simp [List.isPrefixOf]
      rw [Lib.count_cons_eq, Nat.add_comm, Lib.splitK, hix, if_neg (by decide)]
      simp only [spA, if_true, ← ih]
      rfl
    · have hp : ([44] : List UInt8).isPrefixOf (b :: l) = false := by simp [List.isPrefixOf, Ne.symm hb]
      have hix : Lib.index (b :: l) [44] = if Lib.index l [44] == -1 then -1 else Lib.index l [44] + 1 := by rw [Lib.index, hp]; simp
      have hs : spA [] (b :: l) = spA ([b] ++ []) l := by simp [spA, hb]
      rw [Lib.count_cons_ne b 44 l hb, hs, spA_pre [b] l [], ← ih]
      cases hc : Lib.count l [44] with
      | zero => rfl
      | succ n =>
        have hne : Lib.index l [44] ≠ -1 := fun e => by rw [Lib.count_miss e] at hc; cases hc
        have hge := Lib.index_ge l [44]
        obtain ⟨j, hj⟩ : ∃ j : Nat, Lib.index l [44] = j := ⟨(Lib.index l [44]).toNat, by omega⟩
        have hix2 : Lib.index (b :: l) [44] = ((j + 1 : Nat) : Int) := by
          rw [hix, if_neg (fun e => hne (beq_iff_eq.1 e)), hj]; omega
        have n1 : ¬ (((j + 1 : Nat) : Int) == -1) = true := fun e => by have := beq_iff_eq.1 e; omega
        have n2 : ¬ ((j : Int) == -1) = true := fun e => by have := beq_iff_eq.1 e; omega
        simp only [Lib.splitK, hix2, hj, if_neg n1, if_neg n2, Int.toNat_natCast, Nat.add_zero, List.take_succ_cons, List.length_cons, List.length_nil, Nat.zero_add, List.drop_succ_cons, List.cons_append, List.nil_append]
theorem split_eq (k : Nat) (s : ByteArray) (hs : s.size < 4294967281) : strings_Split.f k s ⟨#[44]⟩ = some ((spA [] s.data.toList).map mkB) := by
  unfold strings_Split.f
  rw [if_pos ⟨hs, by decide⟩, ← splitK_spA]
  have h := Lib.splitB_data ⟨#[44]⟩ 0 (Lib.countB s ⟨#[44]⟩) s
  have h2 := congrArg (List.map mkB) h
  rw [List.map_map] at h2
  have e : (mkB ∘ fun x : ByteArray => x.data.toList) = id := by funext x; simp [mkB_data]
  rw [e, List.map_id] at h2
  exact congrArg some h2
theorem mkB_cut (pre cur rest : List UInt8) (i j : Int) (hi : i = pre.length) (hj : j = (pre ++ cur).length) : (mkB (pre ++ cur ++ rest)).extract i.toNat j.toNat = mkB cur := by
  subst hi hj
  apply ByteArray.ext
  apply Array.toList_inj.1
  have e : ((pre.length : Int) + (cur.length : Int)).toNat - pre.length = cur.length := by omega
  simp [mkB, e]
theorem mkB_bt (pre : List UInt8) (b : UInt8) (rest : List UInt8) (i : Int) (hi : i = pre.length) : bt (mkB (pre ++ b :: rest)) i = b.toNat := by
  subst hi
  unfold bt
  rw [dif_pos (by rw [mkB_size, List.length_append, List.length_cons]; omega)]
  simp [mkB, ByteArray.getElem_eq_getElem_data]
theorem split_loop (s : List UInt8) (hs : s.length ≤ 2000000) (k : Nat) : ∀ (rest pre cur : List UInt8) (x5 : List ByteArray) (i j : Int), s = pre ++ cur ++ rest → x5.length ≤ pre.length → i = pre.length → j = (pre ++ cur).length →
    spec_l01Split.l0 (k + rest.length + 2) (mkB s) 44 x5 i j = some (x5 ++ (spA cur rest).map mkB) := by
  intro rest
  induction rest with
  | nil =>
    intro pre cur x5 i j hp hx hi hj
    have hsz : ((mkB s).size : Int) = j := by rw [mkB_size, hp, hj]; simp
    have hl : pre.length + cur.length ≤ 2000000 := by have := hs; rw [hp] at this; simpa using this
    have hjl : j = pre.length + cur.length := by rw [hj]; simp
    have hw : wrap64 (j + 1) = j + 1 := wrap_id (by omega) (by omega)
    have hcut := mkB_cut pre cur [] i j hi hj
    rw [← hp] at hcut
    rw [show k + ([] : List UInt8).length + 2 = (k + 1) + 1 from rfl, spec_l01Split.l0, hsz, if_pos (by omega), if_pos rfl, if_pos (by omega), if_pos (by omega), if_pos (by omega), hw, spec_l01Split.l0, hsz, if_neg (by omega), hcut]
    rfl
  | cons b rest ih =>
    intro pre cur x5 i j hp hx hi hj
    have hl : pre.length + cur.length + rest.length + 1 ≤ 2000000 := by
      have := hs; rw [hp] at this; simp only [List.length_append, List.length_cons] at this; omega
    have hjl : j = pre.length + cur.length := by rw [hj]; simp
    have hsz : ((mkB s).size : Int) = j + rest.length + 1 := by
      rw [mkB_size, hp, hjl]; simp only [List.length_append, List.length_cons]; omega
    have hw : wrap64 (j + 1) = j + 1 := wrap_id (by omega) (by omega)
    have hb : bt (mkB s) j = b.toNat := by rw [hp]; exact mkB_bt (pre ++ cur) b rest j hj
    rw [show k + (b :: rest).length + 2 = (k + rest.length + 2) + 1 by simp only [List.length_cons]; omega, spec_l01Split.l0, hsz, if_pos (by omega), if_neg (by omega), if_pos (by omega), if_pos (by omega), hb, hw]
    by_cases h : b = 44
    · subst h
      have hcut := mkB_cut pre cur (44 :: rest) i j hi hj
      rw [← hp] at hcut
      rw [if_pos (by decide), if_pos (by omega), if_pos (by omega), if_pos (by omega), hcut]
      rw [ih (pre ++ cur ++ [44]) [] (x5 ++ [mkB cur]) (j + 1) (j + 1) (by rw [hp]; simp) (by simp; omega) (by simp; omega) (by simp; omega)]
      simp [spA]
    · have hne : ¬ ((b.toNat : Int) = 44) := fun e => h (by apply UInt8.toNat.inj; simpa using (by omega : b.toNat = 44))
      rw [if_neg hne]
      rw [ih pre (cur ++ [b]) x5 i (j + 1) (by rw [hp]; simp) hx hi (by simp; omega)]
      simp [spA, h]
theorem spec_split_eq (k : Nat) (s : ByteArray) (hs : s.size ≤ 2000000) (hk : 2000010 ≤ k) : spec_l01Split.f k s 44 = some ((spA [] s.data.toList).map mkB) := by
  obtain ⟨l, rfl⟩ : ∃ l, s = mkB l := ⟨_, (mkB_data s).symm⟩
  rw [mkB_size] at hs
  unfold spec_l01Split.f
  obtain ⟨m, rfl⟩ : ∃ m, k = m + l.length + 2 := ⟨k - l.length - 2, by omega⟩
  rw [split_loop l hs m l [] [] [] 0 0 (by simp) (by simp) (by simp) (by simp), mkB_list]
  simp
def digB (l : List UInt8) : Bool := l.all fun c => decide (48 ≤ c.toNat ∧ c.toNat ≤ 57)
def vlD (acc : Nat) : List UInt8 → Nat
  | [] => acc
  | c :: r => vlD (10 * acc + (c.toNat - 48)) r
theorem dg_byte (d : Nat) (h : d < 10) : (UInt8.ofNat (48 + d)).toNat = 48 + d := by
  rw [UInt8.toNat_ofNat']; omega
theorem digB_app (a b : List UInt8) : digB (a ++ b) = (digB a && digB b) := by simp [digB]
theorem digB_one (d : Nat) (h : d < 10) : digB [UInt8.ofNat (48 + d)] = true := by
  have e := dg_byte d h
  unfold digB
  simp only [List.all_cons, List.all_nil, e, Bool.and_true]
  exact decide_eq_true (by omega)
theorem vlD_app : ∀ (a b : List UInt8) (v : Nat), vlD v (a ++ b) = vlD (vlD v a) b := by
  intro a
  induction a with
  | nil => intro b v; rfl
  | cons c a ih => intro b v; exact ih b _
theorem vlD_one (v d : Nat) (h : d < 10) : vlD v [UInt8.ofNat (48 + d)] = 10 * v + d := by
  have e := dg_byte d h
  show 10 * v + ((UInt8.ofNat (48 + d)).toNat - 48) = _
  rw [e]; omega
theorem dec_digB (n : Nat) : digB (Lib.decDigits n) = true ∧ vlD 0 (Lib.decDigits n) = n := by
  induction n using Nat.strongRecOn with
  | _ n ih =>
    by_cases h : n < 10
    · rw [Lib.decDigits_one h]
      exact ⟨digB_one n h, by rw [vlD_one 0 n h]; omega⟩
    · obtain ⟨i1, i2⟩ := ih (n / 10) (by omega)
      have e : Lib.decDigits n = Lib.decDigits (n / 10) ++ [UInt8.ofNat (48 + n % 10)] := by rw [Lib.decDigits.eq_1 n, dif_neg h]
      rw [e, digB_app, i1, digB_one (n % 10) (by omega), vlD_app, i2, vlD_one (n / 10) (n % 10) (by omega)]
      exact ⟨rfl, by omega⟩
theorem dec_ne (n : Nat) : Lib.decDigits n ≠ [] := by
  intro e
  have := Lib.decDigits_length n
  have h2 := Lib.nDigits_pos n
  rw [e] at this
  simp only [List.length_nil] at this
  omega
theorem tl_beq (a b : ByteArray) : (a.toList == b.toList) = decide (a = b) := by
  by_cases h : a = b
  · subst h; simp
  · rw [decide_eq_false h]
    refine beq_eq_false_iff_ne.2 fun e => h ?_
    rw [mkB_tl, mkB_tl] at e
    rw [← mkB_data a, ← mkB_data b, e]
theorem dec_mk (k m : Nat) (hm : m < 10000000000) (hk : 10 ≤ k) : spec_l01Dec.f k (m : Int) = some (mkB (Lib.decDigits m)) := by
  obtain ⟨j, rfl⟩ : ∃ j, k = j + 9 + 1 := ⟨k - 10, by omega⟩
  exact spec_l01Dec_eq j 9 m (by omega) (by have e : (10 : Nat) ^ 10 = 10000000000 := by decide
                                            show m < 10 ^ 10
                                            omega)
theorem vlD_lt : ∀ (l : List UInt8) (v e : Nat), digB l = true → v < 10 ^ e → vlD v l < 10 ^ (e + l.length) := by
  intro l
  induction l with
  | nil => intro v e _ h; exact h
  | cons c l ih =>
    intro v e hd h
    simp only [digB, List.all_cons, Bool.and_eq_true, decide_eq_true_eq] at hd
    have h2 : 10 * v + (c.toNat - 48) < 10 ^ (e + 1) := by rw [Nat.pow_succ]; omega
    have := ih _ (e + 1) hd.2 h2
    rw [show e + (c :: l).length = e + 1 + l.length by simp only [List.length_cons]; omega]
    exact this
theorem digits_loop (s : List UInt8) (hs : s.length ≤ 10) (k : Nat) : ∀ (rest pre : List UInt8) (v : Nat) (i : Int), s = pre ++ rest → i = pre.length → v < 10 ^ pre.length →
    spec_l01Digits.l0 (k + rest.length + 11) (mkB s) (v : Int) i = some (if digB rest = true then ((vlD v rest : Int), decide (mkB (Lib.decDigits (vlD v rest)) = mkB s)) else (0, false)) := by
  intro rest
  induction rest with
  | nil =>
    intro pre v i hp hi hv
    have hl : pre.length ≤ 10 := by rw [hp] at hs; simpa using hs
    have hsz : ((mkB s).size : Int) = i := by rw [mkB_size, hp, hi]; simp
    have hv2 : v < 10000000000 := Nat.lt_of_lt_of_le hv (Nat.le_trans (Nat.pow_le_pow_right (by decide) hl) (by decide))
    rw [show k + ([] : List UInt8).length + 11 = (k + 10) + 1 from rfl, spec_l01Digits.l0, hsz, if_neg (by omega), dec_mk (k + 10) v hv2 (by omega)]
    simp only [Option.bind_some, tl_beq]
    rw [if_pos (by rfl)]
    rfl
  | cons b rest ih =>
    intro pre v i hp hi hv
    have hl : pre.length + rest.length + 1 ≤ 10 := by rw [hp] at hs; simp only [List.length_append, List.length_cons] at hs; omega
    have hsz : ((mkB s).size : Int) = i + rest.length + 1 := by rw [mkB_size, hp, hi]; simp only [List.length_append, List.length_cons]; omega
    have hb : bt (mkB s) i = b.toNat := by rw [hp]; exact mkB_bt pre b rest i hi
    have hb2 := b.toNat_lt
    have hw : wrap64 (i + 1) = i + 1 := wrap_id (by omega) (by omega)
    have hv2 : v < 1000000000 := Nat.lt_of_lt_of_le hv (Nat.le_trans (Nat.pow_le_pow_right (by decide) (show pre.length ≤ 9 by omega)) (by decide))
    rw [show k + (b :: rest).length + 11 = (k + rest.length + 11) + 1 by simp only [List.length_cons]; omega, spec_l01Digits.l0, hsz, if_pos (by omega), if_pos (by omega), hb, hw]
    by_cases h1 : b.toNat < 48
    · rw [if_pos (by omega), if_neg (by simp only [digB, List.all_cons, Bool.and_eq_true, decide_eq_true_eq]; omega)]
    by_cases h2 : b.toNat > 57
    · rw [if_neg (by omega), if_pos (by omega), if_neg (by simp only [digB, List.all_cons, Bool.and_eq_true, decide_eq_true_eq]; omega)]
    have e1 : wrap64 (10 * (v : Int)) = 10 * (v : Int) := wrap_id (by omega) (by omega)
    have e2 : wrap64 (10 * (v : Int) + ((b.toNat : Int) - 48) % 256) = ((10 * v + (b.toNat - 48) : Nat) : Int) := by
      rw [show ((b.toNat : Int) - 48) % 256 = ((b.toNat - 48 : Nat) : Int) by omega, wrap_id (by omega) (by omega)]; omega
    have hd : digB (b :: rest) = digB rest := by
      show (decide (48 ≤ b.toNat ∧ b.toNat ≤ 57) && digB rest) = digB rest
      rw [decide_eq_true (by omega), Bool.true_and]
    rw [if_neg (by omega), if_neg (by omega), e1, e2, ih (pre ++ [b]) _ (i + 1) (by rw [hp]; simp) (by simp; omega) (by rw [List.length_append, List.length_cons, List.length_nil, Nat.zero_add, Nat.pow_succ]; omega), hd]
    rfl
theorem digits_eq (k : Nat) (l : List UInt8) (hk : 40 ≤ k) : spec_l01Digits.f k (mkB l) = some (if 1 ≤ l.length ∧ l.length ≤ 10 ∧ digB l = true then ((vlD 0 l : Int), decide (mkB (Lib.decDigits (vlD 0 l)) = mkB l)) else (0, false)) := by
  obtain ⟨m, rfl⟩ : ∃ m, k = m + 1 := ⟨k - 1, by omega⟩
  unfold spec_l01Digits.f
  rw [mkB_size]
  by_cases h1 : l.length < 1
  · rw [if_pos (by omega), spec_l01Digits.j0, if_pos rfl, if_neg (by omega)]
  rw [if_neg (by omega), spec_l01Digits.j0]
  by_cases h2 : l.length > 10
  · rw [if_pos (by rw [decide_eq_true_eq]; omega), if_neg (by omega)]
  rw [if_neg (by rw [decide_eq_true_eq]; omega)]
  obtain ⟨j, rfl⟩ : ∃ j, m = j + l.length + 11 := ⟨m - l.length - 11, by omega⟩
  have hh := digits_loop l (by omega) j l [] 0 0 (by simp) (by simp) (by simp)
  rw [show ((0 : Nat) : Int) = 0 from rfl] at hh
  rw [hh]
  by_cases h3 : digB l = true
  · rw [if_pos h3, if_pos ⟨by omega, by omega, h3⟩]
  · rw [if_neg h3, if_neg (fun q => h3 q.2.2)]
theorem signed_eq (k : Nat) (l : List UInt8) (hl : l.length ≤ 2000000) (hk : 50 ≤ k) : ∃ n ok, spec_l01Signed.f k (mkB l) = some (n, ok) ∧ -10000000000 < n ∧ n < 10000000000 ∧ (ok = true → l = Lib.itoa n) := by
  obtain ⟨m, rfl⟩ : ∃ m, k = m + 1 := ⟨k - 1, by omega⟩
  have hvl : ∀ q : List UInt8, q.length ≤ 10 → digB q = true → vlD 0 q < 10000000000 := fun q h1 h2 =>
    Nat.lt_of_lt_of_le (vlD_lt q 0 0 h2 (by decide)) (Nat.le_trans (Nat.pow_le_pow_right (by decide) (show 0 + q.length ≤ 10 by omega)) (by decide))
  unfold spec_l01Signed.f
  rw [mkB_size]
  cases l with
  | nil =>
    rw [if_neg (by simp), spec_l01Signed.j0, if_neg (by decide), digits_eq m [] (by omega)]
    exact ⟨0, false, rfl, by omega, by omega, fun h => by cases h⟩
  | cons b r =>
    have hb : bt (mkB (b :: r)) 0 = b.toNat := mkB_bt [] b r 0 rfl
    rw [if_pos (by simp only [List.length_cons]; omega), if_pos (by simp only [List.length_cons]; omega), hb, spec_l01Signed.j0]
    by_cases h : b = 45
    · subst h
      have hx : (mkB (45 :: r)).extract 1 (mkB (45 :: r)).size = mkB r := by
        have := mkB_cut [45] r [] 1 ((mkB (45 :: r)).size : Int) rfl (by rw [mkB_size]; simp)
        simpa using this
      rw [if_pos (by decide), mkB_size, if_pos (by simp only [List.length_cons]; omega)]
      rw [mkB_size] at hx
      rw [hx, digits_eq m r (by omega)]
      simp only [Option.bind_some]
      by_cases hd : 1 ≤ r.length ∧ r.length ≤ 10 ∧ digB r = true
      · have hv := hvl r hd.2.1 hd.2.2
        rw [if_pos hd]
        have hw : wrap64 (-(vlD 0 r : Int)) = -(vlD 0 r : Int) := wrap_id (by omega) (by omega)
        by_cases he : mkB (Lib.decDigits (vlD 0 r)) = mkB r
        · have hr := mkB_inj he
          rw [if_pos (decide_eq_true he), hw]
          refine ⟨_, _, rfl, by omega, by omega, fun hp => ?_⟩
          have hp2 := of_decide_eq_true hp
          rw [Lib.itoa_neg _ (by omega), hr]
        · rw [if_neg (by rw [decide_eq_true_eq]; exact he), hw]
          exact ⟨_, false, rfl, by omega, by omega, fun h => by cases h⟩
      · rw [if_neg hd, if_neg (by decide)]
        have hz : wrap64 (-(0 : Int)) = 0 := wrap_id (by decide) (by decide)
        exact ⟨wrap64 (-(0 : Int)), false, rfl, by rw [hz]; decide, by rw [hz]; decide, fun h => by cases h⟩
    · have hne : ¬ (((b.toNat : Int) == 45) = true) := fun e => h (by apply UInt8.toNat.inj; have := beq_iff_eq.1 e; simpa using (by omega : b.toNat = 45))
      rw [if_neg hne, digits_eq m (b :: r) (by omega)]
      simp only [Option.bind_some]
      by_cases hd : 1 ≤ (b :: r).length ∧ (b :: r).length ≤ 10 ∧ digB (b :: r) = true
      · have hv := hvl _ hd.2.1 hd.2.2
        rw [if_pos hd]
        refine ⟨_, _, rfl, by omega, by omega, fun hp => ?_⟩
        rw [Lib.itoa_nonneg]
        exact (mkB_inj (of_decide_eq_true hp)).symm
      · rw [if_neg hd]
        exact ⟨_, false, rfl, by decide, by decide, fun h => by cases h⟩
theorem dec_len10 (n : Nat) (h : n ≤ 1000000000) : (Lib.decDigits n).length ≤ 10 := dec_len 9 n (Nat.lt_of_le_of_lt h (by decide))
theorem signed_itoa (k : Nat) (n : Int) (h : -1000000000 ≤ n ∧ n ≤ 1000000000) (hk : 50 ≤ k) : spec_l01Signed.f k (mkB (Lib.itoa n)) = some (n, true) := by
  obtain ⟨m, rfl⟩ : ∃ m, k = m + 1 := ⟨k - 1, by omega⟩
  unfold spec_l01Signed.f
  rw [mkB_size]
  have hpos : ∀ q : Nat, 1 ≤ (Lib.decDigits q).length := fun q => by rw [Lib.decDigits_length]; exact Lib.nDigits_pos q
  by_cases hn : n < 0
  · obtain ⟨q, rfl, hq1, hq2⟩ : ∃ q : Nat, n = -(q : Int) ∧ 1 ≤ q ∧ q ≤ 1000000000 := ⟨n.natAbs, by omega, by omega, by omega⟩
    have hD := dec_digB q
    have hd : 1 ≤ (Lib.decDigits q).length ∧ (Lib.decDigits q).length ≤ 10 ∧ digB (Lib.decDigits q) = true := ⟨hpos q, dec_len10 q hq2, hD.1⟩
    rw [Lib.itoa_neg q hq1]
    have hb : bt (mkB (45 :: Lib.decDigits q)) 0 = (45 : UInt8).toNat := mkB_bt [] 45 _ 0 rfl
    have hx : (mkB (45 :: Lib.decDigits q)).extract 1 (mkB (45 :: Lib.decDigits q)).size = mkB (Lib.decDigits q) := by
      have := mkB_cut [45] (Lib.decDigits q) [] 1 ((mkB (45 :: Lib.decDigits q)).size : Int) rfl (by rw [mkB_size]; simp)
      simpa using this
    rw [if_pos (by simp only [List.length_cons]; omega), if_pos (by simp only [List.length_cons]; omega), hb, spec_l01Signed.j0, if_pos (by decide), hx, mkB_size, if_pos (by simp only [List.length_cons]; omega), digits_eq m _ (by omega)]
    simp only [Option.bind_some]
    rw [if_pos hd, hD.2, if_pos (by simp)]
    show some (wrap64 (-(q : Int)), decide ((q : Int) > 0)) = _
    rw [decide_eq_true (by omega), wrap_id (by omega) (by omega)]
  · obtain ⟨q, rfl, hq2⟩ : ∃ q : Nat, n = (q : Int) ∧ q ≤ 1000000000 := ⟨n.toNat, by omega, by omega⟩
    have hD := dec_digB q
    have hd : 1 ≤ (Lib.decDigits q).length ∧ (Lib.decDigits q).length ≤ 10 ∧ digB (Lib.decDigits q) = true := ⟨hpos q, dec_len10 q hq2, hD.1⟩
    rw [Lib.itoa_nonneg]
    obtain ⟨b, r, he⟩ : ∃ b r, Lib.decDigits q = b :: r := by
      cases hc : Lib.decDigits q with
      | nil => exact absurd hc (dec_ne q)
      | cons b r => exact ⟨b, r, rfl⟩
    have hb : bt (mkB (Lib.decDigits q)) 0 = b.toNat := by rw [he]; exact mkB_bt [] b r 0 rfl
    have hbd : 48 ≤ b.toNat ∧ b.toNat ≤ 57 := by
      have := hD.1
      rw [he] at this
      simp only [digB, List.all_cons, Bool.and_eq_true, decide_eq_true_eq] at this
      exact this.1
    have hne : ¬ (((b.toNat : Int) == 45) = true) := fun e => by have := beq_iff_eq.1 e; omega
    rw [if_pos (by omega), if_pos (by omega), hb, spec_l01Signed.j0, if_neg hne, digits_eq m _ (by omega)]
    simp only [Option.bind_some]
    rw [if_pos hd, hD.2]
    simp
theorem parseM_step (M acc : Nat) (c : UInt8) (l : List UInt8) (h1 : 48 ≤ c.toNat ∧ c.toNat ≤ 57) (q1 : ¬ 1844674407370955162 ≤ acc) (q2 : ¬ M < acc * 10 + (c.toNat - 48)) : Lib.parseUintM M acc (c :: l) = Lib.parseUintM M (acc * 10 + (c.toNat - 48)) l := by
  conv => lhs; unfold Lib.parseUintM
  rw [if_pos h1, if_neg q1, if_neg q2]
theorem parseM_dec (M : Nat) (hM : 10000000000000000 ≤ M) : ∀ (l : List UInt8) (acc : Nat), digB l = true → acc * 10 ^ l.length + 10 ^ l.length ≤ 100000000000000 → Lib.parseUintM M acc l = .ok (vlD acc l) := by
  intro l
  induction l with
  | nil => intro acc _ _; rfl
  | cons c l ih =>
    intro acc hd h
    simp only [digB, List.all_cons, Bool.and_eq_true, decide_eq_true_eq] at hd
    have hp : 1 ≤ 10 ^ l.length := Nat.one_le_pow _ _ (by decide)
    rw [List.length_cons, Nat.pow_succ] at h
    have h3 : (acc * 10 + (c.toNat - 48)) * 10 ^ l.length + 10 ^ l.length ≤ acc * (10 ^ l.length * 10) + 10 ^ l.length * 10 := by
      have e1 : (c.toNat - 48) * 10 ^ l.length ≤ 9 * 10 ^ l.length := Nat.mul_le_mul_right _ (by omega)
      have e2 : (acc * 10) * 10 ^ l.length = acc * (10 ^ l.length * 10) := by rw [Nat.mul_assoc, Nat.mul_comm 10]
      rw [Nat.add_mul, e2]
      omega
    have hacc : acc ≤ 100000000000000 := Nat.le_trans (Nat.le_mul_of_pos_right acc (show 0 < 10 ^ l.length * 10 by omega)) (by omega)
    have q1 : ¬ 1844674407370955162 ≤ acc := by clear h h3 ih; omega
    have q2 : ¬ M < acc * 10 + (c.toNat - 48) := by clear h h3 ih; omega
    have q3 : (acc * 10 + (c.toNat - 48)) * 10 ^ l.length + 10 ^ l.length ≤ 100000000000000 := Nat.le_trans h3 h
    rw [parseM_step M acc c l hd.1 q1 q2, ih _ hd.2 q3, Nat.mul_comm acc 10]
    rfl
theorem parse_itoa (n : Int) (h : -1000000000 ≤ n ∧ n ≤ 1000000000) : Lib.parseIntB 64 (Lib.itoa n) = .ok n := by
  have hb : ∀ q : Nat, q ≤ 1000000000 → Lib.parseUintB 64 (Lib.decDigits q) = .ok q := fun q hq => by
    have hD := dec_digB q
    have hl : (Lib.decDigits q).length ≤ 10 := dec_len 9 q (Nat.lt_of_le_of_lt hq (by decide))
    have := parseM_dec (2 ^ 64 - 1) (by decide) (Lib.decDigits q) 0 hD.1 (by rw [Nat.zero_mul, Nat.zero_add]; exact Nat.le_trans (Nat.pow_le_pow_right (by decide) hl) (by decide))
    rw [Lib.parseUintB, if_neg (dec_ne q), this, hD.2]
  by_cases hn : n < 0
  · obtain ⟨q, rfl, hq1, hq2⟩ : ∃ q : Nat, n = -(q : Int) ∧ 1 ≤ q ∧ q ≤ 1000000000 := ⟨n.natAbs, by omega, by omega, by omega⟩
    rw [Lib.itoa_neg q hq1]
    unfold Lib.parseIntB
    simp only
    rw [if_pos (by decide), hb q hq2]
    simp only
    rw [if_neg (by simp), if_neg (by simp; omega)]
    rfl
  · obtain ⟨q, rfl, hq2⟩ : ∃ q : Nat, n = (q : Int) ∧ q ≤ 1000000000 := ⟨n.toNat, by omega, by omega⟩
    have hq := hb q hq2
    have hD := (dec_digB q).1
    rw [Lib.itoa_nonneg]
    cases hc : Lib.decDigits q with
    | nil => exact absurd hc (dec_ne q)
    | cons b r =>
      rw [hc] at hD hq
      simp only [digB, List.all_cons, Bool.and_eq_true, decide_eq_true_eq] at hD
      have n45 : ¬ b.toNat = 45 := by omega
      unfold Lib.parseIntB
      simp only
      rw [if_neg (by omega), hq]
      simp only
      rw [if_neg (by simp; omega), if_neg (fun z => n45 z.1), if_neg n45]
theorem number_eq (k : Nat) (l : List UInt8) (hl : l.length ≤ 2000000) : ∃ n ok, impl_number.f k (mkB l) = some (n, ok) ∧ (ok = true → l = Lib.itoa n ∧ -9223372036854775808 ≤ n ∧ n < 9223372036854775808) := by
  unfold impl_number.f
  rw [if_pos (by rw [mkB_size]; omega)]
  cases hp : Lib.parseIntB 64 (mkB l).data.toList with
  | ok v =>
    refine ⟨_, _, rfl, fun h => ?_⟩
    rw [tl_beq] at h
    have hb := Lib.parseIntB_bounds hp
    have e : ((2 ^ (64 - 1) : Nat) : Int) = 9223372036854775808 := by decide
    rw [e] at hb
    exact ⟨(mkB_inj (of_decide_eq_true h)).symm, by omega, by omega⟩
  | range => exact ⟨_, _, rfl, fun h => by cases h⟩
  | _ => exact ⟨_, _, rfl, fun h => by cases h⟩
theorem number_itoa (k : Nat) (n : Int) (h : -1000000000 ≤ n ∧ n ≤ 1000000000) : impl_number.f k (mkB (Lib.itoa n)) = some (n, true) := by
  have hl : (Lib.itoa n).length ≤ 2000000 := by have := itoa_len (n := n) (by omega); omega
  unfold impl_number.f
  rw [if_pos (by rw [mkB_size]; omega), mkB_list, parse_itoa n h]
  simp only [tl_beq]
  rw [decide_eq_true (by rfl)]
theorem rdOf_mid (d : ByteArray) (pre : List ByteArray) (v : ByteArray) (t : List ByteArray) (i : Int) (hi : i = pre.length) : rdOf d (pre ++ v :: t) i = v := by
  subst hi; simp [rdOf]
theorem spA_len : ∀ (l cur : List UInt8), (spA cur l).length ≤ l.length + 1 ∧ ∀ w ∈ spA cur l, w.length ≤ cur.length + l.length := by
  intro l
  induction l with
  | nil => intro cur; exact ⟨by simp [spA], fun w h => by simp only [spA, List.mem_singleton] at h; subst h; simp⟩
  | cons b l ih =>
    intro cur
    by_cases hb : b = 44
    · obtain ⟨h1, h2⟩ := ih []
      simp only [spA, if_pos hb, List.length_cons]
      refine ⟨by omega, fun w h => ?_⟩
      rcases List.mem_cons.1 h with rfl | h
      · omega
      · have := h2 w h; simp only [List.length_nil] at this; omega
    · obtain ⟨h1, h2⟩ := ih (cur ++ [b])
      simp only [spA, if_neg hb, List.length_cons]
      refine ⟨by omega, fun w h => ?_⟩
      have := h2 w h; simp only [List.length_append, List.length_cons, List.length_nil] at this; omega
theorem numbers_loop (k : Nat) (hk : 50 ≤ k) (W : List (List UInt8)) (hW : W.length ≤ 2000010) (hl : ∀ w ∈ W, w.length ≤ 2000000) : ∀ (rest pre : List (List UInt8)) (acc : List Int) (i : Int), W = pre ++ rest → acc.length = pre.length → i = pre.length →
    ∃ L ok, spec_l01Numbers.l0 (k + rest.length + 1) (W.map mkB) acc i = some (L, ok) ∧ (ok = true → ∃ T, L = acc ++ T ∧ rest = T.map Lib.itoa ∧ ∀ n ∈ T, -9223372036854775808 ≤ n ∧ n < 9223372036854775808) := by
  intro rest
  induction rest with
  | nil =>
    intro pre acc i hp ha hi
    have hsz : ((W.map mkB).length : Int) = i := by rw [List.length_map, hp, hi]; simp
    rw [spec_l01Numbers.l0, hsz, if_neg (by omega)]
    exact ⟨_, _, rfl, fun _ => ⟨[], by simp, rfl, fun n hn => by cases hn⟩⟩
  | cons w rest ih =>
    intro pre acc i hp ha hi
    have hl2 : pre.length + rest.length + 1 ≤ 2000010 := by rw [hp] at hW; simp only [List.length_append, List.length_cons] at hW; omega
    have hsz : ((W.map mkB).length : Int) = i + rest.length + 1 := by rw [List.length_map, hp, hi]; simp only [List.length_append, List.length_cons]; omega
    have hr : rdOf ByteArray.empty (W.map mkB) i = mkB w := by
      rw [hp, List.map_append, List.map_cons]
      exact rdOf_mid _ _ _ _ _ (by rw [List.length_map]; exact hi)
    have hw := hl w (by rw [hp]; simp)
    have hwr : wrap64 (i + 1) = i + 1 := wrap_id (by omega) (by omega)
    obtain ⟨n, ok, e, b1, b2, hok⟩ := signed_eq (k + rest.length + 1) w hw (by omega)
    rw [show k + (w :: rest).length + 1 = (k + rest.length + 1) + 1 by simp only [List.length_cons]; omega, spec_l01Numbers.l0, hsz, if_pos (by omega), if_pos (by omega), hr, e]
    simp only [Option.bind_some]
    cases ok with
    | false => exact ⟨_, _, rfl, fun h => by cases h⟩
    | true =>
      rw [if_pos rfl, if_pos (by omega), hwr]
      obtain ⟨L, ok, e2, h2⟩ := ih (pre ++ [w]) (acc ++ [n]) (i + 1) (by rw [hp]; simp) (by simp; omega) (by simp; omega)
      refine ⟨L, ok, e2, fun h => ?_⟩
      obtain ⟨T, e3, e4, e5⟩ := h2 h
      refine ⟨n :: T, by rw [e3]; simp, by rw [List.map_cons, ← hok rfl, e4], fun m hm => ?_⟩
      rcases List.mem_cons.1 hm with rfl | hm
      · omega
      · exact e5 m hm
theorem numbers_eq (k : Nat) (hk : 3000000 ≤ k) (W : List (List UInt8)) (hW : W.length ≤ 2000010) (hl : ∀ w ∈ W, w.length ≤ 2000000) :
    ∃ L ok, spec_l01Numbers.f k (W.map mkB) = some (L, ok) ∧ (ok = true → W = L.map Lib.itoa ∧ ∀ n ∈ L, -9223372036854775808 ≤ n ∧ n < 9223372036854775808) := by
  obtain ⟨m, rfl, hm⟩ : ∃ m, k = m + W.length + 1 ∧ 50 ≤ m := ⟨k - W.length - 1, by omega, by omega⟩
  obtain ⟨L, ok, e, h⟩ := numbers_loop m hm W hW hl W [] [] 0 (by simp) rfl rfl
  refine ⟨L, ok, e, fun q => ?_⟩
  obtain ⟨T, e1, e2, e3⟩ := h q
  rw [List.nil_append] at e1
  subst e1
  exact ⟨e2, e3⟩
theorem numbers_loop2 (k : Nat) (hk : 50 ≤ k) (T : List Int) (hT : T.length ≤ 1000) (hb : ∀ n ∈ T, -1000000000 ≤ n ∧ n ≤ 1000000000) : ∀ (rest pre acc : List Int) (i : Int), T = pre ++ rest → acc.length = pre.length → i = pre.length →
    spec_l01Numbers.l0 (k + rest.length + 1) ((T.map Lib.itoa).map mkB) acc i = some (acc ++ rest, true) := by
  intro rest
  induction rest with
  | nil =>
    intro pre acc i hp ha hi
    have hsz : (((T.map Lib.itoa).map mkB).length : Int) = i := by rw [List.length_map, List.length_map, hp, hi]; simp
    rw [spec_l01Numbers.l0, hsz, if_neg (by omega)]
    simp
  | cons w rest ih =>
    intro pre acc i hp ha hi
    have hl2 : pre.length + rest.length + 1 ≤ 1000 := by rw [hp] at hT; simp only [List.length_append, List.length_cons] at hT; omega
    have hsz : (((T.map Lib.itoa).map mkB).length : Int) = i + rest.length + 1 := by rw [List.length_map, List.length_map, hp, hi]; simp only [List.length_append, List.length_cons]; omega
    have hr : rdOf ByteArray.empty ((T.map Lib.itoa).map mkB) i = mkB (Lib.itoa w) := by
      rw [hp, List.map_append, List.map_append, List.map_cons, List.map_cons]
      exact rdOf_mid _ _ _ _ _ (by rw [List.length_map, List.length_map]; exact hi)
    have hw := hb w (by rw [hp]; simp)
    have hwr : wrap64 (i + 1) = i + 1 := wrap_id (by omega) (by omega)
    rw [show k + (w :: rest).length + 1 = (k + rest.length + 1) + 1 by simp only [List.length_cons]; omega, spec_l01Numbers.l0, hsz, if_pos (by omega), if_pos (by omega), hr, signed_itoa (k + rest.length + 1) w hw (by omega)]
    simp only [Option.bind_some]
    rw [if_pos trivial, if_pos (by omega), hwr, ih (pre ++ [w]) (acc ++ [w]) (i + 1) (by rw [hp]; simp) (by simp; omega) (by simp; omega)]
    simp
theorem numbers_itoa (k : Nat) (hk : 3000000 ≤ k) (T : List Int) (hT : T.length ≤ 1000) (hb : ∀ n ∈ T, -1000000000 ≤ n ∧ n ≤ 1000000000) : spec_l01Numbers.f k ((T.map Lib.itoa).map mkB) = some (T, true) := by
  obtain ⟨m, rfl, hm⟩ : ∃ m, k = m + T.length + 1 ∧ 50 ≤ m := ⟨k - T.length - 1, by omega, by omega⟩
  exact numbers_loop2 m hm T hT hb T [] [] 0 (by simp) rfl rfl
theorem parted_loop (k : Nat) (W : List (List UInt8)) (hW : W.length ≤ 2000010) (hl : ∀ w ∈ W, w.length ≤ 2000000) : ∀ (rest pre : List (List UInt8)) (acc : List Int) (i : Int), W = pre ++ rest → acc.length = pre.length → i = pre.length →
    ∃ L ok, impl_parted.l0 (k + rest.length + 1) acc (W.map mkB) ((W.map mkB).length : Int) i = some (L, ok) ∧ (ok = true → ∃ T, L = acc ++ T ∧ rest = T.map Lib.itoa ∧ ∀ n ∈ T, -9223372036854775808 ≤ n ∧ n < 9223372036854775808) := by
  intro rest
  induction rest with
  | nil =>
    intro pre acc i hp ha hi
    have hsz : ((W.map mkB).length : Int) = i := by rw [List.length_map, hp, hi]; simp
    rw [impl_parted.l0, hsz, if_neg (by omega)]
    exact ⟨_, _, rfl, fun _ => ⟨[], by simp, rfl, fun n hn => by cases hn⟩⟩
  | cons w rest ih =>
    intro pre acc i hp ha hi
    have hl2 : pre.length + rest.length + 1 ≤ 2000010 := by rw [hp] at hW; simp only [List.length_append, List.length_cons] at hW; omega
    have hsz : ((W.map mkB).length : Int) = i + rest.length + 1 := by rw [List.length_map, hp, hi]; simp only [List.length_append, List.length_cons]; omega
    have hr : rdOf ByteArray.empty (W.map mkB) i = mkB w := by
      rw [hp, List.map_append, List.map_cons]
      exact rdOf_mid _ _ _ _ _ (by rw [List.length_map]; exact hi)
    have hw := hl w (by rw [hp]; simp)
    have hwr : wrap64 (i + 1) = i + 1 := wrap_id (by omega) (by omega)
    obtain ⟨n, ok, e, hok⟩ := number_eq (k + rest.length + 1) w hw
    rw [show k + (w :: rest).length + 1 = (k + rest.length + 1) + 1 by simp only [List.length_cons]; omega, impl_parted.l0, if_pos (by rw [hsz]; omega), if_pos (by omega), if_pos (by rw [hsz]; omega), hr, e]
    simp only [Option.bind_some]
    cases ok with
    | false => exact ⟨_, _, rfl, fun h => by cases h⟩
    | true =>
      rw [if_pos rfl, if_pos (by omega), hwr]
      obtain ⟨L, ok, e2, h2⟩ := ih (pre ++ [w]) (acc ++ [n]) (i + 1) (by rw [hp]; simp) (by simp; omega) (by simp; omega)
      refine ⟨L, ok, e2, fun h => ?_⟩
      obtain ⟨T, e3, e4, e5⟩ := h2 h
      refine ⟨n :: T, by rw [e3]; simp, by rw [List.map_cons, ← (hok rfl).1, e4], fun m hm => ?_⟩
      rcases List.mem_cons.1 hm with rfl | hm
      · exact (hok rfl).2
      · exact e5 m hm
theorem parted_loop2 (k : Nat) (T : List Int) (hT : T.length ≤ 1000) (hb : ∀ n ∈ T, -1000000000 ≤ n ∧ n ≤ 1000000000) : ∀ (rest pre acc : List Int) (i : Int), T = pre ++ rest → acc.length = pre.length → i = pre.length →
    impl_parted.l0 (k + rest.length + 1) acc ((T.map Lib.itoa).map mkB) (((T.map Lib.itoa).map mkB).length : Int) i = some (acc ++ rest, true) := by
  intro rest
  induction rest with
  | nil =>
    intro pre acc i hp ha hi
    have hsz : (((T.map Lib.itoa).map mkB).length : Int) = i := by rw [List.length_map, List.length_map, hp, hi]; simp
    rw [impl_parted.l0, hsz, if_neg (by omega)]
    simp
  | cons w rest ih =>
    intro pre acc i hp ha hi
    have hl2 : pre.length + rest.length + 1 ≤ 1000 := by rw [hp] at hT; simp only [List.length_append, List.length_cons] at hT; omega
    have hsz : (((T.map Lib.itoa).map mkB).length : Int) = i + rest.length + 1 := by rw [List.length_map, List.length_map, hp, hi]; simp only [List.length_append, List.length_cons]; omega
    have hr : rdOf ByteArray.empty ((T.map Lib.itoa).map mkB) i = mkB (Lib.itoa w) := by
      rw [hp, List.map_append, List.map_append, List.map_cons, List.map_cons]
      exact rdOf_mid _ _ _ _ _ (by rw [List.length_map, List.length_map]; exact hi)
    have hw := hb w (by rw [hp]; simp)
    have hwr : wrap64 (i + 1) = i + 1 := wrap_id (by omega) (by omega)
    rw [show k + (w :: rest).length + 1 = (k + rest.length + 1) + 1 by simp only [List.length_cons]; omega, impl_parted.l0, if_pos (by rw [hsz]; omega), if_pos (by omega), if_pos (by rw [hsz]; omega), hr, number_itoa (k + rest.length + 1) w hw]
    simp only [Option.bind_some]
    rw [if_pos trivial, if_pos (by omega), hwr, ih (pre ++ [w]) (acc ++ [w]) (i + 1) (by rw [hp]; simp) (by simp; omega) (by simp; omega)]
    simp
theorem parted_eq (k : Nat) (hk : 3000000 ≤ k) (s : ByteArray) (hs : s.size ≤ 2000000) (m : Int) :
    ∃ L ok, impl_parted.f k s (⟨#[44]⟩ : ByteArray) m = some (L, ok) ∧ (ok = true → (L.length : Int) = m ∧ spA [] s.data.toList = L.map Lib.itoa ∧ ∀ n ∈ L, -9223372036854775808 ≤ n ∧ n < 9223372036854775808) := by
  have hsz : s.data.toList.length = s.size := rfl
  obtain ⟨h1, h2⟩ := spA_len s.data.toList []
  generalize hW : spA [] s.data.toList = W at h1 h2
  unfold impl_parted.f
  rw [split_eq k s (by omega), hW]
  simp only [Option.bind_some]
  by_cases h : ((W.map mkB).length : Int) = m
  · rw [if_pos h]
    obtain ⟨j, rfl⟩ : ∃ j, k = j + W.length + 1 := ⟨k - W.length - 1, by omega⟩
    obtain ⟨L, ok, e, h3⟩ := parted_loop j W (by omega) (fun w hw => by have := h2 w hw; simp only [List.length_nil] at this; omega) W [] [] 0 (by simp) rfl rfl
    refine ⟨L, ok, e, fun q => ?_⟩
    obtain ⟨T, e1, e2, e3⟩ := h3 q
    rw [List.nil_append] at e1
    subst e1
    refine ⟨?_, e2, e3⟩
    rw [← h, e2]; simp
  · rw [if_neg h]
    exact ⟨_, _, rfl, fun q => by cases q⟩
theorem parted_itoa (k : Nat) (hk : 3000000 ≤ k) (s : ByteArray) (hs : s.size ≤ 2000000) (m : Int) (T : List Int) (hm : (T.length : Int) = m) (hT : T.length ≤ 1000) (hb : ∀ n ∈ T, -1000000000 ≤ n ∧ n ≤ 1000000000) (he : spA [] s.data.toList = T.map Lib.itoa) :
    impl_parted.f k s (⟨#[44]⟩ : ByteArray) m = some (T, true) := by
  unfold impl_parted.f
  rw [split_eq k s (by omega), he]
  simp only [Option.bind_some]
  rw [if_pos (by rw [List.length_map, List.length_map]; exact hm)]
  obtain ⟨j, rfl⟩ : ∃ j, k = j + T.length + 1 := ⟨k - T.length - 1, by omega⟩
  exact parted_loop2 j T hT hb T [] [] 0 (by simp) rfl rfl
theorem spec_ReadLattice_yes (k : Nat) (hk : 3000010 ≤ k) (s : ByteArray) (hs : s.size ≤ 2000000) (a b c : Int) (hv : latB a b c = true) (hW : spA [] s.data.toList = [a, b, c].map Lib.itoa) : spec_ReadLattice.f k s = some (a, b, c, true) := by
  obtain ⟨⟨a1, a2⟩, ⟨c1, c2⟩, ⟨b1, b2⟩, hac⟩ := latB_iff.mp hv
  unfold spec_ReadLattice.f
  rw [spec_split_eq k s hs (by omega), hW]
  simp only [Option.bind_some]
  rw [numbers_itoa k (by omega) [a, b, c] (by simp) (fun n hn => by simp at hn; rcases hn with rfl | rfl | rfl <;> omega)]
  simp only [Option.bind_some]
  rw [if_pos trivial, if_pos (by simp), if_pos (by simp), if_pos (by simp), if_pos (by simp), show rd [a, b, c] 0 = a from rfl, show rd [a, b, c] 1 = b from rfl, show rd [a, b, c] 2 = c from rfl, spec_IsLattice_eq a b c (by omega) (by omega)]
  simp only [Option.bind_some]
  rw [if_pos hv]
theorem spec_ReadLattice_no (k : Nat) (hk : 3000010 ≤ k) (s : ByteArray) (hs : s.size ≤ 2000000) (hno : ∀ a b c, latB a b c = true → spA [] s.data.toList ≠ [a, b, c].map Lib.itoa) : spec_ReadLattice.f k s = some (0, 0, 0, false) := by
  unfold spec_ReadLattice.f
  have hsz : s.data.toList.length = s.size := rfl
  obtain ⟨l1, l2⟩ := spA_len s.data.toList []
  rw [spec_split_eq k s hs (by omega)]
  simp only [Option.bind_some]
  obtain ⟨L, ok, e, h⟩ := numbers_eq k (by omega) (spA [] s.data.toList) (by omega) (fun w hw => by have := l2 w hw; simp only [List.length_nil] at this; omega)
  rw [e]
  simp only [Option.bind_some]
  cases ok with
  | false => rfl
  | true =>
    obtain ⟨h1, h2⟩ := h rfl
    rw [if_pos rfl]
    by_cases hn : (L.length : Int) = 3
    rotate_left
    · rw [if_neg hn]
    rw [if_pos hn]
    have hn2 : L.length = 3 := by omega
    obtain ⟨a, b, c, rfl⟩ : ∃ a b c, L = [a, b, c] := by
      match L, hn2 with
      | [a, b, c], _ => exact ⟨a, b, c, rfl⟩
    have ha := h2 a (by simp)
    rw [if_pos (by simp), if_pos (by simp), if_pos (by simp), show rd [a, b, c] 0 = a from rfl, show rd [a, b, c] 1 = b from rfl, show rd [a, b, c] 2 = c from rfl, spec_IsLattice_eq a b c (by omega) (by omega)]
    simp only [Option.bind_some]
    rw [if_neg (fun q => hno a b c q h1)]
theorem impl_ReadLattice_yes (k : Nat) (hk : 3000010 ≤ k) (s : ByteArray) (hs : s.size ≤ 2000000) (a b c : Int) (hv : latB a b c = true) (hW : spA [] s.data.toList = [a, b, c].map Lib.itoa) : impl_ReadLattice.f k s = some (a, b, c, true) := by
  obtain ⟨⟨a1, a2⟩, ⟨c1, c2⟩, ⟨b1, b2⟩, hac⟩ := latB_iff.mp hv
  unfold impl_ReadLattice.f
  rw [parted_itoa k (by omega) s hs 3 [a, b, c] (by simp) (by simp) (fun n hn => by simp at hn; rcases hn with rfl | rfl | rfl <;> omega) hW]
  simp only [Option.bind_some]
  rw [if_pos trivial, if_pos (by simp), if_pos (by simp), if_pos (by simp), show rd [a, b, c] 0 = a from rfl, show rd [a, b, c] 1 = b from rfl, show rd [a, b, c] 2 = c from rfl, impl_IsLattice_eq a b c (by omega) (by omega)]
  simp only [Option.bind_some]
  rw [if_pos hv]
theorem impl_ReadLattice_no (k : Nat) (hk : 3000010 ≤ k) (s : ByteArray) (hs : s.size ≤ 2000000) (hno : ∀ a b c, latB a b c = true → spA [] s.data.toList ≠ [a, b, c].map Lib.itoa) : impl_ReadLattice.f k s = some (0, 0, 0, false) := by
  unfold impl_ReadLattice.f
  obtain ⟨L, ok, e, h⟩ := parted_eq k (by omega) s hs 3
  rw [e]
  simp only [Option.bind_some]
  cases ok with
  | false => rfl
  | true =>
    obtain ⟨hn, h1, h2⟩ := h rfl
    rw [if_pos rfl]
    have hn2 : L.length = 3 := by omega
    obtain ⟨a, b, c, rfl⟩ : ∃ a b c, L = [a, b, c] := by
      match L, hn2 with
      | [a, b, c], _ => exact ⟨a, b, c, rfl⟩
    have ha := h2 a (by simp)
    rw [if_pos (by simp), if_pos (by simp), if_pos (by simp), show rd [a, b, c] 0 = a from rfl, show rd [a, b, c] 1 = b from rfl, show rd [a, b, c] 2 = c from rfl, impl_IsLattice_eq a b c (by omega) (by omega)]
    simp only [Option.bind_some]
    rw [if_neg (fun q => hno a b c q h1)]
theorem dmg_one (t : Int) (h0 : 0 ≤ t) (h : t < 8) : (rdOf ByteArray.empty ([(⟨#[48]⟩ : ByteArray), (⟨#[49]⟩ : ByteArray), (⟨#[32]⟩ : ByteArray), (⟨#[45]⟩ : ByteArray), (⟨#[44]⟩ : ByteArray), (⟨#[59]⟩ : ByteArray), (⟨#[10]⟩ : ByteArray), (⟨#[97]⟩ : ByteArray)] : List ByteArray) t).size = 1 := by
  rcases (by omega : t = 0 ∨ t = 1 ∨ t = 2 ∨ t = 3 ∨ t = 4 ∨ t = 5 ∨ t = 6 ∨ t = 7) with rfl | rfl | rfl | rfl | rfl | rfl | rfl | rfl <;> rfl
theorem damage_eq {l : List Int} {p s : Int} (h : St l p s) (a : ByteArray) (ha : a.size ≤ 1000) : ∃ r p' s', spec_l01Damage.f l p s a = some (r, p', s') ∧ r.size ≤ 5000 := by
  unfold spec_l01Damage.f
  rw [wrap_id (x := (a.size : Int) + 1) (by omega) (by omega)]
  obtain ⟨r, p1, s1, e1, h1, b1, b2⟩ := next_eq h ((a.size : Int) + 1)
  rw [e1]
  simp only [Option.bind_some]
  obtain ⟨q, p2, s2, e2, h2, b3, b4⟩ := next_eq h1 8
  rw [e2]
  simp only [Option.bind_some]
  have hr : r ≤ (a.size : Int) := by omega
  by_cases q0 : q = 0
  · rw [if_pos q0, if_pos b1, if_pos hr]
    exact ⟨_, _, _, rfl, by rw [ByteArray.size_extract]; omega⟩
  rw [if_neg q0]
  by_cases q1 : q = 1
  · rw [if_pos q1, if_pos b1, if_pos hr]
    obtain ⟨t, p3, s3, e3, h3, b5, b6⟩ := next_eq h2 8
    have hz := dmg_one t b5 (by omega)
    rw [e3]
    simp only [Option.bind_some]
    generalize rdOf ByteArray.empty ([(⟨#[48]⟩ : ByteArray), (⟨#[49]⟩ : ByteArray), (⟨#[32]⟩ : ByteArray), (⟨#[45]⟩ : ByteArray), (⟨#[44]⟩ : ByteArray), (⟨#[59]⟩ : ByteArray), (⟨#[10]⟩ : ByteArray), (⟨#[97]⟩ : ByteArray)] : List ByteArray) t = z at hz ⊢
    rw [if_pos b5, if_pos (by simp only [List.length_cons, List.length_nil]; omega), if_pos (by rw [ByteArray.size_extract]; omega), if_pos (by rw [ByteArray.size_append, ByteArray.size_extract, ByteArray.size_extract]; omega)]
    exact ⟨_, _, _, rfl, by rw [ByteArray.size_append, ByteArray.size_append, ByteArray.size_extract, ByteArray.size_extract]; omega⟩
  rw [if_neg q1]
  by_cases q2 : q = 2
  · rw [if_pos q2]
    by_cases hk : r < (a.size : Int)
    · rw [if_pos hk, if_pos b1, if_pos hr, wrap_id (x := r + 1) (by omega) (by omega), if_pos (by omega), if_pos (by omega), if_pos (by rw [ByteArray.size_extract, ByteArray.size_extract]; omega)]
      exact ⟨_, _, _, rfl, by rw [ByteArray.size_append, ByteArray.size_extract, ByteArray.size_extract]; omega⟩
    · rw [if_neg hk]
      exact ⟨_, _, _, rfl, by omega⟩
  · rw [if_neg q2]
    exact ⟨_, _, _, rfl, by omega⟩
def unA : List (List UInt8) → List UInt8
  | [] => []
  | [w] => w
  | w :: v :: t => w ++ 44 :: unA (v :: t)
theorem spA_ne (l cur : List UInt8) : ∃ h t, spA cur l = h :: t := by
  cases l with
  | nil => exact ⟨_, _, rfl⟩
  | cons b l =>
    by_cases hb : b = 44
    · exact ⟨cur, spA [] l, by simp [spA, hb]⟩
    · have : spA cur (b :: l) = spA (cur ++ [b]) l := by simp [spA, hb]
      rw [this]
      clear this hb
      induction l generalizing cur b with
      | nil => exact ⟨_, _, rfl⟩
      | cons c l ih =>
        by_cases hc : c = 44
        · exact ⟨cur ++ [b], spA [] l, by simp [spA, hc]⟩
        · have e : spA (cur ++ [b]) (c :: l) = spA ((cur ++ [b]) ++ [c]) l := by simp [spA, hc]
          rw [e]
          exact ih (cur ++ [b]) c
theorem unA_spA : ∀ (l cur : List UInt8), unA (spA cur l) = cur ++ l := by
  intro l
  induction l with
  | nil => intro cur; simp [spA, unA]
  | cons b l ih =>
    intro cur
    by_cases hb : b = 44
    · obtain ⟨h, t, e⟩ := spA_ne l []
      have h2 := ih []
      rw [show spA cur (b :: l) = cur :: spA [] l by simp [spA, hb], e]
      rw [e] at h2
      rw [unA, h2, hb]
      simp
    · rw [show spA cur (b :: l) = spA (cur ++ [b]) l by simp [spA, hb], ih]
      simp
theorem spA_word : ∀ (w : List UInt8) (cur l : List UInt8), (∀ c ∈ w, c ≠ 44) → spA cur (w ++ l) = spA (cur ++ w) l := by
  intro w
  induction w with
  | nil => intro cur l _; simp
  | cons b w ih =>
    intro cur l h
    have hb : b ≠ 44 := h b (by simp)
    rw [List.cons_append, show spA cur (b :: (w ++ l)) = spA (cur ++ [b]) (w ++ l) by simp [spA, hb], ih _ _ (fun c hc => h c (by simp [hc]))]
    simp
theorem itoa_no44 (n : Int) : ∀ c ∈ Lib.itoa n, c ≠ 44 := by
  have hd : ∀ q : Nat, ∀ c ∈ Lib.decDigits q, c ≠ 44 := fun q c hc e => by
    have h := (dec_digB q).1
    unfold digB at h
    have := List.all_eq_true.1 h c hc
    subst e
    exact absurd this (by decide)
  intro c hc e
  unfold Lib.itoa at hc
  split at hc
  · rcases List.mem_cons.1 hc with h | h
    · rw [e] at h; exact absurd h (by decide)
    · exact hd _ c h e
  · exact hd _ c hc e
theorem spA_itoas : ∀ (T : List Int) (v : Int), spA [] (unA ((v :: T).map Lib.itoa)) = (v :: T).map Lib.itoa := by
  intro T
  induction T with
  | nil =>
    intro v
    have := spA_word (Lib.itoa v) [] [] (itoa_no44 v)
    simp only [List.append_nil, List.nil_append] at this
    show spA [] (Lib.itoa v) = [Lib.itoa v]
    rw [this]; rfl
  | cons u T ih =>
    intro v
    have h2 := ih u
    show spA [] (Lib.itoa v ++ 44 :: unA ((u :: T).map Lib.itoa)) = _
    rw [spA_word _ _ _ (itoa_no44 v), show spA ([] ++ Lib.itoa v) (44 :: unA ((u :: T).map Lib.itoa)) = ([] ++ Lib.itoa v) :: spA [] (unA ((u :: T).map Lib.itoa)) by simp [spA], h2]
    simp
theorem of_spA {s : ByteArray} {T : List Int} (h : spA [] s.data.toList = T.map Lib.itoa) : s = mkB (unA (T.map Lib.itoa)) := by
  have := unA_spA s.data.toList []
  rw [h, List.nil_append] at this
  rw [this, mkB_data]
theorem textL3 (a b c : Int) : textL [a, b, c] = unA ([a, b, c].map Lib.itoa) := by
  rw [textL_cons]
  simp [Lib.joinTail, unA]
theorem textL3_len {a b c : Int} (h1 : -1000000000000 ≤ a ∧ a ≤ 1000000000000) (h2 : -1000000000000 ≤ b ∧ b ≤ 1000000000000) (h3 : -1000000000000 ≤ c ∧ c ≤ 1000000000000) : (textL [a, b, c]).length ≤ 900 := by
  have l1 := itoa_len h1
  have l2 := itoa_len h2
  have l3 := itoa_len h3
  rw [textL3]
  simp only [List.map_cons, List.map_nil, unA, List.length_append, List.length_cons]
  omega
theorem drawReadLat_eq {l : List Int} (hl : (l.length : Int) ≤ 4096) (hb : ∀ x ∈ l, 0 ≤ x ∧ x < 256) (k : Nat) (hk : 1000 ≤ k) : ∃ t, spec_DrawReadLattice.f k l = some t ∧ t.size ≤ 5000 := by
  unfold spec_DrawReadLattice.f
  obtain ⟨p, s, e, h⟩ := from_eq hl hb k (by omega)
  rw [e]
  simp only [Option.bind_some]
  obtain ⟨a, b, c, p1, s1, e1, h1, hx⟩ := draw3_eq h
  rw [e1]
  simp only [Option.bind_some]
  obtain ⟨t, e2, ht⟩ : ∃ t, spec_LatticeText.f k a b c = some t ∧ t.size ≤ 1000 := by
    refine ⟨_, spec_LatticeText_eq k hk a b c (by omega) (by omega), ?_⟩
    by_cases hL : latB a b c = true
    · obtain ⟨⟨a1, a2⟩, ⟨c1, c2⟩, ⟨b1, b2⟩, hac⟩ := latB_iff.mp hL
      have := textL3_len (a := a) (b := b) (c := c) (by omega) (by omega) (by omega)
      rw [if_pos hL, ba_size]; omega
    · rw [if_neg hL]; decide
  rw [e2]
  simp only [Option.bind_some]
  obtain ⟨r, p2, s2, e3, h2, b1, b2⟩ := next_eq h1 3
  rw [e3]
  simp only [Option.bind_some]
  split
  · obtain ⟨r', p3, s3, e4, hr⟩ := damage_eq h2 t ht
    rw [e4]
    exact ⟨_, rfl, hr⟩
  · exact ⟨_, rfl, by omega⟩
theorem drawCells_eq {l : List Int} (hl : (l.length : Int) ≤ 4096) (hb : ∀ x ∈ l, 0 ≤ x ∧ x < 256) (k : Nat) (hk : 1000 ≤ k) : ∃ a b c, spec_DrawCellsOf.f k l = some (a, b, c) ∧ (-100 ≤ a ∧ a ≤ 100) := by
  unfold spec_DrawCellsOf.f
  obtain ⟨p, s, e, h⟩ := from_eq hl hb k (by omega)
  rw [e]
  simp only [Option.bind_some]
  obtain ⟨a, b, c, p1, s1, e1, h1, hx⟩ := draw3_eq h
  rw [e1]
  exact ⟨_, _, _, rfl, hx⟩
theorem lt_mid (t : ByteArray) (ht : t.size ≤ 5000) : ∃ u v w o, impl_ReadLattice.f 3000011 t = some (u, v, w, o) ∧ spec_ReadLattice.f 3000011 t = some (u, v, w, o) ∧ (o = true → impl_LatticeText.f 3000011 u v w = some t) := by
  have hs : t.size ≤ 2000000 := by omega
  by_cases hex : ∃ a b c, latB a b c = true ∧ spA [] t.data.toList = [a, b, c].map Lib.itoa
  · obtain ⟨a, b, c, hv, hW⟩ := hex
    refine ⟨a, b, c, true, impl_ReadLattice_yes 3000011 (by decide) t hs a b c hv hW, spec_ReadLattice_yes 3000011 (by decide) t hs a b c hv hW, fun _ => ?_⟩
    obtain ⟨⟨a1, a2⟩, _⟩ := latB_iff.mp hv
    rw [impl_LatticeText_eq 3000011 (by decide) a b c (by omega) (by omega), if_pos hv, of_spA hW, textL3]
    rfl
  · have hno : ∀ a b c, latB a b c = true → spA [] t.data.toList ≠ [a, b, c].map Lib.itoa := fun a b c hv hW => hex ⟨a, b, c, hv, hW⟩
    exact ⟨0, 0, 0, false, impl_ReadLattice_no 3000011 (by decide) t hs hno, spec_ReadLattice_no 3000011 (by decide) t hs hno, fun h => by cases h⟩
theorem lt_first (a b c : Int) (ha : -100 ≤ a ∧ a ≤ 100) : ∃ u v w o t, impl_LatticeText.f 3000011 a b c = some t ∧ spec_LatticeText.f 3000011 a b c = some t ∧ impl_ReadLattice.f 3000011 t = some (u, v, w, o) ∧ o = (t.toList != ([] : List UInt8)) ∧ (o = true → u = a ∧ v = b ∧ w = c) := by
  rw [impl_LatticeText_eq 3000011 (by decide) a b c (by omega) (by omega), spec_LatticeText_eq 3000011 (by decide) a b c (by omega) (by omega)]
  by_cases h : latB a b c = true
  · obtain ⟨⟨a1, a2⟩, ⟨c1, c2⟩, ⟨b1, b2⟩, hac⟩ := latB_iff.mp h
    have l1 := textL3_len (a := a) (b := b) (c := c) (by omega) (by omega) (by omega)
    rw [if_pos h]
    refine ⟨a, b, c, true, _, rfl, rfl, impl_ReadLattice_yes 3000011 (by decide) _ ?_ a b c h ?_, ?_, fun _ => ⟨rfl, rfl, rfl⟩⟩
    · rw [ba_size]; omega
    · rw [textL3]
      have := spA_itoas [b, c] a
      simpa using this
    · rw [mkB_tl]
      refine (bne_iff_ne.2 fun e => ?_).symm
      rw [textL3] at e
      simp [unA] at e
  · rw [if_neg h]
    refine ⟨0, 0, 0, false, _, rfl, rfl, impl_ReadLattice_no 3000011 (by decide) _ (by decide) ?_, ?_, fun h => by cases h⟩
    · intro a b c _ e
      exact absurd (congrArg List.length e) (by simp [spA])
    · rw [mkB_tl]; rfl
def inOrd : List (Int × Int) → Prop
  | [] => True
  | [_] => True
  | u :: v :: t => (u.1 < v.1 ∨ (u.1 = v.1 ∧ u.2 < v.2)) ∧ inOrd (v :: t)
theorem inOrd_row (x : Int) : ∀ (d : Nat) (y : Int), inOrd (rowF x y d) := by
  intro d
  induction d with
  | zero => intro y; trivial
  | succ d ih =>
    intro y
    have h := ih (y + 1)
    cases d with
    | zero => trivial
    | succ d => exact ⟨Or.inr ⟨rfl, by show y < y + 1; omega⟩, h⟩
theorem inOrd_app : ∀ (l m : List (Int × Int)), inOrd l → inOrd m → (∀ u ∈ l, ∀ v ∈ m, u.1 < v.1) → inOrd (l ++ m) := by
  intro l
  induction l with
  | nil => intro m _ h _; exact h
  | cons u l ih =>
    intro m h1 h2 h3
    cases l with
    | nil =>
      cases m with
      | nil => trivial
      | cons v m => exact ⟨Or.inl (h3 u (by simp) v (by simp)), h2⟩
    | cons w l => exact ⟨h1.1, ih m h1.2 h2 (fun a ha b hb => h3 a (by simp [ha]) b hb)⟩
theorem inOrd_box (y : Int) (e : Nat) : ∀ (d : Nat) (x : Int), inOrd (boxF y e x d) := by
  intro d
  induction d with
  | zero => intro x; trivial
  | succ d ih =>
    intro x
    show inOrd (rowF x y e ++ boxF y e (x + 1) d)
    refine inOrd_app _ _ (inOrd_row x e y) (ih (x + 1)) (fun u hu v hv => ?_)
    rw [mem_rowF] at hu
    rw [mem_boxF] at hv
    omega
theorem red_self {a b c x y : Int} (hx : 0 ≤ x ∧ x < a) (hy : 0 ≤ y ∧ y < c) : redV a b c x y = (x, y) := by
  unfold redV
  rw [Int.ediv_eq_zero_of_lt hy.1 hy.2, Int.zero_mul, Int.sub_zero, Int.emod_eq_of_lt hx.1 hx.2, Int.emod_eq_of_lt hy.1 hy.2]
theorem cells_loop (k : Nat) (a b c : Int) (hL : latB a b c = true) (B : List (Int × Int)) (hB : ∀ v ∈ B, (0 ≤ v.1 ∧ v.1 < a) ∧ (0 ≤ v.2 ∧ v.2 < c)) (hlen : (B.length : Int) = a * c) (hO : inOrd B) : ∀ (rest pre : List (Int × Int)) (i : Int), B = pre ++ rest → i = pre.length →
    laws_FnCells.l0 (k + 10 + 2 * rest.length) (B.map mkSV) i a b c = some true := by
  obtain ⟨⟨a1, a2⟩, ⟨c1, c2⟩, ⟨b1, b2⟩, hac⟩ := latB_iff.mp hL
  have hbd : (B.length : Int) ≤ 4096 := by
    rw [hlen]
    exact Int.le_trans (Int.mul_le_mul a2 c2 (by omega) (by omega)) (by decide)
  have h0 : 0 ≤ a * c := by rw [← hlen]; omega
  intro rest
  induction rest with
  | nil =>
    intro pre i hp hi
    have hlen2 : ((B.map mkSV).length : Int) = i := by rw [List.length_map, hp, hi]; simp
    have hi2 : i = a * c := by rw [← hlen, ← hlen2, List.length_map]
    rw [show k + 10 + 2 * ([] : List (Int × Int)).length = (k + 9) + 1 from rfl, laws_FnCells.l0, hlen2, if_neg (by omega), hi2, wrap_id (by omega) (by omega)]
    simp
  | cons v rest ih =>
    intro pre i hp hi
    have hl2 : (B.length : Int) = i + rest.length + 1 := by rw [hp, hi]; simp only [List.length_append, List.length_cons]; omega
    have hrd : rd_T31 (B.map mkSV) i = mkSV v := by
      rw [hp, List.map_append, List.map_cons]
      exact rd_SV_at _ _ _ _ (by rw [List.length_map]; exact hi)
    have hv := hB v (by rw [hp]; simp)
    have hvB : vecB v.1 v.2 = true := vecB_iff.mpr ⟨by omega, by omega⟩
    have hred : reduceR a b c v.1 v.2 = (v.1, v.2, 0) := by
      unfold reduceR
      rw [if_pos ⟨hL, hvB⟩, red_self hv.1 hv.2]
    have hwr : wrap64 (i + 1) = i + 1 := wrap_id (by omega) (by omega)
    have hn := ih (pre ++ [v]) (i + 1) (by rw [hp]; simp) (by rw [hi]; simp)
    have f1 : (mkSV v).f0 = v.1 := rfl
    have f2 : (mkSV v).f1 = v.2 := rfl
    rw [show k + 10 + 2 * (v :: rest).length = ((k + 10 + 2 * rest.length) + 1) + 1 by simp only [List.length_cons]; omega, laws_FnCells.l0, List.length_map, if_pos (by omega), if_pos (by omega), hrd, f1, f2, impl_ReduceVec_eq a b c _ _ (by omega) (by omega), hred]
    simp only [Option.bind_some, if_true, beq_self_eq_true, Bool.not_true, Bool.or_self]
    rw [laws_FnCells.j2, if_neg (by decide)]
    by_cases hi0 : i > 0
    · obtain ⟨pre', u, rfl⟩ : ∃ pre' u, pre = pre' ++ [u] := by
        rcases List.eq_nil_or_concat pre with h | ⟨q, u, h⟩
        · rw [h] at hi; simp at hi; omega
        · exact ⟨q, u, by rw [h]; simp⟩
      have hw1 : wrap64 (i - 1) = i - 1 := wrap_id (by omega) (by omega)
      have hrd2 : rd_T31 (B.map mkSV) (i - 1) = mkSV u := by
        rw [hp, List.append_assoc, List.map_append, List.singleton_append, List.map_cons]
        refine rd_SV_at _ _ _ _ ?_
        rw [List.length_map, hi]; simp
      have hu := hB u (by rw [hp]; simp)
      have huB : vecB u.1 u.2 = true := vecB_iff.mpr ⟨by omega, by omega⟩
      have hlt : u.1 < v.1 ∨ (u.1 = v.1 ∧ u.2 < v.2) := by
        have hO2 := hO
        rw [hp] at hO2
        clear ih hn hrd hrd2 hp hi hB hO hl2 hlen hbd
        induction pre' with
        | nil => exact hO2.1
        | cons w q ih2 =>
          cases q with
          | nil => exact ih2 hO2.2
          | cons w2 q => exact ih2 hO2.2
      have hcmp : cmpR u.1 u.2 v.1 v.2 = (-1, 0) := by
        unfold cmpR cmpv
        rw [if_pos ⟨huB, hvB⟩, if_pos hlt]
      have g1 : (mkSV u).f0 = u.1 := rfl
      have g2 : (mkSV u).f1 = u.2 := rfl
      rw [if_pos hi0, hw1, List.length_map, if_pos (by omega), if_pos (by omega), if_pos (by omega), if_pos (by omega), hrd, hrd2, f1, f2, g1, g2, show k + 10 + 2 * rest.length = (k + 7 + 2 * rest.length) + 3 by omega, impl_CompareVecs_eq, hcmp]
      simp only [Option.bind_some, if_true]
      rw [hwr]
      rw [show k + 10 + 2 * rest.length = (k + 7 + 2 * rest.length) + 3 by omega] at hn
      exact hn
    · rw [if_neg hi0, hwr]
      exact hn
theorem cells_end (a b c : Int) : laws_FnCells.j0 3000011 (cellsS a b c).1 (cellsS a b c).2 false a b c = some true := by
  rw [laws_FnCells.j0, if_neg (by decide)]
  unfold cellsS
  by_cases h : latB a b c = true
  · obtain ⟨⟨a1, a2⟩, ⟨c1, c2⟩, ⟨b1, b2⟩, hac⟩ := latB_iff.mp h
    rw [if_pos h, if_pos rfl]
    have hl : ((boxF 0 c.toNat 0 a.toNat).length : Int) = a * c := by
      rw [boxF_len, Int.natCast_mul, Int.toNat_of_nonneg (by omega), Int.toNat_of_nonneg (by omega)]
    have hle : (boxF 0 c.toNat 0 a.toNat).length ≤ 4096 := by
      have : a * c ≤ 64 * 64 := Int.mul_le_mul a2 c2 (by omega) (by omega)
      omega
    have := cells_loop (3000010 - 10 - 2 * (boxF 0 c.toNat 0 a.toNat).length) a b c h (boxF 0 c.toNat 0 a.toNat) (fun v hv => by rw [mem_boxF] at hv; omega) hl (inOrd_box _ _ _ _) (boxF 0 c.toNat 0 a.toNat) [] 0 rfl rfl
    rw [show 3000010 - 10 - 2 * (boxF 0 c.toNat 0 a.toNat).length + 10 + 2 * (boxF 0 c.toNat 0 a.toNat).length = 3000010 by omega] at this
    exact this
  · rw [if_neg h, if_neg (by decide)]
theorem main (l0 : List Int) (hm0 : l0.length ≤ maxLen) (y0 : l0.length * 1 ≤ 140737488351232) (w0 : ∀ x ∈ l0, (Go.Lit.int .u8 x).wf = true) : ∃ k, laws_FnCells.f k l0 = some true := by
  have hb : ∀ x ∈ l0, 0 ≤ x ∧ x < 256 := fun x hx => u8_bd (w0 x hx)
  by_cases hl : (l0.length : Int) ≤ 4096
  · obtain ⟨a, b, c, e1, ha⟩ := drawCells_eq hl hb 3000011 (by decide)
    obtain ⟨t, e2, ht⟩ := drawReadLat_eq hl hb 3000011 (by decide)
    obtain ⟨u, v, w, o, i1, i2, i3⟩ := lt_mid t ht
    obtain ⟨u', v', w', o', t', j1, j2, j3, j4, j5⟩ := lt_first a b c ha
    have hlen := cellsS_len a b c
    have fin := cells_end a b c
    refine ⟨3000011, ?_⟩
    unfold laws_FnCells.f
    rw [big_eq, e1, decide_eq_false (by omega)]
    simp only [Option.bind_some, Bool.false_eq_true, if_false]
    rw [impl_CellsOf_eq 3000011 (by decide) a b c (by omega) (by omega), spec_CellsOf_eq 3000011 (by decide) a b c (by omega) (by omega)]
    simp only [Option.bind_some]
    rw [j1]
    simp only [Option.bind_some]
    rw [j3]
    simp only [Option.bind_some]
    rw [e2]
    simp only [Option.bind_some]
    rw [i1]
    simp only [Option.bind_some]
    rw [i2]
    simp only [Option.bind_some]
    generalize cellsS a b c = S at hlen fin
    rw [if_pos trivial, like9V_self 3000011 S.1 (by omega) (by omega)]
    simp only [Option.bind_some]
    rw [if_pos trivial, j2]
    simp only [Option.bind_some]
    rw [if_pos trivial, ← j4, bne_self_eq_false, if_neg (by decide)]
    cases o' with
    | true =>
      obtain ⟨rfl, rfl, rfl⟩ := j5 rfl
      cases o with
      | true =>
        simp only [beq_self_eq_true, Bool.not_true, Bool.or_self, Bool.false_eq_true, if_false, if_true, bne_self_eq_false]
        rw [i3 rfl]
        simp only [Option.bind_some, bne_self_eq_false]
        exact fin
      | false =>
        simp only [beq_self_eq_true, Bool.not_true, Bool.or_self, Bool.false_eq_true, if_false, if_true, bne_self_eq_false]
        exact fin
    | false =>
      cases o with
      | true =>
        simp only [beq_self_eq_true, Bool.not_true, Bool.or_self, Bool.false_eq_true, if_false, if_true, bne_self_eq_false]
        rw [i3 rfl]
        simp only [Option.bind_some, bne_self_eq_false]
        exact fin
      | false =>
        simp only [beq_self_eq_true, Bool.not_true, Bool.or_self, Bool.false_eq_true, if_false, if_true, bne_self_eq_false]
        exact fin
  · refine ⟨0, ?_⟩
    unfold laws_FnCells.f
    rw [big_eq]
    simp only [Option.bind_some]
    rw [if_pos (by rw [decide_eq_true_eq]; omega)]
end Go.Proofs.YtiknfddggcbblaaDoor.PureFnCells

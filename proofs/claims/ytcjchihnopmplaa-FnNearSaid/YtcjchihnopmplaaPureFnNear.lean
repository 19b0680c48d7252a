/-
The law FnNear, over numbers and lists alone: the printed functions of the program and of the reference answer alike. No condition but that each number is an int64.
-/
import Derived.Test.YtcjchihnopmplaaN6
import GoSem.Claim
namespace Go.Proofs.Ytcjchihnopmplaa.PureFnNear
open Go.RowKit Go.Proofs.Ytcjchihnopmplaa.F Go.Proofs.YtcjchihnopmplaaW.PrintWords Go.Proofs.YtcjchihnopmplaaW.PrintLast Go.Proofs.YtcjchihnopmplaaW.PrintMore
set_option linter.unusedVariables false
set_option linter.unusedSimpArgs false
/-- (x, y) is a sum of multiples of (a, 0) and (b, c). -/
def L (a b c x y : Int) : Prop := ∃ m n : Int, x = m * a + n * b ∧ y = n * c
def Nf (f x y : Int) : Int := x * x + f * x * y + y * y
def rowF (x y : Int) : Nat → List (Int × Int)
  | 0 => []
  | d + 1 => (x, y) :: rowF x (y + 1) d
def boxF (lo : Int) (w : Nat) (x : Int) : Nat → List (Int × Int)
  | 0 => []
  | d + 1 => rowF x lo w ++ boxF lo w (x + 1) d
theorem mem_rowF (x : Int) : ∀ (d : Nat) (y : Int) (v : Int × Int), v ∈ rowF x y d ↔ v.1 = x ∧ y ≤ v.2 ∧ v.2 < y + d := by
  intro d
  induction d with
  | zero => intro y v; simp only [rowF, List.not_mem_nil, false_iff]; omega
  | succ d ih =>
    intro y v
    obtain ⟨v1, v2⟩ := v
    simp only [rowF, List.mem_cons, ih, Prod.mk.injEq]; omega
theorem mem_boxF (lo : Int) (w : Nat) : ∀ (d : Nat) (x : Int) (v : Int × Int), v ∈ boxF lo w x d ↔ (x ≤ v.1 ∧ v.1 < x + d) ∧ (lo ≤ v.2 ∧ v.2 < lo + w) := by
  intro d
  induction d with
  | zero => intro x v; simp only [boxF, List.not_mem_nil, false_iff]; omega
  | succ d ih =>
    intro x v
    simp only [boxF, List.mem_append, ih, mem_rowF]; omega
theorem rowF_len (x : Int) : ∀ (d : Nat) (y : Int), (rowF x y d).length = d := by
  intro d
  induction d with
  | zero => intro y; rfl
  | succ d ih => intro y; simp [rowF, ih]
/-- All vectors with numbers from -n to n, in order. -/
def box (n : Nat) : List (Int × Int) := boxF (-n) (2 * n + 1) (-n) (2 * n + 1)
def vecB (x y : Int) : Bool := decide (-1000 ≤ x ∧ x ≤ 1000 ∧ -1000 ≤ y ∧ y ≤ 1000)
theorem wrap_id {x : Int} (h1 : -9223372036854775808 ≤ x) (h2 : x < 9223372036854775808) : wrap64 x = x := by unfold wrap64; omega
theorem prod_bd {a b A B : Int} (ha : -A ≤ a) (ha' : a ≤ A) (hb : -B ≤ b) (hb' : b ≤ B) (hA : 0 ≤ A) : -(A * B) ≤ a * b ∧ a * b ≤ A * B := by
  have h1 : (a * b).natAbs ≤ A.natAbs * B.natAbs := by rw [Int.natAbs_mul]; exact Nat.mul_le_mul (by omega) (by omega)
  have h2 : (A * B).natAbs = A.natAbs * B.natAbs := Int.natAbs_mul A B
  have h3 : 0 ≤ A * B := Int.mul_nonneg hA (by omega)
  omega
theorem vecB_iff {x y : Int} : vecB x y = true ↔ (-1000 ≤ x ∧ x ≤ 1000) ∧ (-1000 ≤ y ∧ y ≤ 1000) := by unfold vecB; rw [decide_eq_true_iff]; omega
def frameB (f : Int) : Bool := decide (f = 0 ∨ f = 1)
def normR (f x y : Int) : Int × Int := if frameB f = true ∧ vecB x y = true then (Nf f x y, 0) else (0, 1)
theorem u8_bd {a : Int} (h : (Go.Lit.int .u8 a).wf = true) : 0 ≤ a ∧ a < 256 := by
  simp only [Go.Lit.wf, Bool.and_eq_true, decide_eq_true_eq] at h
  obtain ⟨h1, h2⟩ := h
  have e1 : Go.IntKind.min .u8 = 0 := by decide
  have e2 : Go.IntKind.max .u8 = 255 := by decide
  omega
theorem impl_within_eq (a b c : Int) : impl_within.f a b c = some (decide (b ≤ a ∧ a ≤ c)) := by
  unfold impl_within.f; split <;> simp <;> omega
theorem impl_isCoordinate_eq (a : Int) : impl_isCoordinate.f a = some (decide (-1000 ≤ a ∧ a ≤ 1000)) := by
  unfold impl_isCoordinate.f; simp only [impl_within_eq, Option.bind_some]
theorem impl_IsVec_eq (x y : Int) : impl_IsVec.f x y = some (vecB x y) := by
  unfold impl_IsVec.f vecB; simp only [impl_isCoordinate_eq, Option.bind_some]; split <;> simp_all <;> omega
theorem spec_IsFrame_eq (f : Int) : spec_IsFrame.f f = some (frameB f) := by
  unfold spec_IsFrame.f frameB
  by_cases h : f = 0
  · simp [h]
  · by_cases h' : f = 1 <;> simp [h, h']
theorem impl_IsFrame_eq (f : Int) : impl_IsFrame.f f = some (frameB f) := by
  unfold impl_IsFrame.f frameB; simp only [impl_within_eq, Option.bind_some]; congr 1; exact decide_eq_decide.mpr (by omega)
theorem spec_l04Norm_eq (f : Int) {x y : Int} (hf : f = 0 ∨ f = 1) (hx : -100000 ≤ x ∧ x ≤ 100000) (hy : -100000 ≤ y ∧ y ≤ 100000) : spec_l04Norm.f f x y = some (Nf f x y) := by
  have h1 := prod_bd hx.1 hx.2 hx.1 hx.2 (by omega)
  have h2 := prod_bd hy.1 hy.2 hy.1 hy.2 (by omega)
  have h3 := prod_bd hx.1 hx.2 hy.1 hy.2 (by omega)
  unfold spec_l04Norm.f Nf
  rw [wrap_id (x := x * x) (by omega) (by omega), wrap_id (x := y * y) (by omega) (by omega), wrap_id (x := x * y) (by omega) (by omega), wrap_id (x := x * x + y * y) (by omega) (by omega)]
  rcases hf with rfl | rfl
  · rw [if_neg (by omega), Int.zero_mul, Int.zero_mul]; congr 1; omega
  · rw [if_pos rfl, wrap_id (by omega) (by omega), Int.one_mul]; congr 1; omega
theorem impl_norm_eq (f : Int) {x y : Int} (hf : f = 0 ∨ f = 1) (hx : -100000 ≤ x ∧ x ≤ 100000) (hy : -100000 ≤ y ∧ y ≤ 100000) : impl_norm.f f x y = some (Nf f x y) := by
  have h1 := prod_bd hx.1 hx.2 hx.1 hx.2 (by omega)
  have h2 := prod_bd hy.1 hy.2 hy.1 hy.2 (by omega)
  have h3 := prod_bd hx.1 hx.2 hy.1 hy.2 (by omega)
  unfold impl_norm.f Nf
  rcases hf with rfl | rfl
  · simp only [Int.zero_mul]
    rw [wrap_id (x := x * x) (by omega) (by omega), wrap_id (x := y * y) (by omega) (by omega), wrap_id (x := 0) (by omega) (by omega), Int.zero_mul, wrap_id (x := 0) (by omega) (by omega), wrap_id (x := x * x + 0) (by omega) (by omega), wrap_id (by omega) (by omega)]
  · simp only [Int.one_mul]
    rw [wrap_id (x := x) (by omega) (by omega), wrap_id (x := x * x) (by omega) (by omega), wrap_id (x := y * y) (by omega) (by omega), wrap_id (x := x * y) (by omega) (by omega), wrap_id (x := x * x + x * y) (by omega) (by omega), wrap_id (by omega) (by omega)]
theorem frameB_iff {f : Int} : frameB f = true ↔ f = 0 ∨ f = 1 := by unfold frameB; exact decide_eq_true_iff
theorem impl_NormOf_eq (f x y : Int) : impl_NormOf.f f x y = some (normR f x y) := by
  unfold impl_NormOf.f normR
  simp only [impl_IsFrame_eq, impl_IsVec_eq, Option.bind_some]
  by_cases h : frameB f = true
  · by_cases h' : vecB x y = true
    · have h2 := vecB_iff.mp h'
      rw [if_pos h, if_pos h', impl_norm_eq f (by simpa [frameB] using h) (by omega) (by omega), if_pos ⟨h, h'⟩]; rfl
    · rw [if_pos h, if_neg h', if_neg (fun x => h' x.2)]
  · rw [if_neg h, if_neg (fun x => h x.1)]
/-- A vector as the printed lists hold it. -/
def mkSV (v : Int × Int) : S47 := ⟨v.1, v.2⟩
def St (l : List Int) (p s : Int) : Prop := (l.length : Int) ≤ 4096 ∧ (∀ x ∈ l, 0 ≤ x ∧ x < 256) ∧ 0 ≤ p ∧ p ≤ (l.length : Int) ∧ 0 ≤ s ∧ s < 2147483647
theorem rd_mem {l : List Int} {i : Int} (h0 : 0 ≤ i) (h1 : i < (l.length : Int)) : rd l i ∈ l := by
  unfold rd
  have h : i.toNat < l.length := by omega
  have e : l.getD i.toNat 0 = l[i.toNat] := by simp [List.getD, h]
  rw [e]
  exact List.getElem_mem h
theorem tm_bd {X n : Int} (hX : 0 ≤ X) (hn : 0 < n) : 0 ≤ Int.tmod X n ∧ Int.tmod X n < n := ⟨Int.tmod_nonneg n hX, Int.tmod_lt_of_pos X hn⟩
theorem next_eq {l : List Int} {p s : Int} (h : St l p s) (n : Int) : ∃ r p' s', spec_l01Next.f l p s n = some (r, p', s') ∧ St l p' s' ∧ 0 ≤ r ∧ (r < n ∨ r = 0) := by
  have h0 := h
  obtain ⟨hl, hb, hp0, hp1, hs0, hs1⟩ := h
  unfold spec_l01Next.f
  by_cases hn : n ≤ 1
  · rw [if_pos hn]; exact ⟨0, p, s, rfl, h0, by omega, .inr rfl⟩
  rw [if_neg hn]
  rw [wrap_id (x := s * 48271) (by omega) (by omega), wrap_id (x := s * 48271 + 67) (by omega) (by omega)]
  obtain ⟨a1, a2⟩ := tm_bd (X := s * 48271 + 67) (n := 2147483647) (by omega) (by decide)
  generalize Int.tmod (s * 48271 + 67) 2147483647 = S at a1 a2
  have q0 : 0 ≤ Int.tdiv S 37 ∧ Int.tdiv S 37 ≤ S := by rw [Int.tdiv_eq_ediv_of_nonneg a1]; omega
  have q1 : wrap64 (Int.tdiv S 37) = Int.tdiv S 37 := wrap_id (by omega) (by omega)
  by_cases hp : p < (l.length : Int)
  · rw [if_pos hp, if_pos hp0]
    have m := hb _ (rd_mem hp0 hp)
    rw [wrap_id (x := p + 1) (by omega) (by omega), wrap_id (x := p + 1 - 1) (by omega) (by omega), Int.add_sub_cancel]
    have w1 : wrap64 (rd l p) = rd l p := wrap_id (by omega) (by omega)
    rw [q1, w1, wrap_id (x := Int.tdiv S 37 + rd l p) (by omega) (by omega), if_neg (show ¬ n = 0 by omega), if_neg (show ¬ n = 0 by omega)]
    have t1 := tm_bd (X := rd l p) (n := n) m.1 (by omega)
    have t2 := tm_bd (X := Int.tdiv S 37 + rd l p) (n := n) (by omega) (by omega)
    have st : St l (p + 1) S := ⟨hl, hb, by omega, by omega, a1, a2⟩
    split
    · split
      · exact ⟨_, _, _, rfl, st, t1.1, .inl t1.2⟩
      · exact ⟨_, _, _, rfl, st, t2.1, .inl t2.2⟩
    · exact ⟨_, _, _, rfl, st, t2.1, .inl t2.2⟩
  · rw [if_neg hp, if_neg (show ¬ n = 0 by omega), q1]
    have t1 := tm_bd (X := Int.tdiv S 37) (n := n) (by omega) (by omega)
    exact ⟨_, _, _, rfl, ⟨hl, hb, hp0, hp1, a1, a2⟩, t1.1, .inl t1.2⟩
theorem from_loop {l : List Int} (hl : (l.length : Int) ≤ 4096) (hb : ∀ x ∈ l, 0 ≤ x ∧ x < 256) (p : Int) : ∀ (k : Nat) (i s : Int), 0 ≤ i → i ≤ 64 → 64 - i < (k : Int) → 0 ≤ s → s < 2147483647 →
    ∃ s', spec_l01From.l0 k l i l p s = some (l, p, s') ∧ 0 ≤ s' ∧ s' < 2147483647
  | 0, i, s, h0, h1, h2, _, _ => by omega
  | k + 1, i, s, h0, h1, h2, h3, h4 => by
    unfold spec_l01From.l0
    by_cases hi : i < (l.length : Int)
    · rw [if_pos hi]
      by_cases h6 : i < 64
      · rw [if_pos h6, if_pos h0]
        have m := hb _ (rd_mem h0 hi)
        rw [wrap_id (x := i + 1) (by omega) (by omega), wrap_id (x := rd l i) (by omega) (by omega), wrap_id (x := s * 73) (by omega) (by omega), wrap_id (x := s * 73 + rd l i) (by omega) (by omega)]
        have t := tm_bd (X := s * 73 + rd l i) (n := 2147483647) (by omega) (by decide)
        exact from_loop hl hb p k (i + 1) _ (by omega) (by omega) (by omega) t.1 t.2
      · rw [if_neg h6]; exact ⟨s, rfl, h3, h4⟩
    · rw [if_neg hi]; exact ⟨s, rfl, h3, h4⟩
theorem from_eq {l : List Int} (hl : (l.length : Int) ≤ 4096) (hb : ∀ x ∈ l, 0 ≤ x ∧ x < 256) (k : Nat) (hk : 65 ≤ k) : ∃ p s, spec_l01From.f k l = some (l, p, s) ∧ St l p s := by
  obtain ⟨s, e, h1, h2⟩ := from_loop hl hb 0 k 0 93001 (by omega) (by omega) (by omega) (by omega) (by omega)
  exact ⟨0, s, e, hl, hb, by omega, by omega, h1, h2⟩
theorem pick_eq {l : List Int} {p s : Int} (h : St l p s) (L : List Int) (hL : 0 < L.length) : ∃ v p' s', spec_l01Pick.f l p s L = some (v, p', s') ∧ St l p' s' ∧ v ∈ L := by
  unfold spec_l01Pick.f
  obtain ⟨r, p', s', e, hs, b1, b2⟩ := next_eq h (L.length : Int)
  rw [e]
  simp only [Option.bind_some]
  have hr : r < (L.length : Int) := by rcases b2 with b | b <;> omega
  rw [if_pos b1, if_pos hr]
  exact ⟨_, _, _, rfl, hs, rd_mem b1 hr⟩
theorem big_eq (l : List Int) : laws_big.f l = some (decide ((l.length : Int) > 4096)) := rfl
def nearP (f N : Int) (v : Int × Int) : Bool := decide (Nf f v.1 v.2 ≤ N)
theorem spec_near_row (f N n x : Int) (hf : f = 0 ∨ f = 1) (hn : 0 ≤ n ∧ n ≤ 200) (hx : -200 ≤ x ∧ x ≤ 200) (k : Nat) : ∀ (d : Nat) (y : Int) (out : List S47), y + d = n + 1 → -200 ≤ y → out.length + d ≤ 1000000 →
    spec_l04Near.l1 (k + d + 1) f N n out x y = spec_l04Near.l0 k f N n (out ++ ((rowF x y d).filter (nearP f N)).map mkSV) (wrap64 (x + 1)) := by
  intro d
  induction d with
  | zero => intro y out h0 hy hl; rw [spec_l04Near.l1, if_neg (by omega)]; simp [rowF]
  | succ d ih =>
    intro y out h0 hy hl
    rw [show k + (d + 1) + 1 = (k + d + 1) + 1 by omega, spec_l04Near.l1, if_pos (by omega), spec_l04Norm_eq f hf (by omega) (by omega)]
    simp only [Option.bind_some]
    rw [wrap_id (x := y + 1) (by omega) (by omega)]
    by_cases hN : Nf f x y ≤ N
    · rw [if_pos hN, if_pos (by omega), ih (y + 1) _ (by omega) (by omega) (by simp; omega)]
      have e : nearP f N (x, y) = true := by simp [nearP, hN]
      simp [rowF, e, mkSV]
    · rw [if_neg hN, ih (y + 1) _ (by omega) (by omega) (by omega)]
      have e : nearP f N (x, y) = false := by simp [nearP, hN]
      simp [rowF, e]
theorem filter_row_len (f N x : Int) (d : Nat) (y : Int) : ((rowF x y d).filter (nearP f N)).length ≤ d := by
  have := List.length_filter_le (nearP f N) (rowF x y d)
  rw [rowF_len] at this; exact this
theorem spec_near_box (f N : Int) (hf : f = 0 ∨ f = 1) (n : Nat) (hn : n ≤ 200) (k : Nat) : ∀ (d : Nat) (x : Int) (out : List S47), x + d = n + 1 → -200 ≤ x → out.length + d * (2 * n + 1) ≤ 900000 →
    spec_l04Near.l0 (k + d * (2 * n + 1 + 2) + 1) f N n out x = some (out ++ ((boxF (-n) (2 * n + 1) x d).filter (nearP f N)).map mkSV) := by
  intro d
  induction d with
  | zero => intro x out h0 hx hl; rw [spec_l04Near.l0, if_neg (by omega)]; simp [boxF]
  | succ d ih =>
    intro x out h0 hx hl
    have e : k + (d + 1) * (2 * n + 1 + 2) + 1 = ((k + d * (2 * n + 1 + 2) + 1) + (2 * n + 1) + 1) + 1 := by rw [Nat.add_mul]; omega
    rw [Nat.add_mul] at hl
    have hr := filter_row_len f N x (2 * n + 1) (-n)
    rw [e, spec_l04Near.l0, if_pos (by omega), wrap_id (x := -(n : Int)) (by omega) (by omega), spec_near_row f N n x hf (by omega) (by omega) _ (2 * n + 1) (-n) out (by omega) (by omega) (by omega), wrap_id (x := x + 1) (by omega) (by omega), ih (x + 1) _ (by omega) (by omega) (by simp; omega)]
    simp [boxF]
theorem spec_l04Near_eq (f N : Int) (hf : f = 0 ∨ f = 1) (n : Nat) (hn : n ≤ 200) (k : Nat) (hk : 200000 ≤ k) : spec_l04Near.f k f N n = some (((box n).filter (nearP f N)).map mkSV) := by
  unfold spec_l04Near.f box
  have h1 : (2 * n + 1) * (2 * n + 1 + 2) ≤ 401 * 403 := Nat.mul_le_mul (by omega) (by omega)
  have h2 : (2 * n + 1) * (2 * n + 1) ≤ 401 * 401 := Nat.mul_le_mul (by omega) (by omega)
  obtain ⟨j, rfl⟩ : ∃ j, k = j + (2 * n + 1) * (2 * n + 1 + 2) + 1 := ⟨k - (2 * n + 1) * (2 * n + 1 + 2) - 1, by omega⟩
  rw [wrap_id (x := -(n : Int)) (by omega) (by omega), spec_near_box f N hf n hn j (2 * n + 1) (-n) [] (by omega) (by omega) (by simp; omega)]; simp
def nearS (f N : Int) : List S47 × Int := if frameB f = true then (if 0 ≤ N ∧ N ≤ 100 then (((box 12).filter (nearP f N)).map mkSV, 0) else ([], 2)) else ([], 1)
theorem nearS_len (f N : Int) : (nearS f N).1.length ≤ 5000 := by
  have hl : (box 12).length = 625 := by kernel_rfl
  unfold nearS
  split
  · split
    · simp only [List.length_map]
      have := List.length_filter_le (nearP f N) (box 12)
      omega
    · simp
  · simp
theorem spec_NearVecs_eq (k : Nat) (hk : 200000 ≤ k) (f N : Int) : spec_NearVecs.f k f N = some (nearS f N) := by
  have eI : spec_l01In.f N 0 100 = some (decide (0 ≤ N ∧ N ≤ 100)) := by
    unfold spec_l01In.f
    by_cases h : N ≥ 0
    · rw [if_pos h]; congr 1; by_cases h2 : N ≤ 100
      · rw [decide_eq_true h2, decide_eq_true ⟨h, h2⟩]
      · rw [decide_eq_false h2, decide_eq_false (fun q => h2 q.2)]
    · rw [if_neg h, decide_eq_false (fun q => h q.1)]
  unfold spec_NearVecs.f nearS
  rw [spec_IsFrame_eq, eI]
  simp only [Option.bind_some]
  by_cases hf : frameB f = true
  · rw [if_pos hf, if_pos hf]
    by_cases hN : 0 ≤ N ∧ N ≤ 100
    · rw [if_pos (decide_eq_true hN), if_pos hN, show (12 : Int) = ((12 : Nat) : Int) from rfl, spec_l04Near_eq f N (frameB_iff.mp hf) 12 (by omega) k (by omega)]
      rfl
    · rw [if_neg (by rw [decide_eq_false hN]; decide), if_neg hN]
  · rw [if_neg hf, if_neg hf]
theorem impl_NearVecs_eq (k : Nat) (hk : 200000 ≤ k) (f N : Int) : impl_NearVecs.f k f N = some (nearS f N) := by
  have e : impl_NearVecs.f k f N = spec_NearVecs.f k f N := rfl
  rw [e, spec_NearVecs_eq k hk]
theorem u64_wrap (n : Int) : IntKind.u64.wrap n = n % 18446744073709551616 := by simp [IntKind.wrap, IntKind.bits, IntKind.signed]
theorem u64_id (n : Int) (a : 0 ≤ n) (b : n < 2 ^ 64) : IntKind.u64.wrap n = n := by
  have e : (2 : Int) ^ 64 = 18446744073709551616 := by decide
  rw [e] at b
  rw [u64_wrap]; omega
theorem mask24 (q : Int) (h0 : 0 ≤ q) (h1 : q < 18446744073709551616) : Go.bits .and .u64 (q / 8589934592) 16777215 = (q / 8589934592) % 16777216 := by
  have e : (2 : Int) ^ 64 = 18446744073709551616 := by decide
  have h := Go.bits_mask .u64 64 (by decide) u64_id 24 (by decide) (q / 8589934592) (by omega) (by rw [e]; omega)
  have e2 : (2 : Int) ^ 24 = 16777216 := by decide
  rw [e2] at h
  exact h
theorem below_eq {l : List Int} (hb : ∀ x ∈ l, 0 ≤ x ∧ x < 256) {p s n : Int} (hp : 0 ≤ p ∧ p ≤ (l.length : Int)) (hl : (l.length : Int) ≤ 4096) (hn : 0 < n) :
    ∃ r p' s', laws_dice_below.f l p s n = some (r, p', s') ∧ (0 ≤ p' ∧ p' ≤ (l.length : Int)) ∧ 0 ≤ r ∧ r < n := by
  unfold laws_dice_below.f
  obtain ⟨q, hq, q0, q1⟩ : ∃ q, IntKind.u64.wrap ((IntKind.u64.wrap (s * 6364136223846793005)) + 1442695040888963407) = q ∧ 0 ≤ q ∧ q < 18446744073709551616 := ⟨_, rfl, by rw [u64_wrap]; omega, by rw [u64_wrap]; omega⟩
  rw [hq, mask24 q q0 q1]
  have x0 : 0 ≤ (q / 8589934592) % 16777216 := by omega
  have x1 : (q / 8589934592) % 16777216 < 16777216 := by omega
  generalize (q / 8589934592) % 16777216 = X at x0 x1
  by_cases h : p < (l.length : Int)
  · have hm := hb _ (List.getElem_mem (show p.toNat < l.length by omega))
    have hr : rd l p = l[p.toNat]'(by omega) := by
      unfold rd
      rw [List.getD_eq_getElem?_getD, List.getElem?_eq_getElem (show p.toNat < l.length by omega)]; rfl
    rw [if_pos h, if_pos hp.1, if_neg (by omega), hr]
    rw [wrap_id (x := X) (by omega) (by omega), wrap_id (x := l[p.toNat]'(by omega)) (by omega) (by omega), wrap_id (x := X + l[p.toNat]'(by omega)) (by omega) (by omega), wrap_id (x := p + 1) (by omega) (by omega)]
    exact ⟨_, _, _, rfl, ⟨by omega, by omega⟩, Int.tmod_nonneg n (by omega), Int.tmod_lt_of_pos _ hn⟩
  · rw [if_neg h, if_neg (by omega), wrap_id (x := X) (by omega) (by omega)]
    exact ⟨_, _, _, rfl, hp, Int.tmod_nonneg n (by omega), Int.tmod_lt_of_pos _ hn⟩
theorem roll_loop (l : List Int) (hl : (l.length : Int) ≤ 4096) (k : Nat) : ∀ (j : Nat) (i s : Int), 0 ≤ i → i + j = (l.length : Int) → ∃ s', laws_roll.l0 (k + j + 1) l i l 0 s = some (l, 0, s') := by
  intro j
  induction j with
  | zero => intro i s h0 h; exact ⟨s, by rw [laws_roll.l0, if_neg (by omega)]⟩
  | succ j ih =>
    intro i s h0 h
    obtain ⟨s', e⟩ := ih (i + 1) (IntKind.u64.wrap ((IntKind.u64.wrap ((IntKind.u64.wrap (s * 1099511628211)) + (IntKind.u64.wrap (rd l i)))) + 5)) (by omega) (by omega)
    exact ⟨s', by rw [show k + (j + 1) + 1 = (k + j + 1) + 1 by omega, laws_roll.l0, if_pos (by omega), if_pos h0, wrap_id (x := i + 1) (by omega) (by omega)]; exact e⟩
theorem roll_eq (l : List Int) (hl : (l.length : Int) ≤ 4096) (n : Int) (k : Nat) (hk : 5000 ≤ k) : ∃ s', laws_roll.f k l n = some (l, 0, s') := by
  unfold laws_roll.f
  obtain ⟨j, rfl⟩ : ∃ j, k = j + l.length + 1 := ⟨k - l.length - 1, by omega⟩
  exact roll_loop l hl j l.length 0 _ (by omega) (by omega)
theorem rd_near_at (pre : List S47) (v : Int × Int) (t : List S47) (i : Int) (hi : i = pre.length) : rd_T47 (pre ++ mkSV v :: t) i = mkSV v := by
  subst hi; unfold rd_T47; simp
theorem has9_loop (T : List S47) (hT : T.length ≤ 1000000) (x y : Int) (k : Nat) : ∀ (t : List (Int × Int)) (pre : List S47) (i : Int), T = pre ++ t.map mkSV → i = pre.length → laws_hasVec9.l0 (k + t.length + 1) T i x y = some (decide ((x, y) ∈ t)) := by
  intro t
  induction t with
  | nil => intro pre i e hi; rw [laws_hasVec9.l0, if_neg (by subst hi; subst e; simp)]; simp
  | cons v t ih =>
    intro pre i e hi
    have hlen : T.length = pre.length + (t.length + 1) := by rw [e]; simp
    have hn := ih (pre ++ [mkSV v]) (i + 1) (by rw [e]; simp) (by rw [hi]; simp)
    have hr : rd_T47 T i = mkSV v := by rw [e]; exact rd_near_at pre v _ i hi
    rw [show k + (v :: t).length + 1 = (k + t.length + 1) + 1 by simp; omega, laws_hasVec9.l0, if_pos (by omega), if_pos (by omega), wrap_id (x := i + 1) (by omega) (by omega), hr, hn]
    show (if (v.1 == x && v.2 == y) = true then _ else _) = _
    by_cases h : v.1 = x ∧ v.2 = y
    · rw [if_pos (by simp [h.1, h.2])]
      obtain ⟨rfl, rfl⟩ := h
      simp
    · have h' : ¬ (v.1 == x && v.2 == y) = true := by simpa using h
      rw [if_neg h']
      congr 1
      have : ¬ ((x, y) = v) := fun q => h ⟨by rw [← q], by rw [← q]⟩
      simp [this]
theorem has9_eq (L : List (Int × Int)) (hL : L.length ≤ 1000000) (x y : Int) (k : Nat) (hk : L.length < k) : laws_hasVec9.f k (L.map mkSV) x y = some (decide ((x, y) ∈ L)) := by
  unfold laws_hasVec9.f
  obtain ⟨j, rfl⟩ : ∃ j, k = j + L.length + 1 := ⟨k - L.length - 1, by omega⟩
  exact has9_loop _ (by simpa using hL) x y j L [] 0 rfl rfl
theorem like9V_loop (l : List S47) (hl : l.length ≤ 1000000) (k : Nat) : ∀ (t pre : List S47) (i : Int), l = pre ++ t → i = pre.length → laws_likeVecs9.l0 (k + t.length + 1) l l i = some true := by
  intro t
  induction t with
  | nil => intro pre i e hi; rw [laws_likeVecs9.l0, if_neg (by subst hi; subst e; simp)]
  | cons v t ih =>
    intro pre i e hi
    have hlen : l.length = pre.length + (t.length + 1) := by rw [e]; simp
    have hn := ih (pre ++ [v]) (i + 1) (by rw [e]; simp) (by rw [hi]; simp)
    rw [show k + (v :: t).length + 1 = (k + t.length + 1) + 1 by simp; omega, laws_likeVecs9.l0, if_pos (by omega), if_pos (by omega), if_pos (by omega), wrap_id (x := i + 1) (by omega) (by omega), if_neg (by simp)]
    exact hn
theorem like9V_self (k : Nat) (l : List S47) (hl : l.length ≤ 1000000) (hk : l.length < k) : laws_likeVecs9.f k l l = some true := by
  unfold laws_likeVecs9.f
  rw [if_pos rfl]
  obtain ⟨j, rfl⟩ : ∃ j, k = j + l.length + 1 := ⟨k - l.length - 1, by omega⟩
  exact like9V_loop l hl j l [] 0 rfl rfl
theorem drawFrame_eq {l : List Int} {p s : Int} (h : St l p s) : ∃ f p' s', spec_l04DrawFrame.f l p s = some (f, p', s') ∧ St l p' s' ∧ (-1 ≤ f ∧ f ≤ 2) := by
  unfold spec_l04DrawFrame.f
  obtain ⟨r, p1, s1, e1, h1, b1, b2⟩ := next_eq h 40
  rw [e1]
  simp only [Option.bind_some]
  split
  · obtain ⟨v, p2, s2, e2, h2, m2⟩ := pick_eq h1 [-1, 2] (by decide)
    rw [e2]
    exact ⟨_, _, _, rfl, h2, by simp at m2; omega⟩
  · obtain ⟨v, p2, s2, e2, h2, c1, c2⟩ := next_eq h1 2
    rw [e2]
    exact ⟨_, _, _, rfl, h2, by omega⟩
theorem drawNear_eq {l : List Int} (hl : (l.length : Int) ≤ 4096) (hb : ∀ x ∈ l, 0 ≤ x ∧ x < 256) (k : Nat) (hk : 65 ≤ k) : ∃ f n, spec_DrawNearVecs.f k l = some (f, n) := by
  unfold spec_DrawNearVecs.f
  obtain ⟨p, s, e, h⟩ := from_eq hl hb k hk
  rw [e]
  simp only [Option.bind_some]
  obtain ⟨r, p1, s1, e1, h1, b1, b2⟩ := next_eq h 12
  rw [e1]
  simp only [Option.bind_some]
  obtain ⟨f, p2, s2, e2, h2, c⟩ := drawFrame_eq h1
  split
  · rw [e2]
    simp only [Option.bind_some]
    obtain ⟨v, p3, s3, e3, h3, m3⟩ := pick_eq h2 [-1, 0, 100, 101] (by decide)
    rw [e3]
    exact ⟨_, _, rfl⟩
  · rw [e2]
    simp only [Option.bind_some]
    obtain ⟨v, p3, s3, e3, h3, m3⟩ := next_eq h2 30
    rw [e3]
    exact ⟨_, _, rfl⟩
theorem main (l0 : List Int) (hm0 : l0.length ≤ maxLen) (y0 : l0.length * 1 ≤ 140737488351232) (w0 : ∀ x ∈ l0, (Go.Lit.int .u8 x).wf = true) : ∃ k, laws_FnNear.f k l0 = some true := by
  have hb : ∀ x ∈ l0, 0 ≤ x ∧ x < 256 := fun x hx => u8_bd (w0 x hx)
  by_cases hl : (l0.length : Int) ≤ 4096
  · obtain ⟨f, n, e1⟩ := drawNear_eq hl hb (200000 + 1) (by decide)
    have hS := spec_NearVecs_eq (200000 + 1) (by decide) f n
    have hI := impl_NearVecs_eq (200000 + 1) (by decide) f n
    refine ⟨200000 + 1, ?_⟩
    unfold laws_FnNear.f
    rw [big_eq]
    simp only [Option.bind_some]
    rw [if_neg (by rw [decide_eq_true_eq]; omega), e1]
    simp only [Option.bind_some]
    rw [hI, hS]
    simp only [Option.bind_some]
    rw [if_pos trivial, like9V_self _ _ (by have := nearS_len f n; omega) (by have := nearS_len f n; omega)]
    simp only [Option.bind_some]
    rw [laws_FnNear.j0, if_neg (by decide)]
    by_cases hf : frameB f = true
    · by_cases hn : 0 ≤ n ∧ n ≤ 100
      · have eN : nearS f n = (((box 12).filter (nearP f n)).map mkSV, 0) := by unfold nearS; rw [if_pos hf, if_pos hn]
        rw [eN, if_pos rfl]
        obtain ⟨s', e2⟩ := roll_eq l0 hl 401 200000 (by decide)
        rw [e2]
        simp only [Option.bind_some]
        obtain ⟨r, p1, s1, e3, h1, b1, b2⟩ := below_eq hb (p := 0) (s := s') (n := 15) (by omega) hl (by omega)
        rw [e3]
        simp only [Option.bind_some]
        obtain ⟨r2, p2, s2, e4, h2, c1, c2⟩ := below_eq hb (p := p1) (s := s1) (n := 15) h1 hl (by omega)
        rw [e4]
        simp only [Option.bind_some]
        rw [wrap_id (x := r - 7) (by omega) (by omega), wrap_id (x := r2 - 7) (by omega) (by omega), impl_NormOf_eq]
        have hv : vecB (r - 7) (r2 - 7) = true := vecB_iff.mpr (by omega)
        have hR : normR f (r - 7) (r2 - 7) = (Nf f (r - 7) (r2 - 7), 0) := by unfold normR; rw [if_pos ⟨hf, hv⟩]
        rw [hR]
        simp only [Option.bind_some]
        have hlen := List.length_filter_le (nearP f n) (box 12)
        have hbl : (box 12).length = 625 := by kernel_rfl
        rw [if_pos trivial, has9_eq _ (by omega) _ _ _ (by omega)]
        simp only [Option.bind_some]
        congr 1
        rw [beq_iff_eq]
        have hm : (r - 7, r2 - 7) ∈ box 12 := by
          unfold box
          rw [mem_boxF]
          simp only
          omega
        by_cases hN : Nf f (r - 7) (r2 - 7) ≤ n
        · have hmm : (r - 7, r2 - 7) ∈ (box 12).filter (nearP f n) := List.mem_filter.mpr ⟨hm, decide_eq_true hN⟩
          rw [decide_eq_true hN, decide_eq_true hmm]
        · have hmm : ¬ (r - 7, r2 - 7) ∈ (box 12).filter (nearP f n) := fun q => hN (of_decide_eq_true (List.mem_filter.mp q).2)
          rw [decide_eq_false hN, decide_eq_false hmm]
      · have eN : nearS f n = ([], 2) := by unfold nearS; rw [if_pos hf, if_neg hn]
        rw [eN, if_neg (by decide)]
    · have eN : nearS f n = ([], 1) := by unfold nearS; rw [if_neg hf]
      rw [eN, if_neg (by decide)]
  · refine ⟨200000 + 1, ?_⟩
    unfold laws_FnNear.f
    rw [big_eq]
    simp only [Option.bind_some]
    rw [if_pos (by rw [decide_eq_true_eq]; omega)]
end Go.Proofs.Ytcjchihnopmplaa.PureFnNear

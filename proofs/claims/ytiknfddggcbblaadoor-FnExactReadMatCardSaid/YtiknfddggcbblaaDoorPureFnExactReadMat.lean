/-
The law FnExactReadMat, over numbers and lists alone: the printed functions of the program and of the reference answer alike. No condition but that each number is an int64.
-/
import Derived.Test.YtiknfddggcbblaaDoorU6
import GoSem.Claim
import Derived.Lib.SplitLaws
namespace Go.Proofs.YtiknfddggcbblaaDoor.PureFnExactReadMat
open Go.RowKit Go.Proofs.YtiknfddggcbblaaDoor.F Go.Proofs.YtiknfddggcbblaaDoorW.PrintWords Go.Proofs.YtiknfddggcbblaaDoorW.PrintLast Go.Proofs.YtiknfddggcbblaaDoorW.PrintMore
set_option linter.unusedVariables false
set_option linter.unusedSimpArgs false
/-- (x, y) is a sum of multiples of (a, 0) and (b, c). -/
def L (a b c x y : Int) : Prop := ∃ m n : Int, x = m * a + n * b ∧ y = n * c
/-- The index: what spans the same lattice has the same determinant, up to its sign. -/
theorem L_index {a b c ux uy vx vy : Int} (ha : 0 < a) (hc : 0 < c) (h : ∀ x y, L a b c x y ↔ ∃ i j : Int, x = i * ux + j * vx ∧ y = i * uy + j * vy) :
    a * c = (ux * vy - uy * vx).natAbs := by
  obtain ⟨m1, n1, e1, e2⟩ := (h ux uy).mpr ⟨1, 0, by omega, by omega⟩
  obtain ⟨m2, n2, e3, e4⟩ := (h vx vy).mpr ⟨0, 1, by omega, by omega⟩
  obtain ⟨i1, j1, e5, e6⟩ := (h a 0).mp ⟨1, 0, by omega, by omega⟩
  obtain ⟨i2, j2, e7, e8⟩ := (h b c).mp ⟨0, 1, by omega, by omega⟩
  have d1 : (a * c) ∣ (ux * vy - uy * vx) := ⟨m1 * n2 - n1 * m2, by subst e1 e2 e3 e4; grind⟩
  have d2 : (ux * vy - uy * vx) ∣ (a * c) := ⟨i1 * j2 - j1 * i2, by grind⟩
  have hp : 0 < a * c := Int.mul_pos ha hc
  have d1' : (a * c) ∣ ((ux * vy - uy * vx).natAbs : Int) := Int.dvd_natAbs.mpr d1
  have d2' : ((ux * vy - uy * vx).natAbs : Int) ∣ (a * c) := Int.natAbs_dvd.mpr d2
  exact Int.dvd_antisymm (by omega) (by omega) d1' d2'
def vecB (x y : Int) : Bool := decide (-1000 ≤ x ∧ x ≤ 1000 ∧ -1000 ≤ y ∧ y ≤ 1000)
def smallB (a b c d : Int) : Bool := decide ((-1000 ≤ a ∧ a ≤ 1000 ∧ -1000 ≤ b ∧ b ≤ 1000) ∧ -1000 ≤ c ∧ c ≤ 1000 ∧ -1000 ≤ d ∧ d ≤ 1000)
def matB (a b c d : Int) : Bool := smallB a b c d && (a * d - b * c == 1 || a * d - b * c == -1)
theorem wrap_id {x : Int} (h1 : -9223372036854775808 ≤ x) (h2 : x < 9223372036854775808) : wrap64 x = x := by unfold wrap64; omega
theorem prod_bd {a b A B : Int} (ha : -A ≤ a) (ha' : a ≤ A) (hb : -B ≤ b) (hb' : b ≤ B) (hA : 0 ≤ A) : -(A * B) ≤ a * b ∧ a * b ≤ A * B := by
  have h1 : (a * b).natAbs ≤ A.natAbs * B.natAbs := by rw [Int.natAbs_mul]; exact Nat.mul_le_mul (by omega) (by omega)
  have h2 : (A * B).natAbs = A.natAbs * B.natAbs := Int.natAbs_mul A B
  have h3 : 0 ≤ A * B := Int.mul_nonneg hA (by omega)
  omega
theorem smallB_iff {a b c d : Int} : smallB a b c d = true ↔ ((-1000 ≤ a ∧ a ≤ 1000) ∧ (-1000 ≤ b ∧ b ≤ 1000)) ∧ (-1000 ≤ c ∧ c ≤ 1000) ∧ (-1000 ≤ d ∧ d ≤ 1000) := by unfold smallB; rw [decide_eq_true_iff]; omega
theorem matB_iff {a b c d : Int} : matB a b c d = true ↔ smallB a b c d = true ∧ (a * d - b * c = 1 ∨ a * d - b * c = -1) := by unfold matB; simp
theorem det_wrap {a b c d : Int} (h : smallB a b c d = true) : wrap64 (wrap64 (a * d) - wrap64 (b * c)) = a * d - b * c ∧ (-2000000 ≤ a * d - b * c ∧ a * d - b * c ≤ 2000000) := by
  rw [smallB_iff] at h
  have h1 := prod_bd (A := 1000) (B := 1000) h.1.1.1 h.1.1.2 h.2.2.1 h.2.2.2 (by omega)
  have h2 := prod_bd (A := 1000) (B := 1000) h.1.2.1 h.1.2.2 h.2.1.1 h.2.1.2 (by omega)
  rw [wrap_id (x := a * d) (by omega) (by omega), wrap_id (x := b * c) (by omega) (by omega), wrap_id (by omega) (by omega)]
  omega
/-- A reduced form of what some vectors span. -/
def Herm (sp : Int → Int → Prop) (A B C : Int) : Prop := 0 < A ∧ 0 < C ∧ 0 ≤ B ∧ B < A ∧ ∀ x y, L A B C x y ↔ sp x y
def sp2 (ux uy vx vy : Int) : Int → Int → Prop := fun x y => ∃ i j : Int, x = i * ux + j * vx ∧ y = i * uy + j * vy
theorem Herm.index {A B C ux uy vx vy : Int} (h : Herm (sp2 ux uy vx vy) A B C) : A * C = (ux * vy - uy * vx).natAbs := L_index h.1 h.2.1 h.2.2.2.2
theorem spec_l01In_eq (a b c : Int) : spec_l01In.f a b c = some (decide (b ≤ a ∧ a ≤ c)) := by
  unfold spec_l01In.f; split <;> simp <;> omega
theorem impl_within_eq (a b c : Int) : impl_within.f a b c = some (decide (b ≤ a ∧ a ≤ c)) := by
  unfold impl_within.f; split <;> simp <;> omega
theorem spec_IsVec_eq (x y : Int) : spec_IsVec.f x y = some (vecB x y) := by
  unfold spec_IsVec.f vecB; simp only [spec_l01In_eq, Option.bind_some]; split <;> simp_all <;> omega
theorem impl_isCoordinate_eq (a : Int) : impl_isCoordinate.f a = some (decide (-1000 ≤ a ∧ a ≤ 1000)) := by
  unfold impl_isCoordinate.f; simp only [impl_within_eq, Option.bind_some]
theorem spec_l02Small_eq (a b c d : Int) : spec_l02Small.f a b c d = some (smallB a b c d) := by
  unfold spec_l02Small.f smallB; simp only [spec_IsVec_eq, Option.bind_some, vecB]; split <;> simp_all <;> omega
theorem impl_Mat_isSmall_eq (a b c d : Int) : impl_Mat_isSmall.f a b c d = some (smallB a b c d) := by
  unfold impl_Mat_isSmall.f smallB; simp only [impl_isCoordinate_eq, Option.bind_some, decide_eq_true_eq]
  by_cases h1 : -1000 ≤ a ∧ a ≤ 1000
  · rw [if_pos h1]
    by_cases h2 : -1000 ≤ b ∧ b ≤ 1000
    · rw [if_pos h2]
      by_cases h3 : -1000 ≤ c ∧ c ≤ 1000
      · rw [if_pos h3]
        by_cases h4 : -1000 ≤ d ∧ d ≤ 1000
        · rw [decide_eq_true h4, decide_eq_true (by omega)]
        · rw [decide_eq_false h4, decide_eq_false (by omega)]
      · rw [if_neg h3, decide_eq_false (by omega)]
    · rw [if_neg h2, decide_eq_false (by omega)]
  · rw [if_neg h1, decide_eq_false (by omega)]
theorem spec_IsMat_eq (a b c d : Int) : spec_IsMat.f a b c d = some (matB a b c d) := by
  unfold spec_IsMat.f matB spec_l02Det.f
  simp only [spec_l02Small_eq, Option.bind_some]
  cases h : smallB a b c d with
  | false => simp
  | true => rw [(det_wrap h).1]; simp; split <;> simp_all
theorem impl_IsMat_eq (a b c d : Int) : impl_IsMat.f a b c d = some (matB a b c d) := by
  unfold impl_IsMat.f matB impl_Mat_det.f
  simp only [impl_Mat_isSmall_eq, Option.bind_some]
  cases h : smallB a b c d with
  | false => simp
  | true => rw [(det_wrap h).1]; simp; split <;> simp_all
theorem ba_app (a b : List UInt8) : (⟨a.toArray⟩ : ByteArray) ++ (⟨b.toArray⟩ : ByteArray) = ⟨(a ++ b).toArray⟩ := by
  apply ByteArray.ext
  simp
theorem ba_size (a : List UInt8) : (⟨a.toArray⟩ : ByteArray).size = a.length := by simp [ByteArray.size]
theorem one_str (n : Nat) (h : n < 10) : strOfNums [(wrap64 (48 + (n : Int))) % 256] = ⟨[UInt8.ofNat (48 + n)].toArray⟩ := by
  rw [wrap_id (by omega) (by omega), show (48 + (n : Int)) % 256 = ((48 + n : Nat) : Int) by omega]
  unfold strOfNums
  simp only [List.map_cons, List.map_nil, Int.toNat_natCast]
theorem dec_len : ∀ (d n : Nat), n < 10 ^ (d + 1) → (Lib.decDigits n).length ≤ d + 1 := by
  intro d
  induction d with
  | zero => intro n h; rw [Lib.decDigits_one (by simpa using h)]; simp
  | succ d ih =>
    intro n h
    by_cases h10 : n < 10
    · rw [Lib.decDigits_one h10]; simp
    · rw [Lib.decDigits, dif_neg h10, List.length_append]
      have := ih (n / 10) (by rw [Nat.pow_succ] at h; omega)
      simp only [List.length_cons, List.length_nil]; omega
theorem spec_l01Dec_eq (k : Nat) : ∀ (d n : Nat), d ≤ 17 → n < 10 ^ (d + 1) → spec_l01Dec.f (k + d + 1) (n : Int) = some ⟨(Lib.decDigits n).toArray⟩ := by
  intro d
  induction d with
  | zero =>
    intro n hd h
    have h10 : n < 10 := by simpa using h
    rw [spec_l01Dec.f, if_pos (by omega), one_str n h10, Lib.decDigits_one h10]
  | succ d ih =>
    intro n hd h
    by_cases h10 : n < 10
    · rw [spec_l01Dec.f, if_pos (by omega), one_str n h10, Lib.decDigits_one h10]
    · have hp : n < 10 ^ 18 := Nat.lt_of_lt_of_le h (Nat.pow_le_pow_right (by decide) (by omega))
      have hp2 : (10 : Nat) ^ 18 = 1000000000000000000 := by decide
      have hn : n / 10 < 10 ^ (d + 1) := by rw [Nat.pow_succ] at h; omega
      have e1 : Int.tdiv (n : Int) 10 = ((n / 10 : Nat) : Int) := rfl
      have e2 : Int.tmod (n : Int) 10 = ((n % 10 : Nat) : Int) := rfl
      have hl := dec_len d (n / 10) hn
      rw [show k + (d + 1) + 1 = (k + d + 1) + 1 from rfl, spec_l01Dec.f, if_neg (by omega), e1, e2, wrap_id (by omega) (by omega), ih (n / 10) (by omega) hn]
      simp only [Option.bind_some]
      rw [one_str (n % 10) (by omega), ba_size, ba_size, if_pos (by simp only [List.length_cons, List.length_nil]; omega), ba_app]
      rw [Lib.decDigits.eq_1 n, dif_neg h10]
theorem itoa_len {n : Int} (h : -1000000000000 ≤ n ∧ n ≤ 1000000000000) : (Lib.itoa n).length ≤ 14 := by
  have hp : (10 : Nat) ^ 13 = 10000000000000 := by decide
  unfold Lib.itoa
  split
  · have := dec_len 12 n.natAbs (by rw [hp]; omega)
    simp only [List.length_cons]; omega
  · have := dec_len 12 n.toNat (by rw [hp]; omega)
    omega
def spA (cur : List UInt8) : List UInt8 → List (List UInt8)
  | [] => [cur]
  | b :: l => if b = 44 then cur :: spA [] l else spA (cur ++ [b]) l
def mkB (l : List UInt8) : ByteArray := ⟨l.toArray⟩
theorem mkB_size (l : List UInt8) : (mkB l).size = l.length := by simp [mkB, ByteArray.size]
theorem mkB_data (x : ByteArray) : mkB x.data.toList = x := by cases x; simp [mkB]
theorem mkB_list (l : List UInt8) : (mkB l).data.toList = l := by simp [mkB]
theorem mkB_inj {a b : List UInt8} (h : mkB a = mkB b) : a = b := by rw [← mkB_list a, ← mkB_list b, h]
theorem mkB_tl (a : ByteArray) : a.toList = a.data.toList := Lib.toList_data a
theorem spA_pre (c : List UInt8) : ∀ (l cur : List UInt8), spA (c ++ cur) l = match spA cur l with | [] => [] | h :: t => (c ++ h) :: t := by
  intro l
  induction l with
  | nil => intro cur; rfl
  | cons b l ih =>
    intro cur
    by_cases hb : b = 44
    · simp [spA, hb]
    · simp only [spA, if_neg hb, List.append_assoc]
      exact ih (cur ++ [b])
theorem splitK_spA : ∀ (l : List UInt8), Lib.splitK [44] 0 (Lib.count l [44]) l = spA [] l := by
  intro l
  induction l with
  | nil => rfl
  | cons b l ih =>
    by_cases hb : b = 44
    · subst hb
      have hix : Lib.index (44 :: l) [44] = 0 := by rw [Lib.index]; simp [List.isPrefixOf]
      rw [Lib.count_cons_eq, Nat.add_comm, Lib.splitK, hix, if_neg (by decide)]
      simp only [spA, if_true, ← ih]
      rfl
    · have hp : ([44] : List UInt8).isPrefixOf (b :: l) = false := by simp [List.isPrefixOf, Ne.symm hb]
      have hix : Lib.index (b :: l) [44] = if Lib.index l [44] == -1 then -1 else Lib.index l [44] + 1 := by rw [Lib.index, hp]; simp
      have hs : spA [] (b :: l) = spA ([b] ++ []) l := by simp [spA, hb]
      rw [Lib.count_cons_ne b 44 l hb, hs, spA_pre [b] l [], ← ih]
      cases hc : Lib.count l [44] with
      | zero => rfl
      | succ n =>
        have hne : Lib.index l [44] ≠ -1 := fun e => by rw [Lib.count_miss e] at hc; cases hc
        have hge := Lib.index_ge l [44]
        obtain ⟨j, hj⟩ : ∃ j : Nat, Lib.index l [44] = j := ⟨(Lib.index l [44]).toNat, by omega⟩
        have hix2 : Lib.index (b :: l) [44] = ((j + 1 : Nat) : Int) := by
          rw [hix, if_neg (fun e => hne (beq_iff_eq.1 e)), hj]; omega
        have n1 : ¬ (((j + 1 : Nat) : Int) == -1) = true := fun e => by have := beq_iff_eq.1 e; omega
        have n2 : ¬ ((j : Int) == -1) = true := fun e => by have := beq_iff_eq.1 e; omega
        simp only [Lib.splitK, hix2, hj, if_neg n1, if_neg n2, Int.toNat_natCast, Nat.add_zero, List.take_succ_cons, List.length_cons, List.length_nil, Nat.zero_add, List.drop_succ_cons, List.cons_append, List.nil_append]
theorem split_eq (k : Nat) (s : ByteArray) (hs : s.size < 4294967281) : strings_Split.f k s ⟨#[44]⟩ = some ((spA [] s.data.toList).map mkB) := by
  unfold strings_Split.f
  rw [if_pos ⟨hs, by decide⟩, ← splitK_spA]
  have h := Lib.splitB_data ⟨#[44]⟩ 0 (Lib.countB s ⟨#[44]⟩) s
  have h2 := congrArg (List.map mkB) h
  rw [List.map_map] at h2
  have e : (mkB ∘ fun x : ByteArray => x.data.toList) = id := by funext x; simp [mkB_data]
  rw [e, List.map_id] at h2
  exact congrArg some h2
theorem mkB_cut (pre cur rest : List UInt8) (i j : Int) (hi : i = pre.length) (hj : j = (pre ++ cur).length) : (mkB (pre ++ cur ++ rest)).extract i.toNat j.toNat = mkB cur := by
  subst hi hj
  apply ByteArray.ext
  apply Array.toList_inj.1
  have e : ((pre.length : Int) + (cur.length : Int)).toNat - pre.length = cur.length := by omega
  simp [mkB, e]
theorem mkB_bt (pre : List UInt8) (b : UInt8) (rest : List UInt8) (i : Int) (hi : i = pre.length) : bt (mkB (pre ++ b :: rest)) i = b.toNat := by
  subst hi
  unfold bt
  rw [dif_pos (by rw [mkB_size, List.length_append, List.length_cons]; omega)]
  simp [mkB, ByteArray.getElem_eq_getElem_data]
theorem split_loop (s : List UInt8) (hs : s.length ≤ 2000000) (k : Nat) : ∀ (rest pre cur : List UInt8) (x5 : List ByteArray) (i j : Int), s = pre ++ cur ++ rest → x5.length ≤ pre.length → i = pre.length → j = (pre ++ cur).length →
    spec_l01Split.l0 (k + rest.length + 2) (mkB s) 44 x5 i j = some (x5 ++ (spA cur rest).map mkB) := by
  intro rest
  induction rest with
  | nil =>
    intro pre cur x5 i j hp hx hi hj
    have hsz : ((mkB s).size : Int) = j := by rw [mkB_size, hp, hj]; simp
    have hl : pre.length + cur.length ≤ 2000000 := by have := hs; rw [hp] at this; simpa using this
    have hjl : j = pre.length + cur.length := by rw [hj]; simp
    have hw : wrap64 (j + 1) = j + 1 := wrap_id (by omega) (by omega)
    have hcut := mkB_cut pre cur [] i j hi hj
    rw [← hp] at hcut
    rw [show k + ([] : List UInt8).length + 2 = (k + 1) + 1 from rfl, spec_l01Split.l0, hsz, if_pos (by omega), if_pos rfl, if_pos (by omega), if_pos (by omega), if_pos (by omega), hw, spec_l01Split.l0, hsz, if_neg (by omega), hcut]
    rfl
  | cons b rest ih =>
    intro pre cur x5 i j hp hx hi hj
    have hl : pre.length + cur.length + rest.length + 1 ≤ 2000000 := by
      have := hs; rw [hp] at this; simp only [List.length_append, List.length_cons] at this; omega
    have hjl : j = pre.length + cur.length := by rw [hj]; simp
    have hsz : ((mkB s).size : Int) = j + rest.length + 1 := by
      rw [mkB_size, hp, hjl]; simp only [List.length_append, List.length_cons]; omega
    have hw : wrap64 (j + 1) = j + 1 := wrap_id (by omega) (by omega)
    have hb : bt (mkB s) j = b.toNat := by rw [hp]; exact mkB_bt (pre ++ cur) b rest j hj
    rw [show k + (b :: rest).length + 2 = (k + rest.length + 2) + 1 by simp only [List.length_cons]; omega, spec_l01Split.l0, hsz, if_pos (by omega), if_neg (by omega), if_pos (by omega), if_pos (by omega), hb, hw]
    by_cases h : b = 44
    · subst h
      have hcut := mkB_cut pre cur (44 :: rest) i j hi hj
      rw [← hp] at hcut
      rw [if_pos (by decide), if_pos (by omega), if_pos (by omega), if_pos (by omega), hcut]
      rw [ih (pre ++ cur ++ [44]) [] (x5 ++ [mkB cur]) (j + 1) (j + 1) (by rw [hp]; simp) (by simp; omega) (by simp; omega) (by simp; omega)]
      simp [spA]
    · have hne : ¬ ((b.toNat : Int) = 44) := fun e => h (by apply UInt8.toNat.inj; simpa using (by omega : b.toNat = 44))
      rw [if_neg hne]
      rw [ih pre (cur ++ [b]) x5 i (j + 1) (by rw [hp]; simp) hx hi (by simp; omega)]
      simp [spA, h]
theorem spec_split_eq (k : Nat) (s : ByteArray) (hs : s.size ≤ 2000000) (hk : 2000010 ≤ k) : spec_l01Split.f k s 44 = some ((spA [] s.data.toList).map mkB) := by
  obtain ⟨l, rfl⟩ : ∃ l, s = mkB l := ⟨_, (mkB_data s).symm⟩
  rw [mkB_size] at hs
  unfold spec_l01Split.f
  obtain ⟨m, rfl⟩ : ∃ m, k = m + l.length + 2 := ⟨k - l.length - 2, by omega⟩
  rw [split_loop l hs m l [] [] [] 0 0 (by simp) (by simp) (by simp) (by simp), mkB_list]
  simp
def digB (l : List UInt8) : Bool := l.all fun c => decide (48 ≤ c.toNat ∧ c.toNat ≤ 57)
def vlD (acc : Nat) : List UInt8 → Nat
  | [] => acc
  | c :: r => vlD (10 * acc + (c.toNat - 48)) r
theorem dg_byte (d : Nat) (h : d < 10) : (UInt8.ofNat (48 + d)).toNat = 48 + d := by
  rw [UInt8.toNat_ofNat']; omega
theorem digB_app (a b : List UInt8) : digB (a ++ b) = (digB a && digB b) := by simp [digB]
theorem digB_one (d : Nat) (h : d < 10) : digB [UInt8.ofNat (48 + d)] = true := by
  have e := dg_byte d h
  unfold digB
  simp only [List.all_cons, List.all_nil, e, Bool.and_true]
  exact decide_eq_true (by omega)
theorem vlD_app : ∀ (a b : List UInt8) (v : Nat), vlD v (a ++ b) = vlD (vlD v a) b := by
  intro a
  induction a with
  | nil => intro b v; rfl
  | cons c a ih => intro b v; exact ih b _
theorem vlD_one (v d : Nat) (h : d < 10) : vlD v [UInt8.ofNat (48 + d)] = 10 * v + d := by
  have e := dg_byte d h
  show 10 * v + ((UInt8.ofNat (48 + d)).toNat - 48) = _
  rw [e]; omega
theorem dec_digB (n : Nat) : digB (Lib.decDigits n) = true ∧ vlD 0 (Lib.decDigits n) = n := by
  induction n using Nat.strongRecOn with
  | _ n ih =>
    by_cases h : n < 10
    · rw [Lib.decDigits_one h]
      exact ⟨digB_one n h, by rw [vlD_one 0 n h]; omega⟩
    · obtain ⟨i1, i2⟩ := ih (n / 10) (by omega)
      have e : Lib.decDigits n = Lib.decDigits (n / 10) ++ [UInt8.ofNat (48 + n % 10)] := by rw [Lib.decDigits.eq_1 n, dif_neg h]
      rw [e, digB_app, i1, digB_one (n % 10) (by omega), vlD_app, i2, vlD_one (n / 10) (n % 10) (by omega)]
      exact ⟨rfl, by omega⟩
theorem dec_ne (n : Nat) : Lib.decDigits n ≠ [] := by
  intro e
  have := Lib.decDigits_length n
  have h2 := Lib.nDigits_pos n
  rw [e] at this
  simp only [List.length_nil] at this
  omega
theorem tl_beq (a b : ByteArray) : (a.toList == b.toList) = decide (a = b) := by
  by_cases h : a = b
  · subst h; simp
  · rw [decide_eq_false h]
    refine beq_eq_false_iff_ne.2 fun e => h ?_
    rw [mkB_tl, mkB_tl] at e
    rw [← mkB_data a, ← mkB_data b, e]
theorem dec_mk (k m : Nat) (hm : m < 10000000000) (hk : 10 ≤ k) : spec_l01Dec.f k (m : Int) = some (mkB (Lib.decDigits m)) := by
  obtain ⟨j, rfl⟩ : ∃ j, k = j + 9 + 1 := ⟨k - 10, by omega⟩
  exact spec_l01Dec_eq j 9 m (by omega) (by have e : (10 : Nat) ^ 10 = 10000000000 := by decide
                                            show m < 10 ^ 10
                                            omega)
theorem vlD_lt : ∀ (l : List UInt8) (v e : Nat), digB l = true → v < 10 ^ e → vlD v l < 10 ^ (e + l.length) := by
  intro l
  induction l with
  | nil => intro v e _ h; exact h
  | cons c l ih =>
    intro v e hd h
    simp only [digB, List.all_cons, Bool.and_eq_true, decide_eq_true_eq] at hd
    have h2 : 10 * v + (c.toNat - 48) < 10 ^ (e + 1) := by rw [Nat.pow_succ]; omega
    have := ih _ (e + 1) hd.2 h2
    rw [show e + (c :: l).length = e + 1 + l.length by simp only [List.length_cons]; omega]
    exact this
theorem digits_loop (s : List UInt8) (hs : s.length ≤ 10) (k : Nat) : ∀ (rest pre : List UInt8) (v : Nat) (i : Int), s = pre ++ rest → i = pre.length → v < 10 ^ pre.length →
    spec_l01Digits.l0 (k + rest.length + 11) (mkB s) (v : Int) i = some (if digB rest = true then ((vlD v rest : Int), decide (mkB (Lib.decDigits (vlD v rest)) = mkB s)) else (0, false)) := by
  intro rest
  induction rest with
  | nil =>
    intro pre v i hp hi hv
    have hl : pre.length ≤ 10 := by rw [hp] at hs; simpa using hs
    have hsz : ((mkB s).size : Int) = i := by rw [mkB_size, hp, hi]; simp
    have hv2 : v < 10000000000 := Nat.lt_of_lt_of_le hv (Nat.le_trans (Nat.pow_le_pow_right (by decide) hl) (by decide))
    rw [show k + ([] : List UInt8).length + 11 = (k + 10) + 1 from rfl, spec_l01Digits.l0, hsz, if_neg (by omega), dec_mk (k + 10) v hv2 (by omega)]
    simp only [Option.bind_some, tl_beq]
    rw [if_pos (by rfl)]
    rfl
  | cons b rest ih =>
    intro pre v i hp hi hv
    have hl : pre.length + rest.length + 1 ≤ 10 := by rw [hp] at hs; simp only [List.length_append, List.length_cons] at hs; omega
    have hsz : ((mkB s).size : Int) = i + rest.length + 1 := by rw [mkB_size, hp, hi]; simp only [List.length_append, List.length_cons]; omega
    have hb : bt (mkB s) i = b.toNat := by rw [hp]; exact mkB_bt pre b rest i hi
    have hb2 := b.toNat_lt
    have hw : wrap64 (i + 1) = i + 1 := wrap_id (by omega) (by omega)
    have hv2 : v < 1000000000 := Nat.lt_of_lt_of_le hv (Nat.le_trans (Nat.pow_le_pow_right (by decide) (show pre.length ≤ 9 by omega)) (by decide))
    rw [show k + (b :: rest).length + 11 = (k + rest.length + 11) + 1 by simp only [List.length_cons]; omega, spec_l01Digits.l0, hsz, if_pos (by omega), if_pos (by omega), hb, hw]
    by_cases h1 : b.toNat < 48
    · rw [if_pos (by omega), if_neg (by simp only [digB, List.all_cons, Bool.and_eq_true, decide_eq_true_eq]; omega)]
    by_cases h2 : b.toNat > 57
    · rw [if_neg (by omega), if_pos (by omega), if_neg (by simp only [digB, List.all_cons, Bool.and_eq_true, decide_eq_true_eq]; omega)]
    have e1 : wrap64 (10 * (v : Int)) = 10 * (v : Int) := wrap_id (by omega) (by omega)
    have e2 : wrap64 (10 * (v : Int) + ((b.toNat : Int) - 48) % 256) = ((10 * v + (b.toNat - 48) : Nat) : Int) := by
      rw [show ((b.toNat : Int) - 48) % 256 = ((b.toNat - 48 : Nat) : Int) by omega, wrap_id (by omega) (by omega)]; omega
    have hd : digB (b :: rest) = digB rest := by
      show (decide (48 ≤ b.toNat ∧ b.toNat ≤ 57) && digB rest) = digB rest
      rw [decide_eq_true (by omega), Bool.true_and]
    rw [if_neg (by omega), if_neg (by omega), e1, e2, ih (pre ++ [b]) _ (i + 1) (by rw [hp]; simp) (by simp; omega) (by rw [List.length_append, List.length_cons, List.length_nil, Nat.zero_add, Nat.pow_succ]; omega), hd]
    rfl
theorem digits_eq (k : Nat) (l : List UInt8) (hk : 40 ≤ k) : spec_l01Digits.f k (mkB l) = some (if 1 ≤ l.length ∧ l.length ≤ 10 ∧ digB l = true then ((vlD 0 l : Int), decide (mkB (Lib.decDigits (vlD 0 l)) = mkB l)) else (0, false)) := by
  obtain ⟨m, rfl⟩ : ∃ m, k = m + 1 := ⟨k - 1, by omega⟩
  unfold spec_l01Digits.f
  rw [mkB_size]
  by_cases h1 : l.length < 1
  · rw [if_pos (by omega), spec_l01Digits.j0, if_pos rfl, if_neg (by omega)]
  rw [if_neg (by omega), spec_l01Digits.j0]
  by_cases h2 : l.length > 10
  · rw [if_pos (by rw [decide_eq_true_eq]; omega), if_neg (by omega)]
  rw [if_neg (by rw [decide_eq_true_eq]; omega)]
  obtain ⟨j, rfl⟩ : ∃ j, m = j + l.length + 11 := ⟨m - l.length - 11, by omega⟩
  have hh := digits_loop l (by omega) j l [] 0 0 (by simp) (by simp) (by simp)
  rw [show ((0 : Nat) : Int) = 0 from rfl] at hh
  rw [hh]
  by_cases h3 : digB l = true
  · rw [if_pos h3, if_pos ⟨by omega, by omega, h3⟩]
  · rw [if_neg h3, if_neg (fun q => h3 q.2.2)]
theorem signed_eq (k : Nat) (l : List UInt8) (hl : l.length ≤ 2000000) (hk : 50 ≤ k) : ∃ n ok, spec_l01Signed.f k (mkB l) = some (n, ok) ∧ -10000000000 < n ∧ n < 10000000000 ∧ (ok = true → l = Lib.itoa n) := by
  obtain ⟨m, rfl⟩ : ∃ m, k = m + 1 := ⟨k - 1, by omega⟩
  have hvl : ∀ q : List UInt8, q.length ≤ 10 → digB q = true → vlD 0 q < 10000000000 := fun q h1 h2 =>
    Nat.lt_of_lt_of_le (vlD_lt q 0 0 h2 (by decide)) (Nat.le_trans (Nat.pow_le_pow_right (by decide) (show 0 + q.length ≤ 10 by omega)) (by decide))
  unfold spec_l01Signed.f
  rw [mkB_size]
  cases l with
  | nil =>
    rw [if_neg (by simp), spec_l01Signed.j0, if_neg (by decide), digits_eq m [] (by omega)]
    exact ⟨0, false, rfl, by omega, by omega, fun h => by cases h⟩
  | cons b r =>
    have hb : bt (mkB (b :: r)) 0 = b.toNat := mkB_bt [] b r 0 rfl
    rw [if_pos (by simp only [List.length_cons]; omega), if_pos (by simp only [List.length_cons]; omega), hb, spec_l01Signed.j0]
    by_cases h : b = 45
    · subst h
      have hx : (mkB (45 :: r)).extract 1 (mkB (45 :: r)).size = mkB r := by
        have := mkB_cut [45] r [] 1 ((mkB (45 :: r)).size : Int) rfl (by rw [mkB_size]; simp)
        simpa using this
      rw [if_pos (by decide), mkB_size, if_pos (by simp only [List.length_cons]; omega)]
      rw [mkB_size] at hx
      rw [hx, digits_eq m r (by omega)]
      simp only [Option.bind_some]
      by_cases hd : 1 ≤ r.length ∧ r.length ≤ 10 ∧ digB r = true
      · have hv := hvl r hd.2.1 hd.2.2
        rw [if_pos hd]
        have hw : wrap64 (-(vlD 0 r : Int)) = -(vlD 0 r : Int) := wrap_id (by omega) (by omega)
        by_cases he : mkB (Lib.decDigits (vlD 0 r)) = mkB r
        · have hr := mkB_inj he
          rw [if_pos (decide_eq_true he), hw]
          refine ⟨_, _, rfl, by omega, by omega, fun hp => ?_⟩
          have hp2 := of_decide_eq_true hp
          rw [Lib.itoa_neg _ (by omega), hr]
        · rw [if_neg (by rw [decide_eq_true_eq]; exact he), hw]
          exact ⟨_, false, rfl, by omega, by omega, fun h => by cases h⟩
      · rw [if_neg hd, if_neg (by decide)]
        have hz : wrap64 (-(0 : Int)) = 0 := wrap_id (by decide) (by decide)
        exact ⟨wrap64 (-(0 : Int)), false, rfl, by rw [hz]; decide, by rw [hz]; decide, fun h => by cases h⟩
    · have hne : ¬ (((b.toNat : Int) == 45) = true) := fun e => h (by apply UInt8.toNat.inj; have := beq_iff_eq.1 e; simpa using (by omega : b.toNat = 45))
      rw [if_neg hne, digits_eq m (b :: r) (by omega)]
      simp only [Option.bind_some]
      by_cases hd : 1 ≤ (b :: r).length ∧ (b :: r).length ≤ 10 ∧ digB (b :: r) = true
      · have hv := hvl _ hd.2.1 hd.2.2
        rw [if_pos hd]
        refine ⟨_, _, rfl, by omega, by omega, fun hp => ?_⟩
        rw [Lib.itoa_nonneg]
        exact (mkB_inj (of_decide_eq_true hp)).symm
      · rw [if_neg hd]
        exact ⟨_, false, rfl, by decide, by decide, fun h => by cases h⟩
theorem dec_len10 (n : Nat) (h : n ≤ 1000000000) : (Lib.decDigits n).length ≤ 10 := dec_len 9 n (Nat.lt_of_le_of_lt h (by decide))
theorem signed_itoa (k : Nat) (n : Int) (h : -1000000000 ≤ n ∧ n ≤ 1000000000) (hk : 50 ≤ k) : spec_l01Signed.f k (mkB (Lib.itoa n)) = some (n, true) := by
  obtain ⟨m, rfl⟩ : ∃ m, k = m + 1 := ⟨k - 1, by omega⟩
  unfold spec_l01Signed.f
  rw [mkB_size]
  have hpos : ∀ q : Nat, 1 ≤ (Lib.decDigits q).length := fun q => by rw [Lib.decDigits_length]; exact Lib.nDigits_pos q
  by_cases hn : n < 0
  · obtain ⟨q, rfl, hq1, hq2⟩ : ∃ q : Nat, n = -(q : Int) ∧ 1 ≤ q ∧ q ≤ 1000000000 := ⟨n.natAbs, by omega, by omega, by omega⟩
    have hD := dec_digB q
    have hd : 1 ≤ (Lib.decDigits q).length ∧ (Lib.decDigits q).length ≤ 10 ∧ digB (Lib.decDigits q) = true := ⟨hpos q, dec_len10 q hq2, hD.1⟩
    rw [Lib.itoa_neg q hq1]
    have hb : bt (mkB (45 :: Lib.decDigits q)) 0 = (45 : UInt8).toNat := mkB_bt [] 45 _ 0 rfl
    have hx : (mkB (45 :: Lib.decDigits q)).extract 1 (mkB (45 :: Lib.decDigits q)).size = mkB (Lib.decDigits q) := by
      have := mkB_cut [45] (Lib.decDigits q) [] 1 ((mkB (45 :: Lib.decDigits q)).size : Int) rfl (by rw [mkB_size]; simp)
      simpa using this
    rw [if_pos (by simp only [List.length_cons]; omega), if_pos (by simp only [List.length_cons]; omega), hb, spec_l01Signed.j0, if_pos (by decide), hx, mkB_size, if_pos (by simp only [List.length_cons]; omega), digits_eq m _ (by omega)]
    simp only [Option.bind_some]
    rw [if_pos hd, hD.2, if_pos (by simp)]
    show some (wrap64 (-(q : Int)), decide ((q : Int) > 0)) = _
    rw [decide_eq_true (by omega), wrap_id (by omega) (by omega)]
  · obtain ⟨q, rfl, hq2⟩ : ∃ q : Nat, n = (q : Int) ∧ q ≤ 1000000000 := ⟨n.toNat, by omega, by omega⟩
    have hD := dec_digB q
    have hd : 1 ≤ (Lib.decDigits q).length ∧ (Lib.decDigits q).length ≤ 10 ∧ digB (Lib.decDigits q) = true := ⟨hpos q, dec_len10 q hq2, hD.1⟩
    rw [Lib.itoa_nonneg]
    obtain ⟨b, r, he⟩ : ∃ b r, Lib.decDigits q = b :: r := by
      cases hc : Lib.decDigits q with
      | nil => exact absurd hc (dec_ne q)
      | cons b r => exact ⟨b, r, rfl⟩
    have hb : bt (mkB (Lib.decDigits q)) 0 = b.toNat := by rw [he]; exact mkB_bt [] b r 0 rfl
    have hbd : 48 ≤ b.toNat ∧ b.toNat ≤ 57 := by
      have := hD.1
      rw [he] at this
      simp only [digB, List.all_cons, Bool.and_eq_true, decide_eq_true_eq] at this
      exact this.1
    have hne : ¬ (((b.toNat : Int) == 45) = true) := fun e => by have := beq_iff_eq.1 e; omega
    rw [if_pos (by omega), if_pos (by omega), hb, spec_l01Signed.j0, if_neg hne, digits_eq m _ (by omega)]
    simp only [Option.bind_some]
    rw [if_pos hd, hD.2]
    simp
theorem parseM_step (M acc : Nat) (c : UInt8) (l : List UInt8) (h1 : 48 ≤ c.toNat ∧ c.toNat ≤ 57) (q1 : ¬ 1844674407370955162 ≤ acc) (q2 : ¬ M < acc * 10 + (c.toNat - 48)) : Lib.parseUintM M acc (c :: l) = Lib.parseUintM M (acc * 10 + (c.toNat - 48)) l := by
  conv => lhs; unfold Lib.parseUintM
  rw [if_pos h1, if_neg q1, if_neg q2]
theorem parseM_dec (M : Nat) (hM : 10000000000000000 ≤ M) : ∀ (l : List UInt8) (acc : Nat), digB l = true → acc * 10 ^ l.length + 10 ^ l.length ≤ 100000000000000 → Lib.parseUintM M acc l = .ok (vlD acc l) := by
  intro l
  induction l with
  | nil => intro acc _ _; rfl
  | cons c l ih =>
    intro acc hd h
    simp only [digB, List.all_cons, Bool.and_eq_true, decide_eq_true_eq] at hd
    have hp : 1 ≤ 10 ^ l.length := Nat.one_le_pow _ _ (by decide)
    rw [List.length_cons, Nat.pow_succ] at h
    have h3 : (acc * 10 + (c.toNat - 48)) * 10 ^ l.length + 10 ^ l.length ≤ acc * (10 ^ l.length * 10) + 10 ^ l.length * 10 := by
      have e1 : (c.toNat - 48) * 10 ^ l.length ≤ 9 * 10 ^ l.length := Nat.mul_le_mul_right _ (by omega)
      have e2 : (acc * 10) * 10 ^ l.length = acc * (10 ^ l.length * 10) := by rw [Nat.mul_assoc, Nat.mul_comm 10]
      rw [Nat.add_mul, e2]
      omega
    have hacc : acc ≤ 100000000000000 := Nat.le_trans (Nat.le_mul_of_pos_right acc (show 0 < 10 ^ l.length * 10 by omega)) (by omega)
    have q1 : ¬ 1844674407370955162 ≤ acc := by clear h h3 ih; omega
    have q2 : ¬ M < acc * 10 + (c.toNat - 48) := by clear h h3 ih; omega
    have q3 : (acc * 10 + (c.toNat - 48)) * 10 ^ l.length + 10 ^ l.length ≤ 100000000000000 := Nat.le_trans h3 h
    rw [parseM_step M acc c l hd.1 q1 q2, ih _ hd.2 q3, Nat.mul_comm acc 10]
    rfl
theorem parse_itoa (n : Int) (h : -1000000000 ≤ n ∧ n ≤ 1000000000) : Lib.parseIntB 64 (Lib.itoa n) = .ok n := by
  have hb : ∀ q : Nat, q ≤ 1000000000 → Lib.parseUintB 64 (Lib.decDigits q) = .ok q := fun q hq => by
    have hD := dec_digB q
    have hl : (Lib.decDigits q).length ≤ 10 := dec_len 9 q (Nat.lt_of_le_of_lt hq (by decide))
    have := parseM_dec (2 ^ 64 - 1) (by decide) (Lib.decDigits q) 0 hD.1 (by rw [Nat.zero_mul, Nat.zero_add]; exact Nat.le_trans (Nat.pow_le_pow_right (by decide) hl) (by decide))
    rw [Lib.parseUintB, if_neg (dec_ne q), this, hD.2]
  by_cases hn : n < 0
  · obtain ⟨q, rfl, hq1, hq2⟩ : ∃ q : Nat, n = -(q : Int) ∧ 1 ≤ q ∧ q ≤ 1000000000 := ⟨n.natAbs, by omega, by omega, by omega⟩
    rw [Lib.itoa_neg q hq1]
    unfold Lib.parseIntB
    simp only
    rw [if_pos (by decide), hb q hq2]
    simp only
    rw [if_neg (by simp), if_neg (by simp; omega)]
    rfl
  · obtain ⟨q, rfl, hq2⟩ : ∃ q : Nat, n = (q : Int) ∧ q ≤ 1000000000 := ⟨n.toNat, by omega, by omega⟩
    have hq := hb q hq2
    have hD := (dec_digB q).1
    rw [Lib.itoa_nonneg]
    cases hc : Lib.decDigits q with
    | nil => exact absurd hc (dec_ne q)
    | cons b r =>
      rw [hc] at hD hq
      simp only [digB, List.all_cons, Bool.and_eq_true, decide_eq_true_eq] at hD
      have n45 : ¬ b.toNat = 45 := by omega
      unfold Lib.parseIntB
      simp only
      rw [if_neg (by omega), hq]
      simp only
      rw [if_neg (by simp; omega), if_neg (fun z => n45 z.1), if_neg n45]
theorem number_eq (k : Nat) (l : List UInt8) (hl : l.length ≤ 2000000) : ∃ n ok, impl_number.f k (mkB l) = some (n, ok) ∧ (ok = true → l = Lib.itoa n ∧ -9223372036854775808 ≤ n ∧ n < 9223372036854775808) := by
  unfold impl_number.f
  rw [if_pos (by rw [mkB_size]; omega)]
  cases hp : Lib.parseIntB 64 (mkB l).data.toList with
  | ok v =>
    refine ⟨_, _, rfl, fun h => ?_⟩
    rw [tl_beq] at h
    have hb := Lib.parseIntB_bounds hp
    have e : ((2 ^ (64 - 1) : Nat) : Int) = 9223372036854775808 := by decide
    rw [e] at hb
    exact ⟨(mkB_inj (of_decide_eq_true h)).symm, by omega, by omega⟩
  | range => exact ⟨_, _, rfl, fun h => by cases h⟩
  | _ => exact ⟨_, _, rfl, fun h => by cases h⟩
theorem number_itoa (k : Nat) (n : Int) (h : -1000000000 ≤ n ∧ n ≤ 1000000000) : impl_number.f k (mkB (Lib.itoa n)) = some (n, true) := by
  have hl : (Lib.itoa n).length ≤ 2000000 := by have := itoa_len (n := n) (by omega); omega
  unfold impl_number.f
  rw [if_pos (by rw [mkB_size]; omega), mkB_list, parse_itoa n h]
  simp only [tl_beq]
  rw [decide_eq_true (by rfl)]
theorem rdOf_mid (d : ByteArray) (pre : List ByteArray) (v : ByteArray) (t : List ByteArray) (i : Int) (hi : i = pre.length) : rdOf d (pre ++ v :: t) i = v := by
  subst hi; simp [rdOf]
theorem spA_len : ∀ (l cur : List UInt8), (spA cur l).length ≤ l.length + 1 ∧ ∀ w ∈ spA cur l, w.length ≤ cur.length + l.length := by
  intro l
  induction l with
  | nil => intro cur; exact ⟨by simp [spA], fun w h => by simp only [spA, List.mem_singleton] at h; subst h; simp⟩
  | cons b l ih =>
    intro cur
    by_cases hb : b = 44
    · obtain ⟨h1, h2⟩ := ih []
      simp only [spA, if_pos hb, List.length_cons]
      refine ⟨by omega, fun w h => ?_⟩
      rcases List.mem_cons.1 h with rfl | h
      · omega
      · have := h2 w h; simp only [List.length_nil] at this; omega
    · obtain ⟨h1, h2⟩ := ih (cur ++ [b])
      simp only [spA, if_neg hb, List.length_cons]
      refine ⟨by omega, fun w h => ?_⟩
      have := h2 w h; simp only [List.length_append, List.length_cons, List.length_nil] at this; omega
theorem numbers_loop (k : Nat) (hk : 50 ≤ k) (W : List (List UInt8)) (hW : W.length ≤ 2000010) (hl : ∀ w ∈ W, w.length ≤ 2000000) : ∀ (rest pre : List (List UInt8)) (acc : List Int) (i : Int), W = pre ++ rest → acc.length = pre.length → i = pre.length →
    ∃ L ok, spec_l01Numbers.l0 (k + rest.length + 1) (W.map mkB) acc i = some (L, ok) ∧ (ok = true → ∃ T, L = acc ++ T ∧ rest = T.map Lib.itoa ∧ ∀ n ∈ T, -9223372036854775808 ≤ n ∧ n < 9223372036854775808) := by
  intro rest
  induction rest with
  | nil =>
    intro pre acc i hp ha hi
    have hsz : ((W.map mkB).length : Int) = i := by rw [List.length_map, hp, hi]; simp
    rw [spec_l01Numbers.l0, hsz, if_neg (by omega)]
    exact ⟨_, _, rfl, fun _ => ⟨[], by simp, rfl, fun n hn => by cases hn⟩⟩
  | cons w rest ih =>
    intro pre acc i hp ha hi
    have hl2 : pre.length + rest.length + 1 ≤ 2000010 := by rw [hp] at hW; simp only [List.length_append, List.length_cons] at hW; omega
    have hsz : ((W.map mkB).length : Int) = i + rest.length + 1 := by rw [List.length_map, hp, hi]; simp only [List.length_append, List.length_cons]; omega
    have hr : rdOf ByteArray.empty (W.map mkB) i = mkB w := by
      rw [hp, List.map_append, List.map_cons]
      exact rdOf_mid _ _ _ _ _ (by rw [List.length_map]; exact hi)
    have hw := hl w (by rw [hp]; simp)
    have hwr : wrap64 (i + 1) = i + 1 := wrap_id (by omega) (by omega)
    obtain ⟨n, ok, e, b1, b2, hok⟩ := signed_eq (k + rest.length + 1) w hw (by omega)
    rw [show k + (w :: rest).length + 1 = (k + rest.length + 1) + 1 by simp only [List.length_cons]; omega, spec_l01Numbers.l0, hsz, if_pos (by omega), if_pos (by omega), hr, e]
    simp only [Option.bind_some]
    cases ok with
    | false => exact ⟨_, _, rfl, fun h => by cases h⟩
    | true =>
      rw [if_pos rfl, if_pos (by omega), hwr]
      obtain ⟨L, ok, e2, h2⟩ := ih (pre ++ [w]) (acc ++ [n]) (i + 1) (by rw [hp]; simp) (by simp; omega) (by simp; omega)
      refine ⟨L, ok, e2, fun h => ?_⟩
      obtain ⟨T, e3, e4, e5⟩ := h2 h
      refine ⟨n :: T, by rw [e3]; simp, by rw [List.map_cons, ← hok rfl, e4], fun m hm => ?_⟩
      rcases List.mem_cons.1 hm with rfl | hm
      · omega
      · exact e5 m hm
theorem numbers_eq (k : Nat) (hk : 3000000 ≤ k) (W : List (List UInt8)) (hW : W.length ≤ 2000010) (hl : ∀ w ∈ W, w.length ≤ 2000000) :
    ∃ L ok, spec_l01Numbers.f k (W.map mkB) = some (L, ok) ∧ (ok = true → W = L.map Lib.itoa ∧ ∀ n ∈ L, -9223372036854775808 ≤ n ∧ n < 9223372036854775808) := by
  obtain ⟨m, rfl, hm⟩ : ∃ m, k = m + W.length + 1 ∧ 50 ≤ m := ⟨k - W.length - 1, by omega, by omega⟩
  obtain ⟨L, ok, e, h⟩ := numbers_loop m hm W hW hl W [] [] 0 (by simp) rfl rfl
  refine ⟨L, ok, e, fun q => ?_⟩
  obtain ⟨T, e1, e2, e3⟩ := h q
  rw [List.nil_append] at e1
  subst e1
  exact ⟨e2, e3⟩
theorem numbers_loop2 (k : Nat) (hk : 50 ≤ k) (T : List Int) (hT : T.length ≤ 1000) (hb : ∀ n ∈ T, -1000000000 ≤ n ∧ n ≤ 1000000000) : ∀ (rest pre acc : List Int) (i : Int), T = pre ++ rest → acc.length = pre.length → i = pre.length →
    spec_l01Numbers.l0 (k + rest.length + 1) ((T.map Lib.itoa).map mkB) acc i = some (acc ++ rest, true) := by
  intro rest
  induction rest with
  | nil =>
    intro pre acc i hp ha hi
    have hsz : (((T.map Lib.itoa).map mkB).length : Int) = i := by rw [List.length_map, List.length_map, hp, hi]; simp
    rw [spec_l01Numbers.l0, hsz, if_neg (by omega)]
    simp
  | cons w rest ih =>
    intro pre acc i hp ha hi
    have hl2 : pre.length + rest.length + 1 ≤ 1000 := by rw [hp] at hT; simp only [List.length_append, List.length_cons] at hT; omega
    have hsz : (((T.map Lib.itoa).map mkB).length : Int) = i + rest.length + 1 := by rw [List.length_map, List.length_map, hp, hi]; simp only [List.length_append, List.length_cons]; omega
    have hr : rdOf ByteArray.empty ((T.map Lib.itoa).map mkB) i = mkB (Lib.itoa w) := by
      rw [hp, List.map_append, List.map_append, List.map_cons, List.map_cons]
      exact rdOf_mid _ _ _ _ _ (by rw [List.length_map, List.length_map]; exact hi)
    have hw := hb w (by rw [hp]; simp)
    have hwr : wrap64 (i + 1) = i + 1 := wrap_id (by omega) (by omega)
    rw [show k + (w :: rest).length + 1 = (k + rest.length + 1) + 1 by simp only [List.length_cons]; omega, spec_l01Numbers.l0, hsz, if_pos (by omega), if_pos (by omega), hr, signed_itoa (k + rest.length + 1) w hw (by omega)]
    simp only [Option.bind_some]
    rw [if_pos trivial, if_pos (by omega), hwr, ih (pre ++ [w]) (acc ++ [w]) (i + 1) (by rw [hp]; simp) (by simp; omega) (by simp; omega)]
    simp
theorem numbers_itoa (k : Nat) (hk : 3000000 ≤ k) (T : List Int) (hT : T.length ≤ 1000) (hb : ∀ n ∈ T, -1000000000 ≤ n ∧ n ≤ 1000000000) : spec_l01Numbers.f k ((T.map Lib.itoa).map mkB) = some (T, true) := by
  obtain ⟨m, rfl, hm⟩ : ∃ m, k = m + T.length + 1 ∧ 50 ≤ m := ⟨k - T.length - 1, by omega, by omega⟩
  exact numbers_loop2 m hm T hT hb T [] [] 0 (by simp) rfl rfl
theorem parted_loop (k : Nat) (W : List (List UInt8)) (hW : W.length ≤ 2000010) (hl : ∀ w ∈ W, w.length ≤ 2000000) : ∀ (rest pre : List (List UInt8)) (acc : List Int) (i : Int), W = pre ++ rest → acc.length = pre.length → i = pre.length →
    ∃ L ok, impl_parted.l0 (k + rest.length + 1) acc (W.map mkB) ((W.map mkB).length : Int) i = some (L, ok) ∧ (ok = true → ∃ T, L = acc ++ T ∧ rest = T.map Lib.itoa ∧ ∀ n ∈ T, -9223372036854775808 ≤ n ∧ n < 9223372036854775808) := by
  intro rest
  induction rest with
  | nil =>
    intro pre acc i hp ha hi
    have hsz : ((W.map mkB).length : Int) = i := by rw [List.length_map, hp, hi]; simp
    rw [impl_parted.l0, hsz, if_neg (by omega)]
    exact ⟨_, _, rfl, fun _ => ⟨[], by simp, rfl, fun n hn => by cases hn⟩⟩
  | cons w rest ih =>
    intro pre acc i hp ha hi
    have hl2 : pre.length + rest.length + 1 ≤ 2000010 := by rw [hp] at hW; simp only [List.length_append, List.length_cons] at hW; omega
    have hsz : ((W.map mkB).length : Int) = i + rest.length + 1 := by rw [List.length_map, hp, hi]; simp only [List.length_append, List.length_cons]; omega
    have hr : rdOf ByteArray.empty (W.map mkB) i = mkB w := by
      rw [hp, List.map_append, List.map_cons]
      exact rdOf_mid _ _ _ _ _ (by rw [List.length_map]; exact hi)
    have hw := hl w (by rw [hp]; simp)
    have hwr : wrap64 (i + 1) = i + 1 := wrap_id (by omega) (by omega)
    obtain ⟨n, ok, e, hok⟩ := number_eq (k + rest.length + 1) w hw
    rw [show k + (w :: rest).length + 1 = (k + rest.length + 1) + 1 by simp only [List.length_cons]; omega, impl_parted.l0, if_pos (by rw [hsz]; omega), if_pos (by omega), if_pos (by rw [hsz]; omega), hr, e]
    simp only [Option.bind_some]
    cases ok with
    | false => exact ⟨_, _, rfl, fun h => by cases h⟩
    | true =>
      rw [if_pos rfl, if_pos (by omega), hwr]
      obtain ⟨L, ok, e2, h2⟩ := ih (pre ++ [w]) (acc ++ [n]) (i + 1) (by rw [hp]; simp) (by simp; omega) (by simp; omega)
      refine ⟨L, ok, e2, fun h => ?_⟩
      obtain ⟨T, e3, e4, e5⟩ := h2 h
      refine ⟨n :: T, by rw [e3]; simp, by rw [List.map_cons, ← (hok rfl).1, e4], fun m hm => ?_⟩
      rcases List.mem_cons.1 hm with rfl | hm
      · exact (hok rfl).2
      · exact e5 m hm
theorem parted_loop2 (k : Nat) (T : List Int) (hT : T.length ≤ 1000) (hb : ∀ n ∈ T, -1000000000 ≤ n ∧ n ≤ 1000000000) : ∀ (rest pre acc : List Int) (i : Int), T = pre ++ rest → acc.length = pre.length → i = pre.length →
    impl_parted.l0 (k + rest.length + 1) acc ((T.map Lib.itoa).map mkB) (((T.map Lib.itoa).map mkB).length : Int) i = some (acc ++ rest, true) := by
  intro rest
  induction rest with
  | nil =>
    intro pre acc i hp ha hi
    have hsz : (((T.map Lib.itoa).map mkB).length : Int) = i := by rw [List.length_map, List.length_map, hp, hi]; simp
    rw [impl_parted.l0, hsz, if_neg (by omega)]
    simp
  | cons w rest ih =>
    intro pre acc i hp ha hi
    have hl2 : pre.length + rest.length + 1 ≤ 1000 := by rw [hp] at hT; simp only [List.length_append, List.length_cons] at hT; omega
    have hsz : (((T.map Lib.itoa).map mkB).length : Int) = i + rest.length + 1 := by rw [List.length_map, List.length_map, hp, hi]; simp only [List.length_append, List.length_cons]; omega
    have hr : rdOf ByteArray.empty ((T.map Lib.itoa).map mkB) i = mkB (Lib.itoa w) := by
      rw [hp, List.map_append, List.map_append, List.map_cons, List.map_cons]
      exact rdOf_mid _ _ _ _ _ (by rw [List.length_map, List.length_map]; exact hi)
    have hw := hb w (by rw [hp]; simp)
    have hwr : wrap64 (i + 1) = i + 1 := wrap_id (by omega) (by omega)
    rw [show k + (w :: rest).length + 1 = (k + rest.length + 1) + 1 by simp only [List.length_cons]; omega, impl_parted.l0, if_pos (by rw [hsz]; omega), if_pos (by omega), if_pos (by rw [hsz]; omega), hr, number_itoa (k + rest.length + 1) w hw]
    simp only [Option.bind_some]
    rw [if_pos trivial, if_pos (by omega), hwr, ih (pre ++ [w]) (acc ++ [w]) (i + 1) (by rw [hp]; simp) (by simp; omega) (by simp; omega)]
    simp
theorem parted_eq (k : Nat) (hk : 3000000 ≤ k) (s : ByteArray) (hs : s.size ≤ 2000000) (m : Int) :
    ∃ L ok, impl_parted.f k s (⟨#[44]⟩ : ByteArray) m = some (L, ok) ∧ (ok = true → (L.length : Int) = m ∧ spA [] s.data.toList = L.map Lib.itoa ∧ ∀ n ∈ L, -9223372036854775808 ≤ n ∧ n < 9223372036854775808) := by
  have hsz : s.data.toList.length = s.size := rfl
  obtain ⟨h1, h2⟩ := spA_len s.data.toList []
  generalize hW : spA [] s.data.toList = W at h1 h2
  unfold impl_parted.f
  rw [split_eq k s (by omega), hW]
  simp only [Option.bind_some]
  by_cases h : ((W.map mkB).length : Int) = m
  · rw [if_pos h]
    obtain ⟨j, rfl⟩ : ∃ j, k = j + W.length + 1 := ⟨k - W.length - 1, by omega⟩
    obtain ⟨L, ok, e, h3⟩ := parted_loop j W (by omega) (fun w hw => by have := h2 w hw; simp only [List.length_nil] at this; omega) W [] [] 0 (by simp) rfl rfl
    refine ⟨L, ok, e, fun q => ?_⟩
    obtain ⟨T, e1, e2, e3⟩ := h3 q
    rw [List.nil_append] at e1
    subst e1
    refine ⟨?_, e2, e3⟩
    rw [← h, e2]; simp
  · rw [if_neg h]
    exact ⟨_, _, rfl, fun q => by cases q⟩
theorem parted_itoa (k : Nat) (hk : 3000000 ≤ k) (s : ByteArray) (hs : s.size ≤ 2000000) (m : Int) (T : List Int) (hm : (T.length : Int) = m) (hT : T.length ≤ 1000) (hb : ∀ n ∈ T, -1000000000 ≤ n ∧ n ≤ 1000000000) (he : spA [] s.data.toList = T.map Lib.itoa) :
    impl_parted.f k s (⟨#[44]⟩ : ByteArray) m = some (T, true) := by
  unfold impl_parted.f
  rw [split_eq k s (by omega), he]
  simp only [Option.bind_some]
  rw [if_pos (by rw [List.length_map, List.length_map]; exact hm)]
  obtain ⟨j, rfl⟩ : ∃ j, k = j + T.length + 1 := ⟨k - T.length - 1, by omega⟩
  exact parted_loop2 j T hT hb T [] [] 0 (by simp) rfl rfl
theorem spec_ReadMat_yes (k : Nat) (hk : 3000010 ≤ k) (s : ByteArray) (hs : s.size ≤ 2000000) (a b c d : Int) (hv : matB a b c d = true) (hW : spA [] s.data.toList = [a, b, c, d].map Lib.itoa) : spec_ReadMat.f k s = some (a, b, c, d, true) := by
  have hb := smallB_iff.mp (matB_iff.mp hv).1
  unfold spec_ReadMat.f
  rw [spec_split_eq k s hs (by omega), hW]
  simp only [Option.bind_some]
  rw [numbers_itoa k (by omega) [a, b, c, d] (by simp) (fun n hn => by simp at hn; rcases hn with rfl | rfl | rfl | rfl <;> omega)]
  simp only [Option.bind_some]
  obtain ⟨j, rfl⟩ : ∃ j, k = j + 1 := ⟨k - 1, by omega⟩
  rw [if_pos trivial, spec_ReadMat.j0, if_neg (by simp), if_pos (by simp), if_pos (by simp), if_pos (by simp), if_pos (by simp), show rd [a, b, c, d] 0 = a from rfl, show rd [a, b, c, d] 1 = b from rfl, show rd [a, b, c, d] 2 = c from rfl, show rd [a, b, c, d] 3 = d from rfl, spec_IsMat_eq]
  simp only [Option.bind_some]
  rw [if_pos hv]
theorem spec_ReadMat_no (k : Nat) (hk : 3000010 ≤ k) (s : ByteArray) (hs : s.size ≤ 2000000) (hno : ∀ a b c d, matB a b c d = true → spA [] s.data.toList ≠ [a, b, c, d].map Lib.itoa) : spec_ReadMat.f k s = some (0, 0, 0, 0, false) := by
  unfold spec_ReadMat.f
  have hsz : s.data.toList.length = s.size := rfl
  obtain ⟨l1, l2⟩ := spA_len s.data.toList []
  rw [spec_split_eq k s hs (by omega)]
  simp only [Option.bind_some]
  obtain ⟨L, ok, e, h⟩ := numbers_eq k (by omega) (spA [] s.data.toList) (by omega) (fun w hw => by have := l2 w hw; simp only [List.length_nil] at this; omega)
  rw [e]
  simp only [Option.bind_some]
  obtain ⟨j, rfl⟩ : ∃ j, k = j + 1 := ⟨k - 1, by omega⟩
  cases ok with
  | false => rfl
  | true =>
    obtain ⟨h1, h2⟩ := h rfl
    rw [if_pos rfl, spec_ReadMat.j0]
    by_cases hn : ((L.length : Int) != 4) = true
    · rw [if_pos hn]
    rw [if_neg hn]
    have hn2 : L.length = 4 := by
      have : (L.length : Int) = 4 := by simpa using hn
      omega
    obtain ⟨a, b, c, d, rfl⟩ : ∃ a b c d, L = [a, b, c, d] := by
      match L, hn2 with
      | [a, b, c, d], _ => exact ⟨a, b, c, d, rfl⟩
    rw [if_pos (by simp), if_pos (by simp), if_pos (by simp), if_pos (by simp), show rd [a, b, c, d] 0 = a from rfl, show rd [a, b, c, d] 1 = b from rfl, show rd [a, b, c, d] 2 = c from rfl, show rd [a, b, c, d] 3 = d from rfl, spec_IsMat_eq]
    simp only [Option.bind_some]
    rw [if_neg (fun q => hno a b c d q h1)]
theorem impl_ReadMat_yes (k : Nat) (hk : 3000010 ≤ k) (s : ByteArray) (hs : s.size ≤ 2000000) (a b c d : Int) (hv : matB a b c d = true) (hW : spA [] s.data.toList = [a, b, c, d].map Lib.itoa) : impl_ReadMat.f k s = some (a, b, c, d, true) := by
  have hb := smallB_iff.mp (matB_iff.mp hv).1
  unfold impl_ReadMat.f
  rw [parted_itoa k (by omega) s hs 4 [a, b, c, d] (by simp) (by simp) (fun n hn => by simp at hn; rcases hn with rfl | rfl | rfl | rfl <;> omega) hW]
  simp only [Option.bind_some]
  rw [if_pos trivial, if_pos (by simp), if_pos (by simp), if_pos (by simp), if_pos (by simp), show rd [a, b, c, d] 0 = a from rfl, show rd [a, b, c, d] 1 = b from rfl, show rd [a, b, c, d] 2 = c from rfl, show rd [a, b, c, d] 3 = d from rfl, impl_IsMat_eq]
  simp only [Option.bind_some]
  rw [if_pos hv]
theorem impl_ReadMat_no (k : Nat) (hk : 3000010 ≤ k) (s : ByteArray) (hs : s.size ≤ 2000000) (hno : ∀ a b c d, matB a b c d = true → spA [] s.data.toList ≠ [a, b, c, d].map Lib.itoa) : impl_ReadMat.f k s = some (0, 0, 0, 0, false) := by
  unfold impl_ReadMat.f
  obtain ⟨L, ok, e, h⟩ := parted_eq k (by omega) s hs 4
  rw [e]
  simp only [Option.bind_some]
  cases ok with
  | false => rfl
  | true =>
    obtain ⟨hn, h1, h2⟩ := h rfl
    rw [if_pos rfl]
    have hn2 : L.length = 4 := by omega
    obtain ⟨a, b, c, d, rfl⟩ : ∃ a b c d, L = [a, b, c, d] := by
      match L, hn2 with
      | [a, b, c, d], _ => exact ⟨a, b, c, d, rfl⟩
    rw [if_pos (by simp), if_pos (by simp), if_pos (by simp), if_pos (by simp), show rd [a, b, c, d] 0 = a from rfl, show rd [a, b, c, d] 1 = b from rfl, show rd [a, b, c, d] 2 = c from rfl, show rd [a, b, c, d] 3 = d from rfl, impl_IsMat_eq]
    simp only [Option.bind_some]
    rw [if_neg (fun q => hno a b c d q h1)]
theorem main (a0 : ByteArray) (w0 : a0.size ≤ 140737488351232) : ∃ k, laws_FnExactReadMat.f k a0 = some true := by
  refine ⟨3000011, ?_⟩
  unfold laws_FnExactReadMat.f
  by_cases hz : (a0.size : Int) > 1048576
  · rw [if_pos hz]
  rw [if_neg hz]
  have hs : a0.size ≤ 2000000 := by omega
  by_cases hex : ∃ a b c d, matB a b c d = true ∧ spA [] a0.data.toList = [a, b, c, d].map Lib.itoa
  · obtain ⟨a, b, c, d, hv, hW⟩ := hex
    rw [spec_ReadMat_yes 3000011 (by decide) a0 hs a b c d hv hW, impl_ReadMat_yes 3000011 (by decide) a0 hs a b c d hv hW]
    simp [laws_eqMat.f]
  · have hno : ∀ a b c d, matB a b c d = true → spA [] a0.data.toList ≠ [a, b, c, d].map Lib.itoa := fun a b c d hv hW => hex ⟨a, b, c, d, hv, hW⟩
    rw [spec_ReadMat_no 3000011 (by decide) a0 hs hno, impl_ReadMat_no 3000011 (by decide) a0 hs hno]
    simp [laws_eqMat.f]
end Go.Proofs.YtiknfddggcbblaaDoor.PureFnExactReadMat

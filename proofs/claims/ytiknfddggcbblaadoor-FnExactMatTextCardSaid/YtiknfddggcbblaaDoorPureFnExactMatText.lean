/-
The law FnExactMatText, over numbers and lists alone: the printed functions of the program and of the reference answer alike. No condition but that each number is an int64.
-/
import Derived.Test.YtiknfddggcbblaaDoorT9
import GoSem.Claim
namespace Go.Proofs.YtiknfddggcbblaaDoor.PureFnExactMatText
open Go.RowKit Go.Proofs.YtiknfddggcbblaaDoor.F Go.Proofs.YtiknfddggcbblaaDoorW.PrintWords Go.Proofs.YtiknfddggcbblaaDoorW.PrintLast Go.Proofs.YtiknfddggcbblaaDoorW.PrintMore
set_option linter.unusedVariables false
set_option linter.unusedSimpArgs false
def vecB (x y : Int) : Bool := decide (-1000 ≤ x ∧ x ≤ 1000 ∧ -1000 ≤ y ∧ y ≤ 1000)
def smallB (a b c d : Int) : Bool := decide ((-1000 ≤ a ∧ a ≤ 1000 ∧ -1000 ≤ b ∧ b ≤ 1000) ∧ -1000 ≤ c ∧ c ≤ 1000 ∧ -1000 ≤ d ∧ d ≤ 1000)
def matB (a b c d : Int) : Bool := smallB a b c d && (a * d - b * c == 1 || a * d - b * c == -1)
theorem wrap_id {x : Int} (h1 : -9223372036854775808 ≤ x) (h2 : x < 9223372036854775808) : wrap64 x = x := by unfold wrap64; omega
theorem prod_bd {a b A B : Int} (ha : -A ≤ a) (ha' : a ≤ A) (hb : -B ≤ b) (hb' : b ≤ B) (hA : 0 ≤ A) : -(A * B) ≤ a * b ∧ a * b ≤ A * B := by
  have h1 : (a * b).natAbs ≤ A.natAbs * B.natAbs := by rw [Int.natAbs_mul]; exact Nat.mul_le_mul (by omega) (by omega)
  have h2 : (A * B).natAbs = A.natAbs * B.natAbs := Int.natAbs_mul A B
  have h3 : 0 ≤ A * B := Int.mul_nonneg hA (by omega)
  omega
theorem smallB_iff {a b c d : Int} : smallB a b c d = true ↔ ((-1000 ≤ a ∧ a ≤ 1000) ∧ (-1000 ≤ b ∧ b ≤ 1000)) ∧ (-1000 ≤ c ∧ c ≤ 1000) ∧ (-1000 ≤ d ∧ d ≤ 1000) := by unfold smallB; rw [decide_eq_true_iff]; omega
theorem matB_iff {a b c d : Int} : matB a b c d = true ↔ smallB a b c d = true ∧ (a * d - b * c = 1 ∨ a * d - b * c = -1) := by unfold matB; simp
theorem det_wrap {a b c d : Int} (h : smallB a b c d = true) : wrap64 (wrap64 (a * d) - wrap64 (b * c)) = a * d - b * c ∧ (-2000000 ≤ a * d - b * c ∧ a * d - b * c ≤ 2000000) := by
  rw [smallB_iff] at h
  have h1 := prod_bd (A := 1000) (B := 1000) h.1.1.1 h.1.1.2 h.2.2.1 h.2.2.2 (by omega)
  have h2 := prod_bd (A := 1000) (B := 1000) h.1.2.1 h.1.2.2 h.2.1.1 h.2.1.2 (by omega)
  rw [wrap_id (x := a * d) (by omega) (by omega), wrap_id (x := b * c) (by omega) (by omega), wrap_id (by omega) (by omega)]
  omega
theorem spec_l01In_eq (a b c : Int) : spec_l01In.f a b c = some (decide (b ≤ a ∧ a ≤ c)) := by
  unfold spec_l01In.f; split <;> simp <;> omega
theorem impl_within_eq (a b c : Int) : impl_within.f a b c = some (decide (b ≤ a ∧ a ≤ c)) := by
  unfold impl_within.f; split <;> simp <;> omega
theorem spec_IsVec_eq (x y : Int) : spec_IsVec.f x y = some (vecB x y) := by
  unfold spec_IsVec.f vecB; simp only [spec_l01In_eq, Option.bind_some]; split <;> simp_all <;> omega
theorem impl_isCoordinate_eq (a : Int) : impl_isCoordinate.f a = some (decide (-1000 ≤ a ∧ a ≤ 1000)) := by
  unfold impl_isCoordinate.f; simp only [impl_within_eq, Option.bind_some]
theorem spec_l02Small_eq (a b c d : Int) : spec_l02Small.f a b c d = some (smallB a b c d) := by
  unfold spec_l02Small.f smallB; simp only [spec_IsVec_eq, Option.bind_some, vecB]; split <;> simp_all <;> omega
theorem impl_Mat_isSmall_eq (a b c d : Int) : impl_Mat_isSmall.f a b c d = some (smallB a b c d) := by
  unfold impl_Mat_isSmall.f smallB; simp only [impl_isCoordinate_eq, Option.bind_some, decide_eq_true_eq]
  by_cases h1 : -1000 ≤ a ∧ a ≤ 1000
  · rw [if_pos h1]
    by_cases h2 : -1000 ≤ b ∧ b ≤ 1000
    · rw [if_pos h2]
      by_cases h3 : -1000 ≤ c ∧ c ≤ 1000
      · rw [if_pos h3]
        by_cases h4 : -1000 ≤ d ∧ d ≤ 1000
        · rw [decide_eq_true h4, decide_eq_true (by omega)]
        · rw [decide_eq_false h4, decide_eq_false (by omega)]
      · rw [if_neg h3, decide_eq_false (by omega)]
    · rw [if_neg h2, decide_eq_false (by omega)]
  · rw [if_neg h1, decide_eq_false (by omega)]
theorem spec_IsMat_eq (a b c d : Int) : spec_IsMat.f a b c d = some (matB a b c d) := by
  unfold spec_IsMat.f matB spec_l02Det.f
  simp only [spec_l02Small_eq, Option.bind_some]
  cases h : smallB a b c d with
  | false => simp
  | true => rw [(det_wrap h).1]; simp; split <;> simp_all
theorem impl_IsMat_eq (a b c d : Int) : impl_IsMat.f a b c d = some (matB a b c d) := by
  unfold impl_IsMat.f matB impl_Mat_det.f
  simp only [impl_Mat_isSmall_eq, Option.bind_some]
  cases h : smallB a b c d with
  | false => simp
  | true => rw [(det_wrap h).1]; simp; split <;> simp_all
theorem ba_app (a b : List UInt8) : (⟨a.toArray⟩ : ByteArray) ++ (⟨b.toArray⟩ : ByteArray) = ⟨(a ++ b).toArray⟩ := by
  apply ByteArray.ext
  simp
theorem ba_size (a : List UInt8) : (⟨a.toArray⟩ : ByteArray).size = a.length := by simp [ByteArray.size]
theorem one_str (n : Nat) (h : n < 10) : strOfNums [(wrap64 (48 + (n : Int))) % 256] = ⟨[UInt8.ofNat (48 + n)].toArray⟩ := by
  rw [wrap_id (by omega) (by omega), show (48 + (n : Int)) % 256 = ((48 + n : Nat) : Int) by omega]
  unfold strOfNums
  simp only [List.map_cons, List.map_nil, Int.toNat_natCast]
theorem dec_len : ∀ (d n : Nat), n < 10 ^ (d + 1) → (Lib.decDigits n).length ≤ d + 1 := by
  intro d
  induction d with
  | zero => intro n h; rw [Lib.decDigits_one (by simpa using h)]; simp
  | succ d ih =>
    intro n h
    by_cases h10 : n < 10
    · rw [Lib.decDigits_one h10]; simp
    · rw [Lib.decDigits, dif_neg h10, List.length_append]
      have := ih (n / 10) (by rw [Nat.pow_succ] at h; omega)
      simp only [List.length_cons, List.length_nil]; omega
theorem spec_l01Dec_eq (k : Nat) : ∀ (d n : Nat), d ≤ 17 → n < 10 ^ (d + 1) → spec_l01Dec.f (k + d + 1) (n : Int) = some ⟨(Lib.decDigits n).toArray⟩ := by
  intro d
  induction d with
  | zero =>
    intro n hd h
    have h10 : n < 10 := by simpa using h
    rw [spec_l01Dec.f, if_pos (by omega), one_str n h10, Lib.decDigits_one h10]
  | succ d ih =>
    intro n hd h
    by_cases h10 : n < 10
    · rw [spec_l01Dec.f, if_pos (by omega), one_str n h10, Lib.decDigits_one h10]
    · have hp : n < 10 ^ 18 := Nat.lt_of_lt_of_le h (Nat.pow_le_pow_right (by decide) (by omega))
      have hp2 : (10 : Nat) ^ 18 = 1000000000000000000 := by decide
      have hn : n / 10 < 10 ^ (d + 1) := by rw [Nat.pow_succ] at h; omega
      have e1 : Int.tdiv (n : Int) 10 = ((n / 10 : Nat) : Int) := rfl
      have e2 : Int.tmod (n : Int) 10 = ((n % 10 : Nat) : Int) := rfl
      have hl := dec_len d (n / 10) hn
      rw [show k + (d + 1) + 1 = (k + d + 1) + 1 from rfl, spec_l01Dec.f, if_neg (by omega), e1, e2, wrap_id (by omega) (by omega), ih (n / 10) (by omega) hn]
      simp only [Option.bind_some]
      rw [one_str (n % 10) (by omega), ba_size, ba_size, if_pos (by simp only [List.length_cons, List.length_nil]; omega), ba_app]
      rw [Lib.decDigits.eq_1 n, dif_neg h10]
theorem itoa_len {n : Int} (h : -1000000000000 ≤ n ∧ n ≤ 1000000000000) : (Lib.itoa n).length ≤ 14 := by
  have hp : (10 : Nat) ^ 13 = 10000000000000 := by decide
  unfold Lib.itoa
  split
  · have := dec_len 12 n.natAbs (by rw [hp]; omega)
    simp only [List.length_cons]; omega
  · have := dec_len 12 n.toNat (by rw [hp]; omega)
    omega
theorem spec_l01Number_eq (k : Nat) (hk : 13 ≤ k) {n : Int} (h : -1000000000000 ≤ n ∧ n ≤ 1000000000000) : spec_l01Number.f k n = some ⟨(Lib.itoa n).toArray⟩ := by
  obtain ⟨j, rfl⟩ : ∃ j, k = j + 12 + 1 := ⟨k - 13, by omega⟩
  have hp : (10 : Nat) ^ 13 = 10000000000000 := by decide
  unfold spec_l01Number.f Lib.itoa
  by_cases hn : n < 0
  · have e : wrap64 (-n) = ((n.natAbs : Nat) : Int) := by rw [wrap_id (by omega) (by omega)]; omega
    have hl := dec_len 12 n.natAbs (by rw [hp]; omega)
    rw [if_pos hn, if_pos hn, e, spec_l01Dec_eq j 12 n.natAbs (by omega) (by rw [hp]; omega)]
    simp only [Option.bind_some]
    rw [ba_size, if_pos (by omega), show (⟨#[45]⟩ : ByteArray) = ⟨[45].toArray⟩ from rfl, ba_app]
    rfl
  · have e : n = ((n.toNat : Nat) : Int) := by omega
    rw [if_neg hn, if_neg hn]
    conv => lhs; rw [e]
    rw [spec_l01Dec_eq j 12 n.toNat (by omega) (by rw [hp]; omega)]
    rfl
theorem impl_text_eq (k : Nat) {n : Int} (h : -1000000000000 ≤ n ∧ n ≤ 1000000000000) : impl_text.f k n = some ⟨(Lib.itoa n).toArray⟩ := by
  unfold impl_text.f
  rw [if_pos (by omega)]
def itoaB (n : Int) : ByteArray := ⟨(Lib.itoa n).toArray⟩
theorem rd_at_ (pre : List Int) (v : Int) (t : List Int) (i : Int) (hi : i = pre.length) : rd (pre ++ v :: t) i = v := by
  subst hi; unfold rd; simp
theorem joined_loop (sep : ByteArray) (T : List Int) (hT : T.length ≤ 1000) (hb : ∀ n ∈ T, -1000000000000 ≤ n ∧ n ≤ 1000000000000) (k : Nat) :
    ∀ (t pre : List Int) (out : List ByteArray) (i : Int), T = pre ++ t → i = pre.length → out.length = pre.length →
    impl_joined.l0 (k + t.length + 1) sep out T (T.length : Int) i = (strings_Join.f k (out ++ t.map itoaB) sep) := by
  intro t
  induction t with
  | nil =>
    intro pre out i e hi ho
    rw [impl_joined.l0, if_neg (by subst hi; subst e; simp)]
    simp
  | cons v t ih =>
    intro pre out i e hi ho
    have hlen : T.length = pre.length + (t.length + 1) := by rw [e]; simp
    have hr : rd T i = v := by rw [e]; exact rd_at_ pre v t i hi
    rw [show k + (v :: t).length + 1 = (k + t.length + 1) + 1 by simp; omega, impl_joined.l0, if_pos (by omega), if_pos (by omega), if_pos (by omega), hr, impl_text_eq _ (hb v (by rw [e]; simp))]
    simp only [Option.bind_some]
    rw [if_pos (by omega), wrap_id (x := i + 1) (by omega) (by omega), ih (pre ++ [v]) _ (i + 1) (by rw [e]; simp) (by rw [hi]; simp) (by simp; omega)]
    simp [itoaB]
def textL (T : List Int) : List UInt8 := Lib.join (T.map Lib.itoa) [44]
theorem textL_len : ∀ (T : List Int), (∀ n ∈ T, -1000000000000 ≤ n ∧ n ≤ 1000000000000) → (Lib.joinTail [44] (T.map Lib.itoa)).length ≤ 15 * T.length := by
  intro T
  induction T with
  | nil => intro _; simp [Lib.joinTail]
  | cons v t ih =>
    intro h
    have h1 := ih (fun n hn => h n (List.mem_cons_of_mem _ hn))
    have h2 := itoa_len (h v List.mem_cons_self)
    unfold Lib.joinTail at h1 ⊢
    simp only [List.map_cons, List.flatten_cons, List.length_append, List.length_cons, List.length_nil] at h1 ⊢
    omega
theorem textL_cons (v : Int) (t : List Int) : textL (v :: t) = Lib.itoa v ++ Lib.joinTail [44] (t.map Lib.itoa) := by
  unfold textL
  rw [List.map_cons]
  exact Lib.join_cons _ _ _
theorem impl_joined_eq (k : Nat) (v : Int) (t : List Int) (ht : t.length ≤ 900) (hb : ∀ n ∈ v :: t, -1000000000000 ≤ n ∧ n ≤ 1000000000000) (hk : 1000 ≤ k) :
    impl_joined.f k ⟨#[44]⟩ (v :: t) = some ⟨(textL (v :: t)).toArray⟩ := by
  unfold impl_joined.f
  obtain ⟨j, rfl⟩ : ∃ j, k = j + (v :: t).length + 1 := ⟨k - (v :: t).length - 1, by simp; omega⟩
  rw [joined_loop ⟨#[44]⟩ (v :: t) (by simp; omega) hb j (v :: t) [] [] 0 rfl rfl rfl]
  have e : (([] ++ (v :: t).map itoaB).map (fun x : ByteArray => x.data.toList)) = (v :: t).map Lib.itoa := by simp [itoaB]
  have hl := textL_len t (fun n hn => hb n (List.mem_cons_of_mem _ hn))
  have hv := itoa_len (hb v List.mem_cons_self)
  have e2 := textL_cons v t
  unfold textL at e2 ⊢
  unfold strings_Join.f
  rw [e, show (⟨#[44]⟩ : ByteArray).data.toList = [44] from rfl, if_pos ⟨by simp, by simp; omega, by rw [e2, List.length_append]; omega⟩]
theorem rd_at2 (pre : List Int) (v : Int) (t : List Int) (i : Int) (hi : i = pre.length) : rd (pre ++ v :: t) i = v := by
  subst hi; unfold rd; simp
theorem specJoin_loop (T : List Int) (hT : T.length ≤ 1000) (hb : ∀ n ∈ T, -1000000000000 ≤ n ∧ n ≤ 1000000000000) (k : Nat) (hk : 13 ≤ k) :
    ∀ (t pre : List Int) (out : List UInt8) (i : Int), T = pre ++ t → i = pre.length → 0 < pre.length → out.length ≤ 15 * pre.length →
    spec_l01Join.l0 (k + t.length + 1) T ⟨#[44]⟩ ⟨out.toArray⟩ i = some ⟨(out ++ (t.map fun n => [44] ++ Lib.itoa n).flatten).toArray⟩ := by
  intro t
  induction t with
  | nil =>
    intro pre out i e hi hp ho
    rw [spec_l01Join.l0, if_neg (by subst hi; subst e; simp)]
    simp
  | cons v t ih =>
    intro pre out i e hi hp ho
    have hlen : T.length = pre.length + (t.length + 1) := by rw [e]; simp
    have hr : rd T i = v := by rw [e]; exact rd_at2 pre v t i hi
    have hv := hb v (by rw [e]; simp)
    have hl := itoa_len hv
    rw [show k + (v :: t).length + 1 = (k + t.length + 1) + 1 by simp; omega, spec_l01Join.l0, if_pos (by omega), if_pos (by omega), show (⟨#[44]⟩ : ByteArray) = ⟨[44].toArray⟩ from rfl, ba_size, ba_size, if_pos (by simp only [List.length_cons, List.length_nil]; omega), if_pos (by omega), hr, spec_l01Number_eq _ (by omega) hv]
    simp only [Option.bind_some]
    rw [ba_app, ba_size, ba_size, if_pos (by simp only [List.length_append, List.length_cons, List.length_nil]; omega), ba_app, wrap_id (x := i + 1) (by omega) (by omega)]
    have := ih (pre ++ [v]) (out ++ [44] ++ Lib.itoa v) (i + 1) (by rw [e]; simp) (by rw [hi]; simp) (by simp) (by simp only [List.length_append, List.length_cons, List.length_nil]; omega)
    rw [show (⟨[44].toArray⟩ : ByteArray) = ⟨#[44]⟩ from rfl, this]
    simp
theorem spec_l01Join_eq (k : Nat) (v : Int) (t : List Int) (ht : t.length ≤ 900) (hb : ∀ n ∈ v :: t, -1000000000000 ≤ n ∧ n ≤ 1000000000000) (hk : 1000 ≤ k) :
    spec_l01Join.f k (v :: t) ⟨#[44]⟩ = some ⟨(textL (v :: t)).toArray⟩ := by
  unfold spec_l01Join.f
  have hl := itoa_len (hb v List.mem_cons_self)
  obtain ⟨j, rfl⟩ : ∃ j, k = j + t.length + 1 + 1 := ⟨k - t.length - 2, by omega⟩
  have hr : rd (v :: t) 0 = v := rfl
  rw [spec_l01Join.l0, if_pos (by simp), if_neg (by decide), if_pos (by decide), hr, spec_l01Number_eq _ (by omega) (hb v List.mem_cons_self)]
  simp only [Option.bind_some]
  rw [show (⟨#[]⟩ : ByteArray) = ⟨([] : List UInt8).toArray⟩ from rfl, ba_size, ba_size, if_pos (by simp only [List.length_nil]; omega), ba_app, wrap_id (x := 0 + 1) (by omega) (by omega)]
  rw [specJoin_loop (v :: t) (by simp; omega) hb j (by omega) t [v] ([] ++ Lib.itoa v) (0 + 1) rfl rfl (by simp) (by simp only [List.nil_append, List.length_cons, List.length_nil]; omega)]
  rw [textL_cons]
  unfold Lib.joinTail
  simp [List.map_map, Function.comp_def]
theorem spec_MatText_eq (k : Nat) (hk : 1000 ≤ k) (a b c d : Int) : spec_MatText.f k a b c d = some (if matB a b c d = true then ⟨(textL [a, b, c, d]).toArray⟩ else ⟨#[]⟩) := by
  unfold spec_MatText.f
  rw [spec_IsMat_eq]
  simp only [Option.bind_some]
  by_cases h : matB a b c d = true
  · have hs := smallB_iff.mp (matB_iff.mp h).1
    rw [if_pos h, if_pos h, show spec_l02Numbers.f a b c d = some [a, b, c, d] from rfl]
    simp only [Option.bind_some]
    rw [spec_l01Join_eq k a [b, c, d] (by simp) (fun n hn => by simp at hn; rcases hn with rfl | rfl | rfl | rfl <;> omega) hk]
    rfl
  · rw [if_neg h, if_neg h]
theorem impl_MatText_eq (k : Nat) (hk : 1000 ≤ k) (a b c d : Int) : impl_MatText.f k a b c d = some (if matB a b c d = true then ⟨(textL [a, b, c, d]).toArray⟩ else ⟨#[]⟩) := by
  unfold impl_MatText.f
  rw [impl_IsMat_eq]
  simp only [Option.bind_some]
  by_cases h : matB a b c d = true
  · have hs := smallB_iff.mp (matB_iff.mp h).1
    rw [if_pos h, if_pos h, impl_joined_eq k a [b, c, d] (by simp) (fun n hn => by simp at hn; rcases hn with rfl | rfl | rfl | rfl <;> omega) hk]
    rfl
  · rw [if_neg h, if_neg h]
theorem main (a0_0 : Int) (a0_1 : Int) (a0_2 : Int) (a0_3 : Int) (w0_0 : (Go.Lit.int .i64 a0_0).wf = true) (w0_1 : (Go.Lit.int .i64 a0_1).wf = true) (w0_2 : (Go.Lit.int .i64 a0_2).wf = true) (w0_3 : (Go.Lit.int .i64 a0_3).wf = true) : ∃ k, laws_FnExactMatText.f k a0_0 a0_1 a0_2 a0_3 = some true := by
  refine ⟨1000, ?_⟩
  unfold laws_FnExactMatText.f
  simp only [laws_toMat.f, Option.bind_some]
  rw [spec_MatText_eq 1000 (by decide), impl_MatText_eq 1000 (by decide)]
  simp only [Option.bind_some]
  rw [if_pos trivial]
end Go.Proofs.YtiknfddggcbblaaDoor.PureFnExactMatText

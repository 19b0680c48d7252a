import Derived.Test.YtjjbjaagfjljnaaF0
import Derived.Test.YtjjbjaagfjljnaaF3
import Derived.Test.YtjjbjaagfjljnaaF28
namespace Go.Proofs.Ytjjbjaagfjljnaa.F
open Go.RowKit Go.Proofs.YtjjbjaagfjljnaaW.PrintWords Go.Proofs.YtjjbjaagfjljnaaW.PrintLast Go.Proofs.YtjjbjaagfjljnaaW.PrintMore
attribute [local go_sem] max2_int min2_int max_two min_two max_three min_three max_four min_four   -- for this text's walks alone
set_option linter.unusedVariables false
set_option linter.unusedSimpArgs false

/-! ### impl_meet: function 171 -/
mutual
def impl_meet.l0 : Nat → Int → Int → Int → Int → Int → Int → Int → Int → Option (Int × Int × Int)
  | 0, _, _, _, _, _, _, _, _ => none
  | k + 1, x5, x6, x954000, x954001, x954002, x955000, x955001, x955002 => impl_meet.l1 k x5 x6 x5 0 x954000 x954001 x954002 x955000 x955001 x955002
def impl_meet.l1 : Nat → Int → Int → Int → Int → Int → Int → Int → Int → Int → Int → Option (Int × Int × Int)
  | 0, _, _, _, _, _, _, _, _, _, _ => none
  | k + 1, x5, x6, x22, x23, x954000, x954001, x954002, x955000, x955001, x955002 => if x23 < x22 then ((impl_Lattice_has.f x954000 x954001 x954002 x23 x6).bind fun t958 => (if t958 = true then ((impl_Lattice_has.f x955000 x955001 x955002 x23 x6).bind fun t959 => (if t959 = true then (some (x5, x23, x6)) else (impl_meet.l1 k x5 x6 x22 (wrap64 (x23 + 1)) x954000 x954001 x954002 x955000 x955001 x955002))) else (impl_meet.l1 k x5 x6 x22 (wrap64 (x23 + 1)) x954000 x954001 x954002 x955000 x955001 x955002))) else (impl_meet.l0 k x5 (wrap64 (x6 + 1)) x954000 x954001 x954002 x955000 x955001 x955002)
end
def impl_meet.f (k : Nat) (a0_0 : Int) (a0_1 : Int) (a0_2 : Int) (a1_0 : Int) (a1_1 : Int) (a1_2 : Int) : Option (Int × Int × Int) := (impl_gcd.f k a0_0 a1_0).bind fun t956 => (if t956 = 0 then (none) else (impl_meet.l0 k (wrap64 ((wrap64 (Int.tdiv a0_0 t956)) * a1_0)) 1 a0_0 a0_1 a0_2 a1_0 a1_1 a1_2))
theorem impl_meet.mono_l : ∀ k, (∀ y0 y1 y2 y3 y4 y5 y6 y7, LeO (impl_meet.l0 k y0 y1 y2 y3 y4 y5 y6 y7) (impl_meet.l0 (k + 1) y0 y1 y2 y3 y4 y5 y6 y7)) ∧ (∀ y0 y1 y2 y3 y4 y5 y6 y7 y8 y9, LeO (impl_meet.l1 k y0 y1 y2 y3 y4 y5 y6 y7 y8 y9) (impl_meet.l1 (k + 1) y0 y1 y2 y3 y4 y5 y6 y7 y8 y9))
  | 0 => ⟨fun _ _ _ _ _ _ _ _ r h => by simp [impl_meet.l0] at h, fun _ _ _ _ _ _ _ _ _ _ r h => by simp [impl_meet.l1] at h⟩
  | k + 1 => by
    obtain ⟨ih0, ih1⟩ := impl_meet.mono_l k
    refine ⟨?_, ?_⟩
    · intro y0 y1 y2 y3 y4 y5 y6 y7
      unfold impl_meet.l0
      repeat' first
      | (with_reducible exact ih0 _ _ _ _ _ _ _ _)
      | (with_reducible exact ih1 _ _ _ _ _ _ _ _ _ _)
      | (with_reducible exact impl_gcd.mono _ _ _)
      | (with_reducible exact LeO.refl _)
      | (with_reducible exact LeO.none _)
      | (with_reducible refine LeO.ite ?_ ?_)
      | (with_reducible refine LeO.bind ?_ (fun _ => ?_))
      | exact ih0 _ _ _ _ _ _ _ _
      | exact ih1 _ _ _ _ _ _ _ _ _ _
      | exact impl_gcd.mono _ _ _
      | exact LeO.none _
      | refine LeO.ite ?_ ?_
      | refine LeO.bind ?_ (fun _ => ?_)
    · intro y0 y1 y2 y3 y4 y5 y6 y7 y8 y9
      unfold impl_meet.l1
      repeat' first
      | (with_reducible exact ih0 _ _ _ _ _ _ _ _)
      | (with_reducible exact ih1 _ _ _ _ _ _ _ _ _ _)
      | (with_reducible exact impl_gcd.mono _ _ _)
      | (with_reducible exact LeO.refl _)
      | (with_reducible exact LeO.none _)
      | (with_reducible refine LeO.ite ?_ ?_)
      | (with_reducible refine LeO.bind ?_ (fun _ => ?_))
      | exact ih0 _ _ _ _ _ _ _ _
      | exact ih1 _ _ _ _ _ _ _ _ _ _
      | exact impl_gcd.mono _ _ _
      | exact LeO.none _
      | refine LeO.ite ?_ ?_
      | refine LeO.bind ?_ (fun _ => ?_)
theorem impl_meet.mono : ∀ a0 a1 a2 a3 a4 a5 k, LeO (impl_meet.f k a0 a1 a2 a3 a4 a5) (impl_meet.f (k + 1) a0 a1 a2 a3 a4 a5) := by
  intro a0 a1 a2 a3 a4 a5 k
  obtain ⟨ih0, ih1⟩ := impl_meet.mono_l k
  unfold impl_meet.f
  repeat' first
      | (with_reducible exact ih0 _ _ _ _ _ _ _ _)
      | (with_reducible exact ih1 _ _ _ _ _ _ _ _ _ _)
      | (with_reducible exact impl_gcd.mono _ _ _)
      | (with_reducible exact LeO.refl _)
      | (with_reducible exact LeO.none _)
      | (with_reducible refine LeO.ite ?_ ?_)
      | (with_reducible refine LeO.bind ?_ (fun _ => ?_))
      | exact ih0 _ _ _ _ _ _ _ _
      | exact ih1 _ _ _ _ _ _ _ _ _ _
      | exact impl_gcd.mono _ _ _
      | exact LeO.none _
      | refine LeO.ite ?_ ?_
      | refine LeO.bind ?_ (fun _ => ?_)
def impl_meet.T1 : Bool × List (List Nat × List Nat) := (true, [([], []), ([0], [0]), ([], []), ([2], [2]), ([], []), ([4], [4]), ([3, 5], [3, 5]), ([1, 6], [1, 6]), ([], []), ([8], [8]), ([7, 9], [7, 9]), ([10, 6, 0, 1, 2, 3, 4, 5, 6, 7, 8, 9, 10], [10])])
def impl_meet.B1 : List Nat := [0, 1, 0, 4, 0, 16, 60, 127, 0, 256, 1023, 2047]
theorem impl_meet.tab1 : rtab .any (opsOf Try.f171 1) = impl_meet.T1 := by kernel_rfl
theorem impl_meet.bits1 : waitsOk impl_meet.T1.2 impl_meet.B1 = true := by kernel_rfl
set_option maxHeartbeats 8000000 in
set_option maxRecDepth 100000 in
theorem impl_meet.calls (k : Nat) (a0_0 : Int) (a0_1 : Int) (a0_2 : Int) (a1_0 : Int) (a1_1 : Int) (a1_2 : Int) (r1 : Int) (r2 : Int) (r3 : Int) (w : World) (h : impl_meet.f k a0_0 a0_1 a0_2 a1_0 a1_1 a1_2 = some (r1, r2, r3)) :
    Calls Try.prog 171 #[.agg #[.int .i64 a0_0, .int .i64 a0_1, .int .i64 a0_2], .agg #[.int .i64 a1_0, .int .i64 a1_1, .int .i64 a1_2]] w fun e w' => e = .returned (.agg #[.int .i64 r1, .int .i64 r2, .int .i64 r3]) ∧ Below w.heap.size w w' := by
  have hu66 := Try.underlying66
  have hu25 := Try.underlying25
  have HB := Aside0.mk (Below.refl w.heap.size w)
  have H : ((impl_gcd.f k a0_0 a1_0).bind fun t956 => (if t956 = 0 then (none) else (impl_meet.l0 k (wrap64 ((wrap64 (Int.tdiv a0_0 t956)) * a1_0)) 1 a0_0 a0_1 a0_2 a1_0 a1_1 a1_2))) = some (r1, r2, r3) := h
  clear h
  replace H := Option.bind_eq_some_iff.mp H
  obtain ⟨t956, A30, H⟩ := H
  replace H : (if t956 = 0 then (none) else (impl_meet.l0 k (wrap64 ((wrap64 (Int.tdiv a0_0 t956)) * a1_0)) 1 a0_0 a0_1 a0_2 a1_0 a1_1 a1_2)) = some (r1, r2, r3) := H
  have A3 := Aside0.mk A30
  clear A30
  by_cases c4 : t956 = 0
  · rw [if_pos c4] at H
    exact absurd H (by simp)
  · rw [if_neg c4] at H
    have c4b0 : (t956 == 0) = false := beq_eq_false_iff_ne.mpr c4
    have c4b1 : (t956 != 0) = true := bne_iff_ne.mpr c4
    have H' := Aside0.mk H
    clear H
    go_enter Try.func171, Try.ntmps171
    try go_wp2_with (first | ((with_reducible refine gate_dst (N := 2) rfl ?_); refine box_event ?hg (N := 2) ?hd (cs := #[.int .i64 a0_0, .int .i64 a0_1, .int .i64 a0_2]) (t := 66) ?hr ?_; (case hd => rfl); (case hg => rfl); (case hr => first | (go_simp; done) | (go_simp; rfl)); intro gb953 hg w5 hbox hb; have n0_ := Aside0.mk (below_step (by repeat (first | (with_reducible first | exact HB.out | apply below_alloc | apply pw_below_drewN | apply below_drew1) | exact HB.out)) hb); have n1_ := Aside0.mk (hbox); have n2_ := Aside0.mk ((by rw [hg]; exact (below_size (by repeat (first | (with_reducible first | exact HB.out | apply below_alloc | apply pw_below_drewN | apply below_drew1) | exact HB.out))) : w.heap.size ≤ gb953)); have n3_ := Aside0.mk ((by rw [hg]; exact (below_size (by repeat (first | (with_reducible first | exact HB.out | apply below_alloc | apply pw_below_drewN | apply below_drew1) | exact HB.out))) : w.heap.size ≤ gb953)); clear HB; have HB := n0_; have BK953 := n1_; have GW953 := n2_; have GE953 := n3_; clear n0_ n1_ n2_ n3_; clear hb hbox hg) | ((with_reducible refine gate_dst (N := 3) rfl ?_); refine box_event ?hg (N := 3) ?hd (cs := #[.int .i64 a1_0, .int .i64 a1_1, .int .i64 a1_2]) (t := 66) ?hr ?_; (case hd => rfl); (case hg => rfl); (case hr => first | (go_simp; done) | (go_simp; rfl)); intro gb954 hg w6 hbox hb; have n0_ := Aside0.mk (blk_below (g := gb953) (o := .cells #[.int .i64 a0_0, .int .i64 a0_1, .int .i64 a0_2] 66 (0, 0)) (by (with_reducible repeat (first | refine blk_drewN ?_ _ | refine blk_drew ?_ | refine blk_alloc ?_ _)); exact BK953.out) hb); have n1_ := Aside0.mk (below_step (by repeat (first | (with_reducible first | exact HB.out | apply below_alloc | apply pw_below_drewN | apply below_drew1 | refine below_set ?_ GE953.out) | exact HB.out)) hb); have n2_ := Aside0.mk (hbox); have n3_ := Aside0.mk ((by rw [hg]; exact (below_size (by repeat (first | (with_reducible first | exact HB.out | apply below_alloc | apply pw_below_drewN | apply below_drew1 | refine below_set ?_ GE953.out) | exact HB.out))) : w.heap.size ≤ gb954)); have n4_ := Aside0.mk ((by rw [hg]; exact (below_size (by repeat (first | (with_reducible first | exact HB.out | apply below_alloc | apply pw_below_drewN | apply below_drew1 | refine below_set ?_ GE953.out) | exact HB.out))) : w.heap.size ≤ gb954)); have n5_ := Aside0.mk ((by rw [hg]; exact Nat.ne_of_lt (blk_lt (g := gb953) (o := .cells #[.int .i64 a0_0, .int .i64 a0_1, .int .i64 a0_2] 66 (0, 0)) (by (with_reducible repeat (first | refine blk_drewN ?_ _ | refine blk_drew ?_ | refine blk_alloc ?_ _)); exact BK953.out)) : gb953 ≠ gb954)); have n6_ := Aside0.mk ((by rw [hg]; exact Nat.ne_of_gt (blk_lt (g := gb953) (o := .cells #[.int .i64 a0_0, .int .i64 a0_1, .int .i64 a0_2] 66 (0, 0)) (by (with_reducible repeat (first | refine blk_drewN ?_ _ | refine blk_drew ?_ | refine blk_alloc ?_ _)); exact BK953.out)) : gb954 ≠ gb953)); clear BK953; clear HB; have BK953 := n0_; have HB := n1_; have BK954 := n2_; have GW954 := n3_; have GE954 := n4_; have NB953_954 := n5_; have NB954_953 := n6_; clear n0_ n1_ n2_ n3_ n4_ n5_ n6_; clear hb hbox hg) | ((with_reducible refine gate_dst (N := 4) rfl ?_); refine box_event ?hg (N := 4) ?hd (cs := #[.int .i64 0, .int .i64 0, .int .i64 0]) (t := 66) ?hr ?_; (case hd => rfl); (case hg => rfl); (case hr => first | (go_simp; done) | (go_simp; rfl)); intro gb955 hg w7 hbox hb; have n0_ := Aside0.mk (blk_below (g := gb953) (o := .cells #[.int .i64 a0_0, .int .i64 a0_1, .int .i64 a0_2] 66 (0, 0)) (by (with_reducible repeat (first | refine blk_drewN ?_ _ | refine blk_drew ?_ | refine blk_alloc ?_ _)); exact BK953.out) hb); have n1_ := Aside0.mk (blk_below (g := gb954) (o := .cells #[.int .i64 a1_0, .int .i64 a1_1, .int .i64 a1_2] 66 (0, 0)) (by (with_reducible repeat (first | refine blk_drewN ?_ _ | refine blk_drew ?_ | refine blk_alloc ?_ _)); exact BK954.out) hb); have n2_ := Aside0.mk (below_step (by repeat (first | (with_reducible first | exact HB.out | apply below_alloc | apply pw_below_drewN | apply below_drew1 | refine below_set ?_ GE953.out | refine below_set ?_ GE954.out) | exact HB.out)) hb); have n3_ := Aside0.mk (hbox); have n4_ := Aside0.mk ((by rw [hg]; exact (below_size (by repeat (first | (with_reducible first | exact HB.out | apply below_alloc | apply pw_below_drewN | apply below_drew1 | refine below_set ?_ GE953.out | refine below_set ?_ GE954.out) | exact HB.out))) : w.heap.size ≤ gb955)); have n5_ := Aside0.mk ((by rw [hg]; exact (below_size (by repeat (first | (with_reducible first | exact HB.out | apply below_alloc | apply pw_below_drewN | apply below_drew1 | refine below_set ?_ GE953.out | refine below_set ?_ GE954.out) | exact HB.out))) : w.heap.size ≤ gb955)); have n6_ := Aside0.mk ((by rw [hg]; exact Nat.ne_of_lt (blk_lt (g := gb953) (o := .cells #[.int .i64 a0_0, .int .i64 a0_1, .int .i64 a0_2] 66 (0, 0)) (by (with_reducible repeat (first | refine blk_drewN ?_ _ | refine blk_drew ?_ | refine blk_alloc ?_ _)); exact BK953.out)) : gb953 ≠ gb955)); have n7_ := Aside0.mk ((by rw [hg]; exact Nat.ne_of_gt (blk_lt (g := gb953) (o := .cells #[.int .i64 a0_0, .int .i64 a0_1, .int .i64 a0_2] 66 (0, 0)) (by (with_reducible repeat (first | refine blk_drewN ?_ _ | refine blk_drew ?_ | refine blk_alloc ?_ _)); exact BK953.out)) : gb955 ≠ gb953)); have n8_ := Aside0.mk ((by rw [hg]; exact Nat.ne_of_lt (blk_lt (g := gb954) (o := .cells #[.int .i64 a1_0, .int .i64 a1_1, .int .i64 a1_2] 66 (0, 0)) (by (with_reducible repeat (first | refine blk_drewN ?_ _ | refine blk_drew ?_ | refine blk_alloc ?_ _)); exact BK954.out)) : gb954 ≠ gb955)); have n9_ := Aside0.mk ((by rw [hg]; exact Nat.ne_of_gt (blk_lt (g := gb954) (o := .cells #[.int .i64 a1_0, .int .i64 a1_1, .int .i64 a1_2] 66 (0, 0)) (by (with_reducible repeat (first | refine blk_drewN ?_ _ | refine blk_drew ?_ | refine blk_alloc ?_ _)); exact BK954.out)) : gb955 ≠ gb954)); clear BK953; clear BK954; clear HB; have BK953 := n0_; have BK954 := n1_; have HB := n2_; have BK955 := n3_; have GW955 := n4_; have GE955 := n5_; have NB953_955 := n6_; have NB955_953 := n7_; have NB954_955 := n8_; have NB955_954 := n9_; clear n0_ n1_ n2_ n3_ n4_ n5_ n6_ n7_ n8_ n9_; clear hb hbox hg))
    have n0_ := Aside0.mk (blk_drew BK953.out)
    have n1_ := Aside0.mk (blk_drew BK954.out)
    have n2_ := Aside0.mk (blk_drew BK955.out)
    have n3_ := Aside0.mk (below_drew1 HB.out)
    clear BK953
    clear BK954
    clear BK955
    clear HB
    have BK953 := n0_
    have BK954 := n1_
    have BK955 := n2_
    have HB := n3_
    clear n0_ n1_ n2_ n3_
    refine start_ (n := 12) (S := fun w' => w'.cell? ⟨gb953, 0, none⟩ = some (.int .i64 a0_0) ∧ w'.cell? ⟨gb953, 1, none⟩ = some (.int .i64 a0_1) ∧ w'.cell? ⟨gb953, 2, none⟩ = some (.int .i64 a0_2) ∧ w'.cell? ⟨gb954, 0, none⟩ = some (.int .i64 a1_0) ∧ w'.cell? ⟨gb954, 1, none⟩ = some (.int .i64 a1_1) ∧ w'.cell? ⟨gb954, 2, none⟩ = some (.int .i64 a1_2)) (ds := []) #[false, false, false, false, false, false, false, false, false, false, false, false] (by kernel_rfl) rfl rfl ⟨(blk_cell BK953.out 0).trans rfl, (blk_cell BK953.out 1).trans rfl, (blk_cell BK953.out 2).trans rfl, (blk_cell BK954.out 0).trans rfl, (blk_cell BK954.out 1).trans rfl, (blk_cell BK954.out 2).trans rfl⟩ (fun hHeld => ?_); refine with_tabW impl_meet.tab1 impl_meet.bits1 (fun HT_ HW_ => ?_)
    generalize w7.drew = w8 at BK953 BK954 BK955 HB hHeld ⊢
    refine pure_ (i := 0) (N := some 9) (v := ?_) (a' := ?_) #[true, false, false, false, false, false, false, false, false, false, false, false] rfl rfl (any_of HT_.out (by kernel_rfl)) (fun _ _ _ h => h) (Or.inl ⟨by rfl, ?_⟩) ?_ ?_
    rotate_left
    · intro w'
      go_simp
      with_reducible rfl
    rotate_left
    · simp only [Act.put, List.setIfInBounds_toArray, List.set_cons_zero, List.set_cons_succ, i64_w, i32_w]
      rfl
    refine pure_ (i := 2) (N := some 11) (v := ?_) (a' := ?_) #[true, false, true, false, false, false, false, false, false, false, false, false] rfl rfl (any_of HT_.out (by kernel_rfl)) (fun _ _ _ h => h) (Or.inl ⟨by rfl, ?_⟩) ?_ ?_
    rotate_left
    · intro w'
      go_simp
      with_reducible rfl
    rotate_left
    · simp only [Act.put, List.setIfInBounds_toArray, List.set_cons_zero, List.set_cons_succ, i64_w, i32_w]
      rfl
    refine pure_ (i := 4) (N := some 13) (v := ?_) (a' := ?_) #[true, false, true, false, true, false, false, false, false, false, false, false] rfl rfl (any_of HT_.out (by kernel_rfl)) (fun _ _ _ h => h) (Or.inl ⟨by rfl, ?_⟩) ?_ ?_
    rotate_left
    · intro w'
      go_simp
      with_reducible rfl
    rotate_left
    · simp only [Act.put, List.setIfInBounds_toArray, List.set_cons_zero, List.set_cons_succ, i64_w, i32_w]
      rfl
    refine pure_ (i := 8) (N := some 17) (v := ?_) (a' := ?_) #[true, false, true, false, true, false, false, false, true, false, false, false] rfl rfl (any_of HT_.out (by kernel_rfl)) (fun _ _ _ h => h) (Or.inl ⟨by rfl, ?_⟩) ?_ ?_
    rotate_left
    · intro w'
      go_simp
      with_reducible rfl
    rotate_left
    · simp only [Act.put, List.setIfInBounds_toArray, List.set_cons_zero, List.set_cons_succ, i64_w, i32_w]
      rfl
    refine take_ (i := 1) (N := some 10) (v := ?_) (a' := ?_) #[true, true, true, false, true, false, false, false, true, false, false, false] rfl rfl (take_ofW HT_.out HW_.out (by kernel_rfl)) (fun _ _ _ h => h) (Or.inl ⟨by rfl, ?_⟩) hHeld ?_ ?_
    rotate_left
    · rintro w' ⟨s0, s1, s2, s3, s4, s5⟩
      go_simp
      with_reducible rfl
    rotate_left
    · simp only [Act.put, List.setIfInBounds_toArray, List.set_cons_zero, List.set_cons_succ, i64_w, i32_w]
      rfl
    refine take_ (i := 3) (N := some 12) (v := ?_) (a' := ?_) #[true, true, true, true, true, false, false, false, true, false, false, false] rfl rfl (take_ofW HT_.out HW_.out (by kernel_rfl)) (fun _ _ _ h => h) (Or.inl ⟨by rfl, ?_⟩) hHeld ?_ ?_
    rotate_left
    · rintro w' ⟨s0, s1, s2, s3, s4, s5⟩
      go_simp
      with_reducible rfl
    rotate_left
    · simp only [Act.put, List.setIfInBounds_toArray, List.set_cons_zero, List.set_cons_succ, i64_w, i32_w]
      rfl
    refine take_ (i := 5) (N := some 14) (v := ?_) (a' := ?_) #[true, true, true, true, true, true, false, false, true, false, false, false] rfl rfl (take_ofW HT_.out HW_.out (by kernel_rfl)) (fun _ _ _ h => h) (Or.inl ⟨by rfl, ?_⟩) hHeld ?_ ?_
    rotate_left
    · rintro w' ⟨s0, s1, s2, s3, s4, s5⟩
      go_simp
      with_reducible rfl
    rotate_left
    · simp only [Act.put, List.setIfInBounds_toArray, List.set_cons_zero, List.set_cons_succ, i64_w, i32_w]
      rfl
    refine take_ (i := 9) (N := some 18) (v := ?_) (a' := ?_) #[true, true, true, true, true, true, false, false, true, true, false, false] rfl rfl (take_ofW HT_.out HW_.out (by kernel_rfl)) (fun _ _ _ h => h) (Or.inl ⟨by rfl, ?_⟩) hHeld ?_ ?_
    rotate_left
    · rintro w' ⟨s0, s1, s2, s3, s4, s5⟩
      go_simp
      with_reducible rfl
    rotate_left
    · simp only [Act.put, List.setIfInBounds_toArray, List.set_cons_zero, List.set_cons_succ, i64_w, i32_w]
      rfl
    refine one_ (i := 6) (N := some 15) #[true, true, true, true, true, true, true, false, true, true, false, false] rfl rfl (one_of HT_.out (by kernel_rfl)) (by decide) (fun K hK => ?_)
    refine goes_ Try.func125 (by kernel_rfl) rfl #[.int .i64 a0_0, .int .i64 a1_0] (by rfl) rfl rfl (by (try simp only [List.map_toArray, List.map_cons, List.map_nil]); first | done | rfl | (simp only [List.length_drop, List.length_take]; rfl)) ?_
    with_reducible refine (impl_gcd.calls k a0_0 a1_0 t956 _ A3.out).mono ?_
    rintro e w9 ⟨rfl, hb⟩
    refine ⟨_, rfl, ?_⟩
    have n0_ := Aside0.mk (blk_below (g := gb953) (o := .cells #[.int .i64 a0_0, .int .i64 a0_1, .int .i64 a0_2] 66 (0, 0)) (by (with_reducible repeat (first | refine blk_drewN ?_ _ | refine blk_drew ?_ | refine blk_alloc ?_ _)); exact BK953.out) hb)
    have n1_ := Aside0.mk (blk_below (g := gb954) (o := .cells #[.int .i64 a1_0, .int .i64 a1_1, .int .i64 a1_2] 66 (0, 0)) (by (with_reducible repeat (first | refine blk_drewN ?_ _ | refine blk_drew ?_ | refine blk_alloc ?_ _)); exact BK954.out) hb)
    have n2_ := Aside0.mk (blk_below (g := gb955) (o := .cells #[.int .i64 0, .int .i64 0, .int .i64 0] 66 (0, 0)) (by (with_reducible repeat (first | refine blk_drewN ?_ _ | refine blk_drew ?_ | refine blk_alloc ?_ _)); exact BK955.out) hb)
    have n3_ := Aside0.mk (below_step (by repeat (first | (with_reducible first | exact HB.out | apply below_alloc | apply pw_below_drewN | apply below_drew1 | refine below_set ?_ GE953.out | refine below_set ?_ GE954.out | refine below_set ?_ GE955.out) | exact HB.out)) hb)
    clear BK953
    clear BK954
    clear BK955
    clear HB
    have BK953 := n0_
    have BK954 := n1_
    have BK955 := n2_
    have HB := n3_
    clear n0_ n1_ n2_ n3_
    (try clear hb)
    (try clear hb2)
    (try clear hk)
    (try clear hi)
    refine hK.out _ _ ⟨(blk_cell BK953.out 0).trans rfl, (blk_cell BK953.out 1).trans rfl, (blk_cell BK953.out 2).trans rfl, (blk_cell BK954.out 0).trans rfl, (blk_cell BK954.out 1).trans rfl, (blk_cell BK954.out 2).trans rfl⟩ (fun hHeld => ?_)
    clear hK K
    refine norm_ (a' := ?_) ?_ ?_
    rotate_left
    · show Act.put _ (some 15) _ = _
      simp only [Act.put, List.setIfInBounds_toArray, List.set_cons_zero, List.set_cons_succ, i64_w, i32_w]
      rfl
    refine pure_ (i := 7) (N := some 16) (v := ?_) (a' := ?_) #[true, true, true, true, true, true, true, true, true, true, false, false] rfl rfl (any_of HT_.out (by kernel_rfl)) (fun _ _ _ h => h) (Or.inl ⟨by rfl, ?_⟩) ?_ ?_
    rotate_left
    · intro w'
      go_simp
      with_reducible rfl
    rotate_left
    · simp only [Act.put, List.setIfInBounds_toArray, List.set_cons_zero, List.set_cons_succ, i64_w, i32_w]
      rfl
    refine pure_ (i := 10) (N := some 19) (v := ?_) (a' := ?_) #[true, true, true, true, true, true, true, true, true, true, true, false] rfl rfl (any_of HT_.out (by kernel_rfl)) (fun _ _ _ h => h) (Or.inl ⟨by rfl, ?_⟩) ?_ ?_
    rotate_left
    · intro w'
      go_simp
      with_reducible rfl
    rotate_left
    · simp only [Act.put, List.setIfInBounds_toArray, List.set_cons_zero, List.set_cons_succ, i64_w, i32_w]
      rfl
    refine pure_ (i := 11) (N := some 5) (v := ?_) (a' := ?_) #[true, true, true, true, true, true, true, true, true, true, true, true] rfl rfl (any_of HT_.out (by kernel_rfl)) (fun _ _ _ h => h) (Or.inl ⟨by rfl, ?_⟩) ?_ ?_
    rotate_left
    · intro w'
      go_simp
      with_reducible rfl
    rotate_left
    · simp only [Act.put, List.setIfInBounds_toArray, List.set_cons_zero, List.set_cons_succ, i64_w, i32_w]
      rfl
    refine done_ (done_of HT_.out (by kernel_rfl)) ?_
    try go_wp2
    go_loopg [6] k (fun kq v6 w' => ∃ (x6_1 : Int) (x956000_1 : Int) (x956001_1 : Int) (x956002_1 : Int), v6 = .int .i64 x6_1 ∧ Aside0 (impl_meet.l0 kq (wrap64 ((wrap64 (Int.tdiv a0_0 t956)) * a1_0)) x6_1 a0_0 a0_1 a0_2 a1_0 a1_1 a1_2 = some (r1, r2, r3)) ∧ Aside0 (kq ≤ k) ∧ Aside0 (w'.heap[gb953]? = some (.cells #[.int .i64 a0_0, .int .i64 a0_1, .int .i64 a0_2] 66 (0, 0))) ∧ Aside0 (w'.heap[gb954]? = some (.cells #[.int .i64 a1_0, .int .i64 a1_1, .int .i64 a1_2] 66 (0, 0))) ∧ Aside0 (w'.heap[gb955]? = some (.cells #[.int .i64 x956000_1, .int .i64 x956001_1, .int .i64 x956002_1] 66 (0, 0))) ∧ Aside0 (Below w.heap.size w w'))
    case atStart => exact ⟨(1), (0), (0), (0), (by first | rfl | (simp; done) | (simp [*]; done)), H', ⟨Nat.le_refl _⟩, ⟨by (with_reducible repeat (first | refine blk_drewN ?_ _ | refine blk_drew ?_ | refine blk_alloc ?_ _)); exact BK953.out⟩, ⟨by (with_reducible repeat (first | refine blk_drewN ?_ _ | refine blk_drew ?_ | refine blk_alloc ?_ _)); exact BK954.out⟩, ⟨by (with_reducible repeat (first | refine blk_drewN ?_ _ | refine blk_drew ?_ | refine blk_alloc ?_ _)); exact BK955.out⟩, ⟨by repeat (first | (with_reducible first | exact HB.out | apply below_alloc | apply pw_below_drewN | apply below_drew1 | refine below_set ?_ GE953.out | refine below_set ?_ GE954.out | refine below_set ?_ GE955.out) | exact HB.out)⟩⟩
    case round =>
      clear H'
      try clear c1
      try clear p2
      try clear c4
      try clear c4b0
      try clear c4b1
      try clear p6
      obtain ⟨x6_1, x956000_1, x956001_1, x956002_1, rfl, HA, HK1, BK953, BK954, BK955, HB⟩ := hrel
      cases gk with
      | zero => exact absurd HA.out (by simp [impl_meet.l0])
      | succ k1 =>
        have H := HA.out
        clear HA
        simp only [impl_meet.l0] at H
        have H' := Aside0.mk H
        clear H
        go_wp2
        go_loopg [23] k1 (fun kq v23 w' => ∃ (x23_2 : Int) (x956000_2 : Int) (x956001_2 : Int) (x956002_2 : Int), v23 = .int .i64 x23_2 ∧ Aside0 (impl_meet.l1 kq (wrap64 ((wrap64 (Int.tdiv a0_0 t956)) * a1_0)) x6_1 (wrap64 ((wrap64 (Int.tdiv a0_0 t956)) * a1_0)) x23_2 a0_0 a0_1 a0_2 a1_0 a1_1 a1_2 = some (r1, r2, r3)) ∧ Aside0 (kq ≤ k1) ∧ Aside0 (w'.heap[gb953]? = some (.cells #[.int .i64 a0_0, .int .i64 a0_1, .int .i64 a0_2] 66 (0, 0))) ∧ Aside0 (w'.heap[gb954]? = some (.cells #[.int .i64 a1_0, .int .i64 a1_1, .int .i64 a1_2] 66 (0, 0))) ∧ Aside0 (w'.heap[gb955]? = some (.cells #[.int .i64 x956000_2, .int .i64 x956001_2, .int .i64 x956002_2] 66 (0, 0))) ∧ Aside0 (Below w.heap.size w w'))
        case atStart => exact ⟨(0), (x956000_1), (x956001_1), (x956002_1), (by first | rfl | (simp; done) | (simp [*]; done)), H', ⟨Nat.le_refl _⟩, ⟨by (with_reducible repeat (first | refine blk_drewN ?_ _ | refine blk_drew ?_ | refine blk_alloc ?_ _)); exact BK953.out⟩, ⟨by (with_reducible repeat (first | refine blk_drewN ?_ _ | refine blk_drew ?_ | refine blk_alloc ?_ _)); exact BK954.out⟩, ⟨by (with_reducible repeat (first | refine blk_drewN ?_ _ | refine blk_drew ?_ | refine blk_alloc ?_ _)); exact BK955.out⟩, ⟨by repeat (first | (with_reducible first | exact HB.out | apply below_alloc | apply pw_below_drewN | apply below_drew1 | refine below_set ?_ GE953.out | refine below_set ?_ GE954.out | refine below_set ?_ GE955.out) | exact HB.out)⟩⟩
        case round =>
          clear H'
          try clear c1
          try clear p2
          try clear c4
          try clear c4b0
          try clear c4b1
          try clear p6
          try clear p2
          try clear p6
          obtain ⟨x23_2, x956000_2, x956001_2, x956002_2, rfl, HA, HK2, BK953, BK954, BK955, HB⟩ := hrel
          cases gk with
          | zero => exact absurd HA.out (by simp [impl_meet.l1])
          | succ k2 =>
            have H := HA.out
            clear HA
            simp only [impl_meet.l1] at H
            by_cases c10 : x23_2 < (wrap64 ((wrap64 (Int.tdiv a0_0 t956)) * a1_0))
            · rw [if_pos c10] at H
              have c10b0 : decide (x23_2 < (wrap64 ((wrap64 (Int.tdiv a0_0 t956)) * a1_0))) = true := decide_eq_true c10
              clear c10
              replace H := Option.bind_eq_some_iff.mp H
              obtain ⟨t958, A110, H⟩ := H
              replace H : (if t958 = true then ((impl_Lattice_has.f a1_0 a1_1 a1_2 x23_2 x6_1).bind fun t959 => (if t959 = true then (some ((wrap64 ((wrap64 (Int.tdiv a0_0 t956)) * a1_0)), x23_2, x6_1)) else (impl_meet.l1 k2 (wrap64 ((wrap64 (Int.tdiv a0_0 t956)) * a1_0)) x6_1 (wrap64 ((wrap64 (Int.tdiv a0_0 t956)) * a1_0)) (wrap64 (x23_2 + 1)) a0_0 a0_1 a0_2 a1_0 a1_1 a1_2))) else (impl_meet.l1 k2 (wrap64 ((wrap64 (Int.tdiv a0_0 t956)) * a1_0)) x6_1 (wrap64 ((wrap64 (Int.tdiv a0_0 t956)) * a1_0)) (wrap64 (x23_2 + 1)) a0_0 a0_1 a0_2 a1_0 a1_1 a1_2)) = some (r1, r2, r3) := H
              have A11 := Aside0.mk A110
              clear A110
              by_cases c12 : t958 = true
              · subst c12
                have H1 : ((impl_Lattice_has.f a1_0 a1_1 a1_2 x23_2 x6_1).bind fun t959 => (if t959 = true then (some ((wrap64 ((wrap64 (Int.tdiv a0_0 t956)) * a1_0)), x23_2, x6_1)) else (impl_meet.l1 k2 (wrap64 ((wrap64 (Int.tdiv a0_0 t956)) * a1_0)) x6_1 (wrap64 ((wrap64 (Int.tdiv a0_0 t956)) * a1_0)) (wrap64 (x23_2 + 1)) a0_0 a0_1 a0_2 a1_0 a1_1 a1_2))) = some (r1, r2, r3) := by rw [if_pos rfl] at H; exact H
                clear H
                have H := H1
                clear H1
                replace H := Option.bind_eq_some_iff.mp H
                obtain ⟨t959, A130, H⟩ := H
                replace H : (if t959 = true then (some ((wrap64 ((wrap64 (Int.tdiv a0_0 t956)) * a1_0)), x23_2, x6_1)) else (impl_meet.l1 k2 (wrap64 ((wrap64 (Int.tdiv a0_0 t956)) * a1_0)) x6_1 (wrap64 ((wrap64 (Int.tdiv a0_0 t956)) * a1_0)) (wrap64 (x23_2 + 1)) a0_0 a0_1 a0_2 a1_0 a1_1 a1_2)) = some (r1, r2, r3) := H
                have A13 := Aside0.mk A130
                clear A130
                by_cases c14 : t959 = true
                · subst c14
                  have H1 : (some ((wrap64 ((wrap64 (Int.tdiv a0_0 t956)) * a1_0)), x23_2, x6_1)) = some (r1, r2, r3) := by rw [if_pos rfl] at H; exact H
                  clear H
                  have H := H1
                  clear H1
                  simp only [Option.some.injEq, Prod.mk.injEq] at H
                  obtain ⟨rfl, rfl, rfl⟩ := H
                  go_wp2_with (first | ((with_reducible refine gate_dst (N := 8) rfl ?_); refine box_event ?hg (N := 8) ?hd (cs := #[.int .i64 0, .int .i64 0]) (t := 25) ?hr ?_; (case hd => rfl); (case hg => rfl); (case hr => first | (go_simp; done) | (go_simp; rfl)); intro gb957 hg w15 hbox hb; have n0_ := Aside0.mk (blk_below (g := gb953) (o := .cells #[.int .i64 a0_0, .int .i64 a0_1, .int .i64 a0_2] 66 (0, 0)) (by (with_reducible repeat (first | refine blk_drewN ?_ _ | refine blk_drew ?_ | refine blk_alloc ?_ _)); exact BK953.out) hb); have n1_ := Aside0.mk (blk_below (g := gb954) (o := .cells #[.int .i64 a1_0, .int .i64 a1_1, .int .i64 a1_2] 66 (0, 0)) (by (with_reducible repeat (first | refine blk_drewN ?_ _ | refine blk_drew ?_ | refine blk_alloc ?_ _)); exact BK954.out) hb); have n2_ := Aside0.mk (blk_below (g := gb955) (o := .cells #[.int .i64 x956000_2, .int .i64 x956001_2, .int .i64 x956002_2] 66 (0, 0)) (by (with_reducible repeat (first | refine blk_drewN ?_ _ | refine blk_drew ?_ | refine blk_alloc ?_ _)); exact BK955.out) hb); have n3_ := Aside0.mk (below_step (by repeat (first | (with_reducible first | exact HB.out | apply below_alloc | apply pw_below_drewN | apply below_drew1 | refine below_set ?_ GE953.out | refine below_set ?_ GE954.out | refine below_set ?_ GE955.out) | exact HB.out)) hb); have n4_ := Aside0.mk (hbox); have n5_ := Aside0.mk ((by rw [hg]; exact (below_size (by repeat (first | (with_reducible first | exact HB.out | apply below_alloc | apply pw_below_drewN | apply below_drew1 | refine below_set ?_ GE953.out | refine below_set ?_ GE954.out | refine below_set ?_ GE955.out) | exact HB.out))) : w.heap.size ≤ gb957)); have n6_ := Aside0.mk ((by rw [hg]; exact (below_size (by repeat (first | (with_reducible first | exact HB.out | apply below_alloc | apply pw_below_drewN | apply below_drew1 | refine below_set ?_ GE953.out | refine below_set ?_ GE954.out | refine below_set ?_ GE955.out) | exact HB.out))) : w.heap.size ≤ gb957)); have n7_ := Aside0.mk ((by rw [hg]; exact Nat.ne_of_lt (blk_lt (g := gb953) (o := .cells #[.int .i64 a0_0, .int .i64 a0_1, .int .i64 a0_2] 66 (0, 0)) (by (with_reducible repeat (first | refine blk_drewN ?_ _ | refine blk_drew ?_ | refine blk_alloc ?_ _)); exact BK953.out)) : gb953 ≠ gb957)); have n8_ := Aside0.mk ((by rw [hg]; exact Nat.ne_of_gt (blk_lt (g := gb953) (o := .cells #[.int .i64 a0_0, .int .i64 a0_1, .int .i64 a0_2] 66 (0, 0)) (by (with_reducible repeat (first | refine blk_drewN ?_ _ | refine blk_drew ?_ | refine blk_alloc ?_ _)); exact BK953.out)) : gb957 ≠ gb953)); have n9_ := Aside0.mk ((by rw [hg]; exact Nat.ne_of_lt (blk_lt (g := gb954) (o := .cells #[.int .i64 a1_0, .int .i64 a1_1, .int .i64 a1_2] 66 (0, 0)) (by (with_reducible repeat (first | refine blk_drewN ?_ _ | refine blk_drew ?_ | refine blk_alloc ?_ _)); exact BK954.out)) : gb954 ≠ gb957)); have n10_ := Aside0.mk ((by rw [hg]; exact Nat.ne_of_gt (blk_lt (g := gb954) (o := .cells #[.int .i64 a1_0, .int .i64 a1_1, .int .i64 a1_2] 66 (0, 0)) (by (with_reducible repeat (first | refine blk_drewN ?_ _ | refine blk_drew ?_ | refine blk_alloc ?_ _)); exact BK954.out)) : gb957 ≠ gb954)); have n11_ := Aside0.mk ((by rw [hg]; exact Nat.ne_of_lt (blk_lt (g := gb955) (o := .cells #[.int .i64 x956000_2, .int .i64 x956001_2, .int .i64 x956002_2] 66 (0, 0)) (by (with_reducible repeat (first | refine blk_drewN ?_ _ | refine blk_drew ?_ | refine blk_alloc ?_ _)); exact BK955.out)) : gb955 ≠ gb957)); have n12_ := Aside0.mk ((by rw [hg]; exact Nat.ne_of_gt (blk_lt (g := gb955) (o := .cells #[.int .i64 x956000_2, .int .i64 x956001_2, .int .i64 x956002_2] 66 (0, 0)) (by (with_reducible repeat (first | refine blk_drewN ?_ _ | refine blk_drew ?_ | refine blk_alloc ?_ _)); exact BK955.out)) : gb957 ≠ gb955)); clear BK953; clear BK954; clear BK955; clear HB; have BK953 := n0_; have BK954 := n1_; have BK955 := n2_; have HB := n3_; have BK957 := n4_; have GW957 := n5_; have GE957 := n6_; have NB953_957 := n7_; have NB957_953 := n8_; have NB954_957 := n9_; have NB957_954 := n10_; have NB955_957 := n11_; have NB957_955 := n12_; clear n0_ n1_ n2_ n3_ n4_ n5_ n6_ n7_ n8_ n9_ n10_ n11_ n12_; clear hb hbox hg; have hnb16 := NB957_953.out; have hnc16 := NB953_957.out; have hnb17 := NB957_954.out; have hnc17 := NB954_957.out; have hnb18 := NB957_955.out; have hnc18 := NB955_957.out; have hcz19_0 : w15.cell? ⟨gb957, 0, none⟩ = some (.int .i64 0) := (blk_cell BK957.out 0).trans rfl; have hcz19_1 : w15.cell? ⟨gb957, 1, none⟩ = some (.int .i64 0) := (blk_cell BK957.out 1).trans rfl; have hfz19_0 := blk_frozen BK957.out 0; have hfz19_1 := blk_frozen BK957.out 1; have hnb20 := NB953_954.out; have hnc20 := NB954_953.out; have hnb21 := NB953_955.out; have hnc21 := NB955_953.out; have hcz22_0 : w15.cell? ⟨gb953, 0, none⟩ = some (.int .i64 a0_0) := (blk_cell BK953.out 0).trans rfl; have hcz22_1 : w15.cell? ⟨gb953, 1, none⟩ = some (.int .i64 a0_1) := (blk_cell BK953.out 1).trans rfl; have hcz22_2 : w15.cell? ⟨gb953, 2, none⟩ = some (.int .i64 a0_2) := (blk_cell BK953.out 2).trans rfl; have hfz22_0 := blk_frozen BK953.out 0; have hfz22_1 := blk_frozen BK953.out 1; have hfz22_2 := blk_frozen BK953.out 2) | ((with_reducible refine gate_callee (f := 180) rfl ?_); refine goesL_ (some 31) rfl rfl Try.func180 (by kernel_rfl) rfl #[.agg #[.int .i64 a0_0, .int .i64 a0_1, .int .i64 a0_2], .agg #[.int .i64 x23_2, .int .i64 x6_1]] rfl (by (try simp only [List.map_toArray, List.map_cons, List.map_nil]); first | done | rfl | (simp only [List.length_drop, List.length_take]; rfl)) ?_; (with_reducible refine (impl_Lattice_has.calls a0_0 a0_1 a0_2 x23_2 x6_1 true _ A11.out).mono ?_); rintro e w23 ⟨rfl, hb⟩; refine ⟨_, rfl, ?_⟩; have n0_ := Aside0.mk (blk_below (g := gb953) (o := .cells #[.int .i64 a0_0, .int .i64 a0_1, .int .i64 a0_2] 66 (0, 0)) (by (with_reducible repeat (first | refine blk_drewN ?_ _ | refine blk_drew ?_ | refine blk_alloc ?_ _)); refine blk_far ?_ NB953_957.out _; (with_reducible repeat (first | refine blk_drewN ?_ _ | refine blk_drew ?_ | refine blk_alloc ?_ _)); refine blk_far ?_ NB953_957.out _; (with_reducible repeat (first | refine blk_drewN ?_ _ | refine blk_drew ?_ | refine blk_alloc ?_ _)); exact BK953.out) hb); have n1_ := Aside0.mk (blk_below (g := gb954) (o := .cells #[.int .i64 a1_0, .int .i64 a1_1, .int .i64 a1_2] 66 (0, 0)) (by (with_reducible repeat (first | refine blk_drewN ?_ _ | refine blk_drew ?_ | refine blk_alloc ?_ _)); refine blk_far ?_ NB954_957.out _; (with_reducible repeat (first | refine blk_drewN ?_ _ | refine blk_drew ?_ | refine blk_alloc ?_ _)); refine blk_far ?_ NB954_957.out _; (with_reducible repeat (first | refine blk_drewN ?_ _ | refine blk_drew ?_ | refine blk_alloc ?_ _)); exact BK954.out) hb); have n2_ := Aside0.mk (blk_below (g := gb955) (o := .cells #[.int .i64 x956000_2, .int .i64 x956001_2, .int .i64 x956002_2] 66 (0, 0)) (by (with_reducible repeat (first | refine blk_drewN ?_ _ | refine blk_drew ?_ | refine blk_alloc ?_ _)); refine blk_far ?_ NB955_957.out _; (with_reducible repeat (first | refine blk_drewN ?_ _ | refine blk_drew ?_ | refine blk_alloc ?_ _)); refine blk_far ?_ NB955_957.out _; (with_reducible repeat (first | refine blk_drewN ?_ _ | refine blk_drew ?_ | refine blk_alloc ?_ _)); exact BK955.out) hb); have n3_ := Aside0.mk (blk_below (g := gb957) (o := .cells #[.int .i64 x23_2, .int .i64 x6_1] 25 (0, 0)) (by (with_reducible repeat (first | refine blk_drewN ?_ _ | refine blk_drew ?_ | refine blk_alloc ?_ _)); refine blk_put (cs := #[.int .i64 x23_2, .int .i64 0]) ?_ 1 _ rfl; (with_reducible repeat (first | refine blk_drewN ?_ _ | refine blk_drew ?_ | refine blk_alloc ?_ _)); refine blk_put (cs := #[.int .i64 0, .int .i64 0]) ?_ 0 _ rfl; (with_reducible repeat (first | refine blk_drewN ?_ _ | refine blk_drew ?_ | refine blk_alloc ?_ _)); exact BK957.out) hb); have n4_ := Aside0.mk (below_step (by repeat (first | (with_reducible first | exact HB.out | apply below_alloc | apply pw_below_drewN | apply below_drew1 | refine below_set ?_ GE953.out | refine below_set ?_ GE954.out | refine below_set ?_ GE955.out | refine below_set ?_ GE957.out) | exact HB.out)) hb); clear BK953; clear BK954; clear BK955; clear BK957; clear HB; have BK953 := n0_; have BK954 := n1_; have BK955 := n2_; have BK957 := n3_; have HB := n4_; clear n0_ n1_ n2_ n3_ n4_; (try clear hb); (try clear hb2); (try clear hk); (try clear hi); have hnb24 := NB954_955.out; have hnc24 := NB955_954.out; have hcz25_0 : w23.cell? ⟨gb954, 0, none⟩ = some (.int .i64 a1_0) := (blk_cell BK954.out 0).trans rfl; have hcz25_1 : w23.cell? ⟨gb954, 1, none⟩ = some (.int .i64 a1_1) := (blk_cell BK954.out 1).trans rfl; have hcz25_2 : w23.cell? ⟨gb954, 2, none⟩ = some (.int .i64 a1_2) := (blk_cell BK954.out 2).trans rfl; have hfz25_0 := blk_frozen BK954.out 0; have hfz25_1 := blk_frozen BK954.out 1; have hfz25_2 := blk_frozen BK954.out 2; have hcz26_0 : w23.cell? ⟨gb957, 0, none⟩ = some (.int .i64 x23_2) := (blk_cell BK957.out 0).trans rfl; have hcz26_1 : w23.cell? ⟨gb957, 1, none⟩ = some (.int .i64 x6_1) := (blk_cell BK957.out 1).trans rfl; have hfz26_0 := blk_frozen BK957.out 0; have hfz26_1 := blk_frozen BK957.out 1) | (go_at_call 180; (with_reducible refine (impl_Lattice_has.calls a1_0 a1_1 a1_2 x23_2 x6_1 true _ A13.out).mono ?_); rintro e w27 ⟨rfl, hb⟩; have n0_ := Aside0.mk (blk_below (g := gb953) (o := .cells #[.int .i64 a0_0, .int .i64 a0_1, .int .i64 a0_2] 66 (0, 0)) (by (with_reducible repeat (first | refine blk_drewN ?_ _ | refine blk_drew ?_ | refine blk_alloc ?_ _)); exact BK953.out) hb); have n1_ := Aside0.mk (blk_below (g := gb954) (o := .cells #[.int .i64 a1_0, .int .i64 a1_1, .int .i64 a1_2] 66 (0, 0)) (by (with_reducible repeat (first | refine blk_drewN ?_ _ | refine blk_drew ?_ | refine blk_alloc ?_ _)); exact BK954.out) hb); have n2_ := Aside0.mk (blk_below (g := gb955) (o := .cells #[.int .i64 x956000_2, .int .i64 x956001_2, .int .i64 x956002_2] 66 (0, 0)) (by (with_reducible repeat (first | refine blk_drewN ?_ _ | refine blk_drew ?_ | refine blk_alloc ?_ _)); exact BK955.out) hb); have n3_ := Aside0.mk (blk_below (g := gb957) (o := .cells #[.int .i64 x23_2, .int .i64 x6_1] 25 (0, 0)) (by (with_reducible repeat (first | refine blk_drewN ?_ _ | refine blk_drew ?_ | refine blk_alloc ?_ _)); exact BK957.out) hb); have n4_ := Aside0.mk (below_step (by repeat (first | (with_reducible first | exact HB.out | apply below_alloc | apply pw_below_drewN | apply below_drew1 | refine below_set ?_ GE953.out | refine below_set ?_ GE954.out | refine below_set ?_ GE955.out | refine below_set ?_ GE957.out) | exact HB.out)) hb); clear BK953; clear BK954; clear BK955; clear BK957; clear HB; have BK953 := n0_; have BK954 := n1_; have BK955 := n2_; have BK957 := n3_; have HB := n4_; clear n0_ n1_ n2_ n3_ n4_; (try clear hb); (try clear hb2); (try clear hk); (try clear hi); have hcz28_0 : w27.cell? ⟨gb955, 0, none⟩ = some (.int .i64 x956000_2) := (blk_cell BK955.out 0).trans rfl; have hcz28_1 : w27.cell? ⟨gb955, 1, none⟩ = some (.int .i64 x956001_2) := (blk_cell BK955.out 1).trans rfl; have hcz28_2 : w27.cell? ⟨gb955, 2, none⟩ = some (.int .i64 x956002_2) := (blk_cell BK955.out 2).trans rfl; have hfz28_0 := blk_frozen BK955.out 0; have hfz28_1 := blk_frozen BK955.out 1; have hfz28_2 := blk_frozen BK955.out 2))
                  refine bodyPost_ret (results_cell_row rfl _ _ gb955 66 #[.int .i64 (wrap64 ((wrap64 (Int.tdiv a0_0 t956)) * a1_0)), .int .i64 x23_2, .int .i64 x6_1] (0, 0) _ rfl (by (with_reducible repeat (first | refine blk_drewN ?_ _ | refine blk_drew ?_ | refine blk_alloc ?_ _)); refine blk_put (cs := #[.int .i64 (wrap64 ((wrap64 (Int.tdiv a0_0 t956)) * a1_0)), .int .i64 x23_2, .int .i64 x956002_2]) ?_ 2 _ rfl; (with_reducible repeat (first | refine blk_drewN ?_ _ | refine blk_drew ?_ | refine blk_alloc ?_ _)); refine blk_put (cs := #[.int .i64 (wrap64 ((wrap64 (Int.tdiv a0_0 t956)) * a1_0)), .int .i64 x956001_2, .int .i64 x956002_2]) ?_ 1 _ rfl; (with_reducible repeat (first | refine blk_drewN ?_ _ | refine blk_drew ?_ | refine blk_alloc ?_ _)); refine blk_put (cs := #[.int .i64 x956000_2, .int .i64 x956001_2, .int .i64 x956002_2]) ?_ 0 _ rfl; (with_reducible repeat (first | refine blk_drewN ?_ _ | refine blk_drew ?_ | refine blk_alloc ?_ _)); exact BK955.out) Try.underlying66 rfl (by kernel_rfl)) rfl ?_
                  exact ⟨by first | rfl | (simp [errW_none, errW_some] <;> rfl) | (simp [*, errW_none, errW_some] <;> rfl), by repeat (first | (with_reducible first | exact HB.out | apply below_alloc | apply pw_below_drewN | apply below_drew1 | refine below_set ?_ GE953.out | refine below_set ?_ GE954.out | refine below_set ?_ GE955.out | refine below_set ?_ GE957.out) | exact HB.out)⟩
                · replace c14 := Bool.eq_false_iff.mpr c14
                  subst c14
                  have H1 : (impl_meet.l1 k2 (wrap64 ((wrap64 (Int.tdiv a0_0 t956)) * a1_0)) x6_1 (wrap64 ((wrap64 (Int.tdiv a0_0 t956)) * a1_0)) (wrap64 (x23_2 + 1)) a0_0 a0_1 a0_2 a1_0 a1_1 a1_2) = some (r1, r2, r3) := by rw [if_neg (show ¬ (false = true) by decide)] at H; exact H
                  clear H
                  have H := H1
                  clear H1
                  have H' := Aside0.mk H
                  clear H
                  go_wp2_with (first | ((with_reducible refine gate_dst (N := 8) rfl ?_); refine box_event ?hg (N := 8) ?hd (cs := #[.int .i64 0, .int .i64 0]) (t := 25) ?hr ?_; (case hd => rfl); (case hg => rfl); (case hr => first | (go_simp; done) | (go_simp; rfl)); intro gb957 hg w29 hbox hb; have n0_ := Aside0.mk (blk_below (g := gb953) (o := .cells #[.int .i64 a0_0, .int .i64 a0_1, .int .i64 a0_2] 66 (0, 0)) (by (with_reducible repeat (first | refine blk_drewN ?_ _ | refine blk_drew ?_ | refine blk_alloc ?_ _)); exact BK953.out) hb); have n1_ := Aside0.mk (blk_below (g := gb954) (o := .cells #[.int .i64 a1_0, .int .i64 a1_1, .int .i64 a1_2] 66 (0, 0)) (by (with_reducible repeat (first | refine blk_drewN ?_ _ | refine blk_drew ?_ | refine blk_alloc ?_ _)); exact BK954.out) hb); have n2_ := Aside0.mk (blk_below (g := gb955) (o := .cells #[.int .i64 x956000_2, .int .i64 x956001_2, .int .i64 x956002_2] 66 (0, 0)) (by (with_reducible repeat (first | refine blk_drewN ?_ _ | refine blk_drew ?_ | refine blk_alloc ?_ _)); exact BK955.out) hb); have n3_ := Aside0.mk (below_step (by repeat (first | (with_reducible first | exact HB.out | apply below_alloc | apply pw_below_drewN | apply below_drew1 | refine below_set ?_ GE953.out | refine below_set ?_ GE954.out | refine below_set ?_ GE955.out) | exact HB.out)) hb); have n4_ := Aside0.mk (hbox); have n5_ := Aside0.mk ((by rw [hg]; exact (below_size (by repeat (first | (with_reducible first | exact HB.out | apply below_alloc | apply pw_below_drewN | apply below_drew1 | refine below_set ?_ GE953.out | refine below_set ?_ GE954.out | refine below_set ?_ GE955.out) | exact HB.out))) : w.heap.size ≤ gb957)); have n6_ := Aside0.mk ((by rw [hg]; exact (below_size (by repeat (first | (with_reducible first | exact HB.out | apply below_alloc | apply pw_below_drewN | apply below_drew1 | refine below_set ?_ GE953.out | refine below_set ?_ GE954.out | refine below_set ?_ GE955.out) | exact HB.out))) : w.heap.size ≤ gb957)); have n7_ := Aside0.mk ((by rw [hg]; exact Nat.ne_of_lt (blk_lt (g := gb953) (o := .cells #[.int .i64 a0_0, .int .i64 a0_1, .int .i64 a0_2] 66 (0, 0)) (by (with_reducible repeat (first | refine blk_drewN ?_ _ | refine blk_drew ?_ | refine blk_alloc ?_ _)); exact BK953.out)) : gb953 ≠ gb957)); have n8_ := Aside0.mk ((by rw [hg]; exact Nat.ne_of_gt (blk_lt (g := gb953) (o := .cells #[.int .i64 a0_0, .int .i64 a0_1, .int .i64 a0_2] 66 (0, 0)) (by (with_reducible repeat (first | refine blk_drewN ?_ _ | refine blk_drew ?_ | refine blk_alloc ?_ _)); exact BK953.out)) : gb957 ≠ gb953)); have n9_ := Aside0.mk ((by rw [hg]; exact Nat.ne_of_lt (blk_lt (g := gb954) (o := .cells #[.int .i64 a1_0, .int .i64 a1_1, .int .i64 a1_2] 66 (0, 0)) (by (with_reducible repeat (first | refine blk_drewN ?_ _ | refine blk_drew ?_ | refine blk_alloc ?_ _)); exact BK954.out)) : gb954 ≠ gb957)); have n10_ := Aside0.mk ((by rw [hg]; exact Nat.ne_of_gt (blk_lt (g := gb954) (o := .cells #[.int .i64 a1_0, .int .i64 a1_1, .int .i64 a1_2] 66 (0, 0)) (by (with_reducible repeat (first | refine blk_drewN ?_ _ | refine blk_drew ?_ | refine blk_alloc ?_ _)); exact BK954.out)) : gb957 ≠ gb954)); have n11_ := Aside0.mk ((by rw [hg]; exact Nat.ne_of_lt (blk_lt (g := gb955) (o := .cells #[.int .i64 x956000_2, .int .i64 x956001_2, .int .i64 x956002_2] 66 (0, 0)) (by (with_reducible repeat (first | refine blk_drewN ?_ _ | refine blk_drew ?_ | refine blk_alloc ?_ _)); exact BK955.out)) : gb955 ≠ gb957)); have n12_ := Aside0.mk ((by rw [hg]; exact Nat.ne_of_gt (blk_lt (g := gb955) (o := .cells #[.int .i64 x956000_2, .int .i64 x956001_2, .int .i64 x956002_2] 66 (0, 0)) (by (with_reducible repeat (first | refine blk_drewN ?_ _ | refine blk_drew ?_ | refine blk_alloc ?_ _)); exact BK955.out)) : gb957 ≠ gb955)); clear BK953; clear BK954; clear BK955; clear HB; have BK953 := n0_; have BK954 := n1_; have BK955 := n2_; have HB := n3_; have BK957 := n4_; have GW957 := n5_; have GE957 := n6_; have NB953_957 := n7_; have NB957_953 := n8_; have NB954_957 := n9_; have NB957_954 := n10_; have NB955_957 := n11_; have NB957_955 := n12_; clear n0_ n1_ n2_ n3_ n4_ n5_ n6_ n7_ n8_ n9_ n10_ n11_ n12_; clear hb hbox hg; have hnb30 := NB957_953.out; have hnc30 := NB953_957.out; have hnb31 := NB957_954.out; have hnc31 := NB954_957.out; have hnb32 := NB957_955.out; have hnc32 := NB955_957.out; have hcz33_0 : w29.cell? ⟨gb957, 0, none⟩ = some (.int .i64 0) := (blk_cell BK957.out 0).trans rfl; have hcz33_1 : w29.cell? ⟨gb957, 1, none⟩ = some (.int .i64 0) := (blk_cell BK957.out 1).trans rfl; have hfz33_0 := blk_frozen BK957.out 0; have hfz33_1 := blk_frozen BK957.out 1; have hnb34 := NB953_954.out; have hnc34 := NB954_953.out; have hnb35 := NB953_955.out; have hnc35 := NB955_953.out; have hcz36_0 : w29.cell? ⟨gb953, 0, none⟩ = some (.int .i64 a0_0) := (blk_cell BK953.out 0).trans rfl; have hcz36_1 : w29.cell? ⟨gb953, 1, none⟩ = some (.int .i64 a0_1) := (blk_cell BK953.out 1).trans rfl; have hcz36_2 : w29.cell? ⟨gb953, 2, none⟩ = some (.int .i64 a0_2) := (blk_cell BK953.out 2).trans rfl; have hfz36_0 := blk_frozen BK953.out 0; have hfz36_1 := blk_frozen BK953.out 1; have hfz36_2 := blk_frozen BK953.out 2) | ((with_reducible refine gate_callee (f := 180) rfl ?_); refine goesL_ (some 31) rfl rfl Try.func180 (by kernel_rfl) rfl #[.agg #[.int .i64 a0_0, .int .i64 a0_1, .int .i64 a0_2], .agg #[.int .i64 x23_2, .int .i64 x6_1]] rfl (by (try simp only [List.map_toArray, List.map_cons, List.map_nil]); first | done | rfl | (simp only [List.length_drop, List.length_take]; rfl)) ?_; (with_reducible refine (impl_Lattice_has.calls a0_0 a0_1 a0_2 x23_2 x6_1 true _ A11.out).mono ?_); rintro e w37 ⟨rfl, hb⟩; refine ⟨_, rfl, ?_⟩; have n0_ := Aside0.mk (blk_below (g := gb953) (o := .cells #[.int .i64 a0_0, .int .i64 a0_1, .int .i64 a0_2] 66 (0, 0)) (by (with_reducible repeat (first | refine blk_drewN ?_ _ | refine blk_drew ?_ | refine blk_alloc ?_ _)); refine blk_far ?_ NB953_957.out _; (with_reducible repeat (first | refine blk_drewN ?_ _ | refine blk_drew ?_ | refine blk_alloc ?_ _)); refine blk_far ?_ NB953_957.out _; (with_reducible repeat (first | refine blk_drewN ?_ _ | refine blk_drew ?_ | refine blk_alloc ?_ _)); exact BK953.out) hb); have n1_ := Aside0.mk (blk_below (g := gb954) (o := .cells #[.int .i64 a1_0, .int .i64 a1_1, .int .i64 a1_2] 66 (0, 0)) (by (with_reducible repeat (first | refine blk_drewN ?_ _ | refine blk_drew ?_ | refine blk_alloc ?_ _)); refine blk_far ?_ NB954_957.out _; (with_reducible repeat (first | refine blk_drewN ?_ _ | refine blk_drew ?_ | refine blk_alloc ?_ _)); refine blk_far ?_ NB954_957.out _; (with_reducible repeat (first | refine blk_drewN ?_ _ | refine blk_drew ?_ | refine blk_alloc ?_ _)); exact BK954.out) hb); have n2_ := Aside0.mk (blk_below (g := gb955) (o := .cells #[.int .i64 x956000_2, .int .i64 x956001_2, .int .i64 x956002_2] 66 (0, 0)) (by (with_reducible repeat (first | refine blk_drewN ?_ _ | refine blk_drew ?_ | refine blk_alloc ?_ _)); refine blk_far ?_ NB955_957.out _; (with_reducible repeat (first | refine blk_drewN ?_ _ | refine blk_drew ?_ | refine blk_alloc ?_ _)); refine blk_far ?_ NB955_957.out _; (with_reducible repeat (first | refine blk_drewN ?_ _ | refine blk_drew ?_ | refine blk_alloc ?_ _)); exact BK955.out) hb); have n3_ := Aside0.mk (blk_below (g := gb957) (o := .cells #[.int .i64 x23_2, .int .i64 x6_1] 25 (0, 0)) (by (with_reducible repeat (first | refine blk_drewN ?_ _ | refine blk_drew ?_ | refine blk_alloc ?_ _)); refine blk_put (cs := #[.int .i64 x23_2, .int .i64 0]) ?_ 1 _ rfl; (with_reducible repeat (first | refine blk_drewN ?_ _ | refine blk_drew ?_ | refine blk_alloc ?_ _)); refine blk_put (cs := #[.int .i64 0, .int .i64 0]) ?_ 0 _ rfl; (with_reducible repeat (first | refine blk_drewN ?_ _ | refine blk_drew ?_ | refine blk_alloc ?_ _)); exact BK957.out) hb); have n4_ := Aside0.mk (below_step (by repeat (first | (with_reducible first | exact HB.out | apply below_alloc | apply pw_below_drewN | apply below_drew1 | refine below_set ?_ GE953.out | refine below_set ?_ GE954.out | refine below_set ?_ GE955.out | refine below_set ?_ GE957.out) | exact HB.out)) hb); clear BK953; clear BK954; clear BK955; clear BK957; clear HB; have BK953 := n0_; have BK954 := n1_; have BK955 := n2_; have BK957 := n3_; have HB := n4_; clear n0_ n1_ n2_ n3_ n4_; (try clear hb); (try clear hb2); (try clear hk); (try clear hi); have hnb38 := NB954_955.out; have hnc38 := NB955_954.out; have hcz39_0 : w37.cell? ⟨gb954, 0, none⟩ = some (.int .i64 a1_0) := (blk_cell BK954.out 0).trans rfl; have hcz39_1 : w37.cell? ⟨gb954, 1, none⟩ = some (.int .i64 a1_1) := (blk_cell BK954.out 1).trans rfl; have hcz39_2 : w37.cell? ⟨gb954, 2, none⟩ = some (.int .i64 a1_2) := (blk_cell BK954.out 2).trans rfl; have hfz39_0 := blk_frozen BK954.out 0; have hfz39_1 := blk_frozen BK954.out 1; have hfz39_2 := blk_frozen BK954.out 2; have hcz40_0 : w37.cell? ⟨gb957, 0, none⟩ = some (.int .i64 x23_2) := (blk_cell BK957.out 0).trans rfl; have hcz40_1 : w37.cell? ⟨gb957, 1, none⟩ = some (.int .i64 x6_1) := (blk_cell BK957.out 1).trans rfl; have hfz40_0 := blk_frozen BK957.out 0; have hfz40_1 := blk_frozen BK957.out 1) | (go_at_call 180; (with_reducible refine (impl_Lattice_has.calls a1_0 a1_1 a1_2 x23_2 x6_1 false _ A13.out).mono ?_); rintro e w41 ⟨rfl, hb⟩; have n0_ := Aside0.mk (blk_below (g := gb953) (o := .cells #[.int .i64 a0_0, .int .i64 a0_1, .int .i64 a0_2] 66 (0, 0)) (by (with_reducible repeat (first | refine blk_drewN ?_ _ | refine blk_drew ?_ | refine blk_alloc ?_ _)); exact BK953.out) hb); have n1_ := Aside0.mk (blk_below (g := gb954) (o := .cells #[.int .i64 a1_0, .int .i64 a1_1, .int .i64 a1_2] 66 (0, 0)) (by (with_reducible repeat (first | refine blk_drewN ?_ _ | refine blk_drew ?_ | refine blk_alloc ?_ _)); exact BK954.out) hb); have n2_ := Aside0.mk (blk_below (g := gb955) (o := .cells #[.int .i64 x956000_2, .int .i64 x956001_2, .int .i64 x956002_2] 66 (0, 0)) (by (with_reducible repeat (first | refine blk_drewN ?_ _ | refine blk_drew ?_ | refine blk_alloc ?_ _)); exact BK955.out) hb); have n3_ := Aside0.mk (blk_below (g := gb957) (o := .cells #[.int .i64 x23_2, .int .i64 x6_1] 25 (0, 0)) (by (with_reducible repeat (first | refine blk_drewN ?_ _ | refine blk_drew ?_ | refine blk_alloc ?_ _)); exact BK957.out) hb); have n4_ := Aside0.mk (below_step (by repeat (first | (with_reducible first | exact HB.out | apply below_alloc | apply pw_below_drewN | apply below_drew1 | refine below_set ?_ GE953.out | refine below_set ?_ GE954.out | refine below_set ?_ GE955.out | refine below_set ?_ GE957.out) | exact HB.out)) hb); clear BK953; clear BK954; clear BK955; clear BK957; clear HB; have BK953 := n0_; have BK954 := n1_; have BK955 := n2_; have BK957 := n3_; have HB := n4_; clear n0_ n1_ n2_ n3_ n4_; (try clear hb); (try clear hb2); (try clear hk); (try clear hi)))
                  go_roundg k2
                  case measure => have := HK1.out; have := HK2.out; omega
                  case rel => exact ⟨(wrap64 (x23_2 + 1)), (x956000_2), (x956001_2), (x956002_2), (by first | rfl | (simp; done) | (simp [*]; done)), H', ⟨by have := HK1.out; have := HK2.out; omega⟩, ⟨by (with_reducible repeat (first | refine blk_drewN ?_ _ | refine blk_drew ?_ | refine blk_alloc ?_ _)); exact BK953.out⟩, ⟨by (with_reducible repeat (first | refine blk_drewN ?_ _ | refine blk_drew ?_ | refine blk_alloc ?_ _)); exact BK954.out⟩, ⟨by (with_reducible repeat (first | refine blk_drewN ?_ _ | refine blk_drew ?_ | refine blk_alloc ?_ _)); exact BK955.out⟩, ⟨by repeat (first | (with_reducible first | exact HB.out | apply below_alloc | apply pw_below_drewN | apply below_drew1 | refine below_set ?_ GE953.out | refine below_set ?_ GE954.out | refine below_set ?_ GE955.out | refine below_set ?_ GE957.out) | exact HB.out)⟩⟩
              · replace c12 := Bool.eq_false_iff.mpr c12
                subst c12
                have H1 : (impl_meet.l1 k2 (wrap64 ((wrap64 (Int.tdiv a0_0 t956)) * a1_0)) x6_1 (wrap64 ((wrap64 (Int.tdiv a0_0 t956)) * a1_0)) (wrap64 (x23_2 + 1)) a0_0 a0_1 a0_2 a1_0 a1_1 a1_2) = some (r1, r2, r3) := by rw [if_neg (show ¬ (false = true) by decide)] at H; exact H
                clear H
                have H := H1
                clear H1
                have H' := Aside0.mk H
                clear H
                go_wp2_with (first | ((with_reducible refine gate_dst (N := 8) rfl ?_); refine box_event ?hg (N := 8) ?hd (cs := #[.int .i64 0, .int .i64 0]) (t := 25) ?hr ?_; (case hd => rfl); (case hg => rfl); (case hr => first | (go_simp; done) | (go_simp; rfl)); intro gb957 hg w42 hbox hb; have n0_ := Aside0.mk (blk_below (g := gb953) (o := .cells #[.int .i64 a0_0, .int .i64 a0_1, .int .i64 a0_2] 66 (0, 0)) (by (with_reducible repeat (first | refine blk_drewN ?_ _ | refine blk_drew ?_ | refine blk_alloc ?_ _)); exact BK953.out) hb); have n1_ := Aside0.mk (blk_below (g := gb954) (o := .cells #[.int .i64 a1_0, .int .i64 a1_1, .int .i64 a1_2] 66 (0, 0)) (by (with_reducible repeat (first | refine blk_drewN ?_ _ | refine blk_drew ?_ | refine blk_alloc ?_ _)); exact BK954.out) hb); have n2_ := Aside0.mk (blk_below (g := gb955) (o := .cells #[.int .i64 x956000_2, .int .i64 x956001_2, .int .i64 x956002_2] 66 (0, 0)) (by (with_reducible repeat (first | refine blk_drewN ?_ _ | refine blk_drew ?_ | refine blk_alloc ?_ _)); exact BK955.out) hb); have n3_ := Aside0.mk (below_step (by repeat (first | (with_reducible first | exact HB.out | apply below_alloc | apply pw_below_drewN | apply below_drew1 | refine below_set ?_ GE953.out | refine below_set ?_ GE954.out | refine below_set ?_ GE955.out) | exact HB.out)) hb); have n4_ := Aside0.mk (hbox); have n5_ := Aside0.mk ((by rw [hg]; exact (below_size (by repeat (first | (with_reducible first | exact HB.out | apply below_alloc | apply pw_below_drewN | apply below_drew1 | refine below_set ?_ GE953.out | refine below_set ?_ GE954.out | refine below_set ?_ GE955.out) | exact HB.out))) : w.heap.size ≤ gb957)); have n6_ := Aside0.mk ((by rw [hg]; exact (below_size (by repeat (first | (with_reducible first | exact HB.out | apply below_alloc | apply pw_below_drewN | apply below_drew1 | refine below_set ?_ GE953.out | refine below_set ?_ GE954.out | refine below_set ?_ GE955.out) | exact HB.out))) : w.heap.size ≤ gb957)); have n7_ := Aside0.mk ((by rw [hg]; exact Nat.ne_of_lt (blk_lt (g := gb953) (o := .cells #[.int .i64 a0_0, .int .i64 a0_1, .int .i64 a0_2] 66 (0, 0)) (by (with_reducible repeat (first | refine blk_drewN ?_ _ | refine blk_drew ?_ | refine blk_alloc ?_ _)); exact BK953.out)) : gb953 ≠ gb957)); have n8_ := Aside0.mk ((by rw [hg]; exact Nat.ne_of_gt (blk_lt (g := gb953) (o := .cells #[.int .i64 a0_0, .int .i64 a0_1, .int .i64 a0_2] 66 (0, 0)) (by (with_reducible repeat (first | refine blk_drewN ?_ _ | refine blk_drew ?_ | refine blk_alloc ?_ _)); exact BK953.out)) : gb957 ≠ gb953)); have n9_ := Aside0.mk ((by rw [hg]; exact Nat.ne_of_lt (blk_lt (g := gb954) (o := .cells #[.int .i64 a1_0, .int .i64 a1_1, .int .i64 a1_2] 66 (0, 0)) (by (with_reducible repeat (first | refine blk_drewN ?_ _ | refine blk_drew ?_ | refine blk_alloc ?_ _)); exact BK954.out)) : gb954 ≠ gb957)); have n10_ := Aside0.mk ((by rw [hg]; exact Nat.ne_of_gt (blk_lt (g := gb954) (o := .cells #[.int .i64 a1_0, .int .i64 a1_1, .int .i64 a1_2] 66 (0, 0)) (by (with_reducible repeat (first | refine blk_drewN ?_ _ | refine blk_drew ?_ | refine blk_alloc ?_ _)); exact BK954.out)) : gb957 ≠ gb954)); have n11_ := Aside0.mk ((by rw [hg]; exact Nat.ne_of_lt (blk_lt (g := gb955) (o := .cells #[.int .i64 x956000_2, .int .i64 x956001_2, .int .i64 x956002_2] 66 (0, 0)) (by (with_reducible repeat (first | refine blk_drewN ?_ _ | refine blk_drew ?_ | refine blk_alloc ?_ _)); exact BK955.out)) : gb955 ≠ gb957)); have n12_ := Aside0.mk ((by rw [hg]; exact Nat.ne_of_gt (blk_lt (g := gb955) (o := .cells #[.int .i64 x956000_2, .int .i64 x956001_2, .int .i64 x956002_2] 66 (0, 0)) (by (with_reducible repeat (first | refine blk_drewN ?_ _ | refine blk_drew ?_ | refine blk_alloc ?_ _)); exact BK955.out)) : gb957 ≠ gb955)); clear BK953; clear BK954; clear BK955; clear HB; have BK953 := n0_; have BK954 := n1_; have BK955 := n2_; have HB := n3_; have BK957 := n4_; have GW957 := n5_; have GE957 := n6_; have NB953_957 := n7_; have NB957_953 := n8_; have NB954_957 := n9_; have NB957_954 := n10_; have NB955_957 := n11_; have NB957_955 := n12_; clear n0_ n1_ n2_ n3_ n4_ n5_ n6_ n7_ n8_ n9_ n10_ n11_ n12_; clear hb hbox hg; have hnb43 := NB957_953.out; have hnc43 := NB953_957.out; have hnb44 := NB957_954.out; have hnc44 := NB954_957.out; have hnb45 := NB957_955.out; have hnc45 := NB955_957.out; have hcz46_0 : w42.cell? ⟨gb957, 0, none⟩ = some (.int .i64 0) := (blk_cell BK957.out 0).trans rfl; have hcz46_1 : w42.cell? ⟨gb957, 1, none⟩ = some (.int .i64 0) := (blk_cell BK957.out 1).trans rfl; have hfz46_0 := blk_frozen BK957.out 0; have hfz46_1 := blk_frozen BK957.out 1; have hnb47 := NB953_954.out; have hnc47 := NB954_953.out; have hnb48 := NB953_955.out; have hnc48 := NB955_953.out; have hcz49_0 : w42.cell? ⟨gb953, 0, none⟩ = some (.int .i64 a0_0) := (blk_cell BK953.out 0).trans rfl; have hcz49_1 : w42.cell? ⟨gb953, 1, none⟩ = some (.int .i64 a0_1) := (blk_cell BK953.out 1).trans rfl; have hcz49_2 : w42.cell? ⟨gb953, 2, none⟩ = some (.int .i64 a0_2) := (blk_cell BK953.out 2).trans rfl; have hfz49_0 := blk_frozen BK953.out 0; have hfz49_1 := blk_frozen BK953.out 1; have hfz49_2 := blk_frozen BK953.out 2) | ((with_reducible refine gate_callee (f := 180) rfl ?_); refine goesL_ (some 31) rfl rfl Try.func180 (by kernel_rfl) rfl #[.agg #[.int .i64 a0_0, .int .i64 a0_1, .int .i64 a0_2], .agg #[.int .i64 x23_2, .int .i64 x6_1]] rfl (by (try simp only [List.map_toArray, List.map_cons, List.map_nil]); first | done | rfl | (simp only [List.length_drop, List.length_take]; rfl)) ?_; (with_reducible refine (impl_Lattice_has.calls a0_0 a0_1 a0_2 x23_2 x6_1 false _ A11.out).mono ?_); rintro e w50 ⟨rfl, hb⟩; refine ⟨_, rfl, ?_⟩; have n0_ := Aside0.mk (blk_below (g := gb953) (o := .cells #[.int .i64 a0_0, .int .i64 a0_1, .int .i64 a0_2] 66 (0, 0)) (by (with_reducible repeat (first | refine blk_drewN ?_ _ | refine blk_drew ?_ | refine blk_alloc ?_ _)); refine blk_far ?_ NB953_957.out _; (with_reducible repeat (first | refine blk_drewN ?_ _ | refine blk_drew ?_ | refine blk_alloc ?_ _)); refine blk_far ?_ NB953_957.out _; (with_reducible repeat (first | refine blk_drewN ?_ _ | refine blk_drew ?_ | refine blk_alloc ?_ _)); exact BK953.out) hb); have n1_ := Aside0.mk (blk_below (g := gb954) (o := .cells #[.int .i64 a1_0, .int .i64 a1_1, .int .i64 a1_2] 66 (0, 0)) (by (with_reducible repeat (first | refine blk_drewN ?_ _ | refine blk_drew ?_ | refine blk_alloc ?_ _)); refine blk_far ?_ NB954_957.out _; (with_reducible repeat (first | refine blk_drewN ?_ _ | refine blk_drew ?_ | refine blk_alloc ?_ _)); refine blk_far ?_ NB954_957.out _; (with_reducible repeat (first | refine blk_drewN ?_ _ | refine blk_drew ?_ | refine blk_alloc ?_ _)); exact BK954.out) hb); have n2_ := Aside0.mk (blk_below (g := gb955) (o := .cells #[.int .i64 x956000_2, .int .i64 x956001_2, .int .i64 x956002_2] 66 (0, 0)) (by (with_reducible repeat (first | refine blk_drewN ?_ _ | refine blk_drew ?_ | refine blk_alloc ?_ _)); refine blk_far ?_ NB955_957.out _; (with_reducible repeat (first | refine blk_drewN ?_ _ | refine blk_drew ?_ | refine blk_alloc ?_ _)); refine blk_far ?_ NB955_957.out _; (with_reducible repeat (first | refine blk_drewN ?_ _ | refine blk_drew ?_ | refine blk_alloc ?_ _)); exact BK955.out) hb); have n3_ := Aside0.mk (blk_below (g := gb957) (o := .cells #[.int .i64 x23_2, .int .i64 x6_1] 25 (0, 0)) (by (with_reducible repeat (first | refine blk_drewN ?_ _ | refine blk_drew ?_ | refine blk_alloc ?_ _)); refine blk_put (cs := #[.int .i64 x23_2, .int .i64 0]) ?_ 1 _ rfl; (with_reducible repeat (first | refine blk_drewN ?_ _ | refine blk_drew ?_ | refine blk_alloc ?_ _)); refine blk_put (cs := #[.int .i64 0, .int .i64 0]) ?_ 0 _ rfl; (with_reducible repeat (first | refine blk_drewN ?_ _ | refine blk_drew ?_ | refine blk_alloc ?_ _)); exact BK957.out) hb); have n4_ := Aside0.mk (below_step (by repeat (first | (with_reducible first | exact HB.out | apply below_alloc | apply pw_below_drewN | apply below_drew1 | refine below_set ?_ GE953.out | refine below_set ?_ GE954.out | refine below_set ?_ GE955.out | refine below_set ?_ GE957.out) | exact HB.out)) hb); clear BK953; clear BK954; clear BK955; clear BK957; clear HB; have BK953 := n0_; have BK954 := n1_; have BK955 := n2_; have BK957 := n3_; have HB := n4_; clear n0_ n1_ n2_ n3_ n4_; (try clear hb); (try clear hb2); (try clear hk); (try clear hi)))
                go_roundg k2
                case measure => have := HK1.out; have := HK2.out; omega
                case rel => exact ⟨(wrap64 (x23_2 + 1)), (x956000_2), (x956001_2), (x956002_2), (by first | rfl | (simp; done) | (simp [*]; done)), H', ⟨by have := HK1.out; have := HK2.out; omega⟩, ⟨by (with_reducible repeat (first | refine blk_drewN ?_ _ | refine blk_drew ?_ | refine blk_alloc ?_ _)); exact BK953.out⟩, ⟨by (with_reducible repeat (first | refine blk_drewN ?_ _ | refine blk_drew ?_ | refine blk_alloc ?_ _)); exact BK954.out⟩, ⟨by (with_reducible repeat (first | refine blk_drewN ?_ _ | refine blk_drew ?_ | refine blk_alloc ?_ _)); exact BK955.out⟩, ⟨by repeat (first | (with_reducible first | exact HB.out | apply below_alloc | apply pw_below_drewN | apply below_drew1 | refine below_set ?_ GE953.out | refine below_set ?_ GE954.out | refine below_set ?_ GE955.out | refine below_set ?_ GE957.out) | exact HB.out)⟩⟩
            · rw [if_neg c10] at H
              have c10b0 : decide (x23_2 < (wrap64 ((wrap64 (Int.tdiv a0_0 t956)) * a1_0))) = false := decide_eq_false c10
              clear c10
              have H' := Aside0.mk H
              clear H
              go_wp2
              go_roundg k2
              case measure => have := HK1.out; have := HK2.out; omega
              case rel => exact ⟨(wrap64 (x6_1 + 1)), (x956000_2), (x956001_2), (x956002_2), (by first | rfl | (simp; done) | (simp [*]; done)), H', ⟨by have := HK1.out; have := HK2.out; omega⟩, ⟨by (with_reducible repeat (first | refine blk_drewN ?_ _ | refine blk_drew ?_ | refine blk_alloc ?_ _)); exact BK953.out⟩, ⟨by (with_reducible repeat (first | refine blk_drewN ?_ _ | refine blk_drew ?_ | refine blk_alloc ?_ _)); exact BK954.out⟩, ⟨by (with_reducible repeat (first | refine blk_drewN ?_ _ | refine blk_drew ?_ | refine blk_alloc ?_ _)); exact BK955.out⟩, ⟨by repeat (first | (with_reducible first | exact HB.out | apply below_alloc | apply pw_below_drewN | apply below_drew1 | refine below_set ?_ GE953.out | refine below_set ?_ GE954.out | refine below_set ?_ GE955.out) | exact HB.out)⟩⟩

end Go.Proofs.Ytjjbjaagfjljnaa.F

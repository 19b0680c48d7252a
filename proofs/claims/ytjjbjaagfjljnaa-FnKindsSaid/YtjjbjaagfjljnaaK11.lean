import Derived.Test.YtjjbjaagfjljnaaK0
import Derived.Test.YtjjbjaagfjljnaaK1
import Derived.Test.YtjjbjaagfjljnaaK2
import Derived.Test.YtjjbjaagfjljnaaK5
import Derived.Test.YtjjbjaagfjljnaaK7
namespace Go.Proofs.Ytjjbjaagfjljnaa.F
open Go.RowKit Go.Proofs.YtjjbjaagfjljnaaW.PrintWords Go.Proofs.YtjjbjaagfjljnaaW.PrintLast Go.Proofs.YtjjbjaagfjljnaaW.PrintMore
attribute [local go_sem] max2_int min2_int max_two min_two max_three min_three max_four min_four   -- for this text's walks alone
set_option linter.unusedVariables false
set_option linter.unusedSimpArgs false

def impl_Motion_times.f (a0_0 : Int) (a0_1 : Int) (a0_2 : Int) (a0_3 : Int) (a0_4 : Int) (a0_5 : Int) (a1_0 : Int) (a1_1 : Int) (a1_2 : Int) (a1_3 : Int) (a1_4 : Int) (a1_5 : Int) : Option (Int × Int × Int × Int × Int × Int) := (impl_Mat_times.f a0_0 a0_1 a0_2 a0_3 a1_0 a1_1 a1_2 a1_3).bind fun bt1581 => ((impl_Mat_apply.f a0_0 a0_1 a0_2 a0_3 a1_4 a1_5).bind fun bt1585 => ((impl_Vec_add.f bt1585.1 bt1585.2 a0_4 a0_5).bind fun bt1587 => (some (bt1581.1, bt1581.2.1, bt1581.2.2.1, bt1581.2.2.2, bt1587.1, bt1587.2))))
def impl_Motion_times.T1 : Bool × List (List Nat × List Nat) := (true, [([], []), ([0], [0]), ([], []), ([2], [2]), ([1, 3], [1, 3]), ([], []), ([5], [5]), ([], []), ([7], [7]), ([6, 8, 4], [6, 8]), ([], []), ([10], [10]), ([9, 11, 9], [9, 11]), ([4, 12], [4, 12]), ([13, 12, 0, 1, 2, 3, 4, 5, 6, 7, 8, 9, 10, 11, 12, 13], [13])])
def impl_Motion_times.B1 : List Nat := [0, 1, 0, 4, 15, 0, 32, 0, 128, 511, 0, 1024, 4095, 8191, 16383]
theorem impl_Motion_times.tab1 : rtab .any (opsOf Try.f184 1) = impl_Motion_times.T1 := by kernel_rfl
theorem impl_Motion_times.bits1 : waitsOk impl_Motion_times.T1.2 impl_Motion_times.B1 = true := by kernel_rfl
set_option maxHeartbeats 40000000 in
set_option maxRecDepth 100000 in
theorem impl_Motion_times.calls (a0_0 : Int) (a0_1 : Int) (a0_2 : Int) (a0_3 : Int) (a0_4 : Int) (a0_5 : Int) (a1_0 : Int) (a1_1 : Int) (a1_2 : Int) (a1_3 : Int) (a1_4 : Int) (a1_5 : Int) (r1 : Int) (r2 : Int) (r3 : Int) (r4 : Int) (r5 : Int) (r6 : Int) (w : World) (h : impl_Motion_times.f a0_0 a0_1 a0_2 a0_3 a0_4 a0_5 a1_0 a1_1 a1_2 a1_3 a1_4 a1_5 = some (r1, r2, r3, r4, r5, r6)) :
  Calls Try.prog 184 #[.agg #[.int .i64 a0_0, .int .i64 a0_1, .int .i64 a0_2, .int .i64 a0_3, .int .i64 a0_4, .int .i64 a0_5], .agg #[.int .i64 a1_0, .int .i64 a1_1, .int .i64 a1_2, .int .i64 a1_3, .int .i64 a1_4, .int .i64 a1_5]] w fun e w' => e = .returned (.agg #[.int .i64 r1, .int .i64 r2, .int .i64 r3, .int .i64 r4, .int .i64 r5, .int .i64 r6]) ∧ Below w.heap.size w w' := by
 have hu84 := Try.underlying84
 have hu51 := Try.underlying51
 have hu25 := Try.underlying25
 have HB := aM (Below.refl w.heap.size w)
 have H : ((impl_Mat_times.f a0_0 a0_1 a0_2 a0_3 a1_0 a1_1 a1_2 a1_3).bind fun bt1581 => ((impl_Mat_apply.f a0_0 a0_1 a0_2 a0_3 a1_4 a1_5).bind fun bt1585 => ((impl_Vec_add.f bt1585.1 bt1585.2 a0_4 a0_5).bind fun bt1587 => (some (bt1581.1, bt1581.2.1, bt1581.2.2.1, bt1581.2.2.2, bt1587.1, bt1587.2))))) = some (r1, r2, r3, r4, r5, r6) := h
 clear h
 replace H := Option.bind_eq_some_iff.mp H
 obtain ⟨⟨t1581, t1582, t1583, t1584⟩, A30, H⟩ := H
 try dsimp only at H
 have A3 := aM A30
 clear A30
 replace H := Option.bind_eq_some_iff.mp H
 obtain ⟨⟨t1585, t1586⟩, A40, H⟩ := H
 try dsimp only at H
 have A4 := aM A40
 clear A40
 replace H := Option.bind_eq_some_iff.mp H
 obtain ⟨⟨t1587, t1588⟩, A50, H⟩ := H
 try dsimp only at H
 have A5 := aM A50
 clear A50
 simp only [Option.some.injEq, Prod.mk.injEq] at H
 obtain ⟨rfl, rfl, rfl, rfl, rfl, rfl⟩ := H
 go_enter Try.func184, Try.ntmps184
 try go_wp2_with (first | ((with_reducible refine gate_dst (N := 2) rfl ?_); refine box_event ?hg (N := 2) ?hd (cs := #[.int .i64 a0_0, .int .i64 a0_1, .int .i64 a0_2, .int .i64 a0_3, .int .i64 a0_4, .int .i64 a0_5]) (t := 84) ?hr ?_; (case hd => rfl); (case hg => rfl); (case hr => first | (go_simp; done) | (go_simp; rfl)); intro gb1578 hg w6 hbox hb; have n0_ := aM (below_step (by repeat (first | (with_reducible first | exact HB.out | apply bA|apply bN|apply b1) | exact HB.out)) hb); have n1_ := aM (hbox); have n2_ := aM ((by rw [hg]; exact (below_size (by repeat (first | (with_reducible first | exact HB.out | apply bA|apply bN|apply b1) | exact HB.out))) : w.heap.size ≤ gb1578)); have n3_ := aM ((by rw [hg]; exact (below_size (by repeat (first | (with_reducible first | exact HB.out | apply bA|apply bN|apply b1) | exact HB.out))) : w.heap.size ≤ gb1578)); clear HB; have HB := n0_; have BK1578 := n1_; have GW1578 := n2_; have GE1578 := n3_; clear n0_ n1_ n2_ n3_; clear hb hbox hg) | ((with_reducible refine gate_dst (N := 3) rfl ?_); refine box_event ?hg (N := 3) ?hd (cs := #[.int .i64 a1_0, .int .i64 a1_1, .int .i64 a1_2, .int .i64 a1_3, .int .i64 a1_4, .int .i64 a1_5]) (t := 84) ?hr ?_; (case hd => rfl); (case hg => rfl); (case hr => first | (go_simp; done) | (go_simp; rfl)); intro gb1579 hg w7 hbox hb; have n0_ := aM (blk_below (g := gb1578) (o := .cells #[.int .i64 a0_0, .int .i64 a0_1, .int .i64 a0_2, .int .i64 a0_3, .int .i64 a0_4, .int .i64 a0_5] 84 (0, 0)) (by (with_reducible repeat (first|apply kN|apply kD|apply kA)); exact BK1578.out) hb); have n1_ := aM (below_step (by repeat (first | (with_reducible first | exact HB.out | apply bA|apply bN|apply b1 | refine below_set ?_ GE1578.out) | exact HB.out)) hb); have n2_ := aM (hbox); have n3_ := aM ((by rw [hg]; exact (below_size (by repeat (first | (with_reducible first | exact HB.out | apply bA|apply bN|apply b1 | refine below_set ?_ GE1578.out) | exact HB.out))) : w.heap.size ≤ gb1579)); have n4_ := aM ((by rw [hg]; exact (below_size (by repeat (first | (with_reducible first | exact HB.out | apply bA|apply bN|apply b1 | refine below_set ?_ GE1578.out) | exact HB.out))) : w.heap.size ≤ gb1579)); have n5_ := aM ((by rw [hg]; exact Nat.ne_of_lt (blk_lt (g := gb1578) (o := .cells #[.int .i64 a0_0, .int .i64 a0_1, .int .i64 a0_2, .int .i64 a0_3, .int .i64 a0_4, .int .i64 a0_5] 84 (0, 0)) (by (with_reducible repeat (first|apply kN|apply kD|apply kA)); exact BK1578.out)) : gb1578 ≠ gb1579)); have n6_ := aM ((by rw [hg]; exact Nat.ne_of_gt (blk_lt (g := gb1578) (o := .cells #[.int .i64 a0_0, .int .i64 a0_1, .int .i64 a0_2, .int .i64 a0_3, .int .i64 a0_4, .int .i64 a0_5] 84 (0, 0)) (by (with_reducible repeat (first|apply kN|apply kD|apply kA)); exact BK1578.out)) : gb1579 ≠ gb1578)); clear BK1578; clear HB; have BK1578 := n0_; have HB := n1_; have BK1579 := n2_; have GW1579 := n3_; have GE1579 := n4_; have NB1578_1579 := n5_; have NB1579_1578 := n6_; clear n0_ n1_ n2_ n3_ n4_ n5_ n6_; clear hb hbox hg) | ((with_reducible refine gate_dst (N := 4) rfl ?_); refine box_event ?hg (N := 4) ?hd (cs := #[.int .i64 0, .int .i64 0, .int .i64 0, .int .i64 0, .int .i64 0, .int .i64 0]) (t := 84) ?hr ?_; (case hd => rfl); (case hg => rfl); (case hr => first | (go_simp; done) | (go_simp; rfl)); intro gb1580 hg w8 hbox hb; have n0_ := aM (blk_below (g := gb1578) (o := .cells #[.int .i64 a0_0, .int .i64 a0_1, .int .i64 a0_2, .int .i64 a0_3, .int .i64 a0_4, .int .i64 a0_5] 84 (0, 0)) (by (with_reducible repeat (first|apply kN|apply kD|apply kA)); exact BK1578.out) hb); have n1_ := aM (blk_below (g := gb1579) (o := .cells #[.int .i64 a1_0, .int .i64 a1_1, .int .i64 a1_2, .int .i64 a1_3, .int .i64 a1_4, .int .i64 a1_5] 84 (0, 0)) (by (with_reducible repeat (first|apply kN|apply kD|apply kA)); exact BK1579.out) hb); have n2_ := aM (below_step (by repeat (first | (with_reducible first | exact HB.out | apply bA|apply bN|apply b1 | refine below_set ?_ (Aside0.out (by assumption))) | exact HB.out)) hb); have n3_ := aM (hbox); have n4_ := aM ((by rw [hg]; exact (below_size (by repeat (first | (with_reducible first | exact HB.out | apply bA|apply bN|apply b1 | refine below_set ?_ (Aside0.out (by assumption))) | exact HB.out))) : w.heap.size ≤ gb1580)); have n5_ := aM ((by rw [hg]; exact (below_size (by repeat (first | (with_reducible first | exact HB.out | apply bA|apply bN|apply b1 | refine below_set ?_ (Aside0.out (by assumption))) | exact HB.out))) : w.heap.size ≤ gb1580)); have n6_ := aM ((by rw [hg]; exact Nat.ne_of_lt (blk_lt (g := gb1578) (o := .cells #[.int .i64 a0_0, .int .i64 a0_1, .int .i64 a0_2, .int .i64 a0_3, .int .i64 a0_4, .int .i64 a0_5] 84 (0, 0)) (by (with_reducible repeat (first|apply kN|apply kD|apply kA)); exact BK1578.out)) : gb1578 ≠ gb1580)); have n7_ := aM ((by rw [hg]; exact Nat.ne_of_gt (blk_lt (g := gb1578) (o := .cells #[.int .i64 a0_0, .int .i64 a0_1, .int .i64 a0_2, .int .i64 a0_3, .int .i64 a0_4, .int .i64 a0_5] 84 (0, 0)) (by (with_reducible repeat (first|apply kN|apply kD|apply kA)); exact BK1578.out)) : gb1580 ≠ gb1578)); have n8_ := aM ((by rw [hg]; exact Nat.ne_of_lt (blk_lt (g := gb1579) (o := .cells #[.int .i64 a1_0, .int .i64 a1_1, .int .i64 a1_2, .int .i64 a1_3, .int .i64 a1_4, .int .i64 a1_5] 84 (0, 0)) (by (with_reducible repeat (first|apply kN|apply kD|apply kA)); exact BK1579.out)) : gb1579 ≠ gb1580)); have n9_ := aM ((by rw [hg]; exact Nat.ne_of_gt (blk_lt (g := gb1579) (o := .cells #[.int .i64 a1_0, .int .i64 a1_1, .int .i64 a1_2, .int .i64 a1_3, .int .i64 a1_4, .int .i64 a1_5] 84 (0, 0)) (by (with_reducible repeat (first|apply kN|apply kD|apply kA)); exact BK1579.out)) : gb1580 ≠ gb1579)); clear BK1578; clear BK1579; clear HB; have BK1578 := n0_; have BK1579 := n1_; have HB := n2_; have BK1580 := n3_; have GW1580 := n4_; have GE1580 := n5_; have NB1578_1580 := n6_; have NB1580_1578 := n7_; have NB1579_1580 := n8_; have NB1580_1579 := n9_; clear n0_ n1_ n2_ n3_ n4_ n5_ n6_ n7_ n8_ n9_; clear hb hbox hg))
 have n0_ := aM (blk_drew BK1578.out)
 have n1_ := aM (blk_drew BK1579.out)
 have n2_ := aM (blk_drew BK1580.out)
 have n3_ := aM (below_drew1 HB.out)
 clear BK1578
 clear BK1579
 clear BK1580
 clear HB
 have BK1578 := n0_
 have BK1579 := n1_
 have BK1580 := n2_
 have HB := n3_
 clear n0_ n1_ n2_ n3_
 refine start_ (n := 15) (S := fun w' => w'.cell? ⟨gb1578, 0, none⟩ = some (.int .i64 a0_0) ∧ w'.cell? ⟨gb1578, 1, none⟩ = some (.int .i64 a0_1) ∧ w'.cell? ⟨gb1578, 2, none⟩ = some (.int .i64 a0_2) ∧ w'.cell? ⟨gb1578, 3, none⟩ = some (.int .i64 a0_3) ∧ w'.cell? ⟨gb1578, 4, none⟩ = some (.int .i64 a0_4) ∧ w'.cell? ⟨gb1578, 5, none⟩ = some (.int .i64 a0_5) ∧ w'.cell? ⟨gb1579, 0, none⟩ = some (.int .i64 a1_0) ∧ w'.cell? ⟨gb1579, 1, none⟩ = some (.int .i64 a1_1) ∧ w'.cell? ⟨gb1579, 2, none⟩ = some (.int .i64 a1_2) ∧ w'.cell? ⟨gb1579, 3, none⟩ = some (.int .i64 a1_3) ∧ w'.cell? ⟨gb1579, 4, none⟩ = some (.int .i64 a1_4) ∧ w'.cell? ⟨gb1579, 5, none⟩ = some (.int .i64 a1_5)) (ds := []) #[false, false, false, false, false, false, false, false, false, false, false, false, false, false, false] (by kernel_rfl) rfl rfl ⟨(blk_cell BK1578.out 0).trans rfl, (blk_cell BK1578.out 1).trans rfl, (blk_cell BK1578.out 2).trans rfl, (blk_cell BK1578.out 3).trans rfl, (blk_cell BK1578.out 4).trans rfl, (blk_cell BK1578.out 5).trans rfl, (blk_cell BK1579.out 0).trans rfl, (blk_cell BK1579.out 1).trans rfl, (blk_cell BK1579.out 2).trans rfl, (blk_cell BK1579.out 3).trans rfl, (blk_cell BK1579.out 4).trans rfl, (blk_cell BK1579.out 5).trans rfl⟩ (fun hHeld => ?_); refine with_tabW impl_Motion_times.tab1 impl_Motion_times.bits1 (fun HT_ HW_ => ?_)
 generalize w8.drew = w9 at BK1578 BK1579 BK1580 HB hHeld ⊢
 refine pure_ (i := 0) (N := some 5) (v := ?_) (a' := ?_) #[true, false, false, false, false, false, false, false, false, false, false, false, false, false, false] rfl rfl (any_of HT_.out (by kernel_rfl)) (fun _ _ _ h => h) (Or.inl ⟨by rfl, ?_⟩) ?_ ?_
 rotate_left
 ·intro w'
  go_simp
  with_reducible rfl
 rotate_left
 ·simp only [Act.put, List.setIfInBounds_toArray, List.set_cons_zero, List.set_cons_succ, i64_w, i32_w]
  rfl
 refine pure_ (i := 2) (N := some 7) (v := ?_) (a' := ?_) #[true, false, true, false, false, false, false, false, false, false, false, false, false, false, false] rfl rfl (any_of HT_.out (by kernel_rfl)) (fun _ _ _ h => h) (Or.inl ⟨by rfl, ?_⟩) ?_ ?_
 rotate_left
 ·intro w'
  go_simp
  with_reducible rfl
 rotate_left
 ·simp only [Act.put, List.setIfInBounds_toArray, List.set_cons_zero, List.set_cons_succ, i64_w, i32_w]
  rfl
 refine pure_ (i := 5) (N := some 10) (v := ?_) (a' := ?_) #[true, false, true, false, false, true, false, false, false, false, false, false, false, false, false] rfl rfl (any_of HT_.out (by kernel_rfl)) (fun _ _ _ h => h) (Or.inl ⟨by rfl, ?_⟩) ?_ ?_
 rotate_left
 ·intro w'
  go_simp
  with_reducible rfl
 rotate_left
 ·simp only [Act.put, List.setIfInBounds_toArray, List.set_cons_zero, List.set_cons_succ, i64_w, i32_w]
  rfl
 refine pure_ (i := 7) (N := some 12) (v := ?_) (a' := ?_) #[true, false, true, false, false, true, false, true, false, false, false, false, false, false, false] rfl rfl (any_of HT_.out (by kernel_rfl)) (fun _ _ _ h => h) (Or.inl ⟨by rfl, ?_⟩) ?_ ?_
 rotate_left
 ·intro w'
  go_simp
  with_reducible rfl
 rotate_left
 ·simp only [Act.put, List.setIfInBounds_toArray, List.set_cons_zero, List.set_cons_succ, i64_w, i32_w]
  rfl
 refine pure_ (i := 10) (N := some 15) (v := ?_) (a' := ?_) #[true, false, true, false, false, true, false, true, false, false, true, false, false, false, false] rfl rfl (any_of HT_.out (by kernel_rfl)) (fun _ _ _ h => h) (Or.inl ⟨by rfl, ?_⟩) ?_ ?_
 rotate_left
 ·intro w'
  go_simp
  with_reducible rfl
 rotate_left
 ·simp only [Act.put, List.setIfInBounds_toArray, List.set_cons_zero, List.set_cons_succ, i64_w, i32_w]
  rfl
 refine take_ (i := 1) (N := some 6) (v := ?_) (a' := ?_) #[true, true, true, false, false, true, false, true, false, false, true, false, false, false, false] rfl rfl (take_ofW HT_.out HW_.out (by kernel_rfl)) (fun _ _ _ h => h) (Or.inl ⟨by rfl, ?_⟩) hHeld ?_ ?_
 rotate_left
 ·rintro w' ⟨s0, s1, s2, s3, s4, s5, s6, s7, s8, s9, s10, s11⟩
  go_simp
  with_reducible rfl
 rotate_left
 ·simp only [Act.put, List.setIfInBounds_toArray, List.set_cons_zero, List.set_cons_succ, i64_w, i32_w]
  rfl
 refine take_ (i := 3) (N := some 8) (v := ?_) (a' := ?_) #[true, true, true, true, false, true, false, true, false, false, true, false, false, false, false] rfl rfl (take_ofW HT_.out HW_.out (by kernel_rfl)) (fun _ _ _ h => h) (Or.inl ⟨by rfl, ?_⟩) hHeld ?_ ?_
 rotate_left
 ·rintro w' ⟨s0, s1, s2, s3, s4, s5, s6, s7, s8, s9, s10, s11⟩
  go_simp
  with_reducible rfl
 rotate_left
 ·simp only [Act.put, List.setIfInBounds_toArray, List.set_cons_zero, List.set_cons_succ, i64_w, i32_w]
  rfl
 refine take_ (i := 6) (N := some 11) (v := ?_) (a' := ?_) #[true, true, true, true, false, true, true, true, false, false, true, false, false, false, false] rfl rfl (take_ofW HT_.out HW_.out (by kernel_rfl)) (fun _ _ _ h => h) (Or.inl ⟨by rfl, ?_⟩) hHeld ?_ ?_
 rotate_left
 ·rintro w' ⟨s0, s1, s2, s3, s4, s5, s6, s7, s8, s9, s10, s11⟩
  go_simp
  with_reducible rfl
 rotate_left
 ·simp only [Act.put, List.setIfInBounds_toArray, List.set_cons_zero, List.set_cons_succ, i64_w, i32_w]
  rfl
 refine take_ (i := 8) (N := some 13) (v := ?_) (a' := ?_) #[true, true, true, true, false, true, true, true, true, false, true, false, false, false, false] rfl rfl (take_ofW HT_.out HW_.out (by kernel_rfl)) (fun _ _ _ h => h) (Or.inl ⟨by rfl, ?_⟩) hHeld ?_ ?_
 rotate_left
 ·rintro w' ⟨s0, s1, s2, s3, s4, s5, s6, s7, s8, s9, s10, s11⟩
  go_simp
  with_reducible rfl
 rotate_left
 ·simp only [Act.put, List.setIfInBounds_toArray, List.set_cons_zero, List.set_cons_succ, i64_w, i32_w]
  rfl
 refine take_ (i := 11) (N := some 16) (v := ?_) (a' := ?_) #[true, true, true, true, false, true, true, true, true, false, true, true, false, false, false] rfl rfl (take_ofW HT_.out HW_.out (by kernel_rfl)) (fun _ _ _ h => h) (Or.inl ⟨by rfl, ?_⟩) hHeld ?_ ?_
 rotate_left
 ·rintro w' ⟨s0, s1, s2, s3, s4, s5, s6, s7, s8, s9, s10, s11⟩
  go_simp
  with_reducible rfl
 rotate_left
 ·simp only [Act.put, List.setIfInBounds_toArray, List.set_cons_zero, List.set_cons_succ, i64_w, i32_w]
  rfl
 refine one_ (i := 4) (N := some 9) #[true, true, true, true, true, true, true, true, true, false, true, true, false, false, false] rfl rfl (one_of HT_.out (by kernel_rfl)) (by decide) (fun K hK => ?_)
 refine goes_ Try.func148 (by kernel_rfl) rfl #[.agg #[.int .i64 a0_0, .int .i64 a0_1, .int .i64 a0_2, .int .i64 a0_3], .agg #[.int .i64 a1_0, .int .i64 a1_1, .int .i64 a1_2, .int .i64 a1_3]] (by rfl) rfl rfl (by first|rfl|(simp only [List.map_toArray, List.map_cons, List.map_nil]; try rfl)) ?_
 with_reducible refine (impl_Mat_times.calls a0_0 a0_1 a0_2 a0_3 a1_0 a1_1 a1_2 a1_3 t1581 t1582 t1583 t1584 _ A3.out).mono ?_
 rintro e w10 ⟨rfl, hb⟩
 refine ⟨_, rfl, ?_⟩
 have n0_ := aM (blk_below (g := gb1578) (o := .cells #[.int .i64 a0_0, .int .i64 a0_1, .int .i64 a0_2, .int .i64 a0_3, .int .i64 a0_4, .int .i64 a0_5] 84 (0, 0)) (by (with_reducible repeat (first|apply kN|apply kD|apply kA)); exact BK1578.out) hb)
 have n1_ := aM (blk_below (g := gb1579) (o := .cells #[.int .i64 a1_0, .int .i64 a1_1, .int .i64 a1_2, .int .i64 a1_3, .int .i64 a1_4, .int .i64 a1_5] 84 (0, 0)) (by (with_reducible repeat (first|apply kN|apply kD|apply kA)); exact BK1579.out) hb)
 have n2_ := aM (blk_below (g := gb1580) (o := .cells #[.int .i64 0, .int .i64 0, .int .i64 0, .int .i64 0, .int .i64 0, .int .i64 0] 84 (0, 0)) (by (with_reducible repeat (first|apply kN|apply kD|apply kA)); exact BK1580.out) hb)
 have n3_ := aM (below_step (by repeat (first | (with_reducible first | exact HB.out | apply bA|apply bN|apply b1 | refine below_set ?_ (Aside0.out (by assumption))) | exact HB.out)) hb)
 clear BK1578
 clear BK1579
 clear BK1580
 clear HB
 have BK1578 := n0_
 have BK1579 := n1_
 have BK1580 := n2_
 have HB := n3_
 clear n0_ n1_ n2_ n3_
 (try clear hb)
 (try clear hb2)
 (try clear hk)
 (try clear hi)
 refine hK.out _ _ ⟨(blk_cell BK1578.out 0).trans rfl, (blk_cell BK1578.out 1).trans rfl, (blk_cell BK1578.out 2).trans rfl, (blk_cell BK1578.out 3).trans rfl, (blk_cell BK1578.out 4).trans rfl, (blk_cell BK1578.out 5).trans rfl, (blk_cell BK1579.out 0).trans rfl, (blk_cell BK1579.out 1).trans rfl, (blk_cell BK1579.out 2).trans rfl, (blk_cell BK1579.out 3).trans rfl, (blk_cell BK1579.out 4).trans rfl, (blk_cell BK1579.out 5).trans rfl⟩ (fun hHeld => ?_)
 clear hK K
 refine norm_ (a' := ?_) ?_ ?_
 rotate_left
 ·show Act.put _ (some 9) _ = _
  simp only [Act.put, List.setIfInBounds_toArray, List.set_cons_zero, List.set_cons_succ, i64_w, i32_w]
  rfl
 refine one_ (i := 9) (N := some 14) #[true, true, true, true, true, true, true, true, true, true, true, true, false, false, false] rfl rfl (one_of HT_.out (by kernel_rfl)) (by decide) (fun K hK => ?_)
 refine goes_ Try.func154 (by kernel_rfl) rfl #[.agg #[.int .i64 a0_0, .int .i64 a0_1, .int .i64 a0_2, .int .i64 a0_3], .agg #[.int .i64 a1_4, .int .i64 a1_5]] (by rfl) rfl rfl (by first|rfl|(simp only [List.map_toArray, List.map_cons, List.map_nil]; try rfl)) ?_
 with_reducible refine (impl_Mat_apply.calls a0_0 a0_1 a0_2 a0_3 a1_4 a1_5 t1585 t1586 _ A4.out).mono ?_
 rintro e w11 ⟨rfl, hb⟩
 refine ⟨_, rfl, ?_⟩
 have n0_ := aM (blk_below (g := gb1578) (o := .cells #[.int .i64 a0_0, .int .i64 a0_1, .int .i64 a0_2, .int .i64 a0_3, .int .i64 a0_4, .int .i64 a0_5] 84 (0, 0)) (by (with_reducible repeat (first|apply kN|apply kD|apply kA)); exact BK1578.out) hb)
 have n1_ := aM (blk_below (g := gb1579) (o := .cells #[.int .i64 a1_0, .int .i64 a1_1, .int .i64 a1_2, .int .i64 a1_3, .int .i64 a1_4, .int .i64 a1_5] 84 (0, 0)) (by (with_reducible repeat (first|apply kN|apply kD|apply kA)); exact BK1579.out) hb)
 have n2_ := aM (blk_below (g := gb1580) (o := .cells #[.int .i64 0, .int .i64 0, .int .i64 0, .int .i64 0, .int .i64 0, .int .i64 0] 84 (0, 0)) (by (with_reducible repeat (first|apply kN|apply kD|apply kA)); exact BK1580.out) hb)
 have n3_ := aM (below_step (by repeat (first | (with_reducible first | exact HB.out | apply bA|apply bN|apply b1 | refine below_set ?_ (Aside0.out (by assumption))) | exact HB.out)) hb)
 clear BK1578
 clear BK1579
 clear BK1580
 clear HB
 have BK1578 := n0_
 have BK1579 := n1_
 have BK1580 := n2_
 have HB := n3_
 clear n0_ n1_ n2_ n3_
 (try clear hb)
 (try clear hb2)
 (try clear hk)
 (try clear hi)
 refine hK.out _ _ ⟨(blk_cell BK1578.out 0).trans rfl, (blk_cell BK1578.out 1).trans rfl, (blk_cell BK1578.out 2).trans rfl, (blk_cell BK1578.out 3).trans rfl, (blk_cell BK1578.out 4).trans rfl, (blk_cell BK1578.out 5).trans rfl, (blk_cell BK1579.out 0).trans rfl, (blk_cell BK1579.out 1).trans rfl, (blk_cell BK1579.out 2).trans rfl, (blk_cell BK1579.out 3).trans rfl, (blk_cell BK1579.out 4).trans rfl, (blk_cell BK1579.out 5).trans rfl⟩ (fun hHeld => ?_)
 clear hK K
 refine norm_ (a' := ?_) ?_ ?_
 rotate_left
 ·show Act.put _ (some 14) _ = _
  simp only [Act.put, List.setIfInBounds_toArray, List.set_cons_zero, List.set_cons_succ, i64_w, i32_w]
  rfl
 refine one_ (i := 12) (N := some 17) #[true, true, true, true, true, true, true, true, true, true, true, true, true, false, false] rfl rfl (one_of HT_.out (by kernel_rfl)) (by decide) (fun K hK => ?_)
 refine goes_ Try.func133 (by kernel_rfl) rfl #[.agg #[.int .i64 t1585, .int .i64 t1586], .agg #[.int .i64 a0_4, .int .i64 a0_5]] (by rfl) rfl rfl (by first|rfl|(simp only [List.map_toArray, List.map_cons, List.map_nil]; try rfl)) ?_
 with_reducible refine (impl_Vec_add.calls t1585 t1586 a0_4 a0_5 t1587 t1588 _ A5.out).mono ?_
 rintro e w12 ⟨rfl, hb⟩
 refine ⟨_, rfl, ?_⟩
 have n0_ := aM (blk_below (g := gb1578) (o := .cells #[.int .i64 a0_0, .int .i64 a0_1, .int .i64 a0_2, .int .i64 a0_3, .int .i64 a0_4, .int .i64 a0_5] 84 (0, 0)) (by (with_reducible repeat (first|apply kN|apply kD|apply kA)); exact BK1578.out) hb)
 have n1_ := aM (blk_below (g := gb1579) (o := .cells #[.int .i64 a1_0, .int .i64 a1_1, .int .i64 a1_2, .int .i64 a1_3, .int .i64 a1_4, .int .i64 a1_5] 84 (0, 0)) (by (with_reducible repeat (first|apply kN|apply kD|apply kA)); exact BK1579.out) hb)
 have n2_ := aM (blk_below (g := gb1580) (o := .cells #[.int .i64 0, .int .i64 0, .int .i64 0, .int .i64 0, .int .i64 0, .int .i64 0] 84 (0, 0)) (by (with_reducible repeat (first|apply kN|apply kD|apply kA)); exact BK1580.out) hb)
 have n3_ := aM (below_step (by repeat (first | (with_reducible first | exact HB.out | apply bA|apply bN|apply b1 | refine below_set ?_ (Aside0.out (by assumption))) | exact HB.out)) hb)
 clear BK1578
 clear BK1579
 clear BK1580
 clear HB
 have BK1578 := n0_
 have BK1579 := n1_
 have BK1580 := n2_
 have HB := n3_
 clear n0_ n1_ n2_ n3_
 (try clear hb)
 (try clear hb2)
 (try clear hk)
 (try clear hi)
 refine hK.out _ _ ⟨(blk_cell BK1578.out 0).trans rfl, (blk_cell BK1578.out 1).trans rfl, (blk_cell BK1578.out 2).trans rfl, (blk_cell BK1578.out 3).trans rfl, (blk_cell BK1578.out 4).trans rfl, (blk_cell BK1578.out 5).trans rfl, (blk_cell BK1579.out 0).trans rfl, (blk_cell BK1579.out 1).trans rfl, (blk_cell BK1579.out 2).trans rfl, (blk_cell BK1579.out 3).trans rfl, (blk_cell BK1579.out 4).trans rfl, (blk_cell BK1579.out 5).trans rfl⟩ (fun hHeld => ?_)
 clear hK K
 refine norm_ (a' := ?_) ?_ ?_
 rotate_left
 ·show Act.put _ (some 17) _ = _
  simp only [Act.put, List.setIfInBounds_toArray, List.set_cons_zero, List.set_cons_succ, i64_w, i32_w]
  rfl
 refine pure_ (i := 13) (N := some 18) (v := ?_) (a' := ?_) #[true, true, true, true, true, true, true, true, true, true, true, true, true, true, false] rfl rfl (any_of HT_.out (by kernel_rfl)) (fun _ _ _ h => h) (Or.inl ⟨by rfl, ?_⟩) ?_ ?_
 rotate_left
 ·intro w'
  go_simp
  with_reducible rfl
 rotate_left
 ·simp only [Act.put, List.setIfInBounds_toArray, List.set_cons_zero, List.set_cons_succ, i64_w, i32_w]
  rfl
 refine one_ (i := 14) (N := none) #[true, true, true, true, true, true, true, true, true, true, true, true, true, true, true] rfl rfl (one_of HT_.out (by kernel_rfl)) (by decide) (fun K hK => ?_)
 have hs13 : w12.cell? ⟨gb1580, 0, none⟩ = some (.int .i64 0) := (blk_cell BK1580.out 0).trans rfl
 have hfs13 := blk_frozen BK1580.out 0
 have hns13_0 := NB1578_1580.out
 have hns13_1 := NB1579_1580.out
 have hms13_0 := NB1580_1578.out
 have hms13_1 := NB1580_1579.out
 have hs14 : w12.cell? ⟨gb1580, 1, none⟩ = some (.int .i64 0) := (blk_cell BK1580.out 1).trans rfl
 have hfs14 := blk_frozen BK1580.out 1
 have hns14_0 := NB1578_1580.out
 have hns14_1 := NB1579_1580.out
 have hms14_0 := NB1580_1578.out
 have hms14_1 := NB1580_1579.out
 have hs15 : w12.cell? ⟨gb1580, 2, none⟩ = some (.int .i64 0) := (blk_cell BK1580.out 2).trans rfl
 have hfs15 := blk_frozen BK1580.out 2
 have hns15_0 := NB1578_1580.out
 have hns15_1 := NB1579_1580.out
 have hms15_0 := NB1580_1578.out
 have hms15_1 := NB1580_1579.out
 have hs16 : w12.cell? ⟨gb1580, 3, none⟩ = some (.int .i64 0) := (blk_cell BK1580.out 3).trans rfl
 have hfs16 := blk_frozen BK1580.out 3
 have hns16_0 := NB1578_1580.out
 have hns16_1 := NB1579_1580.out
 have hms16_0 := NB1580_1578.out
 have hms16_1 := NB1580_1579.out
 have hs17 : w12.cell? ⟨gb1580, 4, none⟩ = some (.int .i64 0) := (blk_cell BK1580.out 4).trans rfl
 have hfs17 := blk_frozen BK1580.out 4
 have hns17_0 := NB1578_1580.out
 have hns17_1 := NB1579_1580.out
 have hms17_0 := NB1580_1578.out
 have hms17_1 := NB1580_1579.out
 have hs18 : w12.cell? ⟨gb1580, 5, none⟩ = some (.int .i64 0) := (blk_cell BK1580.out 5).trans rfl
 have hfs18 := blk_frozen BK1580.out 5
 have hns18_0 := NB1578_1580.out
 have hns18_1 := NB1579_1580.out
 have hms18_0 := NB1580_1578.out
 have hms18_1 := NB1580_1579.out
 refine skip_ (w1 := ?_) (by rfl) rfl ?_ ?_
 rotate_left
 ·go_simp
  rfl
 refine hK.out _ _ ⟨((cell_far (p := ⟨gb1580, _, none⟩) NB1578_1580.out _).trans (((cell_far (p := ⟨gb1580, _, none⟩) NB1578_1580.out _).trans (((cell_far (p := ⟨gb1580, _, none⟩) NB1578_1580.out _).trans (((cell_far (p := ⟨gb1580, _, none⟩) NB1578_1580.out _).trans (((cell_far (p := ⟨gb1580, _, none⟩) NB1578_1580.out _).trans (((cell_far (p := ⟨gb1580, _, none⟩) NB1578_1580.out _).trans (hHeld.1)))))))))))), ((cell_far (p := ⟨gb1580, _, none⟩) NB1578_1580.out _).trans (((cell_far (p := ⟨gb1580, _, none⟩) NB1578_1580.out _).trans (((cell_far (p := ⟨gb1580, _, none⟩) NB1578_1580.out _).trans (((cell_far (p := ⟨gb1580, _, none⟩) NB1578_1580.out _).trans (((cell_far (p := ⟨gb1580, _, none⟩) NB1578_1580.out _).trans (((cell_far (p := ⟨gb1580, _, none⟩) NB1578_1580.out _).trans (hHeld.2.1)))))))))))), ((cell_far (p := ⟨gb1580, _, none⟩) NB1578_1580.out _).trans (((cell_far (p := ⟨gb1580, _, none⟩) NB1578_1580.out _).trans (((cell_far (p := ⟨gb1580, _, none⟩) NB1578_1580.out _).trans (((cell_far (p := ⟨gb1580, _, none⟩) NB1578_1580.out _).trans (((cell_far (p := ⟨gb1580, _, none⟩) NB1578_1580.out _).trans (((cell_far (p := ⟨gb1580, _, none⟩) NB1578_1580.out _).trans (hHeld.2.2.1)))))))))))), ((cell_far (p := ⟨gb1580, _, none⟩) NB1578_1580.out _).trans (((cell_far (p := ⟨gb1580, _, none⟩) NB1578_1580.out _).trans (((cell_far (p := ⟨gb1580, _, none⟩) NB1578_1580.out _).trans (((cell_far (p := ⟨gb1580, _, none⟩) NB1578_1580.out _).trans (((cell_far (p := ⟨gb1580, _, none⟩) NB1578_1580.out _).trans (((cell_far (p := ⟨gb1580, _, none⟩) NB1578_1580.out _).trans (hHeld.2.2.2.1)))))))))))), ((cell_far (p := ⟨gb1580, _, none⟩) NB1578_1580.out _).trans (((cell_far (p := ⟨gb1580, _, none⟩) NB1578_1580.out _).trans (((cell_far (p := ⟨gb1580, _, none⟩) NB1578_1580.out _).trans (((cell_far (p := ⟨gb1580, _, none⟩) NB1578_1580.out _).trans (((cell_far (p := ⟨gb1580, _, none⟩) NB1578_1580.out _).trans (((cell_far (p := ⟨gb1580, _, none⟩) NB1578_1580.out _).trans (hHeld.2.2.2.2.1)))))))))))), ((cell_far (p := ⟨gb1580, _, none⟩) NB1578_1580.out _).trans (((cell_far (p := ⟨gb1580, _, none⟩) NB1578_1580.out _).trans (((cell_far (p := ⟨gb1580, _, none⟩) NB1578_1580.out _).trans (((cell_far (p := ⟨gb1580, _, none⟩) NB1578_1580.out _).trans (((cell_far (p := ⟨gb1580, _, none⟩) NB1578_1580.out _).trans (((cell_far (p := ⟨gb1580, _, none⟩) NB1578_1580.out _).trans (hHeld.2.2.2.2.2.1)))))))))))), ((cell_far (p := ⟨gb1580, _, none⟩) NB1579_1580.out _).trans (((cell_far (p := ⟨gb1580, _, none⟩) NB1579_1580.out _).trans (((cell_far (p := ⟨gb1580, _, none⟩) NB1579_1580.out _).trans (((cell_far (p := ⟨gb1580, _, none⟩) NB1579_1580.out _).trans (((cell_far (p := ⟨gb1580, _, none⟩) NB1579_1580.out _).trans (((cell_far (p := ⟨gb1580, _, none⟩) NB1579_1580.out _).trans (hHeld.2.2.2.2.2.2.1)))))))))))), ((cell_far (p := ⟨gb1580, _, none⟩) NB1579_1580.out _).trans (((cell_far (p := ⟨gb1580, _, none⟩) NB1579_1580.out _).trans (((cell_far (p := ⟨gb1580, _, none⟩) NB1579_1580.out _).trans (((cell_far (p := ⟨gb1580, _, none⟩) NB1579_1580.out _).trans (((cell_far (p := ⟨gb1580, _, none⟩) NB1579_1580.out _).trans (((cell_far (p := ⟨gb1580, _, none⟩) NB1579_1580.out _).trans (hHeld.2.2.2.2.2.2.2.1)))))))))))), ((cell_far (p := ⟨gb1580, _, none⟩) NB1579_1580.out _).trans (((cell_far (p := ⟨gb1580, _, none⟩) NB1579_1580.out _).trans (((cell_far (p := ⟨gb1580, _, none⟩) NB1579_1580.out _).trans (((cell_far (p := ⟨gb1580, _, none⟩) NB1579_1580.out _).trans (((cell_far (p := ⟨gb1580, _, none⟩) NB1579_1580.out _).trans (((cell_far (p := ⟨gb1580, _, none⟩) NB1579_1580.out _).trans (hHeld.2.2.2.2.2.2.2.2.1)))))))))))), ((cell_far (p := ⟨gb1580, _, none⟩) NB1579_1580.out _).trans (((cell_far (p := ⟨gb1580, _, none⟩) NB1579_1580.out _).trans (((cell_far (p := ⟨gb1580, _, none⟩) NB1579_1580.out _).trans (((cell_far (p := ⟨gb1580, _, none⟩) NB1579_1580.out _).trans (((cell_far (p := ⟨gb1580, _, none⟩) NB1579_1580.out _).trans (((cell_far (p := ⟨gb1580, _, none⟩) NB1579_1580.out _).trans (hHeld.2.2.2.2.2.2.2.2.2.1)))))))))))), ((cell_far (p := ⟨gb1580, _, none⟩) NB1579_1580.out _).trans (((cell_far (p := ⟨gb1580, _, none⟩) NB1579_1580.out _).trans (((cell_far (p := ⟨gb1580, _, none⟩) NB1579_1580.out _).trans (((cell_far (p := ⟨gb1580, _, none⟩) NB1579_1580.out _).trans (((cell_far (p := ⟨gb1580, _, none⟩) NB1579_1580.out _).trans (((cell_far (p := ⟨gb1580, _, none⟩) NB1579_1580.out _).trans (hHeld.2.2.2.2.2.2.2.2.2.2.1)))))))))))), ((cell_far (p := ⟨gb1580, _, none⟩) NB1579_1580.out _).trans (((cell_far (p := ⟨gb1580, _, none⟩) NB1579_1580.out _).trans (((cell_far (p := ⟨gb1580, _, none⟩) NB1579_1580.out _).trans (((cell_far (p := ⟨gb1580, _, none⟩) NB1579_1580.out _).trans (((cell_far (p := ⟨gb1580, _, none⟩) NB1579_1580.out _).trans (((cell_far (p := ⟨gb1580, _, none⟩) NB1579_1580.out _).trans (hHeld.2.2.2.2.2.2.2.2.2.2.2))))))))))))⟩ (fun hHeld => ?_)
 clear hK K
 refine done_ (done_of HT_.out (by kernel_rfl)) ?_
 try go_wp2
 refine bodyPost_ret (results_cell_row rfl _ _ gb1580 84 #[.int .i64 t1581, .int .i64 t1582, .int .i64 t1583, .int .i64 t1584, .int .i64 t1587, .int .i64 t1588] (0, 0) _ rfl (by (with_reducible repeat (first|apply kN|apply kD|apply kA)); refine blk_put (cs := #[.int .i64 t1581, .int .i64 t1582, .int .i64 t1583, .int .i64 t1584, .int .i64 t1587, .int .i64 0]) ?_ 5 _ rfl; (with_reducible repeat (first|apply kN|apply kD|apply kA)); refine blk_put (cs := #[.int .i64 t1581, .int .i64 t1582, .int .i64 t1583, .int .i64 t1584, .int .i64 0, .int .i64 0]) ?_ 4 _ rfl; (with_reducible repeat (first|apply kN|apply kD|apply kA)); refine blk_put (cs := #[.int .i64 t1581, .int .i64 t1582, .int .i64 t1583, .int .i64 0, .int .i64 0, .int .i64 0]) ?_ 3 _ rfl; (with_reducible repeat (first|apply kN|apply kD|apply kA)); refine blk_put (cs := #[.int .i64 t1581, .int .i64 t1582, .int .i64 0, .int .i64 0, .int .i64 0, .int .i64 0]) ?_ 2 _ rfl; (with_reducible repeat (first|apply kN|apply kD|apply kA)); refine blk_put (cs := #[.int .i64 t1581, .int .i64 0, .int .i64 0, .int .i64 0, .int .i64 0, .int .i64 0]) ?_ 1 _ rfl; (with_reducible repeat (first|apply kN|apply kD|apply kA)); refine blk_put (cs := #[.int .i64 0, .int .i64 0, .int .i64 0, .int .i64 0, .int .i64 0, .int .i64 0]) ?_ 0 _ rfl; (with_reducible repeat (first|apply kN|apply kD|apply kA)); exact BK1580.out) Try.underlying84 rfl (by kernel_rfl)) rfl ?_
 exact ⟨by first|rfl|(simp [*, errW_none, errW_some] <;> rfl), by repeat (first | (with_reducible first | exact HB.out | apply bA|apply bN|apply b1 | refine below_set ?_ (Aside0.out (by assumption))) | exact HB.out)⟩

def spec_IsMotion.f (k : Nat) (a0_0 : Int) (a0_1 : Int) (a0_2 : Int) (a0_3 : Int) (a0_4 : Int) (a0_5 : Int) : Option (Bool) := (spec_IsMat.f a0_0 a0_1 a0_2 a0_3).bind fun t1605 => (if t1605 = true then ((spec_l02Kind.f k a0_0 a0_1 a0_2 a0_3).bind fun t1606 => (if t1606 = 0 then (some false) else ((spec_IsVec.f a0_4 a0_5).bind fun t1607 => (some t1607)))) else (some false))
set_option maxHeartbeats 40000000 in
set_option maxRecDepth 100000 in
theorem spec_IsMotion.calls (k : Nat) (a0_0 : Int) (a0_1 : Int) (a0_2 : Int) (a0_3 : Int) (a0_4 : Int) (a0_5 : Int) (r : Bool) (w : World) (h : spec_IsMotion.f k a0_0 a0_1 a0_2 a0_3 a0_4 a0_5 = some r) :
  Calls Try.prog 92 #[.agg #[.int .i64 a0_0, .int .i64 a0_1, .int .i64 a0_2, .int .i64 a0_3, .int .i64 a0_4, .int .i64 a0_5]] w fun e w' => e = .returned (.bool r) ∧ Below w.heap.size w w' := by
 have hu84 := Try.underlying84
 have hu51 := Try.underlying51
 have hu25 := Try.underlying25
 have HB := aM (Below.refl w.heap.size w)
 have H : ((spec_IsMat.f a0_0 a0_1 a0_2 a0_3).bind fun t1605 => (if t1605 = true then ((spec_l02Kind.f k a0_0 a0_1 a0_2 a0_3).bind fun t1606 => (if t1606 = 0 then (some false) else ((spec_IsVec.f a0_4 a0_5).bind fun t1607 => (some t1607)))) else (some false))) = some r := h
 clear h
 replace H := Option.bind_eq_some_iff.mp H
 obtain ⟨t1605, A20, H⟩ := H
 try dsimp only at H
 have A2 := aM A20
 clear A20
 by_cases c3 : t1605 = true
 ·subst c3
  have H1 : ((spec_l02Kind.f k a0_0 a0_1 a0_2 a0_3).bind fun t1606 => (if t1606 = 0 then (some false) else ((spec_IsVec.f a0_4 a0_5).bind fun t1607 => (some t1607)))) = some r := by rw [if_pos rfl] at H; exact H
  clear H
  have H := H1
  clear H1
  replace H := Option.bind_eq_some_iff.mp H
  obtain ⟨t1606, A40, H⟩ := H
  try dsimp only at H
  have A4 := aM A40
  clear A40
  by_cases c5 : t1606 = 0
  ·rw [if_pos c5] at H
   have c5b0 : (t1606 == 0) = true := beq_iff_eq.mpr c5
   have c5b1 : (t1606 != 0) = false := bne_eq_false_iff_eq.mpr c5
   clear c5
   obtain rfl := Option.some.inj H
   go_enter Try.func92, Try.ntmps92
   go_wp2_with (first | ((with_reducible refine gate_dst (N := 1) rfl ?_); refine box_event ?hg (N := 1) ?hd (cs := #[.int .i64 a0_0, .int .i64 a0_1, .int .i64 a0_2, .int .i64 a0_3, .int .i64 a0_4, .int .i64 a0_5]) (t := 84) ?hr ?_; (case hd => rfl); (case hg => rfl); (case hr => first | (go_simp; done) | (go_simp; rfl)); intro gb1604 hg w6 hbox hb; have n0_ := aM (below_step (by repeat (first | (with_reducible first | exact HB.out | apply bA|apply bN|apply b1) | exact HB.out)) hb); have n1_ := aM (hbox); have n2_ := aM ((by rw [hg]; exact (below_size (by repeat (first | (with_reducible first | exact HB.out | apply bA|apply bN|apply b1) | exact HB.out))) : w.heap.size ≤ gb1604)); have n3_ := aM ((by rw [hg]; exact (below_size (by repeat (first | (with_reducible first | exact HB.out | apply bA|apply bN|apply b1) | exact HB.out))) : w.heap.size ≤ gb1604)); clear HB; have HB := n0_; have BK1604 := n1_; have GW1604 := n2_; have GE1604 := n3_; clear n0_ n1_ n2_ n3_; clear hb hbox hg; have hcz7_0 : w6.cell? ⟨gb1604, 0, none⟩ = some (.int .i64 a0_0) := (blk_cell BK1604.out 0).trans rfl; have hcz7_1 : w6.cell? ⟨gb1604, 1, none⟩ = some (.int .i64 a0_1) := (blk_cell BK1604.out 1).trans rfl; have hcz7_2 : w6.cell? ⟨gb1604, 2, none⟩ = some (.int .i64 a0_2) := (blk_cell BK1604.out 2).trans rfl; have hcz7_3 : w6.cell? ⟨gb1604, 3, none⟩ = some (.int .i64 a0_3) := (blk_cell BK1604.out 3).trans rfl; have hcz7_4 : w6.cell? ⟨gb1604, 4, none⟩ = some (.int .i64 a0_4) := (blk_cell BK1604.out 4).trans rfl; have hcz7_5 : w6.cell? ⟨gb1604, 5, none⟩ = some (.int .i64 a0_5) := (blk_cell BK1604.out 5).trans rfl; have hfz7_0 := blk_frozen BK1604.out 0; have hfz7_1 := blk_frozen BK1604.out 1; have hfz7_2 := blk_frozen BK1604.out 2; have hfz7_3 := blk_frozen BK1604.out 3; have hfz7_4 := blk_frozen BK1604.out 4; have hfz7_5 := blk_frozen BK1604.out 5) | ((with_reducible refine gate_callee (f := 52) rfl ?_); refine goesL_ (some 5) rfl rfl Try.func52 (by kernel_rfl) rfl #[.agg #[.int .i64 a0_0, .int .i64 a0_1, .int .i64 a0_2, .int .i64 a0_3]] rfl (by first|rfl|(simp only [List.map_toArray, List.map_cons, List.map_nil]; try rfl)) ?_; (with_reducible refine (spec_IsMat.calls a0_0 a0_1 a0_2 a0_3 true _ A2.out).mono ?_); rintro e w8 ⟨rfl, hb⟩; refine ⟨_, rfl, ?_⟩; have n0_ := aM (blk_below (g := gb1604) (o := .cells #[.int .i64 a0_0, .int .i64 a0_1, .int .i64 a0_2, .int .i64 a0_3, .int .i64 a0_4, .int .i64 a0_5] 84 (0, 0)) (by (with_reducible repeat (first|apply kN|apply kD|apply kA)); exact BK1604.out) hb); have n1_ := aM (below_step (by repeat (first | (with_reducible first | exact HB.out | apply bA|apply bN|apply b1 | refine below_set ?_ GE1604.out) | exact HB.out)) hb); clear BK1604; clear HB; have BK1604 := n0_; have HB := n1_; clear n0_ n1_; (try clear hb); have hcz9_0 : w8.cell? ⟨gb1604, 0, none⟩ = some (.int .i64 a0_0) := (blk_cell BK1604.out 0).trans rfl; have hcz9_1 : w8.cell? ⟨gb1604, 1, none⟩ = some (.int .i64 a0_1) := (blk_cell BK1604.out 1).trans rfl; have hcz9_2 : w8.cell? ⟨gb1604, 2, none⟩ = some (.int .i64 a0_2) := (blk_cell BK1604.out 2).trans rfl; have hcz9_3 : w8.cell? ⟨gb1604, 3, none⟩ = some (.int .i64 a0_3) := (blk_cell BK1604.out 3).trans rfl; have hcz9_4 : w8.cell? ⟨gb1604, 4, none⟩ = some (.int .i64 a0_4) := (blk_cell BK1604.out 4).trans rfl; have hcz9_5 : w8.cell? ⟨gb1604, 5, none⟩ = some (.int .i64 a0_5) := (blk_cell BK1604.out 5).trans rfl; have hfz9_0 := blk_frozen BK1604.out 0; have hfz9_1 := blk_frozen BK1604.out 1; have hfz9_2 := blk_frozen BK1604.out 2; have hfz9_3 := blk_frozen BK1604.out 3; have hfz9_4 := blk_frozen BK1604.out 4; have hfz9_5 := blk_frozen BK1604.out 5) | (go_at_call 165; (with_reducible refine (spec_l02Kind.calls k a0_0 a0_1 a0_2 a0_3 t1606 _ A4.out).mono ?_); rintro e w10 ⟨rfl, hb⟩; have n0_ := aM (blk_below (g := gb1604) (o := .cells #[.int .i64 a0_0, .int .i64 a0_1, .int .i64 a0_2, .int .i64 a0_3, .int .i64 a0_4, .int .i64 a0_5] 84 (0, 0)) (by (with_reducible repeat (first|apply kN|apply kD|apply kA)); exact BK1604.out) hb); have n1_ := aM (below_step (by repeat (first | (with_reducible first | exact HB.out | apply bA|apply bN|apply b1 | refine below_set ?_ GE1604.out) | exact HB.out)) hb); clear BK1604; clear HB; have BK1604 := n0_; have HB := n1_; clear n0_ n1_; (try clear hb)))
   go_ret
   exact ⟨by first|rfl|(simp [*, errW_none, errW_some] <;> rfl), by repeat (first | (with_reducible first | exact HB.out | apply bA|apply bN|apply b1 | refine below_set ?_ GE1604.out) | exact HB.out)⟩
  ·rw [if_neg c5] at H
   have c5b0 : (t1606 == 0) = false := beq_eq_false_iff_ne.mpr c5
   have c5b1 : (t1606 != 0) = true := bne_iff_ne.mpr c5
   replace H := Option.bind_eq_some_iff.mp H
   obtain ⟨t1607, A110, H⟩ := H
   try dsimp only at H
   have A11 := aM A110
   clear A110
   obtain rfl := Option.some.inj H
   go_enter Try.func92, Try.ntmps92
   go_wp2_with (first | ((with_reducible refine gate_dst (N := 1) rfl ?_); refine box_event ?hg (N := 1) ?hd (cs := #[.int .i64 a0_0, .int .i64 a0_1, .int .i64 a0_2, .int .i64 a0_3, .int .i64 a0_4, .int .i64 a0_5]) (t := 84) ?hr ?_; (case hd => rfl); (case hg => rfl); (case hr => first | (go_simp; done) | (go_simp; rfl)); intro gb1604 hg w12 hbox hb; have n0_ := aM (below_step (by repeat (first | (with_reducible first | exact HB.out | apply bA|apply bN|apply b1) | exact HB.out)) hb); have n1_ := aM (hbox); have n2_ := aM ((by rw [hg]; exact (below_size (by repeat (first | (with_reducible first | exact HB.out | apply bA|apply bN|apply b1) | exact HB.out))) : w.heap.size ≤ gb1604)); have n3_ := aM ((by rw [hg]; exact (below_size (by repeat (first | (with_reducible first | exact HB.out | apply bA|apply bN|apply b1) | exact HB.out))) : w.heap.size ≤ gb1604)); clear HB; have HB := n0_; have BK1604 := n1_; have GW1604 := n2_; have GE1604 := n3_; clear n0_ n1_ n2_ n3_; clear hb hbox hg; have hcz13_0 : w12.cell? ⟨gb1604, 0, none⟩ = some (.int .i64 a0_0) := (blk_cell BK1604.out 0).trans rfl; have hcz13_1 : w12.cell? ⟨gb1604, 1, none⟩ = some (.int .i64 a0_1) := (blk_cell BK1604.out 1).trans rfl; have hcz13_2 : w12.cell? ⟨gb1604, 2, none⟩ = some (.int .i64 a0_2) := (blk_cell BK1604.out 2).trans rfl; have hcz13_3 : w12.cell? ⟨gb1604, 3, none⟩ = some (.int .i64 a0_3) := (blk_cell BK1604.out 3).trans rfl; have hcz13_4 : w12.cell? ⟨gb1604, 4, none⟩ = some (.int .i64 a0_4) := (blk_cell BK1604.out 4).trans rfl; have hcz13_5 : w12.cell? ⟨gb1604, 5, none⟩ = some (.int .i64 a0_5) := (blk_cell BK1604.out 5).trans rfl; have hfz13_0 := blk_frozen BK1604.out 0; have hfz13_1 := blk_frozen BK1604.out 1; have hfz13_2 := blk_frozen BK1604.out 2; have hfz13_3 := blk_frozen BK1604.out 3; have hfz13_4 := blk_frozen BK1604.out 4; have hfz13_5 := blk_frozen BK1604.out 5) | ((with_reducible refine gate_callee (f := 52) rfl ?_); refine goesL_ (some 5) rfl rfl Try.func52 (by kernel_rfl) rfl #[.agg #[.int .i64 a0_0, .int .i64 a0_1, .int .i64 a0_2, .int .i64 a0_3]] rfl (by first|rfl|(simp only [List.map_toArray, List.map_cons, List.map_nil]; try rfl)) ?_; (with_reducible refine (spec_IsMat.calls a0_0 a0_1 a0_2 a0_3 true _ A2.out).mono ?_); rintro e w14 ⟨rfl, hb⟩; refine ⟨_, rfl, ?_⟩; have n0_ := aM (blk_below (g := gb1604) (o := .cells #[.int .i64 a0_0, .int .i64 a0_1, .int .i64 a0_2, .int .i64 a0_3, .int .i64 a0_4, .int .i64 a0_5] 84 (0, 0)) (by (with_reducible repeat (first|apply kN|apply kD|apply kA)); exact BK1604.out) hb); have n1_ := aM (below_step (by repeat (first | (with_reducible first | exact HB.out | apply bA|apply bN|apply b1 | refine below_set ?_ GE1604.out) | exact HB.out)) hb); clear BK1604; clear HB; have BK1604 := n0_; have HB := n1_; clear n0_ n1_; (try clear hb); have hcz15_0 : w14.cell? ⟨gb1604, 0, none⟩ = some (.int .i64 a0_0) := (blk_cell BK1604.out 0).trans rfl; have hcz15_1 : w14.cell? ⟨gb1604, 1, none⟩ = some (.int .i64 a0_1) := (blk_cell BK1604.out 1).trans rfl; have hcz15_2 : w14.cell? ⟨gb1604, 2, none⟩ = some (.int .i64 a0_2) := (blk_cell BK1604.out 2).trans rfl; have hcz15_3 : w14.cell? ⟨gb1604, 3, none⟩ = some (.int .i64 a0_3) := (blk_cell BK1604.out 3).trans rfl; have hcz15_4 : w14.cell? ⟨gb1604, 4, none⟩ = some (.int .i64 a0_4) := (blk_cell BK1604.out 4).trans rfl; have hcz15_5 : w14.cell? ⟨gb1604, 5, none⟩ = some (.int .i64 a0_5) := (blk_cell BK1604.out 5).trans rfl; have hfz15_0 := blk_frozen BK1604.out 0; have hfz15_1 := blk_frozen BK1604.out 1; have hfz15_2 := blk_frozen BK1604.out 2; have hfz15_3 := blk_frozen BK1604.out 3; have hfz15_4 := blk_frozen BK1604.out 4; have hfz15_5 := blk_frozen BK1604.out 5) | (go_at_call 165; (with_reducible refine (spec_l02Kind.calls k a0_0 a0_1 a0_2 a0_3 t1606 _ A4.out).mono ?_); rintro e w16 ⟨rfl, hb⟩; have n0_ := aM (blk_below (g := gb1604) (o := .cells #[.int .i64 a0_0, .int .i64 a0_1, .int .i64 a0_2, .int .i64 a0_3, .int .i64 a0_4, .int .i64 a0_5] 84 (0, 0)) (by (with_reducible repeat (first|apply kN|apply kD|apply kA)); exact BK1604.out) hb); have n1_ := aM (below_step (by repeat (first | (with_reducible first | exact HB.out | apply bA|apply bN|apply b1 | refine below_set ?_ GE1604.out) | exact HB.out)) hb); clear BK1604; clear HB; have BK1604 := n0_; have HB := n1_; clear n0_ n1_; (try clear hb); have hcz17_0 : w16.cell? ⟨gb1604, 0, none⟩ = some (.int .i64 a0_0) := (blk_cell BK1604.out 0).trans rfl; have hcz17_1 : w16.cell? ⟨gb1604, 1, none⟩ = some (.int .i64 a0_1) := (blk_cell BK1604.out 1).trans rfl; have hcz17_2 : w16.cell? ⟨gb1604, 2, none⟩ = some (.int .i64 a0_2) := (blk_cell BK1604.out 2).trans rfl; have hcz17_3 : w16.cell? ⟨gb1604, 3, none⟩ = some (.int .i64 a0_3) := (blk_cell BK1604.out 3).trans rfl; have hcz17_4 : w16.cell? ⟨gb1604, 4, none⟩ = some (.int .i64 a0_4) := (blk_cell BK1604.out 4).trans rfl; have hcz17_5 : w16.cell? ⟨gb1604, 5, none⟩ = some (.int .i64 a0_5) := (blk_cell BK1604.out 5).trans rfl; have hfz17_0 := blk_frozen BK1604.out 0; have hfz17_1 := blk_frozen BK1604.out 1; have hfz17_2 := blk_frozen BK1604.out 2; have hfz17_3 := blk_frozen BK1604.out 3; have hfz17_4 := blk_frozen BK1604.out 4; have hfz17_5 := blk_frozen BK1604.out 5) | (go_at_call 33; (with_reducible refine (spec_IsVec.calls a0_4 a0_5 t1607 _ A11.out).mono ?_); rintro e w18 ⟨rfl, hb⟩; have n0_ := aM (blk_below (g := gb1604) (o := .cells #[.int .i64 a0_0, .int .i64 a0_1, .int .i64 a0_2, .int .i64 a0_3, .int .i64 a0_4, .int .i64 a0_5] 84 (0, 0)) (by (with_reducible repeat (first|apply kN|apply kD|apply kA)); exact BK1604.out) hb); have n1_ := aM (below_step (by repeat (first | (with_reducible first | exact HB.out | apply bA|apply bN|apply b1 | refine below_set ?_ GE1604.out) | exact HB.out)) hb); clear BK1604; clear HB; have BK1604 := n0_; have HB := n1_; clear n0_ n1_; (try clear hb)))
   go_ret
   exact ⟨by first|rfl|(simp [*, errW_none, errW_some] <;> rfl), by repeat (first | (with_reducible first | exact HB.out | apply bA|apply bN|apply b1 | refine below_set ?_ GE1604.out) | exact HB.out)⟩
 ·replace c3 := Bool.eq_false_iff.mpr c3
  subst c3
  have H1 : (some false) = some r := by rw [if_neg (show ¬ (false = true) by decide)] at H; exact H
  clear H
  have H := H1
  clear H1
  obtain rfl := Option.some.inj H
  go_enter Try.func92, Try.ntmps92
  go_wp2_with (first | ((with_reducible refine gate_dst (N := 1) rfl ?_); refine box_event ?hg (N := 1) ?hd (cs := #[.int .i64 a0_0, .int .i64 a0_1, .int .i64 a0_2, .int .i64 a0_3, .int .i64 a0_4, .int .i64 a0_5]) (t := 84) ?hr ?_; (case hd => rfl); (case hg => rfl); (case hr => first | (go_simp; done) | (go_simp; rfl)); intro gb1604 hg w19 hbox hb; have n0_ := aM (below_step (by repeat (first | (with_reducible first | exact HB.out | apply bA|apply bN|apply b1) | exact HB.out)) hb); have n1_ := aM (hbox); have n2_ := aM ((by rw [hg]; exact (below_size (by repeat (first | (with_reducible first | exact HB.out | apply bA|apply bN|apply b1) | exact HB.out))) : w.heap.size ≤ gb1604)); have n3_ := aM ((by rw [hg]; exact (below_size (by repeat (first | (with_reducible first | exact HB.out | apply bA|apply bN|apply b1) | exact HB.out))) : w.heap.size ≤ gb1604)); clear HB; have HB := n0_; have BK1604 := n1_; have GW1604 := n2_; have GE1604 := n3_; clear n0_ n1_ n2_ n3_; clear hb hbox hg; have hcz20_0 : w19.cell? ⟨gb1604, 0, none⟩ = some (.int .i64 a0_0) := (blk_cell BK1604.out 0).trans rfl; have hcz20_1 : w19.cell? ⟨gb1604, 1, none⟩ = some (.int .i64 a0_1) := (blk_cell BK1604.out 1).trans rfl; have hcz20_2 : w19.cell? ⟨gb1604, 2, none⟩ = some (.int .i64 a0_2) := (blk_cell BK1604.out 2).trans rfl; have hcz20_3 : w19.cell? ⟨gb1604, 3, none⟩ = some (.int .i64 a0_3) := (blk_cell BK1604.out 3).trans rfl; have hcz20_4 : w19.cell? ⟨gb1604, 4, none⟩ = some (.int .i64 a0_4) := (blk_cell BK1604.out 4).trans rfl; have hcz20_5 : w19.cell? ⟨gb1604, 5, none⟩ = some (.int .i64 a0_5) := (blk_cell BK1604.out 5).trans rfl; have hfz20_0 := blk_frozen BK1604.out 0; have hfz20_1 := blk_frozen BK1604.out 1; have hfz20_2 := blk_frozen BK1604.out 2; have hfz20_3 := blk_frozen BK1604.out 3; have hfz20_4 := blk_frozen BK1604.out 4; have hfz20_5 := blk_frozen BK1604.out 5) | ((with_reducible refine gate_callee (f := 52) rfl ?_); refine goesL_ (some 5) rfl rfl Try.func52 (by kernel_rfl) rfl #[.agg #[.int .i64 a0_0, .int .i64 a0_1, .int .i64 a0_2, .int .i64 a0_3]] rfl (by first|rfl|(simp only [List.map_toArray, List.map_cons, List.map_nil]; try rfl)) ?_; (with_reducible refine (spec_IsMat.calls a0_0 a0_1 a0_2 a0_3 false _ A2.out).mono ?_); rintro e w21 ⟨rfl, hb⟩; refine ⟨_, rfl, ?_⟩; have n0_ := aM (blk_below (g := gb1604) (o := .cells #[.int .i64 a0_0, .int .i64 a0_1, .int .i64 a0_2, .int .i64 a0_3, .int .i64 a0_4, .int .i64 a0_5] 84 (0, 0)) (by (with_reducible repeat (first|apply kN|apply kD|apply kA)); exact BK1604.out) hb); have n1_ := aM (below_step (by repeat (first | (with_reducible first | exact HB.out | apply bA|apply bN|apply b1 | refine below_set ?_ GE1604.out) | exact HB.out)) hb); clear BK1604; clear HB; have BK1604 := n0_; have HB := n1_; clear n0_ n1_; (try clear hb)))
  go_ret
  exact ⟨by first|rfl|(simp [*, errW_none, errW_some] <;> rfl), by repeat (first | (with_reducible first | exact HB.out | apply bA|apply bN|apply b1 | refine below_set ?_ GE1604.out) | exact HB.out)⟩

end Go.Proofs.Ytjjbjaagfjljnaa.F

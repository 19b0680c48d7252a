import Derived.Test.YtjjbjaagfjljnaaK0
import Derived.Test.YtjjbjaagfjljnaaK2
namespace Go.Proofs.Ytjjbjaagfjljnaa.F
open Go.RowKit Go.Proofs.YtjjbjaagfjljnaaW.PrintWords Go.Proofs.YtjjbjaagfjljnaaW.PrintLast Go.Proofs.YtjjbjaagfjljnaaW.PrintMore
attribute [local go_sem] max2_int min2_int max_two min_two max_three min_three max_four min_four   -- for this text's walks alone
set_option linter.unusedVariables false
set_option linter.unusedSimpArgs false

def spec_l04Keeps.f (a0 : Int) (a1_0 : Int) (a1_1 : Int) (a1_2 : Int) (a1_3 : Int) : Option (Bool) := (spec_l04Norm.f a0 a1_0 a1_2).bind fun t1460 => (if t1460 = 1 then ((spec_l04Norm.f a0 a1_1 a1_3).bind fun t1461 => (if t1461 = 1 then ((spec_l01Add.f a1_0 a1_2 a1_1 a1_3).bind fun bt1462 => ((spec_l04Norm.f a0 bt1462.1 bt1462.2).bind fun t1464 => (some (t1464 == (wrap64 (2 + a0)))))) else (some false))) else (some false))
def spec_l04Keeps.T1 : Bool × List (List Nat × List Nat) := (true, [([], []), ([0], [0]), ([], []), ([2], [2]), ([1, 3], [1, 3]), ([], []), ([5], [5]), ([], []), ([7], [7]), ([6, 8], [6, 8]), ([], []), ([], []), ([10, 4, 0, 1, 2, 3, 4, 10, 11], [4, 10]), ([11, 9, 12, 0, 1, 2, 3, 4, 5, 6, 7, 8, 9, 10, 11, 12], [9, 11])])
def spec_l04Keeps.B1 : List Nat := [0, 1, 0, 4, 15, 0, 32, 0, 128, 480, 0, 0, 3103, 8191]
theorem spec_l04Keeps.tab1 : rtab .any (opsOf Try.f202 1) = spec_l04Keeps.T1 := by kernel_rfl
theorem spec_l04Keeps.bits1 : waitsOk spec_l04Keeps.T1.2 spec_l04Keeps.B1 = true := by kernel_rfl
set_option maxHeartbeats 40000000 in
set_option maxRecDepth 100000 in
theorem spec_l04Keeps.calls (a0 : Int) (a1_0 : Int) (a1_1 : Int) (a1_2 : Int) (a1_3 : Int) (r : Bool) (w : World) (h : spec_l04Keeps.f a0 a1_0 a1_1 a1_2 a1_3 = some r) :
  Calls Try.prog 202 #[.int .i64 a0, .agg #[.int .i64 a1_0, .int .i64 a1_1, .int .i64 a1_2, .int .i64 a1_3]] w fun e w' => e = .returned (.bool r) ∧ Below w.heap.size w w' := by
 have hu51 := Try.underlying51
 have hu25 := Try.underlying25
 have HB := aM (Below.refl w.heap.size w)
 have H : ((spec_l04Norm.f a0 a1_0 a1_2).bind fun t1460 => (if t1460 = 1 then ((spec_l04Norm.f a0 a1_1 a1_3).bind fun t1461 => (if t1461 = 1 then ((spec_l01Add.f a1_0 a1_2 a1_1 a1_3).bind fun bt1462 => ((spec_l04Norm.f a0 bt1462.1 bt1462.2).bind fun t1464 => (some (t1464 == (wrap64 (2 + a0)))))) else (some false))) else (some false))) = some r := h
 clear h
 replace H := Option.bind_eq_some_iff.mp H
 obtain ⟨t1460, A30, H⟩ := H
 try dsimp only at H
 have A3 := aM A30
 clear A30
 by_cases c4 : t1460 = 1
 ·rw [if_pos c4] at H
  have c4b0 : (t1460 == 1) = true := beq_iff_eq.mpr c4
  have c4b1 : (t1460 != 1) = false := bne_eq_false_iff_eq.mpr c4
  clear c4
  replace H := Option.bind_eq_some_iff.mp H
  obtain ⟨t1461, A50, H⟩ := H
  try dsimp only at H
  have A5 := aM A50
  clear A50
  by_cases c6 : t1461 = 1
  ·rw [if_pos c6] at H
   have c6b0 : (t1461 == 1) = true := beq_iff_eq.mpr c6
   have c6b1 : (t1461 != 1) = false := bne_eq_false_iff_eq.mpr c6
   clear c6
   replace H := Option.bind_eq_some_iff.mp H
   obtain ⟨⟨t1462, t1463⟩, A70, H⟩ := H
   try dsimp only at H
   have A7 := aM A70
   clear A70
   replace H := Option.bind_eq_some_iff.mp H
   obtain ⟨t1464, A80, H⟩ := H
   try dsimp only at H
   have A8 := aM A80
   clear A80
   obtain rfl := Option.some.inj H
   go_enter Try.func202, Try.ntmps202
   try go_wp2_with (first | ((with_reducible refine gate_dst (N := 3) rfl ?_); refine box_event ?hg (N := 3) ?hd (cs := #[.int .i64 a1_0, .int .i64 a1_1, .int .i64 a1_2, .int .i64 a1_3]) (t := 51) ?hr ?_; (case hd => rfl); (case hg => rfl); (case hr => first | (go_simp; done) | (go_simp; rfl)); intro gb1457 hg w9 hbox hb; have n0_ := aM (below_step (by repeat (first | (with_reducible first | exact HB.out | apply bA|apply bN|apply b1) | exact HB.out)) hb); have n1_ := aM (hbox); have n2_ := aM ((by rw [hg]; exact (below_size (by repeat (first | (with_reducible first | exact HB.out | apply bA|apply bN|apply b1) | exact HB.out))) : w.heap.size ≤ gb1457)); have n3_ := aM ((by rw [hg]; exact (below_size (by repeat (first | (with_reducible first | exact HB.out | apply bA|apply bN|apply b1) | exact HB.out))) : w.heap.size ≤ gb1457)); clear HB; have HB := n0_; have BK1457 := n1_; have GW1457 := n2_; have GE1457 := n3_; clear n0_ n1_ n2_ n3_; clear hb hbox hg))
   have n0_ := aM (blk_drew BK1457.out)
   have n1_ := aM (below_drew1 HB.out)
   clear BK1457
   clear HB
   have BK1457 := n0_
   have HB := n1_
   clear n0_ n1_
   refine start_ (n := 14) (S := fun w' => w'.cell? ⟨gb1457, 0, none⟩ = some (.int .i64 a1_0) ∧ w'.cell? ⟨gb1457, 1, none⟩ = some (.int .i64 a1_1) ∧ w'.cell? ⟨gb1457, 2, none⟩ = some (.int .i64 a1_2) ∧ w'.cell? ⟨gb1457, 3, none⟩ = some (.int .i64 a1_3)) (ds := []) #[false, false, false, false, false, false, false, false, false, false, false, false, false, false] (by kernel_rfl) rfl rfl ⟨(blk_cell BK1457.out 0).trans rfl, (blk_cell BK1457.out 1).trans rfl, (blk_cell BK1457.out 2).trans rfl, (blk_cell BK1457.out 3).trans rfl⟩ (fun hHeld => ?_); refine with_tabW spec_l04Keeps.tab1 spec_l04Keeps.bits1 (fun HT_ HW_ => ?_)
   generalize w9.drew = w10 at BK1457 HB hHeld ⊢
   refine pure_ (i := 0) (N := some 7) (v := ?_) (a' := ?_) #[true, false, false, false, false, false, false, false, false, false, false, false, false, false] rfl rfl (any_of HT_.out (by kernel_rfl)) (fun _ _ _ h => h) (Or.inl ⟨by rfl, ?_⟩) ?_ ?_
   rotate_left
   ·intro w'
    go_simp
    with_reducible rfl
   rotate_left
   ·simp only [Act.put, List.setIfInBounds_toArray, List.set_cons_zero, List.set_cons_succ, i64_w, i32_w]
    rfl
   refine pure_ (i := 2) (N := some 9) (v := ?_) (a' := ?_) #[true, false, true, false, false, false, false, false, false, false, false, false, false, false] rfl rfl (any_of HT_.out (by kernel_rfl)) (fun _ _ _ h => h) (Or.inl ⟨by rfl, ?_⟩) ?_ ?_
   rotate_left
   ·intro w'
    go_simp
    with_reducible rfl
   rotate_left
   ·simp only [Act.put, List.setIfInBounds_toArray, List.set_cons_zero, List.set_cons_succ, i64_w, i32_w]
    rfl
   refine pure_ (i := 5) (N := some 12) (v := ?_) (a' := ?_) #[true, false, true, false, false, true, false, false, false, false, false, false, false, false] rfl rfl (any_of HT_.out (by kernel_rfl)) (fun _ _ _ h => h) (Or.inl ⟨by rfl, ?_⟩) ?_ ?_
   rotate_left
   ·intro w'
    go_simp
    with_reducible rfl
   rotate_left
   ·simp only [Act.put, List.setIfInBounds_toArray, List.set_cons_zero, List.set_cons_succ, i64_w, i32_w]
    rfl
   refine pure_ (i := 7) (N := some 14) (v := ?_) (a' := ?_) #[true, false, true, false, false, true, false, true, false, false, false, false, false, false] rfl rfl (any_of HT_.out (by kernel_rfl)) (fun _ _ _ h => h) (Or.inl ⟨by rfl, ?_⟩) ?_ ?_
   rotate_left
   ·intro w'
    go_simp
    with_reducible rfl
   rotate_left
   ·simp only [Act.put, List.setIfInBounds_toArray, List.set_cons_zero, List.set_cons_succ, i64_w, i32_w]
    rfl
   refine take_ (i := 1) (N := some 8) (v := ?_) (a' := ?_) #[true, true, true, false, false, true, false, true, false, false, false, false, false, false] rfl rfl (take_ofW HT_.out HW_.out (by kernel_rfl)) (fun _ _ _ h => h) (Or.inl ⟨by rfl, ?_⟩) hHeld ?_ ?_
   rotate_left
   ·rintro w' ⟨s0, s1, s2, s3⟩
    go_simp
    with_reducible rfl
   rotate_left
   ·simp only [Act.put, List.setIfInBounds_toArray, List.set_cons_zero, List.set_cons_succ, i64_w, i32_w]
    rfl
   refine take_ (i := 3) (N := some 10) (v := ?_) (a' := ?_) #[true, true, true, true, false, true, false, true, false, false, false, false, false, false] rfl rfl (take_ofW HT_.out HW_.out (by kernel_rfl)) (fun _ _ _ h => h) (Or.inl ⟨by rfl, ?_⟩) hHeld ?_ ?_
   rotate_left
   ·rintro w' ⟨s0, s1, s2, s3⟩
    go_simp
    with_reducible rfl
   rotate_left
   ·simp only [Act.put, List.setIfInBounds_toArray, List.set_cons_zero, List.set_cons_succ, i64_w, i32_w]
    rfl
   refine pure_ (i := 4) (N := some 11) (v := ?_) (a' := ?_) #[true, true, true, true, true, true, false, true, false, false, false, false, false, false] rfl rfl (any_of HT_.out (by kernel_rfl)) (fun _ _ _ h => h) (Or.inl ⟨by rfl, ?_⟩) ?_ ?_
   rotate_left
   ·intro w'
    go_simp
    with_reducible rfl
   rotate_left
   ·simp only [Act.put, List.setIfInBounds_toArray, List.set_cons_zero, List.set_cons_succ, i64_w, i32_w]
    rfl
   refine take_ (i := 6) (N := some 13) (v := ?_) (a' := ?_) #[true, true, true, true, true, true, true, true, false, false, false, false, false, false] rfl rfl (take_ofW HT_.out HW_.out (by kernel_rfl)) (fun _ _ _ h => h) (Or.inl ⟨by rfl, ?_⟩) hHeld ?_ ?_
   rotate_left
   ·rintro w' ⟨s0, s1, s2, s3⟩
    go_simp
    with_reducible rfl
   rotate_left
   ·simp only [Act.put, List.setIfInBounds_toArray, List.set_cons_zero, List.set_cons_succ, i64_w, i32_w]
    rfl
   refine take_ (i := 8) (N := some 15) (v := ?_) (a' := ?_) #[true, true, true, true, true, true, true, true, true, false, false, false, false, false] rfl rfl (take_ofW HT_.out HW_.out (by kernel_rfl)) (fun _ _ _ h => h) (Or.inl ⟨by rfl, ?_⟩) hHeld ?_ ?_
   rotate_left
   ·rintro w' ⟨s0, s1, s2, s3⟩
    go_simp
    with_reducible rfl
   rotate_left
   ·simp only [Act.put, List.setIfInBounds_toArray, List.set_cons_zero, List.set_cons_succ, i64_w, i32_w]
    rfl
   refine pure_ (i := 9) (N := some 16) (v := ?_) (a' := ?_) #[true, true, true, true, true, true, true, true, true, true, false, false, false, false] rfl rfl (any_of HT_.out (by kernel_rfl)) (fun _ _ _ h => h) (Or.inl ⟨by rfl, ?_⟩) ?_ ?_
   rotate_left
   ·intro w'
    go_simp
    with_reducible rfl
   rotate_left
   ·simp only [Act.put, List.setIfInBounds_toArray, List.set_cons_zero, List.set_cons_succ, i64_w, i32_w]
    rfl
   refine join_ (σ := Nat × Nat) 2 #[true, true, true, true, true, true, true, true, true, true, true, true, false, false] (fun s_ => [(5, .pointer (some ⟨s_.1, 0, none⟩)), (6, .pointer (some ⟨s_.2, 0, none⟩))]) (fun s_ w' => (w'.cell? ⟨gb1457, 0, none⟩ = some (.int .i64 a1_0) ∧ w'.cell? ⟨gb1457, 1, none⟩ = some (.int .i64 a1_1) ∧ w'.cell? ⟨gb1457, 2, none⟩ = some (.int .i64 a1_2) ∧ w'.cell? ⟨gb1457, 3, none⟩ = some (.int .i64 a1_3)) ∧ (w'.heap[gb1457]? = some (.cells #[.int .i64 a1_0, .int .i64 a1_1, .int .i64 a1_2, .int .i64 a1_3] 51 (0, 0))) ∧ (w'.heap[s_.1]? = some (.cells #[.int .i64 0, .int .i64 0] 25 (0, 0))) ∧ (w'.heap[s_.2]? = some (.cells #[.int .i64 0, .int .i64 0] 25 (0, 0))) ∧ (w.heap.size ≤ s_.1) ∧ (w.heap.size ≤ s_.1) ∧ (gb1457 ≠ s_.1) ∧ (s_.1 ≠ gb1457) ∧ (s_.2 ≠ s_.1) ∧ (s_.1 ≠ s_.2) ∧ (w.heap.size ≤ s_.2) ∧ (w.heap.size ≤ s_.2) ∧ (gb1457 ≠ s_.2) ∧ (s_.2 ≠ gb1457) ∧ (Below w.heap.size w w')) ?_ ?_
   rotate_left
   ·intro hCont
    refine two_ (i := 10) (j := 11) (Ni := some 5) (Nj := some 6) #[true, true, true, true, true, true, true, true, true, true, true, false, false, false] #[true, true, true, true, true, true, true, true, true, true, false, true, false, false] rfl rfl rfl rfl (two_of HT_.out (by kernel_rfl)) (by decide) (by decide) (fun K hK => ?_) (fun K hK => ?_)
    ·skip
     refine box_step ?hg (N := 5) ?hd (cs := #[.int .i64 0, .int .i64 0]) (t := 25) ?hr ?_; (case hd => rfl); (case hg => rfl); (case hr => first | (go_simp; done) | (go_simp; rfl))
     intro gb1458 hg w11 hbox hb
     have n0_ := aM (blk_below (g := gb1457) (o := .cells #[.int .i64 a1_0, .int .i64 a1_1, .int .i64 a1_2, .int .i64 a1_3] 51 (0, 0)) (by (with_reducible repeat (first|apply kN|apply kD|apply kA)); exact BK1457.out) hb)
     have n1_ := aM (below_step (by repeat (first | (with_reducible first | exact HB.out | apply bA|apply bN|apply b1 | refine below_set ?_ GE1457.out) | exact HB.out)) hb)
     have n2_ := aM (hbox)
     have n3_ := aM ((by rw [hg]; exact (below_size (by repeat (first | (with_reducible first | exact HB.out | apply bA|apply bN|apply b1 | refine below_set ?_ GE1457.out) | exact HB.out))) : w.heap.size ≤ gb1458))
     have n4_ := aM ((by rw [hg]; exact (below_size (by repeat (first | (with_reducible first | exact HB.out | apply bA|apply bN|apply b1 | refine below_set ?_ GE1457.out) | exact HB.out))) : w.heap.size ≤ gb1458))
     have n5_ := aM ((by rw [hg]; exact Nat.ne_of_lt (blk_lt (g := gb1457) (o := .cells #[.int .i64 a1_0, .int .i64 a1_1, .int .i64 a1_2, .int .i64 a1_3] 51 (0, 0)) (by (with_reducible repeat (first|apply kN|apply kD|apply kA)); exact BK1457.out)) : gb1457 ≠ gb1458))
     have n6_ := aM ((by rw [hg]; exact Nat.ne_of_gt (blk_lt (g := gb1457) (o := .cells #[.int .i64 a1_0, .int .i64 a1_1, .int .i64 a1_2, .int .i64 a1_3] 51 (0, 0)) (by (with_reducible repeat (first|apply kN|apply kD|apply kA)); exact BK1457.out)) : gb1458 ≠ gb1457))
     clear BK1457
     clear HB
     have BK1457 := n0_
     have HB := n1_
     have BK1458 := n2_
     have GW1458 := n3_
     have GE1458 := n4_
     have NB1457_1458 := n5_
     have NB1458_1457 := n6_
     clear n0_ n1_ n2_ n3_ n4_ n5_ n6_
     clear hb hbox hg
     refine hK.out _ _ ⟨(blk_cell BK1457.out 0).trans rfl, (blk_cell BK1457.out 1).trans rfl, (blk_cell BK1457.out 2).trans rfl, (blk_cell BK1457.out 3).trans rfl⟩ (fun hHeld => ?_)
     clear hK K
     refine norm_ (a' := ?_) ?_ ?_
     rotate_left
     ·show Act.put _ (some 5) _ = _
      simp only [Act.put, List.setIfInBounds_toArray, List.set_cons_zero, List.set_cons_succ, i64_w, i32_w]
      rfl
     refine one_ (i := 11) (N := some 6) #[true, true, true, true, true, true, true, true, true, true, true, true, false, false] rfl rfl (one_of HT_.out (by kernel_rfl)) (by decide) (fun K hK => ?_)
     refine box_step ?hg (N := 6) ?hd (cs := #[.int .i64 0, .int .i64 0]) (t := 25) ?hr ?_; (case hd => rfl); (case hg => rfl); (case hr => first | (go_simp; done) | (go_simp; rfl))
     intro gb1459 hg w12 hbox hb
     have n0_ := aM (blk_below (g := gb1457) (o := .cells #[.int .i64 a1_0, .int .i64 a1_1, .int .i64 a1_2, .int .i64 a1_3] 51 (0, 0)) (by (with_reducible repeat (first|apply kN|apply kD|apply kA)); exact BK1457.out) hb)
     have n1_ := aM (blk_below (g := gb1458) (o := .cells #[.int .i64 0, .int .i64 0] 25 (0, 0)) (by (with_reducible repeat (first|apply kN|apply kD|apply kA)); exact BK1458.out) hb)
     have n2_ := aM (below_step (by repeat (first | (with_reducible first | exact HB.out | apply bA|apply bN|apply b1 | refine below_set ?_ (Aside0.out (by assumption))) | exact HB.out)) hb)
     have n3_ := aM (hbox)
     have n4_ := aM ((by rw [hg]; exact (below_size (by repeat (first | (with_reducible first | exact HB.out | apply bA|apply bN|apply b1 | refine below_set ?_ (Aside0.out (by assumption))) | exact HB.out))) : w.heap.size ≤ gb1459))
     have n5_ := aM ((by rw [hg]; exact (below_size (by repeat (first | (with_reducible first | exact HB.out | apply bA|apply bN|apply b1 | refine below_set ?_ (Aside0.out (by assumption))) | exact HB.out))) : w.heap.size ≤ gb1459))
     have n6_ := aM ((by rw [hg]; exact Nat.ne_of_lt (blk_lt (g := gb1457) (o := .cells #[.int .i64 a1_0, .int .i64 a1_1, .int .i64 a1_2, .int .i64 a1_3] 51 (0, 0)) (by (with_reducible repeat (first|apply kN|apply kD|apply kA)); exact BK1457.out)) : gb1457 ≠ gb1459))
     have n7_ := aM ((by rw [hg]; exact Nat.ne_of_gt (blk_lt (g := gb1457) (o := .cells #[.int .i64 a1_0, .int .i64 a1_1, .int .i64 a1_2, .int .i64 a1_3] 51 (0, 0)) (by (with_reducible repeat (first|apply kN|apply kD|apply kA)); exact BK1457.out)) : gb1459 ≠ gb1457))
     have n8_ := aM ((by rw [hg]; exact Nat.ne_of_lt (blk_lt (g := gb1458) (o := .cells #[.int .i64 0, .int .i64 0] 25 (0, 0)) (by (with_reducible repeat (first|apply kN|apply kD|apply kA)); exact BK1458.out)) : gb1458 ≠ gb1459))
     have n9_ := aM ((by rw [hg]; exact Nat.ne_of_gt (blk_lt (g := gb1458) (o := .cells #[.int .i64 0, .int .i64 0] 25 (0, 0)) (by (with_reducible repeat (first|apply kN|apply kD|apply kA)); exact BK1458.out)) : gb1459 ≠ gb1458))
     clear BK1457
     clear BK1458
     clear HB
     have BK1457 := n0_
     have BK1458 := n1_
     have HB := n2_
     have BK1459 := n3_
     have GW1459 := n4_
     have GE1459 := n5_
     have NB1457_1459 := n6_
     have NB1459_1457 := n7_
     have NB1458_1459 := n8_
     have NB1459_1458 := n9_
     clear n0_ n1_ n2_ n3_ n4_ n5_ n6_ n7_ n8_ n9_
     clear hb hbox hg
     refine hK.out _ _ ⟨(blk_cell BK1457.out 0).trans rfl, (blk_cell BK1457.out 1).trans rfl, (blk_cell BK1457.out 2).trans rfl, (blk_cell BK1457.out 3).trans rfl⟩ (fun hHeld => ?_)
     clear hK K
     refine norm_ (a' := ?_) ?_ ?_
     rotate_left
     ·show Act.put _ (some 6) _ = _
      simp only [Act.put, List.setIfInBounds_toArray, List.set_cons_zero, List.set_cons_succ, i64_w, i32_w]
      rfl
     exact norm_ (by simp only [putAll, Act.put, List.setIfInBounds_toArray, List.set_cons_zero, List.set_cons_succ]) (hCont (gb1458, gb1459) _ ⟨hHeld, (by (with_reducible repeat (first|apply kN|apply kD|apply kA)); exact BK1457.out), (by (with_reducible repeat (first|apply kN|apply kD|apply kA)); exact BK1458.out), (by (with_reducible repeat (first|apply kN|apply kD|apply kA)); exact BK1459.out), GW1458.out, GE1458.out, NB1457_1458.out, NB1458_1457.out, NB1459_1458.out, NB1458_1459.out, GW1459.out, GE1459.out, NB1457_1459.out, NB1459_1457.out, (by repeat (first | (with_reducible first | exact HB.out | apply bA|apply bN|apply b1 | refine below_set ?_ (Aside0.out (by assumption))) | exact HB.out))⟩)
    ·skip
     refine box_step ?hg (N := 6) ?hd (cs := #[.int .i64 0, .int .i64 0]) (t := 25) ?hr ?_; (case hd => rfl); (case hg => rfl); (case hr => first | (go_simp; done) | (go_simp; rfl))
     intro gb1459 hg w11 hbox hb
     have n0_ := aM (blk_below (g := gb1457) (o := .cells #[.int .i64 a1_0, .int .i64 a1_1, .int .i64 a1_2, .int .i64 a1_3] 51 (0, 0)) (by (with_reducible repeat (first|apply kN|apply kD|apply kA)); exact BK1457.out) hb)
     have n1_ := aM (below_step (by repeat (first | (with_reducible first | exact HB.out | apply bA|apply bN|apply b1 | refine below_set ?_ GE1457.out) | exact HB.out)) hb)
     have n2_ := aM (hbox)
     have n3_ := aM ((by rw [hg]; exact (below_size (by repeat (first | (with_reducible first | exact HB.out | apply bA|apply bN|apply b1 | refine below_set ?_ GE1457.out) | exact HB.out))) : w.heap.size ≤ gb1459))
     have n4_ := aM ((by rw [hg]; exact (below_size (by repeat (first | (with_reducible first | exact HB.out | apply bA|apply bN|apply b1 | refine below_set ?_ GE1457.out) | exact HB.out))) : w.heap.size ≤ gb1459))
     have n5_ := aM ((by rw [hg]; exact Nat.ne_of_lt (blk_lt (g := gb1457) (o := .cells #[.int .i64 a1_0, .int .i64 a1_1, .int .i64 a1_2, .int .i64 a1_3] 51 (0, 0)) (by (with_reducible repeat (first|apply kN|apply kD|apply kA)); exact BK1457.out)) : gb1457 ≠ gb1459))
     have n6_ := aM ((by rw [hg]; exact Nat.ne_of_gt (blk_lt (g := gb1457) (o := .cells #[.int .i64 a1_0, .int .i64 a1_1, .int .i64 a1_2, .int .i64 a1_3] 51 (0, 0)) (by (with_reducible repeat (first|apply kN|apply kD|apply kA)); exact BK1457.out)) : gb1459 ≠ gb1457))
     clear BK1457
     clear HB
     have BK1457 := n0_
     have HB := n1_
     have BK1459 := n2_
     have GW1459 := n3_
     have GE1459 := n4_
     have NB1457_1459 := n5_
     have NB1459_1457 := n6_
     clear n0_ n1_ n2_ n3_ n4_ n5_ n6_
     clear hb hbox hg
     refine hK.out _ _ ⟨(blk_cell BK1457.out 0).trans rfl, (blk_cell BK1457.out 1).trans rfl, (blk_cell BK1457.out 2).trans rfl, (blk_cell BK1457.out 3).trans rfl⟩ (fun hHeld => ?_)
     clear hK K
     refine norm_ (a' := ?_) ?_ ?_
     rotate_left
     ·show Act.put _ (some 6) _ = _
      simp only [Act.put, List.setIfInBounds_toArray, List.set_cons_zero, List.set_cons_succ, i64_w, i32_w]
      rfl
     refine one_ (i := 10) (N := some 5) #[true, true, true, true, true, true, true, true, true, true, true, true, false, false] rfl rfl (one_of HT_.out (by kernel_rfl)) (by decide) (fun K hK => ?_)
     refine box_step ?hg (N := 5) ?hd (cs := #[.int .i64 0, .int .i64 0]) (t := 25) ?hr ?_; (case hd => rfl); (case hg => rfl); (case hr => first | (go_simp; done) | (go_simp; rfl))
     intro gb1458 hg w12 hbox hb
     have n0_ := aM (blk_below (g := gb1457) (o := .cells #[.int .i64 a1_0, .int .i64 a1_1, .int .i64 a1_2, .int .i64 a1_3] 51 (0, 0)) (by (with_reducible repeat (first|apply kN|apply kD|apply kA)); exact BK1457.out) hb)
     have n1_ := aM (blk_below (g := gb1459) (o := .cells #[.int .i64 0, .int .i64 0] 25 (0, 0)) (by (with_reducible repeat (first|apply kN|apply kD|apply kA)); exact BK1459.out) hb)
     have n2_ := aM (below_step (by repeat (first | (with_reducible first | exact HB.out | apply bA|apply bN|apply b1 | refine below_set ?_ (Aside0.out (by assumption))) | exact HB.out)) hb)
     have n3_ := aM (hbox)
     have n4_ := aM ((by rw [hg]; exact (below_size (by repeat (first | (with_reducible first | exact HB.out | apply bA|apply bN|apply b1 | refine below_set ?_ (Aside0.out (by assumption))) | exact HB.out))) : w.heap.size ≤ gb1458))
     have n5_ := aM ((by rw [hg]; exact (below_size (by repeat (first | (with_reducible first | exact HB.out | apply bA|apply bN|apply b1 | refine below_set ?_ (Aside0.out (by assumption))) | exact HB.out))) : w.heap.size ≤ gb1458))
     have n6_ := aM ((by rw [hg]; exact Nat.ne_of_lt (blk_lt (g := gb1457) (o := .cells #[.int .i64 a1_0, .int .i64 a1_1, .int .i64 a1_2, .int .i64 a1_3] 51 (0, 0)) (by (with_reducible repeat (first|apply kN|apply kD|apply kA)); exact BK1457.out)) : gb1457 ≠ gb1458))
     have n7_ := aM ((by rw [hg]; exact Nat.ne_of_gt (blk_lt (g := gb1457) (o := .cells #[.int .i64 a1_0, .int .i64 a1_1, .int .i64 a1_2, .int .i64 a1_3] 51 (0, 0)) (by (with_reducible repeat (first|apply kN|apply kD|apply kA)); exact BK1457.out)) : gb1458 ≠ gb1457))
     have n8_ := aM ((by rw [hg]; exact Nat.ne_of_lt (blk_lt (g := gb1459) (o := .cells #[.int .i64 0, .int .i64 0] 25 (0, 0)) (by (with_reducible repeat (first|apply kN|apply kD|apply kA)); exact BK1459.out)) : gb1459 ≠ gb1458))
     have n9_ := aM ((by rw [hg]; exact Nat.ne_of_gt (blk_lt (g := gb1459) (o := .cells #[.int .i64 0, .int .i64 0] 25 (0, 0)) (by (with_reducible repeat (first|apply kN|apply kD|apply kA)); exact BK1459.out)) : gb1458 ≠ gb1459))
     clear BK1457
     clear BK1459
     clear HB
     have BK1457 := n0_
     have BK1459 := n1_
     have HB := n2_
     have BK1458 := n3_
     have GW1458 := n4_
     have GE1458 := n5_
     have NB1457_1458 := n6_
     have NB1458_1457 := n7_
     have NB1459_1458 := n8_
     have NB1458_1459 := n9_
     clear n0_ n1_ n2_ n3_ n4_ n5_ n6_ n7_ n8_ n9_
     clear hb hbox hg
     refine hK.out _ _ ⟨(blk_cell BK1457.out 0).trans rfl, (blk_cell BK1457.out 1).trans rfl, (blk_cell BK1457.out 2).trans rfl, (blk_cell BK1457.out 3).trans rfl⟩ (fun hHeld => ?_)
     clear hK K
     refine norm_ (a' := ?_) ?_ ?_
     rotate_left
     ·show Act.put _ (some 5) _ = _
      simp only [Act.put, List.setIfInBounds_toArray, List.set_cons_zero, List.set_cons_succ, i64_w, i32_w]
      rfl
     exact norm_ (by simp only [putAll, Act.put, List.setIfInBounds_toArray, List.set_cons_zero, List.set_cons_succ]) (hCont (gb1458, gb1459) _ ⟨hHeld, (by (with_reducible repeat (first|apply kN|apply kD|apply kA)); exact BK1457.out), (by (with_reducible repeat (first|apply kN|apply kD|apply kA)); exact BK1458.out), (by (with_reducible repeat (first|apply kN|apply kD|apply kA)); exact BK1459.out), GW1458.out, GE1458.out, NB1457_1458.out, NB1458_1457.out, NB1459_1458.out, NB1458_1459.out, GW1459.out, GE1459.out, NB1457_1459.out, NB1459_1457.out, (by repeat (first | (with_reducible first | exact HB.out | apply bA|apply bN|apply b1 | refine below_set ?_ (Aside0.out (by assumption))) | exact HB.out))⟩)
   rintro ⟨gb1458, gb1459⟩ w13 ⟨hS_, h0_, h1_, h2_, h3_, h4_, h5_, h6_, h7_, h8_, h9_, h10_, h11_, h12_, h13_⟩
   have n0_ : Aside0 (w13.heap[gb1457]? = some (.cells #[.int .i64 a1_0, .int .i64 a1_1, .int .i64 a1_2, .int .i64 a1_3] 51 (0, 0))) := ⟨h0_⟩
   have n1_ : Aside0 (w13.heap[gb1458]? = some (.cells #[.int .i64 0, .int .i64 0] 25 (0, 0))) := ⟨h1_⟩
   have n2_ : Aside0 (w13.heap[gb1459]? = some (.cells #[.int .i64 0, .int .i64 0] 25 (0, 0))) := ⟨h2_⟩
   have n3_ : Aside0 (w.heap.size ≤ gb1458) := ⟨h3_⟩
   have n4_ : Aside0 (w.heap.size ≤ gb1458) := ⟨h4_⟩
   have n5_ : Aside0 (gb1457 ≠ gb1458) := ⟨h5_⟩
   have n6_ : Aside0 (gb1458 ≠ gb1457) := ⟨h6_⟩
   have n7_ : Aside0 (gb1459 ≠ gb1458) := ⟨h7_⟩
   have n8_ : Aside0 (gb1458 ≠ gb1459) := ⟨h8_⟩
   have n9_ : Aside0 (w.heap.size ≤ gb1459) := ⟨h9_⟩
   have n10_ : Aside0 (w.heap.size ≤ gb1459) := ⟨h10_⟩
   have n11_ : Aside0 (gb1457 ≠ gb1459) := ⟨h11_⟩
   have n12_ : Aside0 (gb1459 ≠ gb1457) := ⟨h12_⟩
   have n13_ : Aside0 (Below w.heap.size w w13) := ⟨h13_⟩
   clear BK1457
   clear HB
   clear h0_ h1_ h2_ h3_ h4_ h5_ h6_ h7_ h8_ h9_ h10_ h11_ h12_ h13_
   have BK1457 := n0_
   have BK1458 := n1_
   have BK1459 := n2_
   have GW1458 := n3_
   have GE1458 := n4_
   have NB1457_1458 := n5_
   have NB1458_1457 := n6_
   have NB1459_1458 := n7_
   have NB1458_1459 := n8_
   have GW1459 := n9_
   have GE1459 := n10_
   have NB1457_1459 := n11_
   have NB1459_1457 := n12_
   have HB := n13_
   clear n0_ n1_ n2_ n3_ n4_ n5_ n6_ n7_ n8_ n9_ n10_ n11_ n12_ n13_
   have hHeld : w13.cell? ⟨gb1457, 0, none⟩ = some (.int .i64 a1_0) ∧ w13.cell? ⟨gb1457, 1, none⟩ = some (.int .i64 a1_1) ∧ w13.cell? ⟨gb1457, 2, none⟩ = some (.int .i64 a1_2) ∧ w13.cell? ⟨gb1457, 3, none⟩ = some (.int .i64 a1_3) := hS_
   refine norm_ (a' := ?_) ?_ ?_
   rotate_left
   ·simp only [putAll, Act.put, List.setIfInBounds_toArray, List.set_cons_zero, List.set_cons_succ]
    rfl
   refine one_ (i := 12) (N := none) #[true, true, true, true, true, true, true, true, true, true, true, true, true, false] rfl rfl (one_of HT_.out (by kernel_rfl)) (by decide) (fun K hK => ?_)
   have hs14 : w13.cell? ⟨gb1458, 0, none⟩ = some (.int .i64 0) := (blk_cell BK1458.out 0).trans rfl
   have hfs14 := blk_frozen BK1458.out 0
   have hns14_0 := NB1457_1458.out
   have hns14_2 := NB1459_1458.out
   have hms14_0 := NB1458_1457.out
   have hms14_2 := NB1458_1459.out
   have hs15 : w13.cell? ⟨gb1458, 1, none⟩ = some (.int .i64 0) := (blk_cell BK1458.out 1).trans rfl
   have hfs15 := blk_frozen BK1458.out 1
   have hns15_0 := NB1457_1458.out
   have hns15_2 := NB1459_1458.out
   have hms15_0 := NB1458_1457.out
   have hms15_2 := NB1458_1459.out
   refine skip_ (w1 := ?_) (by rfl) rfl ?_ ?_
   rotate_left
   ·go_simp
    rfl
   refine hK.out _ _ ⟨((cell_far (p := ⟨gb1458, _, none⟩) NB1457_1458.out _).trans (((cell_far (p := ⟨gb1458, _, none⟩) NB1457_1458.out _).trans (hHeld.1)))), ((cell_far (p := ⟨gb1458, _, none⟩) NB1457_1458.out _).trans (((cell_far (p := ⟨gb1458, _, none⟩) NB1457_1458.out _).trans (hHeld.2.1)))), ((cell_far (p := ⟨gb1458, _, none⟩) NB1457_1458.out _).trans (((cell_far (p := ⟨gb1458, _, none⟩) NB1457_1458.out _).trans (hHeld.2.2.1)))), ((cell_far (p := ⟨gb1458, _, none⟩) NB1457_1458.out _).trans (((cell_far (p := ⟨gb1458, _, none⟩) NB1457_1458.out _).trans (hHeld.2.2.2))))⟩ (fun hHeld => ?_)
   clear hK K
   refine one_ (i := 13) (N := none) #[true, true, true, true, true, true, true, true, true, true, true, true, true, true] rfl rfl (one_of HT_.out (by kernel_rfl)) (by decide) (fun K hK => ?_)
   have hs16 : w13.cell? ⟨gb1459, 0, none⟩ = some (.int .i64 0) := (blk_cell BK1459.out 0).trans rfl
   have hfs16 := blk_frozen BK1459.out 0
   have hns16_0 := NB1457_1459.out
   have hns16_1 := NB1458_1459.out
   have hms16_0 := NB1459_1457.out
   have hms16_1 := NB1459_1458.out
   have hs17 : w13.cell? ⟨gb1459, 1, none⟩ = some (.int .i64 0) := (blk_cell BK1459.out 1).trans rfl
   have hfs17 := blk_frozen BK1459.out 1
   have hns17_0 := NB1457_1459.out
   have hns17_1 := NB1458_1459.out
   have hms17_0 := NB1459_1457.out
   have hms17_1 := NB1459_1458.out
   refine skip_ (w1 := ?_) (by rfl) rfl ?_ ?_
   rotate_left
   ·go_simp
    rfl
   refine hK.out _ _ ⟨((cell_far (p := ⟨gb1459, _, none⟩) NB1457_1459.out _).trans (((cell_far (p := ⟨gb1459, _, none⟩) NB1457_1459.out _).trans (hHeld.1)))), ((cell_far (p := ⟨gb1459, _, none⟩) NB1457_1459.out _).trans (((cell_far (p := ⟨gb1459, _, none⟩) NB1457_1459.out _).trans (hHeld.2.1)))), ((cell_far (p := ⟨gb1459, _, none⟩) NB1457_1459.out _).trans (((cell_far (p := ⟨gb1459, _, none⟩) NB1457_1459.out _).trans (hHeld.2.2.1)))), ((cell_far (p := ⟨gb1459, _, none⟩) NB1457_1459.out _).trans (((cell_far (p := ⟨gb1459, _, none⟩) NB1457_1459.out _).trans (hHeld.2.2.2))))⟩ (fun hHeld => ?_)
   clear hK K
   refine done_ (done_of HT_.out (by kernel_rfl)) ?_
   have hnb18 := NB1458_1457.out
   have hnc18 := NB1457_1458.out
   have hnb19 := NB1458_1459.out
   have hnc19 := NB1459_1458.out
   have hcz20_0 : w13.cell? ⟨gb1458, 0, none⟩ = some (.int .i64 0) := (blk_cell BK1458.out 0).trans rfl
   have hcz20_1 : w13.cell? ⟨gb1458, 1, none⟩ = some (.int .i64 0) := (blk_cell BK1458.out 1).trans rfl
   have hfz20_0 := blk_frozen BK1458.out 0
   have hfz20_1 := blk_frozen BK1458.out 1
   try go_wp2_with (first | ((with_reducible refine gate_callee (f := 196) rfl ?_); refine goesL_ (some 19) rfl rfl Try.func196 (by kernel_rfl) rfl #[.int .i64 a0, .agg #[.int .i64 a1_0, .int .i64 a1_2]] rfl (by first|rfl|(simp only [List.map_toArray, List.map_cons, List.map_nil]; try rfl)) ?_; (with_reducible refine (spec_l04Norm.calls a0 a1_0 a1_2 t1460 _ A3.out).mono ?_); rintro e w21 ⟨rfl, hb⟩; refine ⟨_, rfl, ?_⟩; have n0_ := aM (blk_below (g := gb1457) (o := .cells #[.int .i64 a1_0, .int .i64 a1_1, .int .i64 a1_2, .int .i64 a1_3] 51 (0, 0)) (by (repeat (first|(with_reducible first|apply kN|apply kD|apply kA)|refine blk_far ?_ NB1457_1459.out _|refine blk_far ?_ NB1457_1458.out _)); exact BK1457.out) hb); have n1_ := aM (blk_below (g := gb1458) (o := .cells #[.int .i64 a1_0, .int .i64 a1_2] 25 (0, 0)) (by (repeat (first|(with_reducible first|apply kN|apply kD|apply kA)|refine blk_far ?_ NB1458_1459.out _)); refine blk_put (cs := #[.int .i64 a1_0, .int .i64 0]) ?_ 1 _ rfl; (with_reducible repeat (first|apply kN|apply kD|apply kA)); refine blk_put (cs := #[.int .i64 0, .int .i64 0]) ?_ 0 _ rfl; (with_reducible repeat (first|apply kN|apply kD|apply kA)); exact BK1458.out) hb); have n2_ := aM (blk_below (g := gb1459) (o := .cells #[.int .i64 a1_1, .int .i64 a1_3] 25 (0, 0)) (by (with_reducible repeat (first|apply kN|apply kD|apply kA)); refine blk_put (cs := #[.int .i64 a1_1, .int .i64 0]) ?_ 1 _ rfl; (with_reducible repeat (first|apply kN|apply kD|apply kA)); refine blk_put (cs := #[.int .i64 0, .int .i64 0]) ?_ 0 _ rfl; (repeat (first|(with_reducible first|apply kN|apply kD|apply kA)|refine blk_far ?_ NB1459_1458.out _)); exact BK1459.out) hb); have n3_ := aM (below_step (by repeat (first | (with_reducible first | exact HB.out | apply bA|apply bN|apply b1 | refine below_set ?_ (Aside0.out (by assumption))) | exact HB.out)) hb); clear BK1457; clear BK1458; clear BK1459; clear HB; have BK1457 := n0_; have BK1458 := n1_; have BK1459 := n2_; have HB := n3_; clear n0_ n1_ n2_ n3_; (try clear hb); have hnb22 := NB1459_1457.out; have hnc22 := NB1457_1459.out; have hcz23_0 : w21.cell? ⟨gb1459, 0, none⟩ = some (.int .i64 a1_1) := (blk_cell BK1459.out 0).trans rfl; have hcz23_1 : w21.cell? ⟨gb1459, 1, none⟩ = some (.int .i64 a1_3) := (blk_cell BK1459.out 1).trans rfl; have hfz23_0 := blk_frozen BK1459.out 0; have hfz23_1 := blk_frozen BK1459.out 1) | (go_at_call 196; (with_reducible refine (spec_l04Norm.calls a0 a1_1 a1_3 t1461 _ A5.out).mono ?_); rintro e w24 ⟨rfl, hb⟩; have n0_ := aM (blk_below (g := gb1457) (o := .cells #[.int .i64 a1_0, .int .i64 a1_1, .int .i64 a1_2, .int .i64 a1_3] 51 (0, 0)) (by (with_reducible repeat (first|apply kN|apply kD|apply kA)); exact BK1457.out) hb); have n1_ := aM (blk_below (g := gb1458) (o := .cells #[.int .i64 a1_0, .int .i64 a1_2] 25 (0, 0)) (by (with_reducible repeat (first|apply kN|apply kD|apply kA)); exact BK1458.out) hb); have n2_ := aM (blk_below (g := gb1459) (o := .cells #[.int .i64 a1_1, .int .i64 a1_3] 25 (0, 0)) (by (with_reducible repeat (first|apply kN|apply kD|apply kA)); exact BK1459.out) hb); have n3_ := aM (below_step (by repeat (first | (with_reducible first | exact HB.out | apply bA|apply bN|apply b1 | refine below_set ?_ (Aside0.out (by assumption))) | exact HB.out)) hb); clear BK1457; clear BK1458; clear BK1459; clear HB; have BK1457 := n0_; have BK1458 := n1_; have BK1459 := n2_; have HB := n3_; clear n0_ n1_ n2_ n3_; (try clear hb); have hcz25_0 : w24.cell? ⟨gb1458, 0, none⟩ = some (.int .i64 a1_0) := (blk_cell BK1458.out 0).trans rfl; have hcz25_1 : w24.cell? ⟨gb1458, 1, none⟩ = some (.int .i64 a1_2) := (blk_cell BK1458.out 1).trans rfl; have hfz25_0 := blk_frozen BK1458.out 0; have hfz25_1 := blk_frozen BK1458.out 1; have hcz26_0 : w24.cell? ⟨gb1459, 0, none⟩ = some (.int .i64 a1_1) := (blk_cell BK1459.out 0).trans rfl; have hcz26_1 : w24.cell? ⟨gb1459, 1, none⟩ = some (.int .i64 a1_3) := (blk_cell BK1459.out 1).trans rfl; have hfz26_0 := blk_frozen BK1459.out 0; have hfz26_1 := blk_frozen BK1459.out 1) | (go_at_call 135; (with_reducible refine (spec_l01Add.calls a1_0 a1_2 a1_1 a1_3 t1462 t1463 _ A7.out).mono ?_); rintro e w27 ⟨rfl, hb⟩; have n0_ := aM (blk_below (g := gb1457) (o := .cells #[.int .i64 a1_0, .int .i64 a1_1, .int .i64 a1_2, .int .i64 a1_3] 51 (0, 0)) (by (with_reducible repeat (first|apply kN|apply kD|apply kA)); exact BK1457.out) hb); have n1_ := aM (blk_below (g := gb1458) (o := .cells #[.int .i64 a1_0, .int .i64 a1_2] 25 (0, 0)) (by (with_reducible repeat (first|apply kN|apply kD|apply kA)); exact BK1458.out) hb); have n2_ := aM (blk_below (g := gb1459) (o := .cells #[.int .i64 a1_1, .int .i64 a1_3] 25 (0, 0)) (by (with_reducible repeat (first|apply kN|apply kD|apply kA)); exact BK1459.out) hb); have n3_ := aM (below_step (by repeat (first | (with_reducible first | exact HB.out | apply bA|apply bN|apply b1 | refine below_set ?_ (Aside0.out (by assumption))) | exact HB.out)) hb); clear BK1457; clear BK1458; clear BK1459; clear HB; have BK1457 := n0_; have BK1458 := n1_; have BK1459 := n2_; have HB := n3_; clear n0_ n1_ n2_ n3_; (try clear hb)) | (go_at_call 196; (with_reducible refine (spec_l04Norm.calls a0 t1462 t1463 t1464 _ A8.out).mono ?_); rintro e w28 ⟨rfl, hb⟩; have n0_ := aM (blk_below (g := gb1457) (o := .cells #[.int .i64 a1_0, .int .i64 a1_1, .int .i64 a1_2, .int .i64 a1_3] 51 (0, 0)) (by (with_reducible repeat (first|apply kN|apply kD|apply kA)); exact BK1457.out) hb); have n1_ := aM (blk_below (g := gb1458) (o := .cells #[.int .i64 a1_0, .int .i64 a1_2] 25 (0, 0)) (by (with_reducible repeat (first|apply kN|apply kD|apply kA)); exact BK1458.out) hb); have n2_ := aM (blk_below (g := gb1459) (o := .cells #[.int .i64 a1_1, .int .i64 a1_3] 25 (0, 0)) (by (with_reducible repeat (first|apply kN|apply kD|apply kA)); exact BK1459.out) hb); have n3_ := aM (below_step (by repeat (first | (with_reducible first | exact HB.out | apply bA|apply bN|apply b1 | refine below_set ?_ (Aside0.out (by assumption))) | exact HB.out)) hb); clear BK1457; clear BK1458; clear BK1459; clear HB; have BK1457 := n0_; have BK1458 := n1_; have BK1459 := n2_; have HB := n3_; clear n0_ n1_ n2_ n3_; (try clear hb)))
   go_ret
   exact ⟨by first|rfl|(simp [*, errW_none, errW_some] <;> rfl), by repeat (first | (with_reducible first | exact HB.out | apply bA|apply bN|apply b1 | refine below_set ?_ (Aside0.out (by assumption))) | exact HB.out)⟩
  ·rw [if_neg c6] at H
   have c6b0 : (t1461 == 1) = false := beq_eq_false_iff_ne.mpr c6
   have c6b1 : (t1461 != 1) = true := bne_iff_ne.mpr c6
   obtain rfl := Option.some.inj H
   go_enter Try.func202, Try.ntmps202
   try go_wp2_with (first | ((with_reducible refine gate_dst (N := 3) rfl ?_); refine box_event ?hg (N := 3) ?hd (cs := #[.int .i64 a1_0, .int .i64 a1_1, .int .i64 a1_2, .int .i64 a1_3]) (t := 51) ?hr ?_; (case hd => rfl); (case hg => rfl); (case hr => first | (go_simp; done) | (go_simp; rfl)); intro gb1457 hg w29 hbox hb; have n0_ := aM (below_step (by repeat (first | (with_reducible first | exact HB.out | apply bA|apply bN|apply b1) | exact HB.out)) hb); have n1_ := aM (hbox); have n2_ := aM ((by rw [hg]; exact (below_size (by repeat (first | (with_reducible first | exact HB.out | apply bA|apply bN|apply b1) | exact HB.out))) : w.heap.size ≤ gb1457)); have n3_ := aM ((by rw [hg]; exact (below_size (by repeat (first | (with_reducible first | exact HB.out | apply bA|apply bN|apply b1) | exact HB.out))) : w.heap.size ≤ gb1457)); clear HB; have HB := n0_; have BK1457 := n1_; have GW1457 := n2_; have GE1457 := n3_; clear n0_ n1_ n2_ n3_; clear hb hbox hg))
   have n0_ := aM (blk_drew BK1457.out)
   have n1_ := aM (below_drew1 HB.out)
   clear BK1457
   clear HB
   have BK1457 := n0_
   have HB := n1_
   clear n0_ n1_
   refine start_ (n := 14) (S := fun w' => w'.cell? ⟨gb1457, 0, none⟩ = some (.int .i64 a1_0) ∧ w'.cell? ⟨gb1457, 1, none⟩ = some (.int .i64 a1_1) ∧ w'.cell? ⟨gb1457, 2, none⟩ = some (.int .i64 a1_2) ∧ w'.cell? ⟨gb1457, 3, none⟩ = some (.int .i64 a1_3)) (ds := []) #[false, false, false, false, false, false, false, false, false, false, false, false, false, false] (by kernel_rfl) rfl rfl ⟨(blk_cell BK1457.out 0).trans rfl, (blk_cell BK1457.out 1).trans rfl, (blk_cell BK1457.out 2).trans rfl, (blk_cell BK1457.out 3).trans rfl⟩ (fun hHeld => ?_); refine with_tabW spec_l04Keeps.tab1 spec_l04Keeps.bits1 (fun HT_ HW_ => ?_)
   generalize w29.drew = w30 at BK1457 HB hHeld ⊢
   refine pure_ (i := 0) (N := some 7) (v := ?_) (a' := ?_) #[true, false, false, false, false, false, false, false, false, false, false, false, false, false] rfl rfl (any_of HT_.out (by kernel_rfl)) (fun _ _ _ h => h) (Or.inl ⟨by rfl, ?_⟩) ?_ ?_
   rotate_left
   ·intro w'
    go_simp
    with_reducible rfl
   rotate_left
   ·simp only [Act.put, List.setIfInBounds_toArray, List.set_cons_zero, List.set_cons_succ, i64_w, i32_w]
    rfl
   refine pure_ (i := 2) (N := some 9) (v := ?_) (a' := ?_) #[true, false, true, false, false, false, false, false, false, false, false, false, false, false] rfl rfl (any_of HT_.out (by kernel_rfl)) (fun _ _ _ h => h) (Or.inl ⟨by rfl, ?_⟩) ?_ ?_
   rotate_left
   ·intro w'
    go_simp
    with_reducible rfl
   rotate_left
   ·simp only [Act.put, List.setIfInBounds_toArray, List.set_cons_zero, List.set_cons_succ, i64_w, i32_w]
    rfl
   refine pure_ (i := 5) (N := some 12) (v := ?_) (a' := ?_) #[true, false, true, false, false, true, false, false, false, false, false, false, false, false] rfl rfl (any_of HT_.out (by kernel_rfl)) (fun _ _ _ h => h) (Or.inl ⟨by rfl, ?_⟩) ?_ ?_
   rotate_left
   ·intro w'
    go_simp
    with_reducible rfl
   rotate_left
   ·simp only [Act.put, List.setIfInBounds_toArray, List.set_cons_zero, List.set_cons_succ, i64_w, i32_w]
    rfl
   refine pure_ (i := 7) (N := some 14) (v := ?_) (a' := ?_) #[true, false, true, false, false, true, false, true, false, false, false, false, false, false] rfl rfl (any_of HT_.out (by kernel_rfl)) (fun _ _ _ h => h) (Or.inl ⟨by rfl, ?_⟩) ?_ ?_
   rotate_left
   ·intro w'
    go_simp
    with_reducible rfl
   rotate_left
   ·simp only [Act.put, List.setIfInBounds_toArray, List.set_cons_zero, List.set_cons_succ, i64_w, i32_w]
    rfl
   refine take_ (i := 1) (N := some 8) (v := ?_) (a' := ?_) #[true, true, true, false, false, true, false, true, false, false, false, false, false, false] rfl rfl (take_ofW HT_.out HW_.out (by kernel_rfl)) (fun _ _ _ h => h) (Or.inl ⟨by rfl, ?_⟩) hHeld ?_ ?_
   rotate_left
   ·rintro w' ⟨s0, s1, s2, s3⟩
    go_simp
    with_reducible rfl
   rotate_left
   ·simp only [Act.put, List.setIfInBounds_toArray, List.set_cons_zero, List.set_cons_succ, i64_w, i32_w]
    rfl
   refine take_ (i := 3) (N := some 10) (v := ?_) (a' := ?_) #[true, true, true, true, false, true, false, true, false, false, false, false, false, false] rfl rfl (take_ofW HT_.out HW_.out (by kernel_rfl)) (fun _ _ _ h => h) (Or.inl ⟨by rfl, ?_⟩) hHeld ?_ ?_
   rotate_left
   ·rintro w' ⟨s0, s1, s2, s3⟩
    go_simp
    with_reducible rfl
   rotate_left
   ·simp only [Act.put, List.setIfInBounds_toArray, List.set_cons_zero, List.set_cons_succ, i64_w, i32_w]
    rfl
   refine pure_ (i := 4) (N := some 11) (v := ?_) (a' := ?_) #[true, true, true, true, true, true, false, true, false, false, false, false, false, false] rfl rfl (any_of HT_.out (by kernel_rfl)) (fun _ _ _ h => h) (Or.inl ⟨by rfl, ?_⟩) ?_ ?_
   rotate_left
   ·intro w'
    go_simp
    with_reducible rfl
   rotate_left
   ·simp only [Act.put, List.setIfInBounds_toArray, List.set_cons_zero, List.set_cons_succ, i64_w, i32_w]
    rfl
   refine take_ (i := 6) (N := some 13) (v := ?_) (a' := ?_) #[true, true, true, true, true, true, true, true, false, false, false, false, false, false] rfl rfl (take_ofW HT_.out HW_.out (by kernel_rfl)) (fun _ _ _ h => h) (Or.inl ⟨by rfl, ?_⟩) hHeld ?_ ?_
   rotate_left
   ·rintro w' ⟨s0, s1, s2, s3⟩
    go_simp
    with_reducible rfl
   rotate_left
   ·simp only [Act.put, List.setIfInBounds_toArray, List.set_cons_zero, List.set_cons_succ, i64_w, i32_w]
    rfl
   refine take_ (i := 8) (N := some 15) (v := ?_) (a' := ?_) #[true, true, true, true, true, true, true, true, true, false, false, false, false, false] rfl rfl (take_ofW HT_.out HW_.out (by kernel_rfl)) (fun _ _ _ h => h) (Or.inl ⟨by rfl, ?_⟩) hHeld ?_ ?_
   rotate_left
   ·rintro w' ⟨s0, s1, s2, s3⟩
    go_simp
    with_reducible rfl
   rotate_left
   ·simp only [Act.put, List.setIfInBounds_toArray, List.set_cons_zero, List.set_cons_succ, i64_w, i32_w]
    rfl
   refine pure_ (i := 9) (N := some 16) (v := ?_) (a' := ?_) #[true, true, true, true, true, true, true, true, true, true, false, false, false, false] rfl rfl (any_of HT_.out (by kernel_rfl)) (fun _ _ _ h => h) (Or.inl ⟨by rfl, ?_⟩) ?_ ?_
   rotate_left
   ·intro w'
    go_simp
    with_reducible rfl
   rotate_left
   ·simp only [Act.put, List.setIfInBounds_toArray, List.set_cons_zero, List.set_cons_succ, i64_w, i32_w]
    rfl
   refine join_ (σ := Nat × Nat) 2 #[true, true, true, true, true, true, true, true, true, true, true, true, false, false] (fun s_ => [(5, .pointer (some ⟨s_.1, 0, none⟩)), (6, .pointer (some ⟨s_.2, 0, none⟩))]) (fun s_ w' => (w'.cell? ⟨gb1457, 0, none⟩ = some (.int .i64 a1_0) ∧ w'.cell? ⟨gb1457, 1, none⟩ = some (.int .i64 a1_1) ∧ w'.cell? ⟨gb1457, 2, none⟩ = some (.int .i64 a1_2) ∧ w'.cell? ⟨gb1457, 3, none⟩ = some (.int .i64 a1_3)) ∧ (w'.heap[gb1457]? = some (.cells #[.int .i64 a1_0, .int .i64 a1_1, .int .i64 a1_2, .int .i64 a1_3] 51 (0, 0))) ∧ (w'.heap[s_.1]? = some (.cells #[.int .i64 0, .int .i64 0] 25 (0, 0))) ∧ (w'.heap[s_.2]? = some (.cells #[.int .i64 0, .int .i64 0] 25 (0, 0))) ∧ (w.heap.size ≤ s_.1) ∧ (w.heap.size ≤ s_.1) ∧ (gb1457 ≠ s_.1) ∧ (s_.1 ≠ gb1457) ∧ (s_.2 ≠ s_.1) ∧ (s_.1 ≠ s_.2) ∧ (w.heap.size ≤ s_.2) ∧ (w.heap.size ≤ s_.2) ∧ (gb1457 ≠ s_.2) ∧ (s_.2 ≠ gb1457) ∧ (Below w.heap.size w w')) ?_ ?_
   rotate_left
   ·intro hCont
    refine two_ (i := 10) (j := 11) (Ni := some 5) (Nj := some 6) #[true, true, true, true, true, true, true, true, true, true, true, false, false, false] #[true, true, true, true, true, true, true, true, true, true, false, true, false, false] rfl rfl rfl rfl (two_of HT_.out (by kernel_rfl)) (by decide) (by decide) (fun K hK => ?_) (fun K hK => ?_)
    ·skip
     refine box_step ?hg (N := 5) ?hd (cs := #[.int .i64 0, .int .i64 0]) (t := 25) ?hr ?_; (case hd => rfl); (case hg => rfl); (case hr => first | (go_simp; done) | (go_simp; rfl))
     intro gb1458 hg w31 hbox hb
     have n0_ := aM (blk_below (g := gb1457) (o := .cells #[.int .i64 a1_0, .int .i64 a1_1, .int .i64 a1_2, .int .i64 a1_3] 51 (0, 0)) (by (with_reducible repeat (first|apply kN|apply kD|apply kA)); exact BK1457.out) hb)
     have n1_ := aM (below_step (by repeat (first | (with_reducible first | exact HB.out | apply bA|apply bN|apply b1 | refine below_set ?_ GE1457.out) | exact HB.out)) hb)
     have n2_ := aM (hbox)
     have n3_ := aM ((by rw [hg]; exact (below_size (by repeat (first | (with_reducible first | exact HB.out | apply bA|apply bN|apply b1 | refine below_set ?_ GE1457.out) | exact HB.out))) : w.heap.size ≤ gb1458))
     have n4_ := aM ((by rw [hg]; exact (below_size (by repeat (first | (with_reducible first | exact HB.out | apply bA|apply bN|apply b1 | refine below_set ?_ GE1457.out) | exact HB.out))) : w.heap.size ≤ gb1458))
     have n5_ := aM ((by rw [hg]; exact Nat.ne_of_lt (blk_lt (g := gb1457) (o := .cells #[.int .i64 a1_0, .int .i64 a1_1, .int .i64 a1_2, .int .i64 a1_3] 51 (0, 0)) (by (with_reducible repeat (first|apply kN|apply kD|apply kA)); exact BK1457.out)) : gb1457 ≠ gb1458))
     have n6_ := aM ((by rw [hg]; exact Nat.ne_of_gt (blk_lt (g := gb1457) (o := .cells #[.int .i64 a1_0, .int .i64 a1_1, .int .i64 a1_2, .int .i64 a1_3] 51 (0, 0)) (by (with_reducible repeat (first|apply kN|apply kD|apply kA)); exact BK1457.out)) : gb1458 ≠ gb1457))
     clear BK1457
     clear HB
     have BK1457 := n0_
     have HB := n1_
     have BK1458 := n2_
     have GW1458 := n3_
     have GE1458 := n4_
     have NB1457_1458 := n5_
     have NB1458_1457 := n6_
     clear n0_ n1_ n2_ n3_ n4_ n5_ n6_
     clear hb hbox hg
     refine hK.out _ _ ⟨(blk_cell BK1457.out 0).trans rfl, (blk_cell BK1457.out 1).trans rfl, (blk_cell BK1457.out 2).trans rfl, (blk_cell BK1457.out 3).trans rfl⟩ (fun hHeld => ?_)
     clear hK K
     refine norm_ (a' := ?_) ?_ ?_
     rotate_left
     ·show Act.put _ (some 5) _ = _
      simp only [Act.put, List.setIfInBounds_toArray, List.set_cons_zero, List.set_cons_succ, i64_w, i32_w]
      rfl
     refine one_ (i := 11) (N := some 6) #[true, true, true, true, true, true, true, true, true, true, true, true, false, false] rfl rfl (one_of HT_.out (by kernel_rfl)) (by decide) (fun K hK => ?_)
     refine box_step ?hg (N := 6) ?hd (cs := #[.int .i64 0, .int .i64 0]) (t := 25) ?hr ?_; (case hd => rfl); (case hg => rfl); (case hr => first | (go_simp; done) | (go_simp; rfl))
     intro gb1459 hg w32 hbox hb
     have n0_ := aM (blk_below (g := gb1457) (o := .cells #[.int .i64 a1_0, .int .i64 a1_1, .int .i64 a1_2, .int .i64 a1_3] 51 (0, 0)) (by (with_reducible repeat (first|apply kN|apply kD|apply kA)); exact BK1457.out) hb)
     have n1_ := aM (blk_below (g := gb1458) (o := .cells #[.int .i64 0, .int .i64 0] 25 (0, 0)) (by (with_reducible repeat (first|apply kN|apply kD|apply kA)); exact BK1458.out) hb)
     have n2_ := aM (below_step (by repeat (first | (with_reducible first | exact HB.out | apply bA|apply bN|apply b1 | refine below_set ?_ (Aside0.out (by assumption))) | exact HB.out)) hb)
     have n3_ := aM (hbox)
     have n4_ := aM ((by rw [hg]; exact (below_size (by repeat (first | (with_reducible first | exact HB.out | apply bA|apply bN|apply b1 | refine below_set ?_ (Aside0.out (by assumption))) | exact HB.out))) : w.heap.size ≤ gb1459))
     have n5_ := aM ((by rw [hg]; exact (below_size (by repeat (first | (with_reducible first | exact HB.out | apply bA|apply bN|apply b1 | refine below_set ?_ (Aside0.out (by assumption))) | exact HB.out))) : w.heap.size ≤ gb1459))
     have n6_ := aM ((by rw [hg]; exact Nat.ne_of_lt (blk_lt (g := gb1457) (o := .cells #[.int .i64 a1_0, .int .i64 a1_1, .int .i64 a1_2, .int .i64 a1_3] 51 (0, 0)) (by (with_reducible repeat (first|apply kN|apply kD|apply kA)); exact BK1457.out)) : gb1457 ≠ gb1459))
     have n7_ := aM ((by rw [hg]; exact Nat.ne_of_gt (blk_lt (g := gb1457) (o := .cells #[.int .i64 a1_0, .int .i64 a1_1, .int .i64 a1_2, .int .i64 a1_3] 51 (0, 0)) (by (with_reducible repeat (first|apply kN|apply kD|apply kA)); exact BK1457.out)) : gb1459 ≠ gb1457))
     have n8_ := aM ((by rw [hg]; exact Nat.ne_of_lt (blk_lt (g := gb1458) (o := .cells #[.int .i64 0, .int .i64 0] 25 (0, 0)) (by (with_reducible repeat (first|apply kN|apply kD|apply kA)); exact BK1458.out)) : gb1458 ≠ gb1459))
     have n9_ := aM ((by rw [hg]; exact Nat.ne_of_gt (blk_lt (g := gb1458) (o := .cells #[.int .i64 0, .int .i64 0] 25 (0, 0)) (by (with_reducible repeat (first|apply kN|apply kD|apply kA)); exact BK1458.out)) : gb1459 ≠ gb1458))
     clear BK1457
     clear BK1458
     clear HB
     have BK1457 := n0_
     have BK1458 := n1_
     have HB := n2_
     have BK1459 := n3_
     have GW1459 := n4_
     have GE1459 := n5_
     have NB1457_1459 := n6_
     have NB1459_1457 := n7_
     have NB1458_1459 := n8_
     have NB1459_1458 := n9_
     clear n0_ n1_ n2_ n3_ n4_ n5_ n6_ n7_ n8_ n9_
     clear hb hbox hg
     refine hK.out _ _ ⟨(blk_cell BK1457.out 0).trans rfl, (blk_cell BK1457.out 1).trans rfl, (blk_cell BK1457.out 2).trans rfl, (blk_cell BK1457.out 3).trans rfl⟩ (fun hHeld => ?_)
     clear hK K
     refine norm_ (a' := ?_) ?_ ?_
     rotate_left
     ·show Act.put _ (some 6) _ = _
      simp only [Act.put, List.setIfInBounds_toArray, List.set_cons_zero, List.set_cons_succ, i64_w, i32_w]
      rfl
     exact norm_ (by simp only [putAll, Act.put, List.setIfInBounds_toArray, List.set_cons_zero, List.set_cons_succ]) (hCont (gb1458, gb1459) _ ⟨hHeld, (by (with_reducible repeat (first|apply kN|apply kD|apply kA)); exact BK1457.out), (by (with_reducible repeat (first|apply kN|apply kD|apply kA)); exact BK1458.out), (by (with_reducible repeat (first|apply kN|apply kD|apply kA)); exact BK1459.out), GW1458.out, GE1458.out, NB1457_1458.out, NB1458_1457.out, NB1459_1458.out, NB1458_1459.out, GW1459.out, GE1459.out, NB1457_1459.out, NB1459_1457.out, (by repeat (first | (with_reducible first | exact HB.out | apply bA|apply bN|apply b1 | refine below_set ?_ (Aside0.out (by assumption))) | exact HB.out))⟩)
    ·skip
     refine box_step ?hg (N := 6) ?hd (cs := #[.int .i64 0, .int .i64 0]) (t := 25) ?hr ?_; (case hd => rfl); (case hg => rfl); (case hr => first | (go_simp; done) | (go_simp; rfl))
     intro gb1459 hg w31 hbox hb
     have n0_ := aM (blk_below (g := gb1457) (o := .cells #[.int .i64 a1_0, .int .i64 a1_1, .int .i64 a1_2, .int .i64 a1_3] 51 (0, 0)) (by (with_reducible repeat (first|apply kN|apply kD|apply kA)); exact BK1457.out) hb)
     have n1_ := aM (below_step (by repeat (first | (with_reducible first | exact HB.out | apply bA|apply bN|apply b1 | refine below_set ?_ GE1457.out) | exact HB.out)) hb)
     have n2_ := aM (hbox)
     have n3_ := aM ((by rw [hg]; exact (below_size (by repeat (first | (with_reducible first | exact HB.out | apply bA|apply bN|apply b1 | refine below_set ?_ GE1457.out) | exact HB.out))) : w.heap.size ≤ gb1459))
     have n4_ := aM ((by rw [hg]; exact (below_size (by repeat (first | (with_reducible first | exact HB.out | apply bA|apply bN|apply b1 | refine below_set ?_ GE1457.out) | exact HB.out))) : w.heap.size ≤ gb1459))
     have n5_ := aM ((by rw [hg]; exact Nat.ne_of_lt (blk_lt (g := gb1457) (o := .cells #[.int .i64 a1_0, .int .i64 a1_1, .int .i64 a1_2, .int .i64 a1_3] 51 (0, 0)) (by (with_reducible repeat (first|apply kN|apply kD|apply kA)); exact BK1457.out)) : gb1457 ≠ gb1459))
     have n6_ := aM ((by rw [hg]; exact Nat.ne_of_gt (blk_lt (g := gb1457) (o := .cells #[.int .i64 a1_0, .int .i64 a1_1, .int .i64 a1_2, .int .i64 a1_3] 51 (0, 0)) (by (with_reducible repeat (first|apply kN|apply kD|apply kA)); exact BK1457.out)) : gb1459 ≠ gb1457))
     clear BK1457
     clear HB
     have BK1457 := n0_
     have HB := n1_
     have BK1459 := n2_
     have GW1459 := n3_
     have GE1459 := n4_
     have NB1457_1459 := n5_
     have NB1459_1457 := n6_
     clear n0_ n1_ n2_ n3_ n4_ n5_ n6_
     clear hb hbox hg
     refine hK.out _ _ ⟨(blk_cell BK1457.out 0).trans rfl, (blk_cell BK1457.out 1).trans rfl, (blk_cell BK1457.out 2).trans rfl, (blk_cell BK1457.out 3).trans rfl⟩ (fun hHeld => ?_)
     clear hK K
     refine norm_ (a' := ?_) ?_ ?_
     rotate_left
     ·show Act.put _ (some 6) _ = _
      simp only [Act.put, List.setIfInBounds_toArray, List.set_cons_zero, List.set_cons_succ, i64_w, i32_w]
      rfl
     refine one_ (i := 10) (N := some 5) #[true, true, true, true, true, true, true, true, true, true, true, true, false, false] rfl rfl (one_of HT_.out (by kernel_rfl)) (by decide) (fun K hK => ?_)
     refine box_step ?hg (N := 5) ?hd (cs := #[.int .i64 0, .int .i64 0]) (t := 25) ?hr ?_; (case hd => rfl); (case hg => rfl); (case hr => first | (go_simp; done) | (go_simp; rfl))
     intro gb1458 hg w32 hbox hb
     have n0_ := aM (blk_below (g := gb1457) (o := .cells #[.int .i64 a1_0, .int .i64 a1_1, .int .i64 a1_2, .int .i64 a1_3] 51 (0, 0)) (by (with_reducible repeat (first|apply kN|apply kD|apply kA)); exact BK1457.out) hb)
     have n1_ := aM (blk_below (g := gb1459) (o := .cells #[.int .i64 0, .int .i64 0] 25 (0, 0)) (by (with_reducible repeat (first|apply kN|apply kD|apply kA)); exact BK1459.out) hb)
     have n2_ := aM (below_step (by repeat (first | (with_reducible first | exact HB.out | apply bA|apply bN|apply b1 | refine below_set ?_ (Aside0.out (by assumption))) | exact HB.out)) hb)
     have n3_ := aM (hbox)
     have n4_ := aM ((by rw [hg]; exact (below_size (by repeat (first | (with_reducible first | exact HB.out | apply bA|apply bN|apply b1 | refine below_set ?_ (Aside0.out (by assumption))) | exact HB.out))) : w.heap.size ≤ gb1458))
     have n5_ := aM ((by rw [hg]; exact (below_size (by repeat (first | (with_reducible first | exact HB.out | apply bA|apply bN|apply b1 | refine below_set ?_ (Aside0.out (by assumption))) | exact HB.out))) : w.heap.size ≤ gb1458))
     have n6_ := aM ((by rw [hg]; exact Nat.ne_of_lt (blk_lt (g := gb1457) (o := .cells #[.int .i64 a1_0, .int .i64 a1_1, .int .i64 a1_2, .int .i64 a1_3] 51 (0, 0)) (by (with_reducible repeat (first|apply kN|apply kD|apply kA)); exact BK1457.out)) : gb1457 ≠ gb1458))
     have n7_ := aM ((by rw [hg]; exact Nat.ne_of_gt (blk_lt (g := gb1457) (o := .cells #[.int .i64 a1_0, .int .i64 a1_1, .int .i64 a1_2, .int .i64 a1_3] 51 (0, 0)) (by (with_reducible repeat (first|apply kN|apply kD|apply kA)); exact BK1457.out)) : gb1458 ≠ gb1457))
     have n8_ := aM ((by rw [hg]; exact Nat.ne_of_lt (blk_lt (g := gb1459) (o := .cells #[.int .i64 0, .int .i64 0] 25 (0, 0)) (by (with_reducible repeat (first|apply kN|apply kD|apply kA)); exact BK1459.out)) : gb1459 ≠ gb1458))
     have n9_ := aM ((by rw [hg]; exact Nat.ne_of_gt (blk_lt (g := gb1459) (o := .cells #[.int .i64 0, .int .i64 0] 25 (0, 0)) (by (with_reducible repeat (first|apply kN|apply kD|apply kA)); exact BK1459.out)) : gb1458 ≠ gb1459))
     clear BK1457
     clear BK1459
     clear HB
     have BK1457 := n0_
     have BK1459 := n1_
     have HB := n2_
     have BK1458 := n3_
     have GW1458 := n4_
     have GE1458 := n5_
     have NB1457_1458 := n6_
     have NB1458_1457 := n7_
     have NB1459_1458 := n8_
     have NB1458_1459 := n9_
     clear n0_ n1_ n2_ n3_ n4_ n5_ n6_ n7_ n8_ n9_
     clear hb hbox hg
     refine hK.out _ _ ⟨(blk_cell BK1457.out 0).trans rfl, (blk_cell BK1457.out 1).trans rfl, (blk_cell BK1457.out 2).trans rfl, (blk_cell BK1457.out 3).trans rfl⟩ (fun hHeld => ?_)
     clear hK K
     refine norm_ (a' := ?_) ?_ ?_
     rotate_left
     ·show Act.put _ (some 5) _ = _
      simp only [Act.put, List.setIfInBounds_toArray, List.set_cons_zero, List.set_cons_succ, i64_w, i32_w]
      rfl
     exact norm_ (by simp only [putAll, Act.put, List.setIfInBounds_toArray, List.set_cons_zero, List.set_cons_succ]) (hCont (gb1458, gb1459) _ ⟨hHeld, (by (with_reducible repeat (first|apply kN|apply kD|apply kA)); exact BK1457.out), (by (with_reducible repeat (first|apply kN|apply kD|apply kA)); exact BK1458.out), (by (with_reducible repeat (first|apply kN|apply kD|apply kA)); exact BK1459.out), GW1458.out, GE1458.out, NB1457_1458.out, NB1458_1457.out, NB1459_1458.out, NB1458_1459.out, GW1459.out, GE1459.out, NB1457_1459.out, NB1459_1457.out, (by repeat (first | (with_reducible first | exact HB.out | apply bA|apply bN|apply b1 | refine below_set ?_ (Aside0.out (by assumption))) | exact HB.out))⟩)
   rintro ⟨gb1458, gb1459⟩ w33 ⟨hS_, h0_, h1_, h2_, h3_, h4_, h5_, h6_, h7_, h8_, h9_, h10_, h11_, h12_, h13_⟩
   have n0_ : Aside0 (w33.heap[gb1457]? = some (.cells #[.int .i64 a1_0, .int .i64 a1_1, .int .i64 a1_2, .int .i64 a1_3] 51 (0, 0))) := ⟨h0_⟩
   have n1_ : Aside0 (w33.heap[gb1458]? = some (.cells #[.int .i64 0, .int .i64 0] 25 (0, 0))) := ⟨h1_⟩
   have n2_ : Aside0 (w33.heap[gb1459]? = some (.cells #[.int .i64 0, .int .i64 0] 25 (0, 0))) := ⟨h2_⟩
   have n3_ : Aside0 (w.heap.size ≤ gb1458) := ⟨h3_⟩
   have n4_ : Aside0 (w.heap.size ≤ gb1458) := ⟨h4_⟩
   have n5_ : Aside0 (gb1457 ≠ gb1458) := ⟨h5_⟩
   have n6_ : Aside0 (gb1458 ≠ gb1457) := ⟨h6_⟩
   have n7_ : Aside0 (gb1459 ≠ gb1458) := ⟨h7_⟩
   have n8_ : Aside0 (gb1458 ≠ gb1459) := ⟨h8_⟩
   have n9_ : Aside0 (w.heap.size ≤ gb1459) := ⟨h9_⟩
   have n10_ : Aside0 (w.heap.size ≤ gb1459) := ⟨h10_⟩
   have n11_ : Aside0 (gb1457 ≠ gb1459) := ⟨h11_⟩
   have n12_ : Aside0 (gb1459 ≠ gb1457) := ⟨h12_⟩
   have n13_ : Aside0 (Below w.heap.size w w33) := ⟨h13_⟩
   clear BK1457
   clear HB
   clear h0_ h1_ h2_ h3_ h4_ h5_ h6_ h7_ h8_ h9_ h10_ h11_ h12_ h13_
   have BK1457 := n0_
   have BK1458 := n1_
   have BK1459 := n2_
   have GW1458 := n3_
   have GE1458 := n4_
   have NB1457_1458 := n5_
   have NB1458_1457 := n6_
   have NB1459_1458 := n7_
   have NB1458_1459 := n8_
   have GW1459 := n9_
   have GE1459 := n10_
   have NB1457_1459 := n11_
   have NB1459_1457 := n12_
   have HB := n13_
   clear n0_ n1_ n2_ n3_ n4_ n5_ n6_ n7_ n8_ n9_ n10_ n11_ n12_ n13_
   have hHeld : w33.cell? ⟨gb1457, 0, none⟩ = some (.int .i64 a1_0) ∧ w33.cell? ⟨gb1457, 1, none⟩ = some (.int .i64 a1_1) ∧ w33.cell? ⟨gb1457, 2, none⟩ = some (.int .i64 a1_2) ∧ w33.cell? ⟨gb1457, 3, none⟩ = some (.int .i64 a1_3) := hS_
   refine norm_ (a' := ?_) ?_ ?_
   rotate_left
   ·simp only [putAll, Act.put, List.setIfInBounds_toArray, List.set_cons_zero, List.set_cons_succ]
    rfl
   refine one_ (i := 12) (N := none) #[true, true, true, true, true, true, true, true, true, true, true, true, true, false] rfl rfl (one_of HT_.out (by kernel_rfl)) (by decide) (fun K hK => ?_)
   have hs34 : w33.cell? ⟨gb1458, 0, none⟩ = some (.int .i64 0) := (blk_cell BK1458.out 0).trans rfl
   have hfs34 := blk_frozen BK1458.out 0
   have hns34_0 := NB1457_1458.out
   have hns34_2 := NB1459_1458.out
   have hms34_0 := NB1458_1457.out
   have hms34_2 := NB1458_1459.out
   have hs35 : w33.cell? ⟨gb1458, 1, none⟩ = some (.int .i64 0) := (blk_cell BK1458.out 1).trans rfl
   have hfs35 := blk_frozen BK1458.out 1
   have hns35_0 := NB1457_1458.out
   have hns35_2 := NB1459_1458.out
   have hms35_0 := NB1458_1457.out
   have hms35_2 := NB1458_1459.out
   refine skip_ (w1 := ?_) (by rfl) rfl ?_ ?_
   rotate_left
   ·go_simp
    rfl
   refine hK.out _ _ ⟨((cell_far (p := ⟨gb1458, _, none⟩) NB1457_1458.out _).trans (((cell_far (p := ⟨gb1458, _, none⟩) NB1457_1458.out _).trans (hHeld.1)))), ((cell_far (p := ⟨gb1458, _, none⟩) NB1457_1458.out _).trans (((cell_far (p := ⟨gb1458, _, none⟩) NB1457_1458.out _).trans (hHeld.2.1)))), ((cell_far (p := ⟨gb1458, _, none⟩) NB1457_1458.out _).trans (((cell_far (p := ⟨gb1458, _, none⟩) NB1457_1458.out _).trans (hHeld.2.2.1)))), ((cell_far (p := ⟨gb1458, _, none⟩) NB1457_1458.out _).trans (((cell_far (p := ⟨gb1458, _, none⟩) NB1457_1458.out _).trans (hHeld.2.2.2))))⟩ (fun hHeld => ?_)
   clear hK K
   refine one_ (i := 13) (N := none) #[true, true, true, true, true, true, true, true, true, true, true, true, true, true] rfl rfl (one_of HT_.out (by kernel_rfl)) (by decide) (fun K hK => ?_)
   have hs36 : w33.cell? ⟨gb1459, 0, none⟩ = some (.int .i64 0) := (blk_cell BK1459.out 0).trans rfl
   have hfs36 := blk_frozen BK1459.out 0
   have hns36_0 := NB1457_1459.out
   have hns36_1 := NB1458_1459.out
   have hms36_0 := NB1459_1457.out
   have hms36_1 := NB1459_1458.out
   have hs37 : w33.cell? ⟨gb1459, 1, none⟩ = some (.int .i64 0) := (blk_cell BK1459.out 1).trans rfl
   have hfs37 := blk_frozen BK1459.out 1
   have hns37_0 := NB1457_1459.out
   have hns37_1 := NB1458_1459.out
   have hms37_0 := NB1459_1457.out
   have hms37_1 := NB1459_1458.out
   refine skip_ (w1 := ?_) (by rfl) rfl ?_ ?_
   rotate_left
   ·go_simp
    rfl
   refine hK.out _ _ ⟨((cell_far (p := ⟨gb1459, _, none⟩) NB1457_1459.out _).trans (((cell_far (p := ⟨gb1459, _, none⟩) NB1457_1459.out _).trans (hHeld.1)))), ((cell_far (p := ⟨gb1459, _, none⟩) NB1457_1459.out _).trans (((cell_far (p := ⟨gb1459, _, none⟩) NB1457_1459.out _).trans (hHeld.2.1)))), ((cell_far (p := ⟨gb1459, _, none⟩) NB1457_1459.out _).trans (((cell_far (p := ⟨gb1459, _, none⟩) NB1457_1459.out _).trans (hHeld.2.2.1)))), ((cell_far (p := ⟨gb1459, _, none⟩) NB1457_1459.out _).trans (((cell_far (p := ⟨gb1459, _, none⟩) NB1457_1459.out _).trans (hHeld.2.2.2))))⟩ (fun hHeld => ?_)
   clear hK K
   refine done_ (done_of HT_.out (by kernel_rfl)) ?_
   have hnb38 := NB1458_1457.out
   have hnc38 := NB1457_1458.out
   have hnb39 := NB1458_1459.out
   have hnc39 := NB1459_1458.out
   have hcz40_0 : w33.cell? ⟨gb1458, 0, none⟩ = some (.int .i64 0) := (blk_cell BK1458.out 0).trans rfl
   have hcz40_1 : w33.cell? ⟨gb1458, 1, none⟩ = some (.int .i64 0) := (blk_cell BK1458.out 1).trans rfl
   have hfz40_0 := blk_frozen BK1458.out 0
   have hfz40_1 := blk_frozen BK1458.out 1
   try go_wp2_with (first | ((with_reducible refine gate_callee (f := 196) rfl ?_); refine goesL_ (some 19) rfl rfl Try.func196 (by kernel_rfl) rfl #[.int .i64 a0, .agg #[.int .i64 a1_0, .int .i64 a1_2]] rfl (by first|rfl|(simp only [List.map_toArray, List.map_cons, List.map_nil]; try rfl)) ?_; (with_reducible refine (spec_l04Norm.calls a0 a1_0 a1_2 t1460 _ A3.out).mono ?_); rintro e w41 ⟨rfl, hb⟩; refine ⟨_, rfl, ?_⟩; have n0_ := aM (blk_below (g := gb1457) (o := .cells #[.int .i64 a1_0, .int .i64 a1_1, .int .i64 a1_2, .int .i64 a1_3] 51 (0, 0)) (by (repeat (first|(with_reducible first|apply kN|apply kD|apply kA)|refine blk_far ?_ NB1457_1459.out _|refine blk_far ?_ NB1457_1458.out _)); exact BK1457.out) hb); have n1_ := aM (blk_below (g := gb1458) (o := .cells #[.int .i64 a1_0, .int .i64 a1_2] 25 (0, 0)) (by (repeat (first|(with_reducible first|apply kN|apply kD|apply kA)|refine blk_far ?_ NB1458_1459.out _)); refine blk_put (cs := #[.int .i64 a1_0, .int .i64 0]) ?_ 1 _ rfl; (with_reducible repeat (first|apply kN|apply kD|apply kA)); refine blk_put (cs := #[.int .i64 0, .int .i64 0]) ?_ 0 _ rfl; (with_reducible repeat (first|apply kN|apply kD|apply kA)); exact BK1458.out) hb); have n2_ := aM (blk_below (g := gb1459) (o := .cells #[.int .i64 a1_1, .int .i64 a1_3] 25 (0, 0)) (by (with_reducible repeat (first|apply kN|apply kD|apply kA)); refine blk_put (cs := #[.int .i64 a1_1, .int .i64 0]) ?_ 1 _ rfl; (with_reducible repeat (first|apply kN|apply kD|apply kA)); refine blk_put (cs := #[.int .i64 0, .int .i64 0]) ?_ 0 _ rfl; (repeat (first|(with_reducible first|apply kN|apply kD|apply kA)|refine blk_far ?_ NB1459_1458.out _)); exact BK1459.out) hb); have n3_ := aM (below_step (by repeat (first | (with_reducible first | exact HB.out | apply bA|apply bN|apply b1 | refine below_set ?_ (Aside0.out (by assumption))) | exact HB.out)) hb); clear BK1457; clear BK1458; clear BK1459; clear HB; have BK1457 := n0_; have BK1458 := n1_; have BK1459 := n2_; have HB := n3_; clear n0_ n1_ n2_ n3_; (try clear hb); have hnb42 := NB1459_1457.out; have hnc42 := NB1457_1459.out; have hcz43_0 : w41.cell? ⟨gb1459, 0, none⟩ = some (.int .i64 a1_1) := (blk_cell BK1459.out 0).trans rfl; have hcz43_1 : w41.cell? ⟨gb1459, 1, none⟩ = some (.int .i64 a1_3) := (blk_cell BK1459.out 1).trans rfl; have hfz43_0 := blk_frozen BK1459.out 0; have hfz43_1 := blk_frozen BK1459.out 1) | (go_at_call 196; (with_reducible refine (spec_l04Norm.calls a0 a1_1 a1_3 t1461 _ A5.out).mono ?_); rintro e w44 ⟨rfl, hb⟩; have n0_ := aM (blk_below (g := gb1457) (o := .cells #[.int .i64 a1_0, .int .i64 a1_1, .int .i64 a1_2, .int .i64 a1_3] 51 (0, 0)) (by (with_reducible repeat (first|apply kN|apply kD|apply kA)); exact BK1457.out) hb); have n1_ := aM (blk_below (g := gb1458) (o := .cells #[.int .i64 a1_0, .int .i64 a1_2] 25 (0, 0)) (by (with_reducible repeat (first|apply kN|apply kD|apply kA)); exact BK1458.out) hb); have n2_ := aM (blk_below (g := gb1459) (o := .cells #[.int .i64 a1_1, .int .i64 a1_3] 25 (0, 0)) (by (with_reducible repeat (first|apply kN|apply kD|apply kA)); exact BK1459.out) hb); have n3_ := aM (below_step (by repeat (first | (with_reducible first | exact HB.out | apply bA|apply bN|apply b1 | refine below_set ?_ (Aside0.out (by assumption))) | exact HB.out)) hb); clear BK1457; clear BK1458; clear BK1459; clear HB; have BK1457 := n0_; have BK1458 := n1_; have BK1459 := n2_; have HB := n3_; clear n0_ n1_ n2_ n3_; (try clear hb)))
   go_ret
   exact ⟨by first|rfl|(simp [*, errW_none, errW_some] <;> rfl), by repeat (first | (with_reducible first | exact HB.out | apply bA|apply bN|apply b1 | refine below_set ?_ (Aside0.out (by assumption))) | exact HB.out)⟩
 ·rw [if_neg c4] at H
  have c4b0 : (t1460 == 1) = false := beq_eq_false_iff_ne.mpr c4
  have c4b1 : (t1460 != 1) = true := bne_iff_ne.mpr c4
  obtain rfl := Option.some.inj H
  go_enter Try.func202, Try.ntmps202
  try go_wp2_with (first | ((with_reducible refine gate_dst (N := 3) rfl ?_); refine box_event ?hg (N := 3) ?hd (cs := #[.int .i64 a1_0, .int .i64 a1_1, .int .i64 a1_2, .int .i64 a1_3]) (t := 51) ?hr ?_; (case hd => rfl); (case hg => rfl); (case hr => first | (go_simp; done) | (go_simp; rfl)); intro gb1457 hg w45 hbox hb; have n0_ := aM (below_step (by repeat (first | (with_reducible first | exact HB.out | apply bA|apply bN|apply b1) | exact HB.out)) hb); have n1_ := aM (hbox); have n2_ := aM ((by rw [hg]; exact (below_size (by repeat (first | (with_reducible first | exact HB.out | apply bA|apply bN|apply b1) | exact HB.out))) : w.heap.size ≤ gb1457)); have n3_ := aM ((by rw [hg]; exact (below_size (by repeat (first | (with_reducible first | exact HB.out | apply bA|apply bN|apply b1) | exact HB.out))) : w.heap.size ≤ gb1457)); clear HB; have HB := n0_; have BK1457 := n1_; have GW1457 := n2_; have GE1457 := n3_; clear n0_ n1_ n2_ n3_; clear hb hbox hg))
  have n0_ := aM (blk_drew BK1457.out)
  have n1_ := aM (below_drew1 HB.out)
  clear BK1457
  clear HB
  have BK1457 := n0_
  have HB := n1_
  clear n0_ n1_
  refine start_ (n := 14) (S := fun w' => w'.cell? ⟨gb1457, 0, none⟩ = some (.int .i64 a1_0) ∧ w'.cell? ⟨gb1457, 1, none⟩ = some (.int .i64 a1_1) ∧ w'.cell? ⟨gb1457, 2, none⟩ = some (.int .i64 a1_2) ∧ w'.cell? ⟨gb1457, 3, none⟩ = some (.int .i64 a1_3)) (ds := []) #[false, false, false, false, false, false, false, false, false, false, false, false, false, false] (by kernel_rfl) rfl rfl ⟨(blk_cell BK1457.out 0).trans rfl, (blk_cell BK1457.out 1).trans rfl, (blk_cell BK1457.out 2).trans rfl, (blk_cell BK1457.out 3).trans rfl⟩ (fun hHeld => ?_); refine with_tabW spec_l04Keeps.tab1 spec_l04Keeps.bits1 (fun HT_ HW_ => ?_)
  generalize w45.drew = w46 at BK1457 HB hHeld ⊢
  refine pure_ (i := 0) (N := some 7) (v := ?_) (a' := ?_) #[true, false, false, false, false, false, false, false, false, false, false, false, false, false] rfl rfl (any_of HT_.out (by kernel_rfl)) (fun _ _ _ h => h) (Or.inl ⟨by rfl, ?_⟩) ?_ ?_
  rotate_left
  ·intro w'
   go_simp
   with_reducible rfl
  rotate_left
  ·simp only [Act.put, List.setIfInBounds_toArray, List.set_cons_zero, List.set_cons_succ, i64_w, i32_w]
   rfl
  refine pure_ (i := 2) (N := some 9) (v := ?_) (a' := ?_) #[true, false, true, false, false, false, false, false, false, false, false, false, false, false] rfl rfl (any_of HT_.out (by kernel_rfl)) (fun _ _ _ h => h) (Or.inl ⟨by rfl, ?_⟩) ?_ ?_
  rotate_left
  ·intro w'
   go_simp
   with_reducible rfl
  rotate_left
  ·simp only [Act.put, List.setIfInBounds_toArray, List.set_cons_zero, List.set_cons_succ, i64_w, i32_w]
   rfl
  refine pure_ (i := 5) (N := some 12) (v := ?_) (a' := ?_) #[true, false, true, false, false, true, false, false, false, false, false, false, false, false] rfl rfl (any_of HT_.out (by kernel_rfl)) (fun _ _ _ h => h) (Or.inl ⟨by rfl, ?_⟩) ?_ ?_
  rotate_left
  ·intro w'
   go_simp
   with_reducible rfl
  rotate_left
  ·simp only [Act.put, List.setIfInBounds_toArray, List.set_cons_zero, List.set_cons_succ, i64_w, i32_w]
   rfl
  refine pure_ (i := 7) (N := some 14) (v := ?_) (a' := ?_) #[true, false, true, false, false, true, false, true, false, false, false, false, false, false] rfl rfl (any_of HT_.out (by kernel_rfl)) (fun _ _ _ h => h) (Or.inl ⟨by rfl, ?_⟩) ?_ ?_
  rotate_left
  ·intro w'
   go_simp
   with_reducible rfl
  rotate_left
  ·simp only [Act.put, List.setIfInBounds_toArray, List.set_cons_zero, List.set_cons_succ, i64_w, i32_w]
   rfl
  refine take_ (i := 1) (N := some 8) (v := ?_) (a' := ?_) #[true, true, true, false, false, true, false, true, false, false, false, false, false, false] rfl rfl (take_ofW HT_.out HW_.out (by kernel_rfl)) (fun _ _ _ h => h) (Or.inl ⟨by rfl, ?_⟩) hHeld ?_ ?_
  rotate_left
  ·rintro w' ⟨s0, s1, s2, s3⟩
   go_simp
   with_reducible rfl
  rotate_left
  ·simp only [Act.put, List.setIfInBounds_toArray, List.set_cons_zero, List.set_cons_succ, i64_w, i32_w]
   rfl
  refine take_ (i := 3) (N := some 10) (v := ?_) (a' := ?_) #[true, true, true, true, false, true, false, true, false, false, false, false, false, false] rfl rfl (take_ofW HT_.out HW_.out (by kernel_rfl)) (fun _ _ _ h => h) (Or.inl ⟨by rfl, ?_⟩) hHeld ?_ ?_
  rotate_left
  ·rintro w' ⟨s0, s1, s2, s3⟩
   go_simp
   with_reducible rfl
  rotate_left
  ·simp only [Act.put, List.setIfInBounds_toArray, List.set_cons_zero, List.set_cons_succ, i64_w, i32_w]
   rfl
  refine pure_ (i := 4) (N := some 11) (v := ?_) (a' := ?_) #[true, true, true, true, true, true, false, true, false, false, false, false, false, false] rfl rfl (any_of HT_.out (by kernel_rfl)) (fun _ _ _ h => h) (Or.inl ⟨by rfl, ?_⟩) ?_ ?_
  rotate_left
  ·intro w'
   go_simp
   with_reducible rfl
  rotate_left
  ·simp only [Act.put, List.setIfInBounds_toArray, List.set_cons_zero, List.set_cons_succ, i64_w, i32_w]
   rfl
  refine take_ (i := 6) (N := some 13) (v := ?_) (a' := ?_) #[true, true, true, true, true, true, true, true, false, false, false, false, false, false] rfl rfl (take_ofW HT_.out HW_.out (by kernel_rfl)) (fun _ _ _ h => h) (Or.inl ⟨by rfl, ?_⟩) hHeld ?_ ?_
  rotate_left
  ·rintro w' ⟨s0, s1, s2, s3⟩
   go_simp
   with_reducible rfl
  rotate_left
  ·simp only [Act.put, List.setIfInBounds_toArray, List.set_cons_zero, List.set_cons_succ, i64_w, i32_w]
   rfl
  refine take_ (i := 8) (N := some 15) (v := ?_) (a' := ?_) #[true, true, true, true, true, true, true, true, true, false, false, false, false, false] rfl rfl (take_ofW HT_.out HW_.out (by kernel_rfl)) (fun _ _ _ h => h) (Or.inl ⟨by rfl, ?_⟩) hHeld ?_ ?_
  rotate_left
  ·rintro w' ⟨s0, s1, s2, s3⟩
   go_simp
   with_reducible rfl
  rotate_left
  ·simp only [Act.put, List.setIfInBounds_toArray, List.set_cons_zero, List.set_cons_succ, i64_w, i32_w]
   rfl
  refine pure_ (i := 9) (N := some 16) (v := ?_) (a' := ?_) #[true, true, true, true, true, true, true, true, true, true, false, false, false, false] rfl rfl (any_of HT_.out (by kernel_rfl)) (fun _ _ _ h => h) (Or.inl ⟨by rfl, ?_⟩) ?_ ?_
  rotate_left
  ·intro w'
   go_simp
   with_reducible rfl
  rotate_left
  ·simp only [Act.put, List.setIfInBounds_toArray, List.set_cons_zero, List.set_cons_succ, i64_w, i32_w]
   rfl
  refine join_ (σ := Nat × Nat) 2 #[true, true, true, true, true, true, true, true, true, true, true, true, false, false] (fun s_ => [(5, .pointer (some ⟨s_.1, 0, none⟩)), (6, .pointer (some ⟨s_.2, 0, none⟩))]) (fun s_ w' => (w'.cell? ⟨gb1457, 0, none⟩ = some (.int .i64 a1_0) ∧ w'.cell? ⟨gb1457, 1, none⟩ = some (.int .i64 a1_1) ∧ w'.cell? ⟨gb1457, 2, none⟩ = some (.int .i64 a1_2) ∧ w'.cell? ⟨gb1457, 3, none⟩ = some (.int .i64 a1_3)) ∧ (w'.heap[gb1457]? = some (.cells #[.int .i64 a1_0, .int .i64 a1_1, .int .i64 a1_2, .int .i64 a1_3] 51 (0, 0))) ∧ (w'.heap[s_.1]? = some (.cells #[.int .i64 0, .int .i64 0] 25 (0, 0))) ∧ (w'.heap[s_.2]? = some (.cells #[.int .i64 0, .int .i64 0] 25 (0, 0))) ∧ (w.heap.size ≤ s_.1) ∧ (w.heap.size ≤ s_.1) ∧ (gb1457 ≠ s_.1) ∧ (s_.1 ≠ gb1457) ∧ (s_.2 ≠ s_.1) ∧ (s_.1 ≠ s_.2) ∧ (w.heap.size ≤ s_.2) ∧ (w.heap.size ≤ s_.2) ∧ (gb1457 ≠ s_.2) ∧ (s_.2 ≠ gb1457) ∧ (Below w.heap.size w w')) ?_ ?_
  rotate_left
  ·intro hCont
   refine two_ (i := 10) (j := 11) (Ni := some 5) (Nj := some 6) #[true, true, true, true, true, true, true, true, true, true, true, false, false, false] #[true, true, true, true, true, true, true, true, true, true, false, true, false, false] rfl rfl rfl rfl (two_of HT_.out (by kernel_rfl)) (by decide) (by decide) (fun K hK => ?_) (fun K hK => ?_)
   ·skip
    refine box_step ?hg (N := 5) ?hd (cs := #[.int .i64 0, .int .i64 0]) (t := 25) ?hr ?_; (case hd => rfl); (case hg => rfl); (case hr => first | (go_simp; done) | (go_simp; rfl))
    intro gb1458 hg w47 hbox hb
    have n0_ := aM (blk_below (g := gb1457) (o := .cells #[.int .i64 a1_0, .int .i64 a1_1, .int .i64 a1_2, .int .i64 a1_3] 51 (0, 0)) (by (with_reducible repeat (first|apply kN|apply kD|apply kA)); exact BK1457.out) hb)
    have n1_ := aM (below_step (by repeat (first | (with_reducible first | exact HB.out | apply bA|apply bN|apply b1 | refine below_set ?_ GE1457.out) | exact HB.out)) hb)
    have n2_ := aM (hbox)
    have n3_ := aM ((by rw [hg]; exact (below_size (by repeat (first | (with_reducible first | exact HB.out | apply bA|apply bN|apply b1 | refine below_set ?_ GE1457.out) | exact HB.out))) : w.heap.size ≤ gb1458))
    have n4_ := aM ((by rw [hg]; exact (below_size (by repeat (first | (with_reducible first | exact HB.out | apply bA|apply bN|apply b1 | refine below_set ?_ GE1457.out) | exact HB.out))) : w.heap.size ≤ gb1458))
    have n5_ := aM ((by rw [hg]; exact Nat.ne_of_lt (blk_lt (g := gb1457) (o := .cells #[.int .i64 a1_0, .int .i64 a1_1, .int .i64 a1_2, .int .i64 a1_3] 51 (0, 0)) (by (with_reducible repeat (first|apply kN|apply kD|apply kA)); exact BK1457.out)) : gb1457 ≠ gb1458))
    have n6_ := aM ((by rw [hg]; exact Nat.ne_of_gt (blk_lt (g := gb1457) (o := .cells #[.int .i64 a1_0, .int .i64 a1_1, .int .i64 a1_2, .int .i64 a1_3] 51 (0, 0)) (by (with_reducible repeat (first|apply kN|apply kD|apply kA)); exact BK1457.out)) : gb1458 ≠ gb1457))
    clear BK1457
    clear HB
    have BK1457 := n0_
    have HB := n1_
    have BK1458 := n2_
    have GW1458 := n3_
    have GE1458 := n4_
    have NB1457_1458 := n5_
    have NB1458_1457 := n6_
    clear n0_ n1_ n2_ n3_ n4_ n5_ n6_
    clear hb hbox hg
    refine hK.out _ _ ⟨(blk_cell BK1457.out 0).trans rfl, (blk_cell BK1457.out 1).trans rfl, (blk_cell BK1457.out 2).trans rfl, (blk_cell BK1457.out 3).trans rfl⟩ (fun hHeld => ?_)
    clear hK K
    refine norm_ (a' := ?_) ?_ ?_
    rotate_left
    ·show Act.put _ (some 5) _ = _
     simp only [Act.put, List.setIfInBounds_toArray, List.set_cons_zero, List.set_cons_succ, i64_w, i32_w]
     rfl
    refine one_ (i := 11) (N := some 6) #[true, true, true, true, true, true, true, true, true, true, true, true, false, false] rfl rfl (one_of HT_.out (by kernel_rfl)) (by decide) (fun K hK => ?_)
    refine box_step ?hg (N := 6) ?hd (cs := #[.int .i64 0, .int .i64 0]) (t := 25) ?hr ?_; (case hd => rfl); (case hg => rfl); (case hr => first | (go_simp; done) | (go_simp; rfl))
    intro gb1459 hg w48 hbox hb
    have n0_ := aM (blk_below (g := gb1457) (o := .cells #[.int .i64 a1_0, .int .i64 a1_1, .int .i64 a1_2, .int .i64 a1_3] 51 (0, 0)) (by (with_reducible repeat (first|apply kN|apply kD|apply kA)); exact BK1457.out) hb)
    have n1_ := aM (blk_below (g := gb1458) (o := .cells #[.int .i64 0, .int .i64 0] 25 (0, 0)) (by (with_reducible repeat (first|apply kN|apply kD|apply kA)); exact BK1458.out) hb)
    have n2_ := aM (below_step (by repeat (first | (with_reducible first | exact HB.out | apply bA|apply bN|apply b1 | refine below_set ?_ (Aside0.out (by assumption))) | exact HB.out)) hb)
    have n3_ := aM (hbox)
    have n4_ := aM ((by rw [hg]; exact (below_size (by repeat (first | (with_reducible first | exact HB.out | apply bA|apply bN|apply b1 | refine below_set ?_ (Aside0.out (by assumption))) | exact HB.out))) : w.heap.size ≤ gb1459))
    have n5_ := aM ((by rw [hg]; exact (below_size (by repeat (first | (with_reducible first | exact HB.out | apply bA|apply bN|apply b1 | refine below_set ?_ (Aside0.out (by assumption))) | exact HB.out))) : w.heap.size ≤ gb1459))
    have n6_ := aM ((by rw [hg]; exact Nat.ne_of_lt (blk_lt (g := gb1457) (o := .cells #[.int .i64 a1_0, .int .i64 a1_1, .int .i64 a1_2, .int .i64 a1_3] 51 (0, 0)) (by (with_reducible repeat (first|apply kN|apply kD|apply kA)); exact BK1457.out)) : gb1457 ≠ gb1459))
    have n7_ := aM ((by rw [hg]; exact Nat.ne_of_gt (blk_lt (g := gb1457) (o := .cells #[.int .i64 a1_0, .int .i64 a1_1, .int .i64 a1_2, .int .i64 a1_3] 51 (0, 0)) (by (with_reducible repeat (first|apply kN|apply kD|apply kA)); exact BK1457.out)) : gb1459 ≠ gb1457))
    have n8_ := aM ((by rw [hg]; exact Nat.ne_of_lt (blk_lt (g := gb1458) (o := .cells #[.int .i64 0, .int .i64 0] 25 (0, 0)) (by (with_reducible repeat (first|apply kN|apply kD|apply kA)); exact BK1458.out)) : gb1458 ≠ gb1459))
    have n9_ := aM ((by rw [hg]; exact Nat.ne_of_gt (blk_lt (g := gb1458) (o := .cells #[.int .i64 0, .int .i64 0] 25 (0, 0)) (by (with_reducible repeat (first|apply kN|apply kD|apply kA)); exact BK1458.out)) : gb1459 ≠ gb1458))
    clear BK1457
    clear BK1458
    clear HB
    have BK1457 := n0_
    have BK1458 := n1_
    have HB := n2_
    have BK1459 := n3_
    have GW1459 := n4_
    have GE1459 := n5_
    have NB1457_1459 := n6_
    have NB1459_1457 := n7_
    have NB1458_1459 := n8_
    have NB1459_1458 := n9_
    clear n0_ n1_ n2_ n3_ n4_ n5_ n6_ n7_ n8_ n9_
    clear hb hbox hg
    refine hK.out _ _ ⟨(blk_cell BK1457.out 0).trans rfl, (blk_cell BK1457.out 1).trans rfl, (blk_cell BK1457.out 2).trans rfl, (blk_cell BK1457.out 3).trans rfl⟩ (fun hHeld => ?_)
    clear hK K
    refine norm_ (a' := ?_) ?_ ?_
    rotate_left
    ·show Act.put _ (some 6) _ = _
     simp only [Act.put, List.setIfInBounds_toArray, List.set_cons_zero, List.set_cons_succ, i64_w, i32_w]
     rfl
    exact norm_ (by simp only [putAll, Act.put, List.setIfInBounds_toArray, List.set_cons_zero, List.set_cons_succ]) (hCont (gb1458, gb1459) _ ⟨hHeld, (by (with_reducible repeat (first|apply kN|apply kD|apply kA)); exact BK1457.out), (by (with_reducible repeat (first|apply kN|apply kD|apply kA)); exact BK1458.out), (by (with_reducible repeat (first|apply kN|apply kD|apply kA)); exact BK1459.out), GW1458.out, GE1458.out, NB1457_1458.out, NB1458_1457.out, NB1459_1458.out, NB1458_1459.out, GW1459.out, GE1459.out, NB1457_1459.out, NB1459_1457.out, (by repeat (first | (with_reducible first | exact HB.out | apply bA|apply bN|apply b1 | refine below_set ?_ (Aside0.out (by assumption))) | exact HB.out))⟩)
   ·skip
    refine box_step ?hg (N := 6) ?hd (cs := #[.int .i64 0, .int .i64 0]) (t := 25) ?hr ?_; (case hd => rfl); (case hg => rfl); (case hr => first | (go_simp; done) | (go_simp; rfl))
    intro gb1459 hg w47 hbox hb
    have n0_ := aM (blk_below (g := gb1457) (o := .cells #[.int .i64 a1_0, .int .i64 a1_1, .int .i64 a1_2, .int .i64 a1_3] 51 (0, 0)) (by (with_reducible repeat (first|apply kN|apply kD|apply kA)); exact BK1457.out) hb)
    have n1_ := aM (below_step (by repeat (first | (with_reducible first | exact HB.out | apply bA|apply bN|apply b1 | refine below_set ?_ GE1457.out) | exact HB.out)) hb)
    have n2_ := aM (hbox)
    have n3_ := aM ((by rw [hg]; exact (below_size (by repeat (first | (with_reducible first | exact HB.out | apply bA|apply bN|apply b1 | refine below_set ?_ GE1457.out) | exact HB.out))) : w.heap.size ≤ gb1459))
    have n4_ := aM ((by rw [hg]; exact (below_size (by repeat (first | (with_reducible first | exact HB.out | apply bA|apply bN|apply b1 | refine below_set ?_ GE1457.out) | exact HB.out))) : w.heap.size ≤ gb1459))
    have n5_ := aM ((by rw [hg]; exact Nat.ne_of_lt (blk_lt (g := gb1457) (o := .cells #[.int .i64 a1_0, .int .i64 a1_1, .int .i64 a1_2, .int .i64 a1_3] 51 (0, 0)) (by (with_reducible repeat (first|apply kN|apply kD|apply kA)); exact BK1457.out)) : gb1457 ≠ gb1459))
    have n6_ := aM ((by rw [hg]; exact Nat.ne_of_gt (blk_lt (g := gb1457) (o := .cells #[.int .i64 a1_0, .int .i64 a1_1, .int .i64 a1_2, .int .i64 a1_3] 51 (0, 0)) (by (with_reducible repeat (first|apply kN|apply kD|apply kA)); exact BK1457.out)) : gb1459 ≠ gb1457))
    clear BK1457
    clear HB
    have BK1457 := n0_
    have HB := n1_
    have BK1459 := n2_
    have GW1459 := n3_
    have GE1459 := n4_
    have NB1457_1459 := n5_
    have NB1459_1457 := n6_
    clear n0_ n1_ n2_ n3_ n4_ n5_ n6_
    clear hb hbox hg
    refine hK.out _ _ ⟨(blk_cell BK1457.out 0).trans rfl, (blk_cell BK1457.out 1).trans rfl, (blk_cell BK1457.out 2).trans rfl, (blk_cell BK1457.out 3).trans rfl⟩ (fun hHeld => ?_)
    clear hK K
    refine norm_ (a' := ?_) ?_ ?_
    rotate_left
    ·show Act.put _ (some 6) _ = _
     simp only [Act.put, List.setIfInBounds_toArray, List.set_cons_zero, List.set_cons_succ, i64_w, i32_w]
     rfl
    refine one_ (i := 10) (N := some 5) #[true, true, true, true, true, true, true, true, true, true, true, true, false, false] rfl rfl (one_of HT_.out (by kernel_rfl)) (by decide) (fun K hK => ?_)
    refine box_step ?hg (N := 5) ?hd (cs := #[.int .i64 0, .int .i64 0]) (t := 25) ?hr ?_; (case hd => rfl); (case hg => rfl); (case hr => first | (go_simp; done) | (go_simp; rfl))
    intro gb1458 hg w48 hbox hb
    have n0_ := aM (blk_below (g := gb1457) (o := .cells #[.int .i64 a1_0, .int .i64 a1_1, .int .i64 a1_2, .int .i64 a1_3] 51 (0, 0)) (by (with_reducible repeat (first|apply kN|apply kD|apply kA)); exact BK1457.out) hb)
    have n1_ := aM (blk_below (g := gb1459) (o := .cells #[.int .i64 0, .int .i64 0] 25 (0, 0)) (by (with_reducible repeat (first|apply kN|apply kD|apply kA)); exact BK1459.out) hb)
    have n2_ := aM (below_step (by repeat (first | (with_reducible first | exact HB.out | apply bA|apply bN|apply b1 | refine below_set ?_ (Aside0.out (by assumption))) | exact HB.out)) hb)
    have n3_ := aM (hbox)
    have n4_ := aM ((by rw [hg]; exact (below_size (by repeat (first | (with_reducible first | exact HB.out | apply bA|apply bN|apply b1 | refine below_set ?_ (Aside0.out (by assumption))) | exact HB.out))) : w.heap.size ≤ gb1458))
    have n5_ := aM ((by rw [hg]; exact (below_size (by repeat (first | (with_reducible first | exact HB.out | apply bA|apply bN|apply b1 | refine below_set ?_ (Aside0.out (by assumption))) | exact HB.out))) : w.heap.size ≤ gb1458))
    have n6_ := aM ((by rw [hg]; exact Nat.ne_of_lt (blk_lt (g := gb1457) (o := .cells #[.int .i64 a1_0, .int .i64 a1_1, .int .i64 a1_2, .int .i64 a1_3] 51 (0, 0)) (by (with_reducible repeat (first|apply kN|apply kD|apply kA)); exact BK1457.out)) : gb1457 ≠ gb1458))
    have n7_ := aM ((by rw [hg]; exact Nat.ne_of_gt (blk_lt (g := gb1457) (o := .cells #[.int .i64 a1_0, .int .i64 a1_1, .int .i64 a1_2, .int .i64 a1_3] 51 (0, 0)) (by (with_reducible repeat (first|apply kN|apply kD|apply kA)); exact BK1457.out)) : gb1458 ≠ gb1457))
    have n8_ := aM ((by rw [hg]; exact Nat.ne_of_lt (blk_lt (g := gb1459) (o := .cells #[.int .i64 0, .int .i64 0] 25 (0, 0)) (by (with_reducible repeat (first|apply kN|apply kD|apply kA)); exact BK1459.out)) : gb1459 ≠ gb1458))
    have n9_ := aM ((by rw [hg]; exact Nat.ne_of_gt (blk_lt (g := gb1459) (o := .cells #[.int .i64 0, .int .i64 0] 25 (0, 0)) (by (with_reducible repeat (first|apply kN|apply kD|apply kA)); exact BK1459.out)) : gb1458 ≠ gb1459))
    clear BK1457
    clear BK1459
    clear HB
    have BK1457 := n0_
    have BK1459 := n1_
    have HB := n2_
    have BK1458 := n3_
    have GW1458 := n4_
    have GE1458 := n5_
    have NB1457_1458 := n6_
    have NB1458_1457 := n7_
    have NB1459_1458 := n8_
    have NB1458_1459 := n9_
    clear n0_ n1_ n2_ n3_ n4_ n5_ n6_ n7_ n8_ n9_
    clear hb hbox hg
    refine hK.out _ _ ⟨(blk_cell BK1457.out 0).trans rfl, (blk_cell BK1457.out 1).trans rfl, (blk_cell BK1457.out 2).trans rfl, (blk_cell BK1457.out 3).trans rfl⟩ (fun hHeld => ?_)
    clear hK K
    refine norm_ (a' := ?_) ?_ ?_
    rotate_left
    ·show Act.put _ (some 5) _ = _
     simp only [Act.put, List.setIfInBounds_toArray, List.set_cons_zero, List.set_cons_succ, i64_w, i32_w]
     rfl
    exact norm_ (by simp only [putAll, Act.put, List.setIfInBounds_toArray, List.set_cons_zero, List.set_cons_succ]) (hCont (gb1458, gb1459) _ ⟨hHeld, (by (with_reducible repeat (first|apply kN|apply kD|apply kA)); exact BK1457.out), (by (with_reducible repeat (first|apply kN|apply kD|apply kA)); exact BK1458.out), (by (with_reducible repeat (first|apply kN|apply kD|apply kA)); exact BK1459.out), GW1458.out, GE1458.out, NB1457_1458.out, NB1458_1457.out, NB1459_1458.out, NB1458_1459.out, GW1459.out, GE1459.out, NB1457_1459.out, NB1459_1457.out, (by repeat (first | (with_reducible first | exact HB.out | apply bA|apply bN|apply b1 | refine below_set ?_ (Aside0.out (by assumption))) | exact HB.out))⟩)
  rintro ⟨gb1458, gb1459⟩ w49 ⟨hS_, h0_, h1_, h2_, h3_, h4_, h5_, h6_, h7_, h8_, h9_, h10_, h11_, h12_, h13_⟩
  have n0_ : Aside0 (w49.heap[gb1457]? = some (.cells #[.int .i64 a1_0, .int .i64 a1_1, .int .i64 a1_2, .int .i64 a1_3] 51 (0, 0))) := ⟨h0_⟩
  have n1_ : Aside0 (w49.heap[gb1458]? = some (.cells #[.int .i64 0, .int .i64 0] 25 (0, 0))) := ⟨h1_⟩
  have n2_ : Aside0 (w49.heap[gb1459]? = some (.cells #[.int .i64 0, .int .i64 0] 25 (0, 0))) := ⟨h2_⟩
  have n3_ : Aside0 (w.heap.size ≤ gb1458) := ⟨h3_⟩
  have n4_ : Aside0 (w.heap.size ≤ gb1458) := ⟨h4_⟩
  have n5_ : Aside0 (gb1457 ≠ gb1458) := ⟨h5_⟩
  have n6_ : Aside0 (gb1458 ≠ gb1457) := ⟨h6_⟩
  have n7_ : Aside0 (gb1459 ≠ gb1458) := ⟨h7_⟩
  have n8_ : Aside0 (gb1458 ≠ gb1459) := ⟨h8_⟩
  have n9_ : Aside0 (w.heap.size ≤ gb1459) := ⟨h9_⟩
  have n10_ : Aside0 (w.heap.size ≤ gb1459) := ⟨h10_⟩
  have n11_ : Aside0 (gb1457 ≠ gb1459) := ⟨h11_⟩
  have n12_ : Aside0 (gb1459 ≠ gb1457) := ⟨h12_⟩
  have n13_ : Aside0 (Below w.heap.size w w49) := ⟨h13_⟩
  clear BK1457
  clear HB
  clear h0_ h1_ h2_ h3_ h4_ h5_ h6_ h7_ h8_ h9_ h10_ h11_ h12_ h13_
  have BK1457 := n0_
  have BK1458 := n1_
  have BK1459 := n2_
  have GW1458 := n3_
  have GE1458 := n4_
  have NB1457_1458 := n5_
  have NB1458_1457 := n6_
  have NB1459_1458 := n7_
  have NB1458_1459 := n8_
  have GW1459 := n9_
  have GE1459 := n10_
  have NB1457_1459 := n11_
  have NB1459_1457 := n12_
  have HB := n13_
  clear n0_ n1_ n2_ n3_ n4_ n5_ n6_ n7_ n8_ n9_ n10_ n11_ n12_ n13_
  have hHeld : w49.cell? ⟨gb1457, 0, none⟩ = some (.int .i64 a1_0) ∧ w49.cell? ⟨gb1457, 1, none⟩ = some (.int .i64 a1_1) ∧ w49.cell? ⟨gb1457, 2, none⟩ = some (.int .i64 a1_2) ∧ w49.cell? ⟨gb1457, 3, none⟩ = some (.int .i64 a1_3) := hS_
  refine norm_ (a' := ?_) ?_ ?_
  rotate_left
  ·simp only [putAll, Act.put, List.setIfInBounds_toArray, List.set_cons_zero, List.set_cons_succ]
   rfl
  refine one_ (i := 12) (N := none) #[true, true, true, true, true, true, true, true, true, true, true, true, true, false] rfl rfl (one_of HT_.out (by kernel_rfl)) (by decide) (fun K hK => ?_)
  have hs50 : w49.cell? ⟨gb1458, 0, none⟩ = some (.int .i64 0) := (blk_cell BK1458.out 0).trans rfl
  have hfs50 := blk_frozen BK1458.out 0
  have hns50_0 := NB1457_1458.out
  have hns50_2 := NB1459_1458.out
  have hms50_0 := NB1458_1457.out
  have hms50_2 := NB1458_1459.out
  have hs51 : w49.cell? ⟨gb1458, 1, none⟩ = some (.int .i64 0) := (blk_cell BK1458.out 1).trans rfl
  have hfs51 := blk_frozen BK1458.out 1
  have hns51_0 := NB1457_1458.out
  have hns51_2 := NB1459_1458.out
  have hms51_0 := NB1458_1457.out
  have hms51_2 := NB1458_1459.out
  refine skip_ (w1 := ?_) (by rfl) rfl ?_ ?_
  rotate_left
  ·go_simp
   rfl
  refine hK.out _ _ ⟨((cell_far (p := ⟨gb1458, _, none⟩) NB1457_1458.out _).trans (((cell_far (p := ⟨gb1458, _, none⟩) NB1457_1458.out _).trans (hHeld.1)))), ((cell_far (p := ⟨gb1458, _, none⟩) NB1457_1458.out _).trans (((cell_far (p := ⟨gb1458, _, none⟩) NB1457_1458.out _).trans (hHeld.2.1)))), ((cell_far (p := ⟨gb1458, _, none⟩) NB1457_1458.out _).trans (((cell_far (p := ⟨gb1458, _, none⟩) NB1457_1458.out _).trans (hHeld.2.2.1)))), ((cell_far (p := ⟨gb1458, _, none⟩) NB1457_1458.out _).trans (((cell_far (p := ⟨gb1458, _, none⟩) NB1457_1458.out _).trans (hHeld.2.2.2))))⟩ (fun hHeld => ?_)
  clear hK K
  refine one_ (i := 13) (N := none) #[true, true, true, true, true, true, true, true, true, true, true, true, true, true] rfl rfl (one_of HT_.out (by kernel_rfl)) (by decide) (fun K hK => ?_)
  have hs52 : w49.cell? ⟨gb1459, 0, none⟩ = some (.int .i64 0) := (blk_cell BK1459.out 0).trans rfl
  have hfs52 := blk_frozen BK1459.out 0
  have hns52_0 := NB1457_1459.out
  have hns52_1 := NB1458_1459.out
  have hms52_0 := NB1459_1457.out
  have hms52_1 := NB1459_1458.out
  have hs53 : w49.cell? ⟨gb1459, 1, none⟩ = some (.int .i64 0) := (blk_cell BK1459.out 1).trans rfl
  have hfs53 := blk_frozen BK1459.out 1
  have hns53_0 := NB1457_1459.out
  have hns53_1 := NB1458_1459.out
  have hms53_0 := NB1459_1457.out
  have hms53_1 := NB1459_1458.out
  refine skip_ (w1 := ?_) (by rfl) rfl ?_ ?_
  rotate_left
  ·go_simp
   rfl
  refine hK.out _ _ ⟨((cell_far (p := ⟨gb1459, _, none⟩) NB1457_1459.out _).trans (((cell_far (p := ⟨gb1459, _, none⟩) NB1457_1459.out _).trans (hHeld.1)))), ((cell_far (p := ⟨gb1459, _, none⟩) NB1457_1459.out _).trans (((cell_far (p := ⟨gb1459, _, none⟩) NB1457_1459.out _).trans (hHeld.2.1)))), ((cell_far (p := ⟨gb1459, _, none⟩) NB1457_1459.out _).trans (((cell_far (p := ⟨gb1459, _, none⟩) NB1457_1459.out _).trans (hHeld.2.2.1)))), ((cell_far (p := ⟨gb1459, _, none⟩) NB1457_1459.out _).trans (((cell_far (p := ⟨gb1459, _, none⟩) NB1457_1459.out _).trans (hHeld.2.2.2))))⟩ (fun hHeld => ?_)
  clear hK K
  refine done_ (done_of HT_.out (by kernel_rfl)) ?_
  have hnb54 := NB1458_1457.out
  have hnc54 := NB1457_1458.out
  have hnb55 := NB1458_1459.out
  have hnc55 := NB1459_1458.out
  have hcz56_0 : w49.cell? ⟨gb1458, 0, none⟩ = some (.int .i64 0) := (blk_cell BK1458.out 0).trans rfl
  have hcz56_1 : w49.cell? ⟨gb1458, 1, none⟩ = some (.int .i64 0) := (blk_cell BK1458.out 1).trans rfl
  have hfz56_0 := blk_frozen BK1458.out 0
  have hfz56_1 := blk_frozen BK1458.out 1
  try go_wp2_with (first | ((with_reducible refine gate_callee (f := 196) rfl ?_); refine goesL_ (some 19) rfl rfl Try.func196 (by kernel_rfl) rfl #[.int .i64 a0, .agg #[.int .i64 a1_0, .int .i64 a1_2]] rfl (by first|rfl|(simp only [List.map_toArray, List.map_cons, List.map_nil]; try rfl)) ?_; (with_reducible refine (spec_l04Norm.calls a0 a1_0 a1_2 t1460 _ A3.out).mono ?_); rintro e w57 ⟨rfl, hb⟩; refine ⟨_, rfl, ?_⟩; have n0_ := aM (blk_below (g := gb1457) (o := .cells #[.int .i64 a1_0, .int .i64 a1_1, .int .i64 a1_2, .int .i64 a1_3] 51 (0, 0)) (by (repeat (first|(with_reducible first|apply kN|apply kD|apply kA)|refine blk_far ?_ NB1457_1459.out _|refine blk_far ?_ NB1457_1458.out _)); exact BK1457.out) hb); have n1_ := aM (blk_below (g := gb1458) (o := .cells #[.int .i64 a1_0, .int .i64 a1_2] 25 (0, 0)) (by (repeat (first|(with_reducible first|apply kN|apply kD|apply kA)|refine blk_far ?_ NB1458_1459.out _)); refine blk_put (cs := #[.int .i64 a1_0, .int .i64 0]) ?_ 1 _ rfl; (with_reducible repeat (first|apply kN|apply kD|apply kA)); refine blk_put (cs := #[.int .i64 0, .int .i64 0]) ?_ 0 _ rfl; (with_reducible repeat (first|apply kN|apply kD|apply kA)); exact BK1458.out) hb); have n2_ := aM (blk_below (g := gb1459) (o := .cells #[.int .i64 a1_1, .int .i64 a1_3] 25 (0, 0)) (by (with_reducible repeat (first|apply kN|apply kD|apply kA)); refine blk_put (cs := #[.int .i64 a1_1, .int .i64 0]) ?_ 1 _ rfl; (with_reducible repeat (first|apply kN|apply kD|apply kA)); refine blk_put (cs := #[.int .i64 0, .int .i64 0]) ?_ 0 _ rfl; (repeat (first|(with_reducible first|apply kN|apply kD|apply kA)|refine blk_far ?_ NB1459_1458.out _)); exact BK1459.out) hb); have n3_ := aM (below_step (by repeat (first | (with_reducible first | exact HB.out | apply bA|apply bN|apply b1 | refine below_set ?_ (Aside0.out (by assumption))) | exact HB.out)) hb); clear BK1457; clear BK1458; clear BK1459; clear HB; have BK1457 := n0_; have BK1458 := n1_; have BK1459 := n2_; have HB := n3_; clear n0_ n1_ n2_ n3_; (try clear hb)))
  go_ret
  exact ⟨by first|rfl|(simp [*, errW_none, errW_some] <;> rfl), by repeat (first | (with_reducible first | exact HB.out | apply bA|apply bN|apply b1 | refine below_set ?_ (Aside0.out (by assumption))) | exact HB.out)⟩

end Go.Proofs.Ytjjbjaagfjljnaa.F

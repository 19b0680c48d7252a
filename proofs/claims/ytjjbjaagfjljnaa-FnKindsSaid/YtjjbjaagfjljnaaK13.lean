import Derived.Test.YtjjbjaagfjljnaaK0
import Derived.Test.YtjjbjaagfjljnaaK2
import Derived.Test.YtjjbjaagfjljnaaK5
import Derived.Test.YtjjbjaagfjljnaaK10
import Derived.Test.YtjjbjaagfjljnaaK11
namespace Go.Proofs.Ytjjbjaagfjljnaa.F
open Go.RowKit Go.Proofs.YtjjbjaagfjljnaaW.PrintWords Go.Proofs.YtjjbjaagfjljnaaW.PrintLast Go.Proofs.YtjjbjaagfjljnaaW.PrintMore
attribute [local go_sem] max2_int min2_int max_two min_two max_three min_three max_four min_four   -- for this text's walks alone
set_option linter.unusedVariables false
set_option linter.unusedSimpArgs false
attribute [local go_sem high] eqA51 eqA84

def impl_Motion_kind.f (a0_0 : Int) (a0_1 : Int) (a0_2 : Int) (a0_3 : Int) (a0_4 : Int) (a0_5 : Int) : Option (Int) := (impl_unit.f).bind fun bt1868 => (if ((a0_0 == bt1868.1 && (a0_1 == bt1868.2.1 && (a0_2 == bt1868.2.2.1 && (a0_3 == bt1868.2.2.2)))) && ((a0_4 == 0 && (a0_5 == 0)))) = true then (some 0) else ((impl_unit.f).bind fun bt1872 => (if (a0_0 == bt1872.1 && (a0_1 == bt1872.2.1 && (a0_2 == bt1872.2.2.1 && (a0_3 == bt1872.2.2.2)))) = true then (some 1) else ((impl_Mat_det.f a0_0 a0_1 a0_2 a0_3).bind fun t1876 => (if t1876 = 1 then (some 2) else ((impl_Motion_times.f a0_0 a0_1 a0_2 a0_3 a0_4 a0_5 a0_0 a0_1 a0_2 a0_3 a0_4 a0_5).bind fun bt1877 => ((impl_unit.f).bind fun bt1883 => (if ((bt1877.1 == bt1883.1 && (bt1877.2.1 == bt1883.2.1 && (bt1877.2.2.1 == bt1883.2.2.1 && (bt1877.2.2.2.1 == bt1883.2.2.2)))) && ((bt1877.2.2.2.2.1 == 0 && (bt1877.2.2.2.2.2 == 0)))) = true then (some 3) else (some 4)))))))))
set_option maxHeartbeats 40000000 in
set_option maxRecDepth 100000 in
theorem impl_Motion_kind.calls (a0_0 : Int) (a0_1 : Int) (a0_2 : Int) (a0_3 : Int) (a0_4 : Int) (a0_5 : Int) (r : Int) (w : World) (h : impl_Motion_kind.f a0_0 a0_1 a0_2 a0_3 a0_4 a0_5 = some r) :
  Calls Try.prog 191 #[.agg #[.int .i64 a0_0, .int .i64 a0_1, .int .i64 a0_2, .int .i64 a0_3, .int .i64 a0_4, .int .i64 a0_5]] w fun e w' => e = .returned (.int .i64 r) ∧ Below w.heap.size w w' := by
 have hu84 := Try.underlying84
 have hu51 := Try.underlying51
 have HB := aM (Below.refl w.heap.size w)
 have H : ((impl_unit.f).bind fun bt1868 => (if ((a0_0 == bt1868.1 && (a0_1 == bt1868.2.1 && (a0_2 == bt1868.2.2.1 && (a0_3 == bt1868.2.2.2)))) && ((a0_4 == 0 && (a0_5 == 0)))) = true then (some 0) else ((impl_unit.f).bind fun bt1872 => (if (a0_0 == bt1872.1 && (a0_1 == bt1872.2.1 && (a0_2 == bt1872.2.2.1 && (a0_3 == bt1872.2.2.2)))) = true then (some 1) else ((impl_Mat_det.f a0_0 a0_1 a0_2 a0_3).bind fun t1876 => (if t1876 = 1 then (some 2) else ((impl_Motion_times.f a0_0 a0_1 a0_2 a0_3 a0_4 a0_5 a0_0 a0_1 a0_2 a0_3 a0_4 a0_5).bind fun bt1877 => ((impl_unit.f).bind fun bt1883 => (if ((bt1877.1 == bt1883.1 && (bt1877.2.1 == bt1883.2.1 && (bt1877.2.2.1 == bt1883.2.2.1 && (bt1877.2.2.2.1 == bt1883.2.2.2)))) && ((bt1877.2.2.2.2.1 == 0 && (bt1877.2.2.2.2.2 == 0)))) = true then (some 3) else (some 4)))))))))) = some r := h
 clear h
 replace H := Option.bind_eq_some_iff.mp H
 obtain ⟨⟨t1868, t1869, t1870, t1871⟩, A20, H⟩ := H
 try dsimp only at H
 have A2 := aM A20
 clear A20
 by_cases c3 : ((a0_0 == t1868 && (a0_1 == t1869 && (a0_2 == t1870 && (a0_3 == t1871)))) && ((a0_4 == 0 && (a0_5 == 0)))) = true
 ·rw [if_pos c3] at H
  have c3b0 : ((a0_0 == t1868 && (a0_1 == t1869 && (a0_2 == t1870 && (a0_3 == t1871)))) && ((a0_4 == 0 && (a0_5 == 0)))) = true := c3
  clear c3
  obtain rfl := Option.some.inj H
  go_enter Try.func191, Try.ntmps191
  try go_wp2_with (first | ((with_reducible refine gate_dst (N := 1) rfl ?_); refine box_event ?hg (N := 1) ?hd (cs := #[.int .i64 a0_0, .int .i64 a0_1, .int .i64 a0_2, .int .i64 a0_3, .int .i64 a0_4, .int .i64 a0_5]) (t := 84) ?hr ?_; (case hd => rfl); (case hg => rfl); (case hr => first | (go_simp; done) | (go_simp; rfl)); intro gb1867 hg w4 hbox hb; have n0_ := aM (below_step (by repeat (first | (with_reducible first | exact HB.out | apply bA|apply bN|apply b1) | exact HB.out)) hb); have n1_ := aM (hbox); have n2_ := aM ((by rw [hg]; exact (below_size (by repeat (first | (with_reducible first | exact HB.out | apply bA|apply bN|apply b1) | exact HB.out))) : w.heap.size ≤ gb1867)); have n3_ := aM ((by rw [hg]; exact (below_size (by repeat (first | (with_reducible first | exact HB.out | apply bA|apply bN|apply b1) | exact HB.out))) : w.heap.size ≤ gb1867)); clear HB; have HB := n0_; have BK1867 := n1_; have GW1867 := n2_; have GE1867 := n3_; clear n0_ n1_ n2_ n3_; clear hb hbox hg))
  have n0_ := aM (blk_drew BK1867.out)
  have n1_ := aM (below_drew1 HB.out)
  clear BK1867
  clear HB
  have BK1867 := n0_
  have HB := n1_
  clear n0_ n1_
  refine start_ (n := 5) (S := fun w' => w'.cell? ⟨gb1867, 0, none⟩ = some (.int .i64 a0_0) ∧ w'.cell? ⟨gb1867, 1, none⟩ = some (.int .i64 a0_1) ∧ w'.cell? ⟨gb1867, 2, none⟩ = some (.int .i64 a0_2) ∧ w'.cell? ⟨gb1867, 3, none⟩ = some (.int .i64 a0_3) ∧ w'.cell? ⟨gb1867, 4, none⟩ = some (.int .i64 a0_4) ∧ w'.cell? ⟨gb1867, 5, none⟩ = some (.int .i64 a0_5)) (ds := []) #[false, false, false, false, false] (by kernel_rfl) rfl rfl ⟨(blk_cell BK1867.out 0).trans rfl, (blk_cell BK1867.out 1).trans rfl, (blk_cell BK1867.out 2).trans rfl, (blk_cell BK1867.out 3).trans rfl, (blk_cell BK1867.out 4).trans rfl, (blk_cell BK1867.out 5).trans rfl⟩ (fun hHeld => ?_)
  generalize w4.drew = w5 at BK1867 HB hHeld ⊢
  refine take_ (i := 0) (N := some 4) (v := ?_) (a' := ?_) #[true, false, false, false, false] rfl rfl (by kernel_rfl) (fun _ _ _ h => h) (Or.inl ⟨by rfl, ?_⟩) hHeld ?_ ?_
  rotate_left
  ·rintro w' ⟨s0, s1, s2, s3, s4, s5⟩
   go_simp
   with_reducible rfl
  rotate_left
  ·simp only [Act.put, List.setIfInBounds_toArray, List.set_cons_zero, List.set_cons_succ, i64_w, i32_w]
   rfl
  refine one_ (i := 1) (N := some 5) #[true, true, false, false, false] rfl rfl (by kernel_rfl) (by decide) (fun K hK => ?_)
  refine goes_ Try.func161 (by kernel_rfl) rfl #[] (by rfl) rfl rfl (by first|rfl|(simp only [List.map_toArray, List.map_cons, List.map_nil]; try rfl)) ?_
  with_reducible refine (impl_unit.calls  t1868 t1869 t1870 t1871 _ A2.out).mono ?_
  rintro e w6 ⟨rfl, hb⟩
  refine ⟨_, rfl, ?_⟩
  have n0_ := aM (blk_below (g := gb1867) (o := .cells #[.int .i64 a0_0, .int .i64 a0_1, .int .i64 a0_2, .int .i64 a0_3, .int .i64 a0_4, .int .i64 a0_5] 84 (0, 0)) (by (with_reducible repeat (first|apply kN|apply kD|apply kA)); exact BK1867.out) hb)
  have n1_ := aM (below_step (by repeat (first | (with_reducible first | exact HB.out | apply bA|apply bN|apply b1 | refine below_set ?_ GE1867.out) | exact HB.out)) hb)
  clear BK1867
  clear HB
  have BK1867 := n0_
  have HB := n1_
  clear n0_ n1_
  (try clear hb)
  (try clear hb2)
  (try clear hk)
  (try clear hi)
  refine hK.out _ _ ⟨(blk_cell BK1867.out 0).trans rfl, (blk_cell BK1867.out 1).trans rfl, (blk_cell BK1867.out 2).trans rfl, (blk_cell BK1867.out 3).trans rfl, (blk_cell BK1867.out 4).trans rfl, (blk_cell BK1867.out 5).trans rfl⟩ (fun hHeld => ?_)
  clear hK K
  refine norm_ (a' := ?_) ?_ ?_
  rotate_left
  ·show Act.put _ (some 5) _ = _
   simp only [Act.put, List.setIfInBounds_toArray, List.set_cons_zero, List.set_cons_succ, i64_w, i32_w]
   rfl
  refine pure_ (i := 2) (N := some 6) (v := ?_) (a' := ?_) #[true, true, true, false, false] rfl rfl (by kernel_rfl) (fun _ _ _ h => h) (Or.inl ⟨by rfl, ?_⟩) ?_ ?_
  rotate_left
  ·intro w'
   go_simp
   with_reducible rfl
  rotate_left
  ·simp only [Act.put, List.setIfInBounds_toArray, List.set_cons_zero, List.set_cons_succ, i64_w, i32_w]
   rfl
  refine pure_ (i := 3) (N := some 7) (v := ?_) (a' := ?_) #[true, true, true, true, false] rfl rfl (by kernel_rfl) (fun _ _ _ h => h) (Or.inl ⟨by rfl, ?_⟩) ?_ ?_
  rotate_left
  ·intro w'
   go_simp
   with_reducible rfl
  rotate_left
  ·simp only [Act.put, List.setIfInBounds_toArray, List.set_cons_zero, List.set_cons_succ, i64_w, i32_w]
   rfl
  refine pure_ (i := 4) (N := some 3) (v := ?_) (a' := ?_) #[true, true, true, true, true] rfl rfl (by kernel_rfl) (fun _ _ _ h => h) (Or.inl ⟨by rfl, ?_⟩) ?_ ?_
  rotate_left
  ·intro w'
   go_simp
   with_reducible rfl
  rotate_left
  ·simp only [Act.put, List.setIfInBounds_toArray, List.set_cons_zero, List.set_cons_succ, i64_w, i32_w]
   rfl
  refine done_ (by kernel_rfl) ?_
  try go_wp2
  go_ret
  exact ⟨by first|rfl|(simp [*, errW_none, errW_some] <;> rfl), by repeat (first | (with_reducible first | exact HB.out | apply bA|apply bN|apply b1 | refine below_set ?_ GE1867.out) | exact HB.out)⟩
 ·rw [if_neg c3] at H
  have c3b0 : ((a0_0 == t1868 && (a0_1 == t1869 && (a0_2 == t1870 && (a0_3 == t1871)))) && ((a0_4 == 0 && (a0_5 == 0)))) = false := by simpa using c3
  clear c3
  replace H := Option.bind_eq_some_iff.mp H
  obtain ⟨⟨t1872, t1873, t1874, t1875⟩, A70, H⟩ := H
  try dsimp only at H
  have A7 := aM A70
  clear A70
  by_cases c8 : (a0_0 == t1872 && (a0_1 == t1873 && (a0_2 == t1874 && (a0_3 == t1875)))) = true
  ·rw [if_pos c8] at H
   have c8b0 : (a0_0 == t1872 && (a0_1 == t1873 && (a0_2 == t1874 && (a0_3 == t1875)))) = true := c8
   (try (have c8b1 : decide (a0_0 = t1872 && (a0_1 == t1873 && (a0_2 == t1874 && (a0_3 == t1875)))) = true := by simpa using c8))
   (try (have c8b2 : (a0_0 == t1872 && (a0_1 == t1873 && (a0_2 == t1874 && (a0_3 == t1875)))) = true := by simpa using c8))
   clear c8
   obtain rfl := Option.some.inj H
   go_enter Try.func191, Try.ntmps191
   try go_wp2_with (first | ((with_reducible refine gate_dst (N := 1) rfl ?_); refine box_event ?hg (N := 1) ?hd (cs := #[.int .i64 a0_0, .int .i64 a0_1, .int .i64 a0_2, .int .i64 a0_3, .int .i64 a0_4, .int .i64 a0_5]) (t := 84) ?hr ?_; (case hd => rfl); (case hg => rfl); (case hr => first | (go_simp; done) | (go_simp; rfl)); intro gb1867 hg w9 hbox hb; have n0_ := aM (below_step (by repeat (first | (with_reducible first | exact HB.out | apply bA|apply bN|apply b1) | exact HB.out)) hb); have n1_ := aM (hbox); have n2_ := aM ((by rw [hg]; exact (below_size (by repeat (first | (with_reducible first | exact HB.out | apply bA|apply bN|apply b1) | exact HB.out))) : w.heap.size ≤ gb1867)); have n3_ := aM ((by rw [hg]; exact (below_size (by repeat (first | (with_reducible first | exact HB.out | apply bA|apply bN|apply b1) | exact HB.out))) : w.heap.size ≤ gb1867)); clear HB; have HB := n0_; have BK1867 := n1_; have GW1867 := n2_; have GE1867 := n3_; clear n0_ n1_ n2_ n3_; clear hb hbox hg))
   have n0_ := aM (blk_drew BK1867.out)
   have n1_ := aM (below_drew1 HB.out)
   clear BK1867
   clear HB
   have BK1867 := n0_
   have HB := n1_
   clear n0_ n1_
   refine start_ (n := 5) (S := fun w' => w'.cell? ⟨gb1867, 0, none⟩ = some (.int .i64 a0_0) ∧ w'.cell? ⟨gb1867, 1, none⟩ = some (.int .i64 a0_1) ∧ w'.cell? ⟨gb1867, 2, none⟩ = some (.int .i64 a0_2) ∧ w'.cell? ⟨gb1867, 3, none⟩ = some (.int .i64 a0_3) ∧ w'.cell? ⟨gb1867, 4, none⟩ = some (.int .i64 a0_4) ∧ w'.cell? ⟨gb1867, 5, none⟩ = some (.int .i64 a0_5)) (ds := []) #[false, false, false, false, false] (by kernel_rfl) rfl rfl ⟨(blk_cell BK1867.out 0).trans rfl, (blk_cell BK1867.out 1).trans rfl, (blk_cell BK1867.out 2).trans rfl, (blk_cell BK1867.out 3).trans rfl, (blk_cell BK1867.out 4).trans rfl, (blk_cell BK1867.out 5).trans rfl⟩ (fun hHeld => ?_)
   generalize w9.drew = w10 at BK1867 HB hHeld ⊢
   refine take_ (i := 0) (N := some 4) (v := ?_) (a' := ?_) #[true, false, false, false, false] rfl rfl (by kernel_rfl) (fun _ _ _ h => h) (Or.inl ⟨by rfl, ?_⟩) hHeld ?_ ?_
   rotate_left
   ·rintro w' ⟨s0, s1, s2, s3, s4, s5⟩
    go_simp
    with_reducible rfl
   rotate_left
   ·simp only [Act.put, List.setIfInBounds_toArray, List.set_cons_zero, List.set_cons_succ, i64_w, i32_w]
    rfl
   refine one_ (i := 1) (N := some 5) #[true, true, false, false, false] rfl rfl (by kernel_rfl) (by decide) (fun K hK => ?_)
   refine goes_ Try.func161 (by kernel_rfl) rfl #[] (by rfl) rfl rfl (by first|rfl|(simp only [List.map_toArray, List.map_cons, List.map_nil]; try rfl)) ?_
   with_reducible refine (impl_unit.calls  t1868 t1869 t1870 t1871 _ A2.out).mono ?_
   rintro e w11 ⟨rfl, hb⟩
   refine ⟨_, rfl, ?_⟩
   have n0_ := aM (blk_below (g := gb1867) (o := .cells #[.int .i64 a0_0, .int .i64 a0_1, .int .i64 a0_2, .int .i64 a0_3, .int .i64 a0_4, .int .i64 a0_5] 84 (0, 0)) (by (with_reducible repeat (first|apply kN|apply kD|apply kA)); exact BK1867.out) hb)
   have n1_ := aM (below_step (by repeat (first | (with_reducible first | exact HB.out | apply bA|apply bN|apply b1 | refine below_set ?_ GE1867.out) | exact HB.out)) hb)
   clear BK1867
   clear HB
   have BK1867 := n0_
   have HB := n1_
   clear n0_ n1_
   (try clear hb)
   (try clear hb2)
   (try clear hk)
   (try clear hi)
   refine hK.out _ _ ⟨(blk_cell BK1867.out 0).trans rfl, (blk_cell BK1867.out 1).trans rfl, (blk_cell BK1867.out 2).trans rfl, (blk_cell BK1867.out 3).trans rfl, (blk_cell BK1867.out 4).trans rfl, (blk_cell BK1867.out 5).trans rfl⟩ (fun hHeld => ?_)
   clear hK K
   refine norm_ (a' := ?_) ?_ ?_
   rotate_left
   ·show Act.put _ (some 5) _ = _
    simp only [Act.put, List.setIfInBounds_toArray, List.set_cons_zero, List.set_cons_succ, i64_w, i32_w]
    rfl
   refine pure_ (i := 2) (N := some 6) (v := ?_) (a' := ?_) #[true, true, true, false, false] rfl rfl (by kernel_rfl) (fun _ _ _ h => h) (Or.inl ⟨by rfl, ?_⟩) ?_ ?_
   rotate_left
   ·intro w'
    go_simp
    with_reducible rfl
   rotate_left
   ·simp only [Act.put, List.setIfInBounds_toArray, List.set_cons_zero, List.set_cons_succ, i64_w, i32_w]
    rfl
   refine pure_ (i := 3) (N := some 7) (v := ?_) (a' := ?_) #[true, true, true, true, false] rfl rfl (by kernel_rfl) (fun _ _ _ h => h) (Or.inl ⟨by rfl, ?_⟩) ?_ ?_
   rotate_left
   ·intro w'
    go_simp
    with_reducible rfl
   rotate_left
   ·simp only [Act.put, List.setIfInBounds_toArray, List.set_cons_zero, List.set_cons_succ, i64_w, i32_w]
    rfl
   refine pure_ (i := 4) (N := some 3) (v := ?_) (a' := ?_) #[true, true, true, true, true] rfl rfl (by kernel_rfl) (fun _ _ _ h => h) (Or.inl ⟨by rfl, ?_⟩) ?_ ?_
   rotate_left
   ·intro w'
    go_simp
    with_reducible rfl
   rotate_left
   ·simp only [Act.put, List.setIfInBounds_toArray, List.set_cons_zero, List.set_cons_succ, i64_w, i32_w]
    rfl
   refine done_ (by kernel_rfl) ?_
   try go_wp2
   have n0_ := aM (blk_drew BK1867.out)
   have n1_ := aM (below_drew1 HB.out)
   clear BK1867
   clear HB
   have BK1867 := n0_
   have HB := n1_
   clear n0_ n1_
   refine start_ (n := 5) (S := fun w' => w'.cell? ⟨gb1867, 0, none⟩ = some (.int .i64 a0_0) ∧ w'.cell? ⟨gb1867, 1, none⟩ = some (.int .i64 a0_1) ∧ w'.cell? ⟨gb1867, 2, none⟩ = some (.int .i64 a0_2) ∧ w'.cell? ⟨gb1867, 3, none⟩ = some (.int .i64 a0_3) ∧ w'.cell? ⟨gb1867, 4, none⟩ = some (.int .i64 a0_4) ∧ w'.cell? ⟨gb1867, 5, none⟩ = some (.int .i64 a0_5)) (ds := []) #[false, false, false, false, false] (by kernel_rfl) rfl rfl ⟨(blk_cell BK1867.out 0).trans rfl, (blk_cell BK1867.out 1).trans rfl, (blk_cell BK1867.out 2).trans rfl, (blk_cell BK1867.out 3).trans rfl, (blk_cell BK1867.out 4).trans rfl, (blk_cell BK1867.out 5).trans rfl⟩ (fun hHeld => ?_)
   generalize w11.drew = w12 at BK1867 HB hHeld ⊢
   refine pure_ (i := 0) (N := some 9) (v := ?_) (a' := ?_) #[true, false, false, false, false] rfl rfl (by kernel_rfl) (fun _ _ _ h => h) (Or.inl ⟨by rfl, ?_⟩) ?_ ?_
   rotate_left
   ·intro w'
    go_simp
    with_reducible rfl
   rotate_left
   ·simp only [Act.put, List.setIfInBounds_toArray, List.set_cons_zero, List.set_cons_succ, i64_w, i32_w]
    rfl
   refine take_ (i := 1) (N := some 10) (v := ?_) (a' := ?_) #[true, true, false, false, false] rfl rfl (by kernel_rfl) (fun _ _ _ h => h) (Or.inl ⟨by rfl, ?_⟩) hHeld ?_ ?_
   rotate_left
   ·rintro w' ⟨s0, s1, s2, s3, s4, s5⟩
    go_simp
    with_reducible rfl
   rotate_left
   ·simp only [Act.put, List.setIfInBounds_toArray, List.set_cons_zero, List.set_cons_succ, i64_w, i32_w]
    rfl
   refine one_ (i := 2) (N := some 11) #[true, true, true, false, false] rfl rfl (by kernel_rfl) (by decide) (fun K hK => ?_)
   refine goes_ Try.func161 (by kernel_rfl) rfl #[] (by rfl) rfl rfl (by first|rfl|(simp only [List.map_toArray, List.map_cons, List.map_nil]; try rfl)) ?_
   with_reducible refine (impl_unit.calls  t1872 t1873 t1874 t1875 _ A7.out).mono ?_
   rintro e w13 ⟨rfl, hb⟩
   refine ⟨_, rfl, ?_⟩
   have n0_ := aM (blk_below (g := gb1867) (o := .cells #[.int .i64 a0_0, .int .i64 a0_1, .int .i64 a0_2, .int .i64 a0_3, .int .i64 a0_4, .int .i64 a0_5] 84 (0, 0)) (by (with_reducible repeat (first|apply kN|apply kD|apply kA)); exact BK1867.out) hb)
   have n1_ := aM (below_step (by repeat (first | (with_reducible first | exact HB.out | apply bA|apply bN|apply b1 | refine below_set ?_ GE1867.out) | exact HB.out)) hb)
   clear BK1867
   clear HB
   have BK1867 := n0_
   have HB := n1_
   clear n0_ n1_
   (try clear hb)
   (try clear hb2)
   (try clear hk)
   (try clear hi)
   refine hK.out _ _ ⟨(blk_cell BK1867.out 0).trans rfl, (blk_cell BK1867.out 1).trans rfl, (blk_cell BK1867.out 2).trans rfl, (blk_cell BK1867.out 3).trans rfl, (blk_cell BK1867.out 4).trans rfl, (blk_cell BK1867.out 5).trans rfl⟩ (fun hHeld => ?_)
   clear hK K
   refine norm_ (a' := ?_) ?_ ?_
   rotate_left
   ·show Act.put _ (some 11) _ = _
    simp only [Act.put, List.setIfInBounds_toArray, List.set_cons_zero, List.set_cons_succ, i64_w, i32_w]
    rfl
   refine pure_ (i := 3) (N := some 12) (v := ?_) (a' := ?_) #[true, true, true, true, false] rfl rfl (by kernel_rfl) (fun _ _ _ h => h) (Or.inl ⟨by rfl, ?_⟩) ?_ ?_
   rotate_left
   ·intro w'
    go_simp
    with_reducible rfl
   rotate_left
   ·simp only [Act.put, List.setIfInBounds_toArray, List.set_cons_zero, List.set_cons_succ, i64_w, i32_w]
    rfl
   refine pure_ (i := 4) (N := some 8) (v := ?_) (a' := ?_) #[true, true, true, true, true] rfl rfl (by kernel_rfl) (fun _ _ _ h => h) (Or.inl ⟨by rfl, ?_⟩) ?_ ?_
   rotate_left
   ·intro w'
    go_simp
    with_reducible rfl
   rotate_left
   ·simp only [Act.put, List.setIfInBounds_toArray, List.set_cons_zero, List.set_cons_succ, i64_w, i32_w]
    rfl
   refine done_ (by kernel_rfl) ?_
   try go_wp2
   go_ret
   exact ⟨by first|rfl|(simp [*, errW_none, errW_some] <;> rfl), by repeat (first | (with_reducible first | exact HB.out | apply bA|apply bN|apply b1 | refine below_set ?_ GE1867.out) | exact HB.out)⟩
  ·rw [if_neg c8] at H
   have c8b0 : (a0_0 == t1872 && (a0_1 == t1873 && (a0_2 == t1874 && (a0_3 == t1875)))) = false := by simpa using c8
   (try (have c8b1 : decide (a0_0 = t1872 && (a0_1 == t1873 && (a0_2 == t1874 && (a0_3 == t1875)))) = false := by simpa using c8))
   (try (have c8b2 : (a0_0 == t1872 && (a0_1 == t1873 && (a0_2 == t1874 && (a0_3 == t1875)))) = false := by simpa using c8))
   (try (have c8b3 : ¬ (a0_0 = t1872 && (a0_1 == t1873 && (a0_2 == t1874 && (a0_3 == t1875)))) := by simpa using c8))
   clear c8
   replace H := Option.bind_eq_some_iff.mp H
   obtain ⟨t1876, A140, H⟩ := H
   try dsimp only at H
   have A14 := aM A140
   clear A140
   by_cases c15 : t1876 = 1
   ·rw [if_pos c15] at H
    have c15b0 : (t1876 == 1) = true := beq_iff_eq.mpr c15
    have c15b1 : (t1876 != 1) = false := bne_eq_false_iff_eq.mpr c15
    clear c15
    obtain rfl := Option.some.inj H
    go_enter Try.func191, Try.ntmps191
    try go_wp2_with (first | ((with_reducible refine gate_dst (N := 1) rfl ?_); refine box_event ?hg (N := 1) ?hd (cs := #[.int .i64 a0_0, .int .i64 a0_1, .int .i64 a0_2, .int .i64 a0_3, .int .i64 a0_4, .int .i64 a0_5]) (t := 84) ?hr ?_; (case hd => rfl); (case hg => rfl); (case hr => first | (go_simp; done) | (go_simp; rfl)); intro gb1867 hg w16 hbox hb; have n0_ := aM (below_step (by repeat (first | (with_reducible first | exact HB.out | apply bA|apply bN|apply b1) | exact HB.out)) hb); have n1_ := aM (hbox); have n2_ := aM ((by rw [hg]; exact (below_size (by repeat (first | (with_reducible first | exact HB.out | apply bA|apply bN|apply b1) | exact HB.out))) : w.heap.size ≤ gb1867)); have n3_ := aM ((by rw [hg]; exact (below_size (by repeat (first | (with_reducible first | exact HB.out | apply bA|apply bN|apply b1) | exact HB.out))) : w.heap.size ≤ gb1867)); clear HB; have HB := n0_; have BK1867 := n1_; have GW1867 := n2_; have GE1867 := n3_; clear n0_ n1_ n2_ n3_; clear hb hbox hg))
    have n0_ := aM (blk_drew BK1867.out)
    have n1_ := aM (below_drew1 HB.out)
    clear BK1867
    clear HB
    have BK1867 := n0_
    have HB := n1_
    clear n0_ n1_
    refine start_ (n := 5) (S := fun w' => w'.cell? ⟨gb1867, 0, none⟩ = some (.int .i64 a0_0) ∧ w'.cell? ⟨gb1867, 1, none⟩ = some (.int .i64 a0_1) ∧ w'.cell? ⟨gb1867, 2, none⟩ = some (.int .i64 a0_2) ∧ w'.cell? ⟨gb1867, 3, none⟩ = some (.int .i64 a0_3) ∧ w'.cell? ⟨gb1867, 4, none⟩ = some (.int .i64 a0_4) ∧ w'.cell? ⟨gb1867, 5, none⟩ = some (.int .i64 a0_5)) (ds := []) #[false, false, false, false, false] (by kernel_rfl) rfl rfl ⟨(blk_cell BK1867.out 0).trans rfl, (blk_cell BK1867.out 1).trans rfl, (blk_cell BK1867.out 2).trans rfl, (blk_cell BK1867.out 3).trans rfl, (blk_cell BK1867.out 4).trans rfl, (blk_cell BK1867.out 5).trans rfl⟩ (fun hHeld => ?_)
    generalize w16.drew = w17 at BK1867 HB hHeld ⊢
    refine take_ (i := 0) (N := some 4) (v := ?_) (a' := ?_) #[true, false, false, false, false] rfl rfl (by kernel_rfl) (fun _ _ _ h => h) (Or.inl ⟨by rfl, ?_⟩) hHeld ?_ ?_
    rotate_left
    ·rintro w' ⟨s0, s1, s2, s3, s4, s5⟩
     go_simp
     with_reducible rfl
    rotate_left
    ·simp only [Act.put, List.setIfInBounds_toArray, List.set_cons_zero, List.set_cons_succ, i64_w, i32_w]
     rfl
    refine one_ (i := 1) (N := some 5) #[true, true, false, false, false] rfl rfl (by kernel_rfl) (by decide) (fun K hK => ?_)
    refine goes_ Try.func161 (by kernel_rfl) rfl #[] (by rfl) rfl rfl (by first|rfl|(simp only [List.map_toArray, List.map_cons, List.map_nil]; try rfl)) ?_
    with_reducible refine (impl_unit.calls  t1868 t1869 t1870 t1871 _ A2.out).mono ?_
    rintro e w18 ⟨rfl, hb⟩
    refine ⟨_, rfl, ?_⟩
    have n0_ := aM (blk_below (g := gb1867) (o := .cells #[.int .i64 a0_0, .int .i64 a0_1, .int .i64 a0_2, .int .i64 a0_3, .int .i64 a0_4, .int .i64 a0_5] 84 (0, 0)) (by (with_reducible repeat (first|apply kN|apply kD|apply kA)); exact BK1867.out) hb)
    have n1_ := aM (below_step (by repeat (first | (with_reducible first | exact HB.out | apply bA|apply bN|apply b1 | refine below_set ?_ GE1867.out) | exact HB.out)) hb)
    clear BK1867
    clear HB
    have BK1867 := n0_
    have HB := n1_
    clear n0_ n1_
    (try clear hb)
    (try clear hb2)
    (try clear hk)
    (try clear hi)
    refine hK.out _ _ ⟨(blk_cell BK1867.out 0).trans rfl, (blk_cell BK1867.out 1).trans rfl, (blk_cell BK1867.out 2).trans rfl, (blk_cell BK1867.out 3).trans rfl, (blk_cell BK1867.out 4).trans rfl, (blk_cell BK1867.out 5).trans rfl⟩ (fun hHeld => ?_)
    clear hK K
    refine norm_ (a' := ?_) ?_ ?_
    rotate_left
    ·show Act.put _ (some 5) _ = _
     simp only [Act.put, List.setIfInBounds_toArray, List.set_cons_zero, List.set_cons_succ, i64_w, i32_w]
     rfl
    refine pure_ (i := 2) (N := some 6) (v := ?_) (a' := ?_) #[true, true, true, false, false] rfl rfl (by kernel_rfl) (fun _ _ _ h => h) (Or.inl ⟨by rfl, ?_⟩) ?_ ?_
    rotate_left
    ·intro w'
     go_simp
     with_reducible rfl
    rotate_left
    ·simp only [Act.put, List.setIfInBounds_toArray, List.set_cons_zero, List.set_cons_succ, i64_w, i32_w]
     rfl
    refine pure_ (i := 3) (N := some 7) (v := ?_) (a' := ?_) #[true, true, true, true, false] rfl rfl (by kernel_rfl) (fun _ _ _ h => h) (Or.inl ⟨by rfl, ?_⟩) ?_ ?_
    rotate_left
    ·intro w'
     go_simp
     with_reducible rfl
    rotate_left
    ·simp only [Act.put, List.setIfInBounds_toArray, List.set_cons_zero, List.set_cons_succ, i64_w, i32_w]
     rfl
    refine pure_ (i := 4) (N := some 3) (v := ?_) (a' := ?_) #[true, true, true, true, true] rfl rfl (by kernel_rfl) (fun _ _ _ h => h) (Or.inl ⟨by rfl, ?_⟩) ?_ ?_
    rotate_left
    ·intro w'
     go_simp
     with_reducible rfl
    rotate_left
    ·simp only [Act.put, List.setIfInBounds_toArray, List.set_cons_zero, List.set_cons_succ, i64_w, i32_w]
     rfl
    refine done_ (by kernel_rfl) ?_
    try go_wp2
    have n0_ := aM (blk_drew BK1867.out)
    have n1_ := aM (below_drew1 HB.out)
    clear BK1867
    clear HB
    have BK1867 := n0_
    have HB := n1_
    clear n0_ n1_
    refine start_ (n := 5) (S := fun w' => w'.cell? ⟨gb1867, 0, none⟩ = some (.int .i64 a0_0) ∧ w'.cell? ⟨gb1867, 1, none⟩ = some (.int .i64 a0_1) ∧ w'.cell? ⟨gb1867, 2, none⟩ = some (.int .i64 a0_2) ∧ w'.cell? ⟨gb1867, 3, none⟩ = some (.int .i64 a0_3) ∧ w'.cell? ⟨gb1867, 4, none⟩ = some (.int .i64 a0_4) ∧ w'.cell? ⟨gb1867, 5, none⟩ = some (.int .i64 a0_5)) (ds := []) #[false, false, false, false, false] (by kernel_rfl) rfl rfl ⟨(blk_cell BK1867.out 0).trans rfl, (blk_cell BK1867.out 1).trans rfl, (blk_cell BK1867.out 2).trans rfl, (blk_cell BK1867.out 3).trans rfl, (blk_cell BK1867.out 4).trans rfl, (blk_cell BK1867.out 5).trans rfl⟩ (fun hHeld => ?_)
    generalize w18.drew = w19 at BK1867 HB hHeld ⊢
    refine pure_ (i := 0) (N := some 9) (v := ?_) (a' := ?_) #[true, false, false, false, false] rfl rfl (by kernel_rfl) (fun _ _ _ h => h) (Or.inl ⟨by rfl, ?_⟩) ?_ ?_
    rotate_left
    ·intro w'
     go_simp
     with_reducible rfl
    rotate_left
    ·simp only [Act.put, List.setIfInBounds_toArray, List.set_cons_zero, List.set_cons_succ, i64_w, i32_w]
     rfl
    refine take_ (i := 1) (N := some 10) (v := ?_) (a' := ?_) #[true, true, false, false, false] rfl rfl (by kernel_rfl) (fun _ _ _ h => h) (Or.inl ⟨by rfl, ?_⟩) hHeld ?_ ?_
    rotate_left
    ·rintro w' ⟨s0, s1, s2, s3, s4, s5⟩
     go_simp
     with_reducible rfl
    rotate_left
    ·simp only [Act.put, List.setIfInBounds_toArray, List.set_cons_zero, List.set_cons_succ, i64_w, i32_w]
     rfl
    refine one_ (i := 2) (N := some 11) #[true, true, true, false, false] rfl rfl (by kernel_rfl) (by decide) (fun K hK => ?_)
    refine goes_ Try.func161 (by kernel_rfl) rfl #[] (by rfl) rfl rfl (by first|rfl|(simp only [List.map_toArray, List.map_cons, List.map_nil]; try rfl)) ?_
    with_reducible refine (impl_unit.calls  t1872 t1873 t1874 t1875 _ A7.out).mono ?_
    rintro e w20 ⟨rfl, hb⟩
    refine ⟨_, rfl, ?_⟩
    have n0_ := aM (blk_below (g := gb1867) (o := .cells #[.int .i64 a0_0, .int .i64 a0_1, .int .i64 a0_2, .int .i64 a0_3, .int .i64 a0_4, .int .i64 a0_5] 84 (0, 0)) (by (with_reducible repeat (first|apply kN|apply kD|apply kA)); exact BK1867.out) hb)
    have n1_ := aM (below_step (by repeat (first | (with_reducible first | exact HB.out | apply bA|apply bN|apply b1 | refine below_set ?_ GE1867.out) | exact HB.out)) hb)
    clear BK1867
    clear HB
    have BK1867 := n0_
    have HB := n1_
    clear n0_ n1_
    (try clear hb)
    (try clear hb2)
    (try clear hk)
    (try clear hi)
    refine hK.out _ _ ⟨(blk_cell BK1867.out 0).trans rfl, (blk_cell BK1867.out 1).trans rfl, (blk_cell BK1867.out 2).trans rfl, (blk_cell BK1867.out 3).trans rfl, (blk_cell BK1867.out 4).trans rfl, (blk_cell BK1867.out 5).trans rfl⟩ (fun hHeld => ?_)
    clear hK K
    refine norm_ (a' := ?_) ?_ ?_
    rotate_left
    ·show Act.put _ (some 11) _ = _
     simp only [Act.put, List.setIfInBounds_toArray, List.set_cons_zero, List.set_cons_succ, i64_w, i32_w]
     rfl
    refine pure_ (i := 3) (N := some 12) (v := ?_) (a' := ?_) #[true, true, true, true, false] rfl rfl (by kernel_rfl) (fun _ _ _ h => h) (Or.inl ⟨by rfl, ?_⟩) ?_ ?_
    rotate_left
    ·intro w'
     go_simp
     with_reducible rfl
    rotate_left
    ·simp only [Act.put, List.setIfInBounds_toArray, List.set_cons_zero, List.set_cons_succ, i64_w, i32_w]
     rfl
    refine pure_ (i := 4) (N := some 8) (v := ?_) (a' := ?_) #[true, true, true, true, true] rfl rfl (by kernel_rfl) (fun _ _ _ h => h) (Or.inl ⟨by rfl, ?_⟩) ?_ ?_
    rotate_left
    ·intro w'
     go_simp
     with_reducible rfl
    rotate_left
    ·simp only [Act.put, List.setIfInBounds_toArray, List.set_cons_zero, List.set_cons_succ, i64_w, i32_w]
     rfl
    refine done_ (by kernel_rfl) ?_
    have hcz21_0 : w20.cell? ⟨gb1867, 0, none⟩ = some (.int .i64 a0_0) := (blk_cell BK1867.out 0).trans rfl
    have hcz21_1 : w20.cell? ⟨gb1867, 1, none⟩ = some (.int .i64 a0_1) := (blk_cell BK1867.out 1).trans rfl
    have hcz21_2 : w20.cell? ⟨gb1867, 2, none⟩ = some (.int .i64 a0_2) := (blk_cell BK1867.out 2).trans rfl
    have hcz21_3 : w20.cell? ⟨gb1867, 3, none⟩ = some (.int .i64 a0_3) := (blk_cell BK1867.out 3).trans rfl
    have hcz21_4 : w20.cell? ⟨gb1867, 4, none⟩ = some (.int .i64 a0_4) := (blk_cell BK1867.out 4).trans rfl
    have hcz21_5 : w20.cell? ⟨gb1867, 5, none⟩ = some (.int .i64 a0_5) := (blk_cell BK1867.out 5).trans rfl
    have hfz21_0 := blk_frozen BK1867.out 0
    have hfz21_1 := blk_frozen BK1867.out 1
    have hfz21_2 := blk_frozen BK1867.out 2
    have hfz21_3 := blk_frozen BK1867.out 3
    have hfz21_4 := blk_frozen BK1867.out 4
    have hfz21_5 := blk_frozen BK1867.out 5
    try go_wp2_with (first | ((with_reducible refine gate_callee (f := 156) rfl ?_); refine goesL_ (some 16) rfl rfl Try.func156 (by kernel_rfl) rfl #[.agg #[.int .i64 a0_0, .int .i64 a0_1, .int .i64 a0_2, .int .i64 a0_3]] rfl (by first|rfl|(simp only [List.map_toArray, List.map_cons, List.map_nil]; try rfl)) ?_; (with_reducible refine (impl_Mat_det.calls a0_0 a0_1 a0_2 a0_3 t1876 _ A14.out).mono ?_); rintro e w22 ⟨rfl, hb⟩; refine ⟨_, rfl, ?_⟩; have n0_ := aM (blk_below (g := gb1867) (o := .cells #[.int .i64 a0_0, .int .i64 a0_1, .int .i64 a0_2, .int .i64 a0_3, .int .i64 a0_4, .int .i64 a0_5] 84 (0, 0)) (by (with_reducible repeat (first|apply kN|apply kD|apply kA)); exact BK1867.out) hb); have n1_ := aM (below_step (by repeat (first | (with_reducible first | exact HB.out | apply bA|apply bN|apply b1 | refine below_set ?_ GE1867.out) | exact HB.out)) hb); clear BK1867; clear HB; have BK1867 := n0_; have HB := n1_; clear n0_ n1_; (try clear hb)))
    go_ret
    exact ⟨by first|rfl|(simp [*, errW_none, errW_some] <;> rfl), by repeat (first | (with_reducible first | exact HB.out | apply bA|apply bN|apply b1 | refine below_set ?_ GE1867.out) | exact HB.out)⟩
   ·rw [if_neg c15] at H
    have c15b0 : (t1876 == 1) = false := beq_eq_false_iff_ne.mpr c15
    have c15b1 : (t1876 != 1) = true := bne_iff_ne.mpr c15
    replace H := Option.bind_eq_some_iff.mp H
    obtain ⟨⟨t1877, t1878, t1879, t1880, t1881, t1882⟩, A230, H⟩ := H
    try dsimp only at H
    have A23 := aM A230
    clear A230
    replace H := Option.bind_eq_some_iff.mp H
    obtain ⟨⟨t1883, t1884, t1885, t1886⟩, A240, H⟩ := H
    try dsimp only at H
    have A24 := aM A240
    clear A240
    by_cases c25 : ((t1877 == t1883 && (t1878 == t1884 && (t1879 == t1885 && (t1880 == t1886)))) && ((t1881 == 0 && (t1882 == 0)))) = true
    ·rw [if_pos c25] at H
     have c25b0 : ((t1877 == t1883 && (t1878 == t1884 && (t1879 == t1885 && (t1880 == t1886)))) && ((t1881 == 0 && (t1882 == 0)))) = true := c25
     clear c25
     obtain rfl := Option.some.inj H
     go_enter Try.func191, Try.ntmps191
     try go_wp2_with (first | ((with_reducible refine gate_dst (N := 1) rfl ?_); refine box_event ?hg (N := 1) ?hd (cs := #[.int .i64 a0_0, .int .i64 a0_1, .int .i64 a0_2, .int .i64 a0_3, .int .i64 a0_4, .int .i64 a0_5]) (t := 84) ?hr ?_; (case hd => rfl); (case hg => rfl); (case hr => first | (go_simp; done) | (go_simp; rfl)); intro gb1867 hg w26 hbox hb; have n0_ := aM (below_step (by repeat (first | (with_reducible first | exact HB.out | apply bA|apply bN|apply b1) | exact HB.out)) hb); have n1_ := aM (hbox); have n2_ := aM ((by rw [hg]; exact (below_size (by repeat (first | (with_reducible first | exact HB.out | apply bA|apply bN|apply b1) | exact HB.out))) : w.heap.size ≤ gb1867)); have n3_ := aM ((by rw [hg]; exact (below_size (by repeat (first | (with_reducible first | exact HB.out | apply bA|apply bN|apply b1) | exact HB.out))) : w.heap.size ≤ gb1867)); clear HB; have HB := n0_; have BK1867 := n1_; have GW1867 := n2_; have GE1867 := n3_; clear n0_ n1_ n2_ n3_; clear hb hbox hg))
     have n0_ := aM (blk_drew BK1867.out)
     have n1_ := aM (below_drew1 HB.out)
     clear BK1867
     clear HB
     have BK1867 := n0_
     have HB := n1_
     clear n0_ n1_
     refine start_ (n := 5) (S := fun w' => w'.cell? ⟨gb1867, 0, none⟩ = some (.int .i64 a0_0) ∧ w'.cell? ⟨gb1867, 1, none⟩ = some (.int .i64 a0_1) ∧ w'.cell? ⟨gb1867, 2, none⟩ = some (.int .i64 a0_2) ∧ w'.cell? ⟨gb1867, 3, none⟩ = some (.int .i64 a0_3) ∧ w'.cell? ⟨gb1867, 4, none⟩ = some (.int .i64 a0_4) ∧ w'.cell? ⟨gb1867, 5, none⟩ = some (.int .i64 a0_5)) (ds := []) #[false, false, false, false, false] (by kernel_rfl) rfl rfl ⟨(blk_cell BK1867.out 0).trans rfl, (blk_cell BK1867.out 1).trans rfl, (blk_cell BK1867.out 2).trans rfl, (blk_cell BK1867.out 3).trans rfl, (blk_cell BK1867.out 4).trans rfl, (blk_cell BK1867.out 5).trans rfl⟩ (fun hHeld => ?_)
     generalize w26.drew = w27 at BK1867 HB hHeld ⊢
     refine take_ (i := 0) (N := some 4) (v := ?_) (a' := ?_) #[true, false, false, false, false] rfl rfl (by kernel_rfl) (fun _ _ _ h => h) (Or.inl ⟨by rfl, ?_⟩) hHeld ?_ ?_
     rotate_left
     ·rintro w' ⟨s0, s1, s2, s3, s4, s5⟩
      go_simp
      with_reducible rfl
     rotate_left
     ·simp only [Act.put, List.setIfInBounds_toArray, List.set_cons_zero, List.set_cons_succ, i64_w, i32_w]
      rfl
     refine one_ (i := 1) (N := some 5) #[true, true, false, false, false] rfl rfl (by kernel_rfl) (by decide) (fun K hK => ?_)
     refine goes_ Try.func161 (by kernel_rfl) rfl #[] (by rfl) rfl rfl (by first|rfl|(simp only [List.map_toArray, List.map_cons, List.map_nil]; try rfl)) ?_
     with_reducible refine (impl_unit.calls  t1868 t1869 t1870 t1871 _ A2.out).mono ?_
     rintro e w28 ⟨rfl, hb⟩
     refine ⟨_, rfl, ?_⟩
     have n0_ := aM (blk_below (g := gb1867) (o := .cells #[.int .i64 a0_0, .int .i64 a0_1, .int .i64 a0_2, .int .i64 a0_3, .int .i64 a0_4, .int .i64 a0_5] 84 (0, 0)) (by (with_reducible repeat (first|apply kN|apply kD|apply kA)); exact BK1867.out) hb)
     have n1_ := aM (below_step (by repeat (first | (with_reducible first | exact HB.out | apply bA|apply bN|apply b1 | refine below_set ?_ GE1867.out) | exact HB.out)) hb)
     clear BK1867
     clear HB
     have BK1867 := n0_
     have HB := n1_
     clear n0_ n1_
     (try clear hb)
     (try clear hb2)
     (try clear hk)
     (try clear hi)
     refine hK.out _ _ ⟨(blk_cell BK1867.out 0).trans rfl, (blk_cell BK1867.out 1).trans rfl, (blk_cell BK1867.out 2).trans rfl, (blk_cell BK1867.out 3).trans rfl, (blk_cell BK1867.out 4).trans rfl, (blk_cell BK1867.out 5).trans rfl⟩ (fun hHeld => ?_)
     clear hK K
     refine norm_ (a' := ?_) ?_ ?_
     rotate_left
     ·show Act.put _ (some 5) _ = _
      simp only [Act.put, List.setIfInBounds_toArray, List.set_cons_zero, List.set_cons_succ, i64_w, i32_w]
      rfl
     refine pure_ (i := 2) (N := some 6) (v := ?_) (a' := ?_) #[true, true, true, false, false] rfl rfl (by kernel_rfl) (fun _ _ _ h => h) (Or.inl ⟨by rfl, ?_⟩) ?_ ?_
     rotate_left
     ·intro w'
      go_simp
      with_reducible rfl
     rotate_left
     ·simp only [Act.put, List.setIfInBounds_toArray, List.set_cons_zero, List.set_cons_succ, i64_w, i32_w]
      rfl
     refine pure_ (i := 3) (N := some 7) (v := ?_) (a' := ?_) #[true, true, true, true, false] rfl rfl (by kernel_rfl) (fun _ _ _ h => h) (Or.inl ⟨by rfl, ?_⟩) ?_ ?_
     rotate_left
     ·intro w'
      go_simp
      with_reducible rfl
     rotate_left
     ·simp only [Act.put, List.setIfInBounds_toArray, List.set_cons_zero, List.set_cons_succ, i64_w, i32_w]
      rfl
     refine pure_ (i := 4) (N := some 3) (v := ?_) (a' := ?_) #[true, true, true, true, true] rfl rfl (by kernel_rfl) (fun _ _ _ h => h) (Or.inl ⟨by rfl, ?_⟩) ?_ ?_
     rotate_left
     ·intro w'
      go_simp
      with_reducible rfl
     rotate_left
     ·simp only [Act.put, List.setIfInBounds_toArray, List.set_cons_zero, List.set_cons_succ, i64_w, i32_w]
      rfl
     refine done_ (by kernel_rfl) ?_
     try go_wp2
     have n0_ := aM (blk_drew BK1867.out)
     have n1_ := aM (below_drew1 HB.out)
     clear BK1867
     clear HB
     have BK1867 := n0_
     have HB := n1_
     clear n0_ n1_
     refine start_ (n := 5) (S := fun w' => w'.cell? ⟨gb1867, 0, none⟩ = some (.int .i64 a0_0) ∧ w'.cell? ⟨gb1867, 1, none⟩ = some (.int .i64 a0_1) ∧ w'.cell? ⟨gb1867, 2, none⟩ = some (.int .i64 a0_2) ∧ w'.cell? ⟨gb1867, 3, none⟩ = some (.int .i64 a0_3) ∧ w'.cell? ⟨gb1867, 4, none⟩ = some (.int .i64 a0_4) ∧ w'.cell? ⟨gb1867, 5, none⟩ = some (.int .i64 a0_5)) (ds := []) #[false, false, false, false, false] (by kernel_rfl) rfl rfl ⟨(blk_cell BK1867.out 0).trans rfl, (blk_cell BK1867.out 1).trans rfl, (blk_cell BK1867.out 2).trans rfl, (blk_cell BK1867.out 3).trans rfl, (blk_cell BK1867.out 4).trans rfl, (blk_cell BK1867.out 5).trans rfl⟩ (fun hHeld => ?_)
     generalize w28.drew = w29 at BK1867 HB hHeld ⊢
     refine pure_ (i := 0) (N := some 9) (v := ?_) (a' := ?_) #[true, false, false, false, false] rfl rfl (by kernel_rfl) (fun _ _ _ h => h) (Or.inl ⟨by rfl, ?_⟩) ?_ ?_
     rotate_left
     ·intro w'
      go_simp
      with_reducible rfl
     rotate_left
     ·simp only [Act.put, List.setIfInBounds_toArray, List.set_cons_zero, List.set_cons_succ, i64_w, i32_w]
      rfl
     refine take_ (i := 1) (N := some 10) (v := ?_) (a' := ?_) #[true, true, false, false, false] rfl rfl (by kernel_rfl) (fun _ _ _ h => h) (Or.inl ⟨by rfl, ?_⟩) hHeld ?_ ?_
     rotate_left
     ·rintro w' ⟨s0, s1, s2, s3, s4, s5⟩
      go_simp
      with_reducible rfl
     rotate_left
     ·simp only [Act.put, List.setIfInBounds_toArray, List.set_cons_zero, List.set_cons_succ, i64_w, i32_w]
      rfl
     refine one_ (i := 2) (N := some 11) #[true, true, true, false, false] rfl rfl (by kernel_rfl) (by decide) (fun K hK => ?_)
     refine goes_ Try.func161 (by kernel_rfl) rfl #[] (by rfl) rfl rfl (by first|rfl|(simp only [List.map_toArray, List.map_cons, List.map_nil]; try rfl)) ?_
     with_reducible refine (impl_unit.calls  t1872 t1873 t1874 t1875 _ A7.out).mono ?_
     rintro e w30 ⟨rfl, hb⟩
     refine ⟨_, rfl, ?_⟩
     have n0_ := aM (blk_below (g := gb1867) (o := .cells #[.int .i64 a0_0, .int .i64 a0_1, .int .i64 a0_2, .int .i64 a0_3, .int .i64 a0_4, .int .i64 a0_5] 84 (0, 0)) (by (with_reducible repeat (first|apply kN|apply kD|apply kA)); exact BK1867.out) hb)
     have n1_ := aM (below_step (by repeat (first | (with_reducible first | exact HB.out | apply bA|apply bN|apply b1 | refine below_set ?_ GE1867.out) | exact HB.out)) hb)
     clear BK1867
     clear HB
     have BK1867 := n0_
     have HB := n1_
     clear n0_ n1_
     (try clear hb)
     (try clear hb2)
     (try clear hk)
     (try clear hi)
     refine hK.out _ _ ⟨(blk_cell BK1867.out 0).trans rfl, (blk_cell BK1867.out 1).trans rfl, (blk_cell BK1867.out 2).trans rfl, (blk_cell BK1867.out 3).trans rfl, (blk_cell BK1867.out 4).trans rfl, (blk_cell BK1867.out 5).trans rfl⟩ (fun hHeld => ?_)
     clear hK K
     refine norm_ (a' := ?_) ?_ ?_
     rotate_left
     ·show Act.put _ (some 11) _ = _
      simp only [Act.put, List.setIfInBounds_toArray, List.set_cons_zero, List.set_cons_succ, i64_w, i32_w]
      rfl
     refine pure_ (i := 3) (N := some 12) (v := ?_) (a' := ?_) #[true, true, true, true, false] rfl rfl (by kernel_rfl) (fun _ _ _ h => h) (Or.inl ⟨by rfl, ?_⟩) ?_ ?_
     rotate_left
     ·intro w'
      go_simp
      with_reducible rfl
     rotate_left
     ·simp only [Act.put, List.setIfInBounds_toArray, List.set_cons_zero, List.set_cons_succ, i64_w, i32_w]
      rfl
     refine pure_ (i := 4) (N := some 8) (v := ?_) (a' := ?_) #[true, true, true, true, true] rfl rfl (by kernel_rfl) (fun _ _ _ h => h) (Or.inl ⟨by rfl, ?_⟩) ?_ ?_
     rotate_left
     ·intro w'
      go_simp
      with_reducible rfl
     rotate_left
     ·simp only [Act.put, List.setIfInBounds_toArray, List.set_cons_zero, List.set_cons_succ, i64_w, i32_w]
      rfl
     refine done_ (by kernel_rfl) ?_
     have hcz31_0 : w30.cell? ⟨gb1867, 0, none⟩ = some (.int .i64 a0_0) := (blk_cell BK1867.out 0).trans rfl
     have hcz31_1 : w30.cell? ⟨gb1867, 1, none⟩ = some (.int .i64 a0_1) := (blk_cell BK1867.out 1).trans rfl
     have hcz31_2 : w30.cell? ⟨gb1867, 2, none⟩ = some (.int .i64 a0_2) := (blk_cell BK1867.out 2).trans rfl
     have hcz31_3 : w30.cell? ⟨gb1867, 3, none⟩ = some (.int .i64 a0_3) := (blk_cell BK1867.out 3).trans rfl
     have hcz31_4 : w30.cell? ⟨gb1867, 4, none⟩ = some (.int .i64 a0_4) := (blk_cell BK1867.out 4).trans rfl
     have hcz31_5 : w30.cell? ⟨gb1867, 5, none⟩ = some (.int .i64 a0_5) := (blk_cell BK1867.out 5).trans rfl
     have hfz31_0 := blk_frozen BK1867.out 0
     have hfz31_1 := blk_frozen BK1867.out 1
     have hfz31_2 := blk_frozen BK1867.out 2
     have hfz31_3 := blk_frozen BK1867.out 3
     have hfz31_4 := blk_frozen BK1867.out 4
     have hfz31_5 := blk_frozen BK1867.out 5
     try go_wp2_with (first | ((with_reducible refine gate_callee (f := 156) rfl ?_); refine goesL_ (some 16) rfl rfl Try.func156 (by kernel_rfl) rfl #[.agg #[.int .i64 a0_0, .int .i64 a0_1, .int .i64 a0_2, .int .i64 a0_3]] rfl (by first|rfl|(simp only [List.map_toArray, List.map_cons, List.map_nil]; try rfl)) ?_; (with_reducible refine (impl_Mat_det.calls a0_0 a0_1 a0_2 a0_3 t1876 _ A14.out).mono ?_); rintro e w32 ⟨rfl, hb⟩; refine ⟨_, rfl, ?_⟩; have n0_ := aM (blk_below (g := gb1867) (o := .cells #[.int .i64 a0_0, .int .i64 a0_1, .int .i64 a0_2, .int .i64 a0_3, .int .i64 a0_4, .int .i64 a0_5] 84 (0, 0)) (by (with_reducible repeat (first|apply kN|apply kD|apply kA)); exact BK1867.out) hb); have n1_ := aM (below_step (by repeat (first | (with_reducible first | exact HB.out | apply bA|apply bN|apply b1 | refine below_set ?_ GE1867.out) | exact HB.out)) hb); clear BK1867; clear HB; have BK1867 := n0_; have HB := n1_; clear n0_ n1_; (try clear hb); have hcz33_0 : w32.cell? ⟨gb1867, 0, none⟩ = some (.int .i64 a0_0) := (blk_cell BK1867.out 0).trans rfl; have hcz33_1 : w32.cell? ⟨gb1867, 1, none⟩ = some (.int .i64 a0_1) := (blk_cell BK1867.out 1).trans rfl; have hcz33_2 : w32.cell? ⟨gb1867, 2, none⟩ = some (.int .i64 a0_2) := (blk_cell BK1867.out 2).trans rfl; have hcz33_3 : w32.cell? ⟨gb1867, 3, none⟩ = some (.int .i64 a0_3) := (blk_cell BK1867.out 3).trans rfl; have hcz33_4 : w32.cell? ⟨gb1867, 4, none⟩ = some (.int .i64 a0_4) := (blk_cell BK1867.out 4).trans rfl; have hcz33_5 : w32.cell? ⟨gb1867, 5, none⟩ = some (.int .i64 a0_5) := (blk_cell BK1867.out 5).trans rfl; have hfz33_0 := blk_frozen BK1867.out 0; have hfz33_1 := blk_frozen BK1867.out 1; have hfz33_2 := blk_frozen BK1867.out 2; have hfz33_3 := blk_frozen BK1867.out 3; have hfz33_4 := blk_frozen BK1867.out 4; have hfz33_5 := blk_frozen BK1867.out 5) | ((with_reducible refine gate_callee (f := 184) rfl ?_); refine goesL_ (some 21) rfl rfl Try.func184 (by kernel_rfl) rfl #[.agg #[.int .i64 a0_0, .int .i64 a0_1, .int .i64 a0_2, .int .i64 a0_3, .int .i64 a0_4, .int .i64 a0_5], .agg #[.int .i64 a0_0, .int .i64 a0_1, .int .i64 a0_2, .int .i64 a0_3, .int .i64 a0_4, .int .i64 a0_5]] rfl (by first|rfl|(simp only [List.map_toArray, List.map_cons, List.map_nil]; try rfl)) ?_; (with_reducible refine (impl_Motion_times.calls a0_0 a0_1 a0_2 a0_3 a0_4 a0_5 a0_0 a0_1 a0_2 a0_3 a0_4 a0_5 t1877 t1878 t1879 t1880 t1881 t1882 _ A23.out).mono ?_); rintro e w34 ⟨rfl, hb⟩; refine ⟨_, rfl, ?_⟩; have n0_ := aM (blk_below (g := gb1867) (o := .cells #[.int .i64 a0_0, .int .i64 a0_1, .int .i64 a0_2, .int .i64 a0_3, .int .i64 a0_4, .int .i64 a0_5] 84 (0, 0)) (by (with_reducible repeat (first|apply kN|apply kD|apply kA)); exact BK1867.out) hb); have n1_ := aM (below_step (by repeat (first | (with_reducible first | exact HB.out | apply bA|apply bN|apply b1 | refine below_set ?_ GE1867.out) | exact HB.out)) hb); clear BK1867; clear HB; have BK1867 := n0_; have HB := n1_; clear n0_ n1_; (try clear hb)) | ((with_reducible refine gate_callee (f := 161) rfl ?_); refine goesL_ (some 22) rfl rfl Try.func161 (by kernel_rfl) rfl #[] rfl (by first|rfl|(simp only [List.map_toArray, List.map_cons, List.map_nil]; try rfl)) ?_; (with_reducible refine (impl_unit.calls  t1883 t1884 t1885 t1886 _ A24.out).mono ?_); rintro e w35 ⟨rfl, hb⟩; refine ⟨_, rfl, ?_⟩; have n0_ := aM (blk_below (g := gb1867) (o := .cells #[.int .i64 a0_0, .int .i64 a0_1, .int .i64 a0_2, .int .i64 a0_3, .int .i64 a0_4, .int .i64 a0_5] 84 (0, 0)) (by (with_reducible repeat (first|apply kN|apply kD|apply kA)); exact BK1867.out) hb); have n1_ := aM (below_step (by repeat (first | (with_reducible first | exact HB.out | apply bA|apply bN|apply b1 | refine below_set ?_ GE1867.out) | exact HB.out)) hb); clear BK1867; clear HB; have BK1867 := n0_; have HB := n1_; clear n0_ n1_; (try clear hb)))
     go_ret
     exact ⟨by first|rfl|(simp [*, errW_none, errW_some] <;> rfl), by repeat (first | (with_reducible first | exact HB.out | apply bA|apply bN|apply b1 | refine below_set ?_ GE1867.out) | exact HB.out)⟩
    ·rw [if_neg c25] at H
     have c25b0 : ((t1877 == t1883 && (t1878 == t1884 && (t1879 == t1885 && (t1880 == t1886)))) && ((t1881 == 0 && (t1882 == 0)))) = false := by simpa using c25
     clear c25
     obtain rfl := Option.some.inj H
     go_enter Try.func191, Try.ntmps191
     try go_wp2_with (first | ((with_reducible refine gate_dst (N := 1) rfl ?_); refine box_event ?hg (N := 1) ?hd (cs := #[.int .i64 a0_0, .int .i64 a0_1, .int .i64 a0_2, .int .i64 a0_3, .int .i64 a0_4, .int .i64 a0_5]) (t := 84) ?hr ?_; (case hd => rfl); (case hg => rfl); (case hr => first | (go_simp; done) | (go_simp; rfl)); intro gb1867 hg w36 hbox hb; have n0_ := aM (below_step (by repeat (first | (with_reducible first | exact HB.out | apply bA|apply bN|apply b1) | exact HB.out)) hb); have n1_ := aM (hbox); have n2_ := aM ((by rw [hg]; exact (below_size (by repeat (first | (with_reducible first | exact HB.out | apply bA|apply bN|apply b1) | exact HB.out))) : w.heap.size ≤ gb1867)); have n3_ := aM ((by rw [hg]; exact (below_size (by repeat (first | (with_reducible first | exact HB.out | apply bA|apply bN|apply b1) | exact HB.out))) : w.heap.size ≤ gb1867)); clear HB; have HB := n0_; have BK1867 := n1_; have GW1867 := n2_; have GE1867 := n3_; clear n0_ n1_ n2_ n3_; clear hb hbox hg))
     have n0_ := aM (blk_drew BK1867.out)
     have n1_ := aM (below_drew1 HB.out)
     clear BK1867
     clear HB
     have BK1867 := n0_
     have HB := n1_
     clear n0_ n1_
     refine start_ (n := 5) (S := fun w' => w'.cell? ⟨gb1867, 0, none⟩ = some (.int .i64 a0_0) ∧ w'.cell? ⟨gb1867, 1, none⟩ = some (.int .i64 a0_1) ∧ w'.cell? ⟨gb1867, 2, none⟩ = some (.int .i64 a0_2) ∧ w'.cell? ⟨gb1867, 3, none⟩ = some (.int .i64 a0_3) ∧ w'.cell? ⟨gb1867, 4, none⟩ = some (.int .i64 a0_4) ∧ w'.cell? ⟨gb1867, 5, none⟩ = some (.int .i64 a0_5)) (ds := []) #[false, false, false, false, false] (by kernel_rfl) rfl rfl ⟨(blk_cell BK1867.out 0).trans rfl, (blk_cell BK1867.out 1).trans rfl, (blk_cell BK1867.out 2).trans rfl, (blk_cell BK1867.out 3).trans rfl, (blk_cell BK1867.out 4).trans rfl, (blk_cell BK1867.out 5).trans rfl⟩ (fun hHeld => ?_)
     generalize w36.drew = w37 at BK1867 HB hHeld ⊢
     refine take_ (i := 0) (N := some 4) (v := ?_) (a' := ?_) #[true, false, false, false, false] rfl rfl (by kernel_rfl) (fun _ _ _ h => h) (Or.inl ⟨by rfl, ?_⟩) hHeld ?_ ?_
     rotate_left
     ·rintro w' ⟨s0, s1, s2, s3, s4, s5⟩
      go_simp
      with_reducible rfl
     rotate_left
     ·simp only [Act.put, List.setIfInBounds_toArray, List.set_cons_zero, List.set_cons_succ, i64_w, i32_w]
      rfl
     refine one_ (i := 1) (N := some 5) #[true, true, false, false, false] rfl rfl (by kernel_rfl) (by decide) (fun K hK => ?_)
     refine goes_ Try.func161 (by kernel_rfl) rfl #[] (by rfl) rfl rfl (by first|rfl|(simp only [List.map_toArray, List.map_cons, List.map_nil]; try rfl)) ?_
     with_reducible refine (impl_unit.calls  t1868 t1869 t1870 t1871 _ A2.out).mono ?_
     rintro e w38 ⟨rfl, hb⟩
     refine ⟨_, rfl, ?_⟩
     have n0_ := aM (blk_below (g := gb1867) (o := .cells #[.int .i64 a0_0, .int .i64 a0_1, .int .i64 a0_2, .int .i64 a0_3, .int .i64 a0_4, .int .i64 a0_5] 84 (0, 0)) (by (with_reducible repeat (first|apply kN|apply kD|apply kA)); exact BK1867.out) hb)
     have n1_ := aM (below_step (by repeat (first | (with_reducible first | exact HB.out | apply bA|apply bN|apply b1 | refine below_set ?_ GE1867.out) | exact HB.out)) hb)
     clear BK1867
     clear HB
     have BK1867 := n0_
     have HB := n1_
     clear n0_ n1_
     (try clear hb)
     (try clear hb2)
     (try clear hk)
     (try clear hi)
     refine hK.out _ _ ⟨(blk_cell BK1867.out 0).trans rfl, (blk_cell BK1867.out 1).trans rfl, (blk_cell BK1867.out 2).trans rfl, (blk_cell BK1867.out 3).trans rfl, (blk_cell BK1867.out 4).trans rfl, (blk_cell BK1867.out 5).trans rfl⟩ (fun hHeld => ?_)
     clear hK K
     refine norm_ (a' := ?_) ?_ ?_
     rotate_left
     ·show Act.put _ (some 5) _ = _
      simp only [Act.put, List.setIfInBounds_toArray, List.set_cons_zero, List.set_cons_succ, i64_w, i32_w]
      rfl
     refine pure_ (i := 2) (N := some 6) (v := ?_) (a' := ?_) #[true, true, true, false, false] rfl rfl (by kernel_rfl) (fun _ _ _ h => h) (Or.inl ⟨by rfl, ?_⟩) ?_ ?_
     rotate_left
     ·intro w'
      go_simp
      with_reducible rfl
     rotate_left
     ·simp only [Act.put, List.setIfInBounds_toArray, List.set_cons_zero, List.set_cons_succ, i64_w, i32_w]
      rfl
     refine pure_ (i := 3) (N := some 7) (v := ?_) (a' := ?_) #[true, true, true, true, false] rfl rfl (by kernel_rfl) (fun _ _ _ h => h) (Or.inl ⟨by rfl, ?_⟩) ?_ ?_
     rotate_left
     ·intro w'
      go_simp
      with_reducible rfl
     rotate_left
     ·simp only [Act.put, List.setIfInBounds_toArray, List.set_cons_zero, List.set_cons_succ, i64_w, i32_w]
      rfl
     refine pure_ (i := 4) (N := some 3) (v := ?_) (a' := ?_) #[true, true, true, true, true] rfl rfl (by kernel_rfl) (fun _ _ _ h => h) (Or.inl ⟨by rfl, ?_⟩) ?_ ?_
     rotate_left
     ·intro w'
      go_simp
      with_reducible rfl
     rotate_left
     ·simp only [Act.put, List.setIfInBounds_toArray, List.set_cons_zero, List.set_cons_succ, i64_w, i32_w]
      rfl
     refine done_ (by kernel_rfl) ?_
     try go_wp2
     have n0_ := aM (blk_drew BK1867.out)
     have n1_ := aM (below_drew1 HB.out)
     clear BK1867
     clear HB
     have BK1867 := n0_
     have HB := n1_
     clear n0_ n1_
     refine start_ (n := 5) (S := fun w' => w'.cell? ⟨gb1867, 0, none⟩ = some (.int .i64 a0_0) ∧ w'.cell? ⟨gb1867, 1, none⟩ = some (.int .i64 a0_1) ∧ w'.cell? ⟨gb1867, 2, none⟩ = some (.int .i64 a0_2) ∧ w'.cell? ⟨gb1867, 3, none⟩ = some (.int .i64 a0_3) ∧ w'.cell? ⟨gb1867, 4, none⟩ = some (.int .i64 a0_4) ∧ w'.cell? ⟨gb1867, 5, none⟩ = some (.int .i64 a0_5)) (ds := []) #[false, false, false, false, false] (by kernel_rfl) rfl rfl ⟨(blk_cell BK1867.out 0).trans rfl, (blk_cell BK1867.out 1).trans rfl, (blk_cell BK1867.out 2).trans rfl, (blk_cell BK1867.out 3).trans rfl, (blk_cell BK1867.out 4).trans rfl, (blk_cell BK1867.out 5).trans rfl⟩ (fun hHeld => ?_)
     generalize w38.drew = w39 at BK1867 HB hHeld ⊢
     refine pure_ (i := 0) (N := some 9) (v := ?_) (a' := ?_) #[true, false, false, false, false] rfl rfl (by kernel_rfl) (fun _ _ _ h => h) (Or.inl ⟨by rfl, ?_⟩) ?_ ?_
     rotate_left
     ·intro w'
      go_simp
      with_reducible rfl
     rotate_left
     ·simp only [Act.put, List.setIfInBounds_toArray, List.set_cons_zero, List.set_cons_succ, i64_w, i32_w]
      rfl
     refine take_ (i := 1) (N := some 10) (v := ?_) (a' := ?_) #[true, true, false, false, false] rfl rfl (by kernel_rfl) (fun _ _ _ h => h) (Or.inl ⟨by rfl, ?_⟩) hHeld ?_ ?_
     rotate_left
     ·rintro w' ⟨s0, s1, s2, s3, s4, s5⟩
      go_simp
      with_reducible rfl
     rotate_left
     ·simp only [Act.put, List.setIfInBounds_toArray, List.set_cons_zero, List.set_cons_succ, i64_w, i32_w]
      rfl
     refine one_ (i := 2) (N := some 11) #[true, true, true, false, false] rfl rfl (by kernel_rfl) (by decide) (fun K hK => ?_)
     refine goes_ Try.func161 (by kernel_rfl) rfl #[] (by rfl) rfl rfl (by first|rfl|(simp only [List.map_toArray, List.map_cons, List.map_nil]; try rfl)) ?_
     with_reducible refine (impl_unit.calls  t1872 t1873 t1874 t1875 _ A7.out).mono ?_
     rintro e w40 ⟨rfl, hb⟩
     refine ⟨_, rfl, ?_⟩
     have n0_ := aM (blk_below (g := gb1867) (o := .cells #[.int .i64 a0_0, .int .i64 a0_1, .int .i64 a0_2, .int .i64 a0_3, .int .i64 a0_4, .int .i64 a0_5] 84 (0, 0)) (by (with_reducible repeat (first|apply kN|apply kD|apply kA)); exact BK1867.out) hb)
     have n1_ := aM (below_step (by repeat (first | (with_reducible first | exact HB.out | apply bA|apply bN|apply b1 | refine below_set ?_ GE1867.out) | exact HB.out)) hb)
     clear BK1867
     clear HB
     have BK1867 := n0_
     have HB := n1_
     clear n0_ n1_
     (try clear hb)
     (try clear hb2)
     (try clear hk)
     (try clear hi)
     refine hK.out _ _ ⟨(blk_cell BK1867.out 0).trans rfl, (blk_cell BK1867.out 1).trans rfl, (blk_cell BK1867.out 2).trans rfl, (blk_cell BK1867.out 3).trans rfl, (blk_cell BK1867.out 4).trans rfl, (blk_cell BK1867.out 5).trans rfl⟩ (fun hHeld => ?_)
     clear hK K
     refine norm_ (a' := ?_) ?_ ?_
     rotate_left
     ·show Act.put _ (some 11) _ = _
      simp only [Act.put, List.setIfInBounds_toArray, List.set_cons_zero, List.set_cons_succ, i64_w, i32_w]
      rfl
     refine pure_ (i := 3) (N := some 12) (v := ?_) (a' := ?_) #[true, true, true, true, false] rfl rfl (by kernel_rfl) (fun _ _ _ h => h) (Or.inl ⟨by rfl, ?_⟩) ?_ ?_
     rotate_left
     ·intro w'
      go_simp
      with_reducible rfl
     rotate_left
     ·simp only [Act.put, List.setIfInBounds_toArray, List.set_cons_zero, List.set_cons_succ, i64_w, i32_w]
      rfl
     refine pure_ (i := 4) (N := some 8) (v := ?_) (a' := ?_) #[true, true, true, true, true] rfl rfl (by kernel_rfl) (fun _ _ _ h => h) (Or.inl ⟨by rfl, ?_⟩) ?_ ?_
     rotate_left
     ·intro w'
      go_simp
      with_reducible rfl
     rotate_left
     ·simp only [Act.put, List.setIfInBounds_toArray, List.set_cons_zero, List.set_cons_succ, i64_w, i32_w]
      rfl
     refine done_ (by kernel_rfl) ?_
     have hcz41_0 : w40.cell? ⟨gb1867, 0, none⟩ = some (.int .i64 a0_0) := (blk_cell BK1867.out 0).trans rfl
     have hcz41_1 : w40.cell? ⟨gb1867, 1, none⟩ = some (.int .i64 a0_1) := (blk_cell BK1867.out 1).trans rfl
     have hcz41_2 : w40.cell? ⟨gb1867, 2, none⟩ = some (.int .i64 a0_2) := (blk_cell BK1867.out 2).trans rfl
     have hcz41_3 : w40.cell? ⟨gb1867, 3, none⟩ = some (.int .i64 a0_3) := (blk_cell BK1867.out 3).trans rfl
     have hcz41_4 : w40.cell? ⟨gb1867, 4, none⟩ = some (.int .i64 a0_4) := (blk_cell BK1867.out 4).trans rfl
     have hcz41_5 : w40.cell? ⟨gb1867, 5, none⟩ = some (.int .i64 a0_5) := (blk_cell BK1867.out 5).trans rfl
     have hfz41_0 := blk_frozen BK1867.out 0
     have hfz41_1 := blk_frozen BK1867.out 1
     have hfz41_2 := blk_frozen BK1867.out 2
     have hfz41_3 := blk_frozen BK1867.out 3
     have hfz41_4 := blk_frozen BK1867.out 4
     have hfz41_5 := blk_frozen BK1867.out 5
     try go_wp2_with (first | ((with_reducible refine gate_callee (f := 156) rfl ?_); refine goesL_ (some 16) rfl rfl Try.func156 (by kernel_rfl) rfl #[.agg #[.int .i64 a0_0, .int .i64 a0_1, .int .i64 a0_2, .int .i64 a0_3]] rfl (by first|rfl|(simp only [List.map_toArray, List.map_cons, List.map_nil]; try rfl)) ?_; (with_reducible refine (impl_Mat_det.calls a0_0 a0_1 a0_2 a0_3 t1876 _ A14.out).mono ?_); rintro e w42 ⟨rfl, hb⟩; refine ⟨_, rfl, ?_⟩; have n0_ := aM (blk_below (g := gb1867) (o := .cells #[.int .i64 a0_0, .int .i64 a0_1, .int .i64 a0_2, .int .i64 a0_3, .int .i64 a0_4, .int .i64 a0_5] 84 (0, 0)) (by (with_reducible repeat (first|apply kN|apply kD|apply kA)); exact BK1867.out) hb); have n1_ := aM (below_step (by repeat (first | (with_reducible first | exact HB.out | apply bA|apply bN|apply b1 | refine below_set ?_ GE1867.out) | exact HB.out)) hb); clear BK1867; clear HB; have BK1867 := n0_; have HB := n1_; clear n0_ n1_; (try clear hb); have hcz43_0 : w42.cell? ⟨gb1867, 0, none⟩ = some (.int .i64 a0_0) := (blk_cell BK1867.out 0).trans rfl; have hcz43_1 : w42.cell? ⟨gb1867, 1, none⟩ = some (.int .i64 a0_1) := (blk_cell BK1867.out 1).trans rfl; have hcz43_2 : w42.cell? ⟨gb1867, 2, none⟩ = some (.int .i64 a0_2) := (blk_cell BK1867.out 2).trans rfl; have hcz43_3 : w42.cell? ⟨gb1867, 3, none⟩ = some (.int .i64 a0_3) := (blk_cell BK1867.out 3).trans rfl; have hcz43_4 : w42.cell? ⟨gb1867, 4, none⟩ = some (.int .i64 a0_4) := (blk_cell BK1867.out 4).trans rfl; have hcz43_5 : w42.cell? ⟨gb1867, 5, none⟩ = some (.int .i64 a0_5) := (blk_cell BK1867.out 5).trans rfl; have hfz43_0 := blk_frozen BK1867.out 0; have hfz43_1 := blk_frozen BK1867.out 1; have hfz43_2 := blk_frozen BK1867.out 2; have hfz43_3 := blk_frozen BK1867.out 3; have hfz43_4 := blk_frozen BK1867.out 4; have hfz43_5 := blk_frozen BK1867.out 5) | ((with_reducible refine gate_callee (f := 184) rfl ?_); refine goesL_ (some 21) rfl rfl Try.func184 (by kernel_rfl) rfl #[.agg #[.int .i64 a0_0, .int .i64 a0_1, .int .i64 a0_2, .int .i64 a0_3, .int .i64 a0_4, .int .i64 a0_5], .agg #[.int .i64 a0_0, .int .i64 a0_1, .int .i64 a0_2, .int .i64 a0_3, .int .i64 a0_4, .int .i64 a0_5]] rfl (by first|rfl|(simp only [List.map_toArray, List.map_cons, List.map_nil]; try rfl)) ?_; (with_reducible refine (impl_Motion_times.calls a0_0 a0_1 a0_2 a0_3 a0_4 a0_5 a0_0 a0_1 a0_2 a0_3 a0_4 a0_5 t1877 t1878 t1879 t1880 t1881 t1882 _ A23.out).mono ?_); rintro e w44 ⟨rfl, hb⟩; refine ⟨_, rfl, ?_⟩; have n0_ := aM (blk_below (g := gb1867) (o := .cells #[.int .i64 a0_0, .int .i64 a0_1, .int .i64 a0_2, .int .i64 a0_3, .int .i64 a0_4, .int .i64 a0_5] 84 (0, 0)) (by (with_reducible repeat (first|apply kN|apply kD|apply kA)); exact BK1867.out) hb); have n1_ := aM (below_step (by repeat (first | (with_reducible first | exact HB.out | apply bA|apply bN|apply b1 | refine below_set ?_ GE1867.out) | exact HB.out)) hb); clear BK1867; clear HB; have BK1867 := n0_; have HB := n1_; clear n0_ n1_; (try clear hb)) | ((with_reducible refine gate_callee (f := 161) rfl ?_); refine goesL_ (some 22) rfl rfl Try.func161 (by kernel_rfl) rfl #[] rfl (by first|rfl|(simp only [List.map_toArray, List.map_cons, List.map_nil]; try rfl)) ?_; (with_reducible refine (impl_unit.calls  t1883 t1884 t1885 t1886 _ A24.out).mono ?_); rintro e w45 ⟨rfl, hb⟩; refine ⟨_, rfl, ?_⟩; have n0_ := aM (blk_below (g := gb1867) (o := .cells #[.int .i64 a0_0, .int .i64 a0_1, .int .i64 a0_2, .int .i64 a0_3, .int .i64 a0_4, .int .i64 a0_5] 84 (0, 0)) (by (with_reducible repeat (first|apply kN|apply kD|apply kA)); exact BK1867.out) hb); have n1_ := aM (below_step (by repeat (first | (with_reducible first | exact HB.out | apply bA|apply bN|apply b1 | refine below_set ?_ GE1867.out) | exact HB.out)) hb); clear BK1867; clear HB; have BK1867 := n0_; have HB := n1_; clear n0_ n1_; (try clear hb)))
     go_ret
     exact ⟨by first|rfl|(simp [*, errW_none, errW_some] <;> rfl), by repeat (first | (with_reducible first | exact HB.out | apply bA|apply bN|apply b1 | refine below_set ?_ GE1867.out) | exact HB.out)⟩

def impl_KindOfMotion.f (k : Nat) (a0_0 : Int) (a0_1 : Int) (a0_2 : Int) (a0_3 : Int) (a0_4 : Int) (a0_5 : Int) : Option (Int × Int) := (impl_IsMotion.f k a0_0 a0_1 a0_2 a0_3 a0_4 a0_5).bind fun t1888 => (if t1888 = true then ((impl_Motion_kind.f a0_0 a0_1 a0_2 a0_3 a0_4 a0_5).bind fun t1889 => (some (t1889, 0))) else (some (0, 1)))
set_option maxHeartbeats 40000000 in
set_option maxRecDepth 100000 in
theorem impl_KindOfMotion.calls (k : Nat) (a0_0 : Int) (a0_1 : Int) (a0_2 : Int) (a0_3 : Int) (a0_4 : Int) (a0_5 : Int) (r1 : Int) (r2 : Int) (w : World) (h : impl_KindOfMotion.f k a0_0 a0_1 a0_2 a0_3 a0_4 a0_5 = some (r1, r2)) :
  Calls Try.prog 94 #[.agg #[.int .i64 a0_0, .int .i64 a0_1, .int .i64 a0_2, .int .i64 a0_3, .int .i64 a0_4, .int .i64 a0_5]] w fun e w' => e = .returned (.tuple #[.int .i64 r1, .int .i64 r2]) ∧ Below w.heap.size w w' := by
 have hu84 := Try.underlying84
 have HB := aM (Below.refl w.heap.size w)
 have H : ((impl_IsMotion.f k a0_0 a0_1 a0_2 a0_3 a0_4 a0_5).bind fun t1888 => (if t1888 = true then ((impl_Motion_kind.f a0_0 a0_1 a0_2 a0_3 a0_4 a0_5).bind fun t1889 => (some (t1889, 0))) else (some (0, 1)))) = some (r1, r2) := h
 clear h
 replace H := Option.bind_eq_some_iff.mp H
 obtain ⟨t1888, A20, H⟩ := H
 try dsimp only at H
 have A2 := aM A20
 clear A20
 by_cases c3 : t1888 = true
 ·subst c3
  have H1 : ((impl_Motion_kind.f a0_0 a0_1 a0_2 a0_3 a0_4 a0_5).bind fun t1889 => (some (t1889, 0))) = some (r1, r2) := by rw [if_pos rfl] at H; exact H
  clear H
  have H := H1
  clear H1
  replace H := Option.bind_eq_some_iff.mp H
  obtain ⟨t1889, A40, H⟩ := H
  try dsimp only at H
  have A4 := aM A40
  clear A40
  simp only [Option.some.injEq, Prod.mk.injEq] at H
  obtain ⟨rfl, rfl⟩ := H
  go_enter Try.func94, Try.ntmps94
  go_wp2_with (first | ((with_reducible refine gate_dst (N := 1) rfl ?_); refine box_event ?hg (N := 1) ?hd (cs := #[.int .i64 a0_0, .int .i64 a0_1, .int .i64 a0_2, .int .i64 a0_3, .int .i64 a0_4, .int .i64 a0_5]) (t := 84) ?hr ?_; (case hd => rfl); (case hg => rfl); (case hr => first | (go_simp; done) | (go_simp; rfl)); intro gb1887 hg w5 hbox hb; have n0_ := aM (below_step (by repeat (first | (with_reducible first | exact HB.out | apply bA|apply bN|apply b1) | exact HB.out)) hb); have n1_ := aM (hbox); have n2_ := aM ((by rw [hg]; exact (below_size (by repeat (first | (with_reducible first | exact HB.out | apply bA|apply bN|apply b1) | exact HB.out))) : w.heap.size ≤ gb1887)); have n3_ := aM ((by rw [hg]; exact (below_size (by repeat (first | (with_reducible first | exact HB.out | apply bA|apply bN|apply b1) | exact HB.out))) : w.heap.size ≤ gb1887)); clear HB; have HB := n0_; have BK1887 := n1_; have GW1887 := n2_; have GE1887 := n3_; clear n0_ n1_ n2_ n3_; clear hb hbox hg; have hcz6_0 : w5.cell? ⟨gb1887, 0, none⟩ = some (.int .i64 a0_0) := (blk_cell BK1887.out 0).trans rfl; have hcz6_1 : w5.cell? ⟨gb1887, 1, none⟩ = some (.int .i64 a0_1) := (blk_cell BK1887.out 1).trans rfl; have hcz6_2 : w5.cell? ⟨gb1887, 2, none⟩ = some (.int .i64 a0_2) := (blk_cell BK1887.out 2).trans rfl; have hcz6_3 : w5.cell? ⟨gb1887, 3, none⟩ = some (.int .i64 a0_3) := (blk_cell BK1887.out 3).trans rfl; have hcz6_4 : w5.cell? ⟨gb1887, 4, none⟩ = some (.int .i64 a0_4) := (blk_cell BK1887.out 4).trans rfl; have hcz6_5 : w5.cell? ⟨gb1887, 5, none⟩ = some (.int .i64 a0_5) := (blk_cell BK1887.out 5).trans rfl; have hfz6_0 := blk_frozen BK1887.out 0; have hfz6_1 := blk_frozen BK1887.out 1; have hfz6_2 := blk_frozen BK1887.out 2; have hfz6_3 := blk_frozen BK1887.out 3; have hfz6_4 := blk_frozen BK1887.out 4; have hfz6_5 := blk_frozen BK1887.out 5) | ((with_reducible refine gate_callee (f := 91) rfl ?_); refine goesL_ (some 5) rfl rfl Try.func91 (by kernel_rfl) rfl #[.agg #[.int .i64 a0_0, .int .i64 a0_1, .int .i64 a0_2, .int .i64 a0_3, .int .i64 a0_4, .int .i64 a0_5]] rfl (by first|rfl|(simp only [List.map_toArray, List.map_cons, List.map_nil]; try rfl)) ?_; (with_reducible refine (impl_IsMotion.calls k a0_0 a0_1 a0_2 a0_3 a0_4 a0_5 true _ A2.out).mono ?_); rintro e w7 ⟨rfl, hb⟩; refine ⟨_, rfl, ?_⟩; have n0_ := aM (blk_below (g := gb1887) (o := .cells #[.int .i64 a0_0, .int .i64 a0_1, .int .i64 a0_2, .int .i64 a0_3, .int .i64 a0_4, .int .i64 a0_5] 84 (0, 0)) (by (with_reducible repeat (first|apply kN|apply kD|apply kA)); exact BK1887.out) hb); have n1_ := aM (below_step (by repeat (first | (with_reducible first | exact HB.out | apply bA|apply bN|apply b1 | refine below_set ?_ GE1887.out) | exact HB.out)) hb); clear BK1887; clear HB; have BK1887 := n0_; have HB := n1_; clear n0_ n1_; (try clear hb); have hcz8_0 : w7.cell? ⟨gb1887, 0, none⟩ = some (.int .i64 a0_0) := (blk_cell BK1887.out 0).trans rfl; have hcz8_1 : w7.cell? ⟨gb1887, 1, none⟩ = some (.int .i64 a0_1) := (blk_cell BK1887.out 1).trans rfl; have hcz8_2 : w7.cell? ⟨gb1887, 2, none⟩ = some (.int .i64 a0_2) := (blk_cell BK1887.out 2).trans rfl; have hcz8_3 : w7.cell? ⟨gb1887, 3, none⟩ = some (.int .i64 a0_3) := (blk_cell BK1887.out 3).trans rfl; have hcz8_4 : w7.cell? ⟨gb1887, 4, none⟩ = some (.int .i64 a0_4) := (blk_cell BK1887.out 4).trans rfl; have hcz8_5 : w7.cell? ⟨gb1887, 5, none⟩ = some (.int .i64 a0_5) := (blk_cell BK1887.out 5).trans rfl; have hfz8_0 := blk_frozen BK1887.out 0; have hfz8_1 := blk_frozen BK1887.out 1; have hfz8_2 := blk_frozen BK1887.out 2; have hfz8_3 := blk_frozen BK1887.out 3; have hfz8_4 := blk_frozen BK1887.out 4; have hfz8_5 := blk_frozen BK1887.out 5) | ((with_reducible refine gate_callee (f := 191) rfl ?_); refine goesL_ (some 8) rfl rfl Try.func191 (by kernel_rfl) rfl #[.agg #[.int .i64 a0_0, .int .i64 a0_1, .int .i64 a0_2, .int .i64 a0_3, .int .i64 a0_4, .int .i64 a0_5]] rfl (by first|rfl|(simp only [List.map_toArray, List.map_cons, List.map_nil]; try rfl)) ?_; (with_reducible refine (impl_Motion_kind.calls a0_0 a0_1 a0_2 a0_3 a0_4 a0_5 t1889 _ A4.out).mono ?_); rintro e w9 ⟨rfl, hb⟩; refine ⟨_, rfl, ?_⟩; have n0_ := aM (blk_below (g := gb1887) (o := .cells #[.int .i64 a0_0, .int .i64 a0_1, .int .i64 a0_2, .int .i64 a0_3, .int .i64 a0_4, .int .i64 a0_5] 84 (0, 0)) (by (with_reducible repeat (first|apply kN|apply kD|apply kA)); exact BK1887.out) hb); have n1_ := aM (below_step (by repeat (first | (with_reducible first | exact HB.out | apply bA|apply bN|apply b1 | refine below_set ?_ GE1887.out) | exact HB.out)) hb); clear BK1887; clear HB; have BK1887 := n0_; have HB := n1_; clear n0_ n1_; (try clear hb)))
  go_ret2
  exact ⟨by first|rfl|(simp [*, errW_none, errW_some] <;> rfl), by repeat (first | (with_reducible first | exact HB.out | apply bA|apply bN|apply b1 | refine below_set ?_ GE1887.out) | exact HB.out)⟩
 ·replace c3 := Bool.eq_false_iff.mpr c3
  subst c3
  have H1 : (some (0, 1)) = some (r1, r2) := by rw [if_neg (show ¬ (false = true) by decide)] at H; exact H
  clear H
  have H := H1
  clear H1
  simp only [Option.some.injEq, Prod.mk.injEq] at H
  obtain ⟨rfl, rfl⟩ := H
  go_enter Try.func94, Try.ntmps94
  go_wp2_with (first | ((with_reducible refine gate_dst (N := 1) rfl ?_); refine box_event ?hg (N := 1) ?hd (cs := #[.int .i64 a0_0, .int .i64 a0_1, .int .i64 a0_2, .int .i64 a0_3, .int .i64 a0_4, .int .i64 a0_5]) (t := 84) ?hr ?_; (case hd => rfl); (case hg => rfl); (case hr => first | (go_simp; done) | (go_simp; rfl)); intro gb1887 hg w10 hbox hb; have n0_ := aM (below_step (by repeat (first | (with_reducible first | exact HB.out | apply bA|apply bN|apply b1) | exact HB.out)) hb); have n1_ := aM (hbox); have n2_ := aM ((by rw [hg]; exact (below_size (by repeat (first | (with_reducible first | exact HB.out | apply bA|apply bN|apply b1) | exact HB.out))) : w.heap.size ≤ gb1887)); have n3_ := aM ((by rw [hg]; exact (below_size (by repeat (first | (with_reducible first | exact HB.out | apply bA|apply bN|apply b1) | exact HB.out))) : w.heap.size ≤ gb1887)); clear HB; have HB := n0_; have BK1887 := n1_; have GW1887 := n2_; have GE1887 := n3_; clear n0_ n1_ n2_ n3_; clear hb hbox hg; have hcz11_0 : w10.cell? ⟨gb1887, 0, none⟩ = some (.int .i64 a0_0) := (blk_cell BK1887.out 0).trans rfl; have hcz11_1 : w10.cell? ⟨gb1887, 1, none⟩ = some (.int .i64 a0_1) := (blk_cell BK1887.out 1).trans rfl; have hcz11_2 : w10.cell? ⟨gb1887, 2, none⟩ = some (.int .i64 a0_2) := (blk_cell BK1887.out 2).trans rfl; have hcz11_3 : w10.cell? ⟨gb1887, 3, none⟩ = some (.int .i64 a0_3) := (blk_cell BK1887.out 3).trans rfl; have hcz11_4 : w10.cell? ⟨gb1887, 4, none⟩ = some (.int .i64 a0_4) := (blk_cell BK1887.out 4).trans rfl; have hcz11_5 : w10.cell? ⟨gb1887, 5, none⟩ = some (.int .i64 a0_5) := (blk_cell BK1887.out 5).trans rfl; have hfz11_0 := blk_frozen BK1887.out 0; have hfz11_1 := blk_frozen BK1887.out 1; have hfz11_2 := blk_frozen BK1887.out 2; have hfz11_3 := blk_frozen BK1887.out 3; have hfz11_4 := blk_frozen BK1887.out 4; have hfz11_5 := blk_frozen BK1887.out 5) | ((with_reducible refine gate_callee (f := 91) rfl ?_); refine goesL_ (some 5) rfl rfl Try.func91 (by kernel_rfl) rfl #[.agg #[.int .i64 a0_0, .int .i64 a0_1, .int .i64 a0_2, .int .i64 a0_3, .int .i64 a0_4, .int .i64 a0_5]] rfl (by first|rfl|(simp only [List.map_toArray, List.map_cons, List.map_nil]; try rfl)) ?_; (with_reducible refine (impl_IsMotion.calls k a0_0 a0_1 a0_2 a0_3 a0_4 a0_5 false _ A2.out).mono ?_); rintro e w12 ⟨rfl, hb⟩; refine ⟨_, rfl, ?_⟩; have n0_ := aM (blk_below (g := gb1887) (o := .cells #[.int .i64 a0_0, .int .i64 a0_1, .int .i64 a0_2, .int .i64 a0_3, .int .i64 a0_4, .int .i64 a0_5] 84 (0, 0)) (by (with_reducible repeat (first|apply kN|apply kD|apply kA)); exact BK1887.out) hb); have n1_ := aM (below_step (by repeat (first | (with_reducible first | exact HB.out | apply bA|apply bN|apply b1 | refine below_set ?_ GE1887.out) | exact HB.out)) hb); clear BK1887; clear HB; have BK1887 := n0_; have HB := n1_; clear n0_ n1_; (try clear hb)))
  go_ret2
  exact ⟨by first|rfl|(simp [*, errW_none, errW_some] <;> rfl), by repeat (first | (with_reducible first | exact HB.out | apply bA|apply bN|apply b1 | refine below_set ?_ GE1887.out) | exact HB.out)⟩

def spec_l05Twice.f (a0_0 : Int) (a0_1 : Int) (a0_2 : Int) (a0_3 : Int) (a0_4 : Int) (a0_5 : Int) : Option (Int × Int) := (spec_l02Apply.f a0_0 a0_1 a0_2 a0_3 a0_4 a0_5).bind fun bt1892 => ((spec_l01Add.f bt1892.1 bt1892.2 a0_4 a0_5).bind fun bt1894 => (some (bt1894.1, bt1894.2)))
def spec_l05Twice.T1 : Bool × List (List Nat × List Nat) := (true, [([], []), ([0], [0]), ([], []), ([2], [2]), ([1, 3], [1, 3]), ([], []), ([5], [5]), ([4, 6, 4], [4, 6]), ([7, 7, 0, 1, 2, 3, 4, 5, 6, 7], [7])])
def spec_l05Twice.B1 : List Nat := [0, 1, 0, 4, 15, 0, 32, 127, 255]
theorem spec_l05Twice.tab1 : rtab .any (opsOf Try.f193 1) = spec_l05Twice.T1 := by kernel_rfl
theorem spec_l05Twice.bits1 : waitsOk spec_l05Twice.T1.2 spec_l05Twice.B1 = true := by kernel_rfl
set_option maxHeartbeats 40000000 in
set_option maxRecDepth 100000 in
theorem spec_l05Twice.calls (a0_0 : Int) (a0_1 : Int) (a0_2 : Int) (a0_3 : Int) (a0_4 : Int) (a0_5 : Int) (r1 : Int) (r2 : Int) (w : World) (h : spec_l05Twice.f a0_0 a0_1 a0_2 a0_3 a0_4 a0_5 = some (r1, r2)) :
  Calls Try.prog 193 #[.agg #[.int .i64 a0_0, .int .i64 a0_1, .int .i64 a0_2, .int .i64 a0_3, .int .i64 a0_4, .int .i64 a0_5]] w fun e w' => e = .returned (.agg #[.int .i64 r1, .int .i64 r2]) ∧ Below w.heap.size w w' := by
 have hu84 := Try.underlying84
 have hu25 := Try.underlying25
 have hu51 := Try.underlying51
 have HB := aM (Below.refl w.heap.size w)
 have H : ((spec_l02Apply.f a0_0 a0_1 a0_2 a0_3 a0_4 a0_5).bind fun bt1892 => ((spec_l01Add.f bt1892.1 bt1892.2 a0_4 a0_5).bind fun bt1894 => (some (bt1894.1, bt1894.2)))) = some (r1, r2) := h
 clear h
 replace H := Option.bind_eq_some_iff.mp H
 obtain ⟨⟨t1892, t1893⟩, A20, H⟩ := H
 try dsimp only at H
 have A2 := aM A20
 clear A20
 replace H := Option.bind_eq_some_iff.mp H
 obtain ⟨⟨t1894, t1895⟩, A30, H⟩ := H
 try dsimp only at H
 have A3 := aM A30
 clear A30
 simp only [Option.some.injEq, Prod.mk.injEq] at H
 obtain ⟨rfl, rfl⟩ := H
 go_enter Try.func193, Try.ntmps193
 try go_wp2_with (first | ((with_reducible refine gate_dst (N := 1) rfl ?_); refine box_event ?hg (N := 1) ?hd (cs := #[.int .i64 a0_0, .int .i64 a0_1, .int .i64 a0_2, .int .i64 a0_3, .int .i64 a0_4, .int .i64 a0_5]) (t := 84) ?hr ?_; (case hd => rfl); (case hg => rfl); (case hr => first | (go_simp; done) | (go_simp; rfl)); intro gb1890 hg w4 hbox hb; have n0_ := aM (below_step (by repeat (first | (with_reducible first | exact HB.out | apply bA|apply bN|apply b1) | exact HB.out)) hb); have n1_ := aM (hbox); have n2_ := aM ((by rw [hg]; exact (below_size (by repeat (first | (with_reducible first | exact HB.out | apply bA|apply bN|apply b1) | exact HB.out))) : w.heap.size ≤ gb1890)); have n3_ := aM ((by rw [hg]; exact (below_size (by repeat (first | (with_reducible first | exact HB.out | apply bA|apply bN|apply b1) | exact HB.out))) : w.heap.size ≤ gb1890)); clear HB; have HB := n0_; have BK1890 := n1_; have GW1890 := n2_; have GE1890 := n3_; clear n0_ n1_ n2_ n3_; clear hb hbox hg) | ((with_reducible refine gate_dst (N := 2) rfl ?_); refine box_event ?hg (N := 2) ?hd (cs := #[.int .i64 0, .int .i64 0]) (t := 25) ?hr ?_; (case hd => rfl); (case hg => rfl); (case hr => first | (go_simp; done) | (go_simp; rfl)); intro gb1891 hg w5 hbox hb; have n0_ := aM (blk_below (g := gb1890) (o := .cells #[.int .i64 a0_0, .int .i64 a0_1, .int .i64 a0_2, .int .i64 a0_3, .int .i64 a0_4, .int .i64 a0_5] 84 (0, 0)) (by (with_reducible repeat (first|apply kN|apply kD|apply kA)); exact BK1890.out) hb); have n1_ := aM (below_step (by repeat (first | (with_reducible first | exact HB.out | apply bA|apply bN|apply b1 | refine below_set ?_ GE1890.out) | exact HB.out)) hb); have n2_ := aM (hbox); have n3_ := aM ((by rw [hg]; exact (below_size (by repeat (first | (with_reducible first | exact HB.out | apply bA|apply bN|apply b1 | refine below_set ?_ GE1890.out) | exact HB.out))) : w.heap.size ≤ gb1891)); have n4_ := aM ((by rw [hg]; exact (below_size (by repeat (first | (with_reducible first | exact HB.out | apply bA|apply bN|apply b1 | refine below_set ?_ GE1890.out) | exact HB.out))) : w.heap.size ≤ gb1891)); have n5_ := aM ((by rw [hg]; exact Nat.ne_of_lt (blk_lt (g := gb1890) (o := .cells #[.int .i64 a0_0, .int .i64 a0_1, .int .i64 a0_2, .int .i64 a0_3, .int .i64 a0_4, .int .i64 a0_5] 84 (0, 0)) (by (with_reducible repeat (first|apply kN|apply kD|apply kA)); exact BK1890.out)) : gb1890 ≠ gb1891)); have n6_ := aM ((by rw [hg]; exact Nat.ne_of_gt (blk_lt (g := gb1890) (o := .cells #[.int .i64 a0_0, .int .i64 a0_1, .int .i64 a0_2, .int .i64 a0_3, .int .i64 a0_4, .int .i64 a0_5] 84 (0, 0)) (by (with_reducible repeat (first|apply kN|apply kD|apply kA)); exact BK1890.out)) : gb1891 ≠ gb1890)); clear BK1890; clear HB; have BK1890 := n0_; have HB := n1_; have BK1891 := n2_; have GW1891 := n3_; have GE1891 := n4_; have NB1890_1891 := n5_; have NB1891_1890 := n6_; clear n0_ n1_ n2_ n3_ n4_ n5_ n6_; clear hb hbox hg))
 have n0_ := aM (blk_drew BK1890.out)
 have n1_ := aM (blk_drew BK1891.out)
 have n2_ := aM (below_drew1 HB.out)
 clear BK1890
 clear BK1891
 clear HB
 have BK1890 := n0_
 have BK1891 := n1_
 have HB := n2_
 clear n0_ n1_ n2_
 refine start_ (n := 9) (S := fun w' => w'.cell? ⟨gb1890, 0, none⟩ = some (.int .i64 a0_0) ∧ w'.cell? ⟨gb1890, 1, none⟩ = some (.int .i64 a0_1) ∧ w'.cell? ⟨gb1890, 2, none⟩ = some (.int .i64 a0_2) ∧ w'.cell? ⟨gb1890, 3, none⟩ = some (.int .i64 a0_3) ∧ w'.cell? ⟨gb1890, 4, none⟩ = some (.int .i64 a0_4) ∧ w'.cell? ⟨gb1890, 5, none⟩ = some (.int .i64 a0_5)) (ds := []) #[false, false, false, false, false, false, false, false, false] (by kernel_rfl) rfl rfl ⟨(blk_cell BK1890.out 0).trans rfl, (blk_cell BK1890.out 1).trans rfl, (blk_cell BK1890.out 2).trans rfl, (blk_cell BK1890.out 3).trans rfl, (blk_cell BK1890.out 4).trans rfl, (blk_cell BK1890.out 5).trans rfl⟩ (fun hHeld => ?_); refine with_tabW spec_l05Twice.tab1 spec_l05Twice.bits1 (fun HT_ HW_ => ?_)
 generalize w5.drew = w6 at BK1890 BK1891 HB hHeld ⊢
 refine pure_ (i := 0) (N := some 3) (v := ?_) (a' := ?_) #[true, false, false, false, false, false, false, false, false] rfl rfl (any_of HT_.out (by kernel_rfl)) (fun _ _ _ h => h) (Or.inl ⟨by rfl, ?_⟩) ?_ ?_
 rotate_left
 ·intro w'
  go_simp
  with_reducible rfl
 rotate_left
 ·simp only [Act.put, List.setIfInBounds_toArray, List.set_cons_zero, List.set_cons_succ, i64_w, i32_w]
  rfl
 refine pure_ (i := 2) (N := some 5) (v := ?_) (a' := ?_) #[true, false, true, false, false, false, false, false, false] rfl rfl (any_of HT_.out (by kernel_rfl)) (fun _ _ _ h => h) (Or.inl ⟨by rfl, ?_⟩) ?_ ?_
 rotate_left
 ·intro w'
  go_simp
  with_reducible rfl
 rotate_left
 ·simp only [Act.put, List.setIfInBounds_toArray, List.set_cons_zero, List.set_cons_succ, i64_w, i32_w]
  rfl
 refine pure_ (i := 5) (N := some 8) (v := ?_) (a' := ?_) #[true, false, true, false, false, true, false, false, false] rfl rfl (any_of HT_.out (by kernel_rfl)) (fun _ _ _ h => h) (Or.inl ⟨by rfl, ?_⟩) ?_ ?_
 rotate_left
 ·intro w'
  go_simp
  with_reducible rfl
 rotate_left
 ·simp only [Act.put, List.setIfInBounds_toArray, List.set_cons_zero, List.set_cons_succ, i64_w, i32_w]
  rfl
 refine take_ (i := 1) (N := some 4) (v := ?_) (a' := ?_) #[true, true, true, false, false, true, false, false, false] rfl rfl (take_ofW HT_.out HW_.out (by kernel_rfl)) (fun _ _ _ h => h) (Or.inl ⟨by rfl, ?_⟩) hHeld ?_ ?_
 rotate_left
 ·rintro w' ⟨s0, s1, s2, s3, s4, s5⟩
  go_simp
  with_reducible rfl
 rotate_left
 ·simp only [Act.put, List.setIfInBounds_toArray, List.set_cons_zero, List.set_cons_succ, i64_w, i32_w]
  rfl
 refine take_ (i := 3) (N := some 6) (v := ?_) (a' := ?_) #[true, true, true, true, false, true, false, false, false] rfl rfl (take_ofW HT_.out HW_.out (by kernel_rfl)) (fun _ _ _ h => h) (Or.inl ⟨by rfl, ?_⟩) hHeld ?_ ?_
 rotate_left
 ·rintro w' ⟨s0, s1, s2, s3, s4, s5⟩
  go_simp
  with_reducible rfl
 rotate_left
 ·simp only [Act.put, List.setIfInBounds_toArray, List.set_cons_zero, List.set_cons_succ, i64_w, i32_w]
  rfl
 refine take_ (i := 6) (N := some 9) (v := ?_) (a' := ?_) #[true, true, true, true, false, true, true, false, false] rfl rfl (take_ofW HT_.out HW_.out (by kernel_rfl)) (fun _ _ _ h => h) (Or.inl ⟨by rfl, ?_⟩) hHeld ?_ ?_
 rotate_left
 ·rintro w' ⟨s0, s1, s2, s3, s4, s5⟩
  go_simp
  with_reducible rfl
 rotate_left
 ·simp only [Act.put, List.setIfInBounds_toArray, List.set_cons_zero, List.set_cons_succ, i64_w, i32_w]
  rfl
 refine one_ (i := 4) (N := some 7) #[true, true, true, true, true, true, true, false, false] rfl rfl (one_of HT_.out (by kernel_rfl)) (by decide) (fun K hK => ?_)
 refine goes_ Try.func155 (by kernel_rfl) rfl #[.agg #[.int .i64 a0_0, .int .i64 a0_1, .int .i64 a0_2, .int .i64 a0_3], .agg #[.int .i64 a0_4, .int .i64 a0_5]] (by rfl) rfl rfl (by first|rfl|(simp only [List.map_toArray, List.map_cons, List.map_nil]; try rfl)) ?_
 with_reducible refine (spec_l02Apply.calls a0_0 a0_1 a0_2 a0_3 a0_4 a0_5 t1892 t1893 _ A2.out).mono ?_
 rintro e w7 ⟨rfl, hb⟩
 refine ⟨_, rfl, ?_⟩
 have n0_ := aM (blk_below (g := gb1890) (o := .cells #[.int .i64 a0_0, .int .i64 a0_1, .int .i64 a0_2, .int .i64 a0_3, .int .i64 a0_4, .int .i64 a0_5] 84 (0, 0)) (by (with_reducible repeat (first|apply kN|apply kD|apply kA)); exact BK1890.out) hb)
 have n1_ := aM (blk_below (g := gb1891) (o := .cells #[.int .i64 0, .int .i64 0] 25 (0, 0)) (by (with_reducible repeat (first|apply kN|apply kD|apply kA)); exact BK1891.out) hb)
 have n2_ := aM (below_step (by repeat (first | (with_reducible first | exact HB.out | apply bA|apply bN|apply b1 | refine below_set ?_ (Aside0.out (by assumption))) | exact HB.out)) hb)
 clear BK1890
 clear BK1891
 clear HB
 have BK1890 := n0_
 have BK1891 := n1_
 have HB := n2_
 clear n0_ n1_ n2_
 (try clear hb)
 (try clear hb2)
 (try clear hk)
 (try clear hi)
 refine hK.out _ _ ⟨(blk_cell BK1890.out 0).trans rfl, (blk_cell BK1890.out 1).trans rfl, (blk_cell BK1890.out 2).trans rfl, (blk_cell BK1890.out 3).trans rfl, (blk_cell BK1890.out 4).trans rfl, (blk_cell BK1890.out 5).trans rfl⟩ (fun hHeld => ?_)
 clear hK K
 refine norm_ (a' := ?_) ?_ ?_
 rotate_left
 ·show Act.put _ (some 7) _ = _
  simp only [Act.put, List.setIfInBounds_toArray, List.set_cons_zero, List.set_cons_succ, i64_w, i32_w]
  rfl
 refine one_ (i := 7) (N := some 10) #[true, true, true, true, true, true, true, true, false] rfl rfl (one_of HT_.out (by kernel_rfl)) (by decide) (fun K hK => ?_)
 refine goes_ Try.func135 (by kernel_rfl) rfl #[.agg #[.int .i64 t1892, .int .i64 t1893], .agg #[.int .i64 a0_4, .int .i64 a0_5]] (by rfl) rfl rfl (by first|rfl|(simp only [List.map_toArray, List.map_cons, List.map_nil]; try rfl)) ?_
 with_reducible refine (spec_l01Add.calls t1892 t1893 a0_4 a0_5 t1894 t1895 _ A3.out).mono ?_
 rintro e w8 ⟨rfl, hb⟩
 refine ⟨_, rfl, ?_⟩
 have n0_ := aM (blk_below (g := gb1890) (o := .cells #[.int .i64 a0_0, .int .i64 a0_1, .int .i64 a0_2, .int .i64 a0_3, .int .i64 a0_4, .int .i64 a0_5] 84 (0, 0)) (by (with_reducible repeat (first|apply kN|apply kD|apply kA)); exact BK1890.out) hb)
 have n1_ := aM (blk_below (g := gb1891) (o := .cells #[.int .i64 0, .int .i64 0] 25 (0, 0)) (by (with_reducible repeat (first|apply kN|apply kD|apply kA)); exact BK1891.out) hb)
 have n2_ := aM (below_step (by repeat (first | (with_reducible first | exact HB.out | apply bA|apply bN|apply b1 | refine below_set ?_ (Aside0.out (by assumption))) | exact HB.out)) hb)
 clear BK1890
 clear BK1891
 clear HB
 have BK1890 := n0_
 have BK1891 := n1_
 have HB := n2_
 clear n0_ n1_ n2_
 (try clear hb)
 (try clear hb2)
 (try clear hk)
 (try clear hi)
 refine hK.out _ _ ⟨(blk_cell BK1890.out 0).trans rfl, (blk_cell BK1890.out 1).trans rfl, (blk_cell BK1890.out 2).trans rfl, (blk_cell BK1890.out 3).trans rfl, (blk_cell BK1890.out 4).trans rfl, (blk_cell BK1890.out 5).trans rfl⟩ (fun hHeld => ?_)
 clear hK K
 refine norm_ (a' := ?_) ?_ ?_
 rotate_left
 ·show Act.put _ (some 10) _ = _
  simp only [Act.put, List.setIfInBounds_toArray, List.set_cons_zero, List.set_cons_succ, i64_w, i32_w]
  rfl
 refine one_ (i := 8) (N := none) #[true, true, true, true, true, true, true, true, true] rfl rfl (one_of HT_.out (by kernel_rfl)) (by decide) (fun K hK => ?_)
 have hs9 : w8.cell? ⟨gb1891, 0, none⟩ = some (.int .i64 0) := (blk_cell BK1891.out 0).trans rfl
 have hfs9 := blk_frozen BK1891.out 0
 have hns9_0 := NB1890_1891.out
 have hms9_0 := NB1891_1890.out
 have hs10 : w8.cell? ⟨gb1891, 1, none⟩ = some (.int .i64 0) := (blk_cell BK1891.out 1).trans rfl
 have hfs10 := blk_frozen BK1891.out 1
 have hns10_0 := NB1890_1891.out
 have hms10_0 := NB1891_1890.out
 refine skip_ (w1 := ?_) (by rfl) rfl ?_ ?_
 rotate_left
 ·go_simp
  rfl
 refine hK.out _ _ ⟨((cell_far (p := ⟨gb1891, _, none⟩) NB1890_1891.out _).trans (((cell_far (p := ⟨gb1891, _, none⟩) NB1890_1891.out _).trans (hHeld.1)))), ((cell_far (p := ⟨gb1891, _, none⟩) NB1890_1891.out _).trans (((cell_far (p := ⟨gb1891, _, none⟩) NB1890_1891.out _).trans (hHeld.2.1)))), ((cell_far (p := ⟨gb1891, _, none⟩) NB1890_1891.out _).trans (((cell_far (p := ⟨gb1891, _, none⟩) NB1890_1891.out _).trans (hHeld.2.2.1)))), ((cell_far (p := ⟨gb1891, _, none⟩) NB1890_1891.out _).trans (((cell_far (p := ⟨gb1891, _, none⟩) NB1890_1891.out _).trans (hHeld.2.2.2.1)))), ((cell_far (p := ⟨gb1891, _, none⟩) NB1890_1891.out _).trans (((cell_far (p := ⟨gb1891, _, none⟩) NB1890_1891.out _).trans (hHeld.2.2.2.2.1)))), ((cell_far (p := ⟨gb1891, _, none⟩) NB1890_1891.out _).trans (((cell_far (p := ⟨gb1891, _, none⟩) NB1890_1891.out _).trans (hHeld.2.2.2.2.2))))⟩ (fun hHeld => ?_)
 clear hK K
 refine done_ (done_of HT_.out (by kernel_rfl)) ?_
 try go_wp2
 refine bodyPost_ret (results_cell_row rfl _ _ gb1891 25 #[.int .i64 t1894, .int .i64 t1895] (0, 0) _ rfl (by (with_reducible repeat (first|apply kN|apply kD|apply kA)); refine blk_put (cs := #[.int .i64 t1894, .int .i64 0]) ?_ 1 _ rfl; (with_reducible repeat (first|apply kN|apply kD|apply kA)); refine blk_put (cs := #[.int .i64 0, .int .i64 0]) ?_ 0 _ rfl; (with_reducible repeat (first|apply kN|apply kD|apply kA)); exact BK1891.out) Try.underlying25 rfl (by kernel_rfl)) rfl ?_
 exact ⟨by first|rfl|(simp [*, errW_none, errW_some] <;> rfl), by repeat (first | (with_reducible first | exact HB.out | apply bA|apply bN|apply b1 | refine below_set ?_ (Aside0.out (by assumption))) | exact HB.out)⟩

end Go.Proofs.Ytjjbjaagfjljnaa.F

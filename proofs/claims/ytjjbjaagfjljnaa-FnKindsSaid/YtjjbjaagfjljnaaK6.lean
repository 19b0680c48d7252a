import Derived.Test.YtjjbjaagfjljnaaK0
import Derived.Test.YtjjbjaagfjljnaaK2
import Derived.Test.YtjjbjaagfjljnaaK5
namespace Go.Proofs.Ytjjbjaagfjljnaa.F
open Go.RowKit Go.Proofs.YtjjbjaagfjljnaaW.PrintWords Go.Proofs.YtjjbjaagfjljnaaW.PrintLast Go.Proofs.YtjjbjaagfjljnaaW.PrintMore
attribute [local go_sem] max2_int min2_int max_two min_two max_three min_three max_four min_four   -- for this text's walks alone
set_option linter.unusedVariables false
set_option linter.unusedSimpArgs false
attribute [local go_sem high] eqA51

mutual
def impl_Mat_order.j0 : Nat → Int → Bool → Int → Int → Int → Int → Option (Int)
 | 0, _, _, _, _, _, _ => none
 | k + 1, x3, x13, x822000, x822001, x822002, x822003 => if x13 = true then (impl_Mat_order.j1 k x3 x13 x822000 x822001 x822002 x822003) else (impl_Mat_order.j1 k x3 (x822000 == (-1) && (x822001 == 0 && (x822002 == 0 && (x822003 == (-1))))) x822000 x822001 x822002 x822003)
def impl_Mat_order.j1 : Nat → Int → Bool → Int → Int → Int → Int → Option (Int)
 | 0, _, _, _, _, _, _ => none
 | k + 1, x3, x13, x822000, x822001, x822002, x822003 => if x13 = true then (some 2) else ((impl_Mat_det.f x822000 x822001 x822002 x822003).bind fun t827 => (if t827 = 1 then (impl_Mat_order.j2 k x3 (x3 == (-1)) x822000 x822001 x822002 x822003) else (impl_Mat_order.j2 k x3 false x822000 x822001 x822002 x822003)))
def impl_Mat_order.j2 : Nat → Int → Bool → Int → Int → Int → Int → Option (Int)
 | 0, _, _, _, _, _, _ => none
 | k + 1, x3, x24, x822000, x822001, x822002, x822003 => if x24 = true then (some 3) else ((impl_Mat_det.f x822000 x822001 x822002 x822003).bind fun t828 => (if t828 = 1 then (impl_Mat_order.j3 k x3 (x3 == 0) x822000 x822001 x822002 x822003) else (impl_Mat_order.j3 k x3 false x822000 x822001 x822002 x822003)))
def impl_Mat_order.j3 : Nat → Int → Bool → Int → Int → Int → Int → Option (Int)
 | 0, _, _, _, _, _, _ => none
 | k + 1, x3, x32, x822000, x822001, x822002, x822003 => if x32 = true then (some 4) else ((impl_Mat_det.f x822000 x822001 x822002 x822003).bind fun t829 => (if t829 = 1 then (if x3 = 1 then (some 6) else (some 0)) else (some 0)))
end
def impl_Mat_order.f (k : Nat) (a0_0 : Int) (a0_1 : Int) (a0_2 : Int) (a0_3 : Int) : Option (Int) := (impl_unit.f).bind fun bt822 => (if (a0_0 == bt822.1 && (a0_1 == bt822.2.1 && (a0_2 == bt822.2.2.1 && (a0_3 == bt822.2.2.2)))) = true then (some 1) else ((impl_Mat_det.f a0_0 a0_1 a0_2 a0_3).bind fun t826 => (if t826 = (-1) then (impl_Mat_order.j0 k (wrap64 (a0_0 + a0_3)) ((wrap64 (a0_0 + a0_3)) == 0) a0_0 a0_1 a0_2 a0_3) else (impl_Mat_order.j0 k (wrap64 (a0_0 + a0_3)) false a0_0 a0_1 a0_2 a0_3))))
set_option maxHeartbeats 40000000 in
set_option maxRecDepth 100000 in
theorem impl_Mat_order.calls (k : Nat) (a0_0 : Int) (a0_1 : Int) (a0_2 : Int) (a0_3 : Int) (r : Int) (w : World) (h : impl_Mat_order.f k a0_0 a0_1 a0_2 a0_3 = some r) :
  Calls Try.prog 159 #[.agg #[.int .i64 a0_0, .int .i64 a0_1, .int .i64 a0_2, .int .i64 a0_3]] w fun e w' => e = .returned (.int .i64 r) ∧ Below w.heap.size w w' := by
 have hu51 := Try.underlying51
 have HB := aM (Below.refl w.heap.size w)
 have H : ((impl_unit.f).bind fun bt822 => (if (a0_0 == bt822.1 && (a0_1 == bt822.2.1 && (a0_2 == bt822.2.2.1 && (a0_3 == bt822.2.2.2)))) = true then (some 1) else ((impl_Mat_det.f a0_0 a0_1 a0_2 a0_3).bind fun t826 => (if t826 = (-1) then (impl_Mat_order.j0 k (wrap64 (a0_0 + a0_3)) ((wrap64 (a0_0 + a0_3)) == 0) a0_0 a0_1 a0_2 a0_3) else (impl_Mat_order.j0 k (wrap64 (a0_0 + a0_3)) false a0_0 a0_1 a0_2 a0_3))))) = some r := h
 clear h
 replace H := Option.bind_eq_some_iff.mp H
 obtain ⟨⟨t822, t823, t824, t825⟩, A20, H⟩ := H
 try dsimp only at H
 have A2 := aM A20
 clear A20
 by_cases c3 : (a0_0 == t822 && (a0_1 == t823 && (a0_2 == t824 && (a0_3 == t825)))) = true
 ·rw [if_pos c3] at H
  have c3b0 : (a0_0 == t822 && (a0_1 == t823 && (a0_2 == t824 && (a0_3 == t825)))) = true := c3
  (try (have c3b1 : decide (a0_0 = t822 && (a0_1 == t823 && (a0_2 == t824 && (a0_3 == t825)))) = true := by simpa using c3))
  (try (have c3b2 : (a0_0 == t822 && (a0_1 == t823 && (a0_2 == t824 && (a0_3 == t825)))) = true := by simpa using c3))
  clear c3
  obtain rfl := Option.some.inj H
  go_enter Try.func159, Try.ntmps159
  try go_wp2_with (first | ((with_reducible refine gate_dst (N := 1) rfl ?_); refine box_event ?hg (N := 1) ?hd (cs := #[.int .i64 a0_0, .int .i64 a0_1, .int .i64 a0_2, .int .i64 a0_3]) (t := 51) ?hr ?_; (case hd => rfl); (case hg => rfl); (case hr => first | (go_simp; done) | (go_simp; rfl)); intro gb821 hg w4 hbox hb; have n0_ := aM (below_step (by repeat (first | (with_reducible first | exact HB.out | apply bA|apply bN|apply b1) | exact HB.out)) hb); have n1_ := aM (hbox); have n2_ := aM ((by rw [hg]; exact (below_size (by repeat (first | (with_reducible first | exact HB.out | apply bA|apply bN|apply b1) | exact HB.out))) : w.heap.size ≤ gb821)); have n3_ := aM ((by rw [hg]; exact (below_size (by repeat (first | (with_reducible first | exact HB.out | apply bA|apply bN|apply b1) | exact HB.out))) : w.heap.size ≤ gb821)); clear HB; have HB := n0_; have BK821 := n1_; have GW821 := n2_; have GE821 := n3_; clear n0_ n1_ n2_ n3_; clear hb hbox hg; have hcz5_0 : w4.cell? ⟨gb821, 0, none⟩ = some (.int .i64 a0_0) := (blk_cell BK821.out 0).trans rfl; have hcz5_1 : w4.cell? ⟨gb821, 1, none⟩ = some (.int .i64 a0_1) := (blk_cell BK821.out 1).trans rfl; have hcz5_2 : w4.cell? ⟨gb821, 2, none⟩ = some (.int .i64 a0_2) := (blk_cell BK821.out 2).trans rfl; have hcz5_3 : w4.cell? ⟨gb821, 3, none⟩ = some (.int .i64 a0_3) := (blk_cell BK821.out 3).trans rfl; have hfz5_0 := blk_frozen BK821.out 0; have hfz5_1 := blk_frozen BK821.out 1; have hfz5_2 := blk_frozen BK821.out 2; have hfz5_3 := blk_frozen BK821.out 3))
  have n0_ := aM (blk_drew BK821.out)
  have n1_ := aM (below_drew1 HB.out)
  clear BK821
  clear HB
  have BK821 := n0_
  have HB := n1_
  clear n0_ n1_
  refine start_ (n := 4) (S := fun w' => w'.cell? ⟨gb821, 0, none⟩ = some (.int .i64 a0_0) ∧ w'.cell? ⟨gb821, 1, none⟩ = some (.int .i64 a0_1) ∧ w'.cell? ⟨gb821, 2, none⟩ = some (.int .i64 a0_2) ∧ w'.cell? ⟨gb821, 3, none⟩ = some (.int .i64 a0_3)) (ds := []) #[false, false, false, false] (by kernel_rfl) rfl rfl ⟨(blk_cell BK821.out 0).trans rfl, (blk_cell BK821.out 1).trans rfl, (blk_cell BK821.out 2).trans rfl, (blk_cell BK821.out 3).trans rfl⟩ (fun hHeld => ?_)
  generalize w4.drew = w6 at BK821 HB hHeld ⊢
  refine take_ (i := 0) (N := some 10) (v := ?_) (a' := ?_) #[true, false, false, false] rfl rfl (by kernel_rfl) (fun _ _ _ h => h) (Or.inl ⟨by rfl, ?_⟩) hHeld ?_ ?_
  rotate_left
  ·rintro w' ⟨s0, s1, s2, s3⟩
   go_simp
   with_reducible rfl
  rotate_left
  ·simp only [Act.put, List.setIfInBounds_toArray, List.set_cons_zero, List.set_cons_succ, i64_w, i32_w]
   rfl
  refine one_ (i := 1) (N := some 11) #[true, true, false, false] rfl rfl (by kernel_rfl) (by decide) (fun K hK => ?_)
  refine goes_ Try.func161 (by kernel_rfl) rfl #[] (by rfl) rfl rfl (by first|rfl|(simp only [List.map_toArray, List.map_cons, List.map_nil]; try rfl)) ?_
  with_reducible refine (impl_unit.calls  t822 t823 t824 t825 _ A2.out).mono ?_
  rintro e w7 ⟨rfl, hb⟩
  refine ⟨_, rfl, ?_⟩
  have n0_ := aM (blk_below (g := gb821) (o := .cells #[.int .i64 a0_0, .int .i64 a0_1, .int .i64 a0_2, .int .i64 a0_3] 51 (0, 0)) (by (with_reducible repeat (first|apply kN|apply kD|apply kA)); exact BK821.out) hb)
  have n1_ := aM (below_step (by repeat (first | (with_reducible first | exact HB.out | apply bA|apply bN|apply b1 | refine below_set ?_ GE821.out) | exact HB.out)) hb)
  clear BK821
  clear HB
  have BK821 := n0_
  have HB := n1_
  clear n0_ n1_
  (try clear hb)
  (try clear hb2)
  (try clear hk)
  (try clear hi)
  refine hK.out _ _ ⟨(blk_cell BK821.out 0).trans rfl, (blk_cell BK821.out 1).trans rfl, (blk_cell BK821.out 2).trans rfl, (blk_cell BK821.out 3).trans rfl⟩ (fun hHeld => ?_)
  clear hK K
  refine norm_ (a' := ?_) ?_ ?_
  rotate_left
  ·show Act.put _ (some 11) _ = _
   simp only [Act.put, List.setIfInBounds_toArray, List.set_cons_zero, List.set_cons_succ, i64_w, i32_w]
   rfl
  refine pure_ (i := 2) (N := some 12) (v := ?_) (a' := ?_) #[true, true, true, false] rfl rfl (by kernel_rfl) (fun _ _ _ h => h) (Or.inl ⟨by rfl, ?_⟩) ?_ ?_
  rotate_left
  ·intro w'
   go_simp
   with_reducible rfl
  rotate_left
  ·simp only [Act.put, List.setIfInBounds_toArray, List.set_cons_zero, List.set_cons_succ, i64_w, i32_w]
   rfl
  refine pure_ (i := 3) (N := some 9) (v := ?_) (a' := ?_) #[true, true, true, true] rfl rfl (by kernel_rfl) (fun _ _ _ h => h) (Or.inl ⟨by rfl, ?_⟩) ?_ ?_
  rotate_left
  ·intro w'
   go_simp
   with_reducible rfl
  rotate_left
  ·simp only [Act.put, List.setIfInBounds_toArray, List.set_cons_zero, List.set_cons_succ, i64_w, i32_w]
   rfl
  refine done_ (by kernel_rfl) ?_
  try go_wp2
  go_ret
  exact ⟨by first|rfl|(simp [*, errW_none, errW_some] <;> rfl), by repeat (first | (with_reducible first | exact HB.out | apply bA|apply bN|apply b1 | refine below_set ?_ GE821.out) | exact HB.out)⟩
 ·rw [if_neg c3] at H
  have c3b0 : (a0_0 == t822 && (a0_1 == t823 && (a0_2 == t824 && (a0_3 == t825)))) = false := by simpa using c3
  (try (have c3b1 : decide (a0_0 = t822 && (a0_1 == t823 && (a0_2 == t824 && (a0_3 == t825)))) = false := by simpa using c3))
  (try (have c3b2 : (a0_0 == t822 && (a0_1 == t823 && (a0_2 == t824 && (a0_3 == t825)))) = false := by simpa using c3))
  (try (have c3b3 : ¬ (a0_0 = t822 && (a0_1 == t823 && (a0_2 == t824 && (a0_3 == t825)))) := by simpa using c3))
  clear c3
  have HC8 := aM H
  clear H
  go_enter Try.func159, Try.ntmps159
  try go_wp2_with (first | ((with_reducible refine gate_dst (N := 1) rfl ?_); refine box_event ?hg (N := 1) ?hd (cs := #[.int .i64 a0_0, .int .i64 a0_1, .int .i64 a0_2, .int .i64 a0_3]) (t := 51) ?hr ?_; (case hd => rfl); (case hg => rfl); (case hr => first | (go_simp; done) | (go_simp; rfl)); intro gb821 hg w9 hbox hb; have n0_ := aM (below_step (by repeat (first | (with_reducible first | exact HB.out | apply bA|apply bN|apply b1) | exact HB.out)) hb); have n1_ := aM (hbox); have n2_ := aM ((by rw [hg]; exact (below_size (by repeat (first | (with_reducible first | exact HB.out | apply bA|apply bN|apply b1) | exact HB.out))) : w.heap.size ≤ gb821)); have n3_ := aM ((by rw [hg]; exact (below_size (by repeat (first | (with_reducible first | exact HB.out | apply bA|apply bN|apply b1) | exact HB.out))) : w.heap.size ≤ gb821)); clear HB; have HB := n0_; have BK821 := n1_; have GW821 := n2_; have GE821 := n3_; clear n0_ n1_ n2_ n3_; clear hb hbox hg; have hcz10_0 : w9.cell? ⟨gb821, 0, none⟩ = some (.int .i64 a0_0) := (blk_cell BK821.out 0).trans rfl; have hcz10_1 : w9.cell? ⟨gb821, 1, none⟩ = some (.int .i64 a0_1) := (blk_cell BK821.out 1).trans rfl; have hcz10_2 : w9.cell? ⟨gb821, 2, none⟩ = some (.int .i64 a0_2) := (blk_cell BK821.out 2).trans rfl; have hcz10_3 : w9.cell? ⟨gb821, 3, none⟩ = some (.int .i64 a0_3) := (blk_cell BK821.out 3).trans rfl; have hfz10_0 := blk_frozen BK821.out 0; have hfz10_1 := blk_frozen BK821.out 1; have hfz10_2 := blk_frozen BK821.out 2; have hfz10_3 := blk_frozen BK821.out 3))
  have n0_ := aM (blk_drew BK821.out)
  have n1_ := aM (below_drew1 HB.out)
  clear BK821
  clear HB
  have BK821 := n0_
  have HB := n1_
  clear n0_ n1_
  refine start_ (n := 4) (S := fun w' => w'.cell? ⟨gb821, 0, none⟩ = some (.int .i64 a0_0) ∧ w'.cell? ⟨gb821, 1, none⟩ = some (.int .i64 a0_1) ∧ w'.cell? ⟨gb821, 2, none⟩ = some (.int .i64 a0_2) ∧ w'.cell? ⟨gb821, 3, none⟩ = some (.int .i64 a0_3)) (ds := []) #[false, false, false, false] (by kernel_rfl) rfl rfl ⟨(blk_cell BK821.out 0).trans rfl, (blk_cell BK821.out 1).trans rfl, (blk_cell BK821.out 2).trans rfl, (blk_cell BK821.out 3).trans rfl⟩ (fun hHeld => ?_)
  generalize w9.drew = w11 at BK821 HB hHeld ⊢
  refine take_ (i := 0) (N := some 10) (v := ?_) (a' := ?_) #[true, false, false, false] rfl rfl (by kernel_rfl) (fun _ _ _ h => h) (Or.inl ⟨by rfl, ?_⟩) hHeld ?_ ?_
  rotate_left
  ·rintro w' ⟨s0, s1, s2, s3⟩
   go_simp
   with_reducible rfl
  rotate_left
  ·simp only [Act.put, List.setIfInBounds_toArray, List.set_cons_zero, List.set_cons_succ, i64_w, i32_w]
   rfl
  refine one_ (i := 1) (N := some 11) #[true, true, false, false] rfl rfl (by kernel_rfl) (by decide) (fun K hK => ?_)
  refine goes_ Try.func161 (by kernel_rfl) rfl #[] (by rfl) rfl rfl (by first|rfl|(simp only [List.map_toArray, List.map_cons, List.map_nil]; try rfl)) ?_
  with_reducible refine (impl_unit.calls  t822 t823 t824 t825 _ A2.out).mono ?_
  rintro e w12 ⟨rfl, hb⟩
  refine ⟨_, rfl, ?_⟩
  have n0_ := aM (blk_below (g := gb821) (o := .cells #[.int .i64 a0_0, .int .i64 a0_1, .int .i64 a0_2, .int .i64 a0_3] 51 (0, 0)) (by (with_reducible repeat (first|apply kN|apply kD|apply kA)); exact BK821.out) hb)
  have n1_ := aM (below_step (by repeat (first | (with_reducible first | exact HB.out | apply bA|apply bN|apply b1 | refine below_set ?_ GE821.out) | exact HB.out)) hb)
  clear BK821
  clear HB
  have BK821 := n0_
  have HB := n1_
  clear n0_ n1_
  (try clear hb)
  (try clear hb2)
  (try clear hk)
  (try clear hi)
  refine hK.out _ _ ⟨(blk_cell BK821.out 0).trans rfl, (blk_cell BK821.out 1).trans rfl, (blk_cell BK821.out 2).trans rfl, (blk_cell BK821.out 3).trans rfl⟩ (fun hHeld => ?_)
  clear hK K
  refine norm_ (a' := ?_) ?_ ?_
  rotate_left
  ·show Act.put _ (some 11) _ = _
   simp only [Act.put, List.setIfInBounds_toArray, List.set_cons_zero, List.set_cons_succ, i64_w, i32_w]
   rfl
  refine pure_ (i := 2) (N := some 12) (v := ?_) (a' := ?_) #[true, true, true, false] rfl rfl (by kernel_rfl) (fun _ _ _ h => h) (Or.inl ⟨by rfl, ?_⟩) ?_ ?_
  rotate_left
  ·intro w'
   go_simp
   with_reducible rfl
  rotate_left
  ·simp only [Act.put, List.setIfInBounds_toArray, List.set_cons_zero, List.set_cons_succ, i64_w, i32_w]
   rfl
  refine pure_ (i := 3) (N := some 9) (v := ?_) (a' := ?_) #[true, true, true, true] rfl rfl (by kernel_rfl) (fun _ _ _ h => h) (Or.inl ⟨by rfl, ?_⟩) ?_ ?_
  rotate_left
  ·intro w'
   go_simp
   with_reducible rfl
  rotate_left
  ·simp only [Act.put, List.setIfInBounds_toArray, List.set_cons_zero, List.set_cons_succ, i64_w, i32_w]
   rfl
  refine done_ (by kernel_rfl) ?_
  go_upto_region 4 with (fail)
  go_cut [13] (fun v13 wc => ∃ (kq : Nat) (x13_7 : Bool), v13 = .bool x13_7 ∧ Aside0 (impl_Mat_order.j0 kq (wrap64 (a0_0 + a0_3)) x13_7 a0_0 a0_1 a0_2 a0_3 = some r) ∧ Aside0 (kq ≤ k) ∧ Aside0 (wc.heap[gb821]? = some (.cells #[.int .i64 a0_0, .int .i64 a0_1, .int .i64 a0_2, .int .i64 a0_3] 51 (0, 0))) ∧ Aside0 (Below w.heap.size w wc))
  case first =>
   have H := HC8.out
   clear HC8
   replace H := Option.bind_eq_some_iff.mp H
   obtain ⟨t826, A130, H⟩ := H
   try dsimp only at H
   have A13 := aM A130
   clear A130
   by_cases c14 : t826 = (-1)
   ·rw [if_pos c14] at H
    have c14b0 : (t826 == (-1)) = true := beq_iff_eq.mpr c14
    have c14b1 : (t826 != (-1)) = false := bne_eq_false_iff_eq.mpr c14
    clear c14
    (first | rw [c14b0] | (simp only [i64_w, i32_w]; rw [c14b0]) | skip)
    have H' := aM H
    clear H
    have hcz15_0 : w12.cell? ⟨gb821, 0, none⟩ = some (.int .i64 a0_0) := (blk_cell BK821.out 0).trans rfl
    have hcz15_1 : w12.cell? ⟨gb821, 1, none⟩ = some (.int .i64 a0_1) := (blk_cell BK821.out 1).trans rfl
    have hcz15_2 : w12.cell? ⟨gb821, 2, none⟩ = some (.int .i64 a0_2) := (blk_cell BK821.out 2).trans rfl
    have hcz15_3 : w12.cell? ⟨gb821, 3, none⟩ = some (.int .i64 a0_3) := (blk_cell BK821.out 3).trans rfl
    have hfz15_0 := blk_frozen BK821.out 0
    have hfz15_1 := blk_frozen BK821.out 1
    have hfz15_2 := blk_frozen BK821.out 2
    have hfz15_3 := blk_frozen BK821.out 3
    go_wp2_with (first | ((with_reducible refine gate_callee (f := 156) rfl ?_); refine goesL_ (some 15) rfl rfl Try.func156 (by kernel_rfl) rfl #[.agg #[.int .i64 a0_0, .int .i64 a0_1, .int .i64 a0_2, .int .i64 a0_3]] rfl (by first|rfl|(simp only [List.map_toArray, List.map_cons, List.map_nil]; try rfl)) ?_; (with_reducible refine (impl_Mat_det.calls a0_0 a0_1 a0_2 a0_3 t826 _ A13.out).mono ?_); rintro e w16 ⟨rfl, hb⟩; refine ⟨_, rfl, ?_⟩; have n0_ := aM (blk_below (g := gb821) (o := .cells #[.int .i64 a0_0, .int .i64 a0_1, .int .i64 a0_2, .int .i64 a0_3] 51 (0, 0)) (by (with_reducible repeat (first|apply kN|apply kD|apply kA)); exact BK821.out) hb); have n1_ := aM (below_step (by repeat (first | (with_reducible first | exact HB.out | apply bA|apply bN|apply b1 | refine below_set ?_ GE821.out) | exact HB.out)) hb); clear BK821; clear HB; have BK821 := n0_; have HB := n1_; clear n0_ n1_; (try clear hb)))
    go_meet
    case rel => exact ⟨_, (((wrap64 (a0_0 + a0_3)) == 0)), (by first | rfl | (simp; done) | (simp [*]; done)), H', ⟨by first | omega | exact Nat.le_refl _⟩, ⟨by (with_reducible repeat (first|apply kN|apply kD|apply kA)); exact BK821.out⟩, ⟨by repeat (first | (with_reducible first | exact HB.out | apply bA|apply bN|apply b1 | refine below_set ?_ GE821.out) | exact HB.out)⟩⟩
   ·rw [if_neg c14] at H
    have c14b0 : (t826 == (-1)) = false := beq_eq_false_iff_ne.mpr c14
    have c14b1 : (t826 != (-1)) = true := bne_iff_ne.mpr c14
    (first | rw [c14b0] | (simp only [i64_w, i32_w]; rw [c14b0]) | skip)
    have H' := aM H
    clear H
    have hcz17_0 : w12.cell? ⟨gb821, 0, none⟩ = some (.int .i64 a0_0) := (blk_cell BK821.out 0).trans rfl
    have hcz17_1 : w12.cell? ⟨gb821, 1, none⟩ = some (.int .i64 a0_1) := (blk_cell BK821.out 1).trans rfl
    have hcz17_2 : w12.cell? ⟨gb821, 2, none⟩ = some (.int .i64 a0_2) := (blk_cell BK821.out 2).trans rfl
    have hcz17_3 : w12.cell? ⟨gb821, 3, none⟩ = some (.int .i64 a0_3) := (blk_cell BK821.out 3).trans rfl
    have hfz17_0 := blk_frozen BK821.out 0
    have hfz17_1 := blk_frozen BK821.out 1
    have hfz17_2 := blk_frozen BK821.out 2
    have hfz17_3 := blk_frozen BK821.out 3
    go_wp2_with (first | ((with_reducible refine gate_callee (f := 156) rfl ?_); refine goesL_ (some 15) rfl rfl Try.func156 (by kernel_rfl) rfl #[.agg #[.int .i64 a0_0, .int .i64 a0_1, .int .i64 a0_2, .int .i64 a0_3]] rfl (by first|rfl|(simp only [List.map_toArray, List.map_cons, List.map_nil]; try rfl)) ?_; (with_reducible refine (impl_Mat_det.calls a0_0 a0_1 a0_2 a0_3 t826 _ A13.out).mono ?_); rintro e w18 ⟨rfl, hb⟩; refine ⟨_, rfl, ?_⟩; have n0_ := aM (blk_below (g := gb821) (o := .cells #[.int .i64 a0_0, .int .i64 a0_1, .int .i64 a0_2, .int .i64 a0_3] 51 (0, 0)) (by (with_reducible repeat (first|apply kN|apply kD|apply kA)); exact BK821.out) hb); have n1_ := aM (below_step (by repeat (first | (with_reducible first | exact HB.out | apply bA|apply bN|apply b1 | refine below_set ?_ GE821.out) | exact HB.out)) hb); clear BK821; clear HB; have BK821 := n0_; have HB := n1_; clear n0_ n1_; (try clear hb)))
    go_meet
    case rel => exact ⟨_, (false), (by first | rfl | (simp; done) | (simp [*]; done)), H', ⟨by first | omega | exact Nat.le_refl _⟩, ⟨by (with_reducible repeat (first|apply kN|apply kD|apply kA)); exact BK821.out⟩, ⟨by repeat (first | (with_reducible first | exact HB.out | apply bA|apply bN|apply b1 | refine below_set ?_ GE821.out) | exact HB.out)⟩⟩
  case rest =>
   clear HC8
   try clear c1
   try clear p2
   try clear c3
   try clear c3b0
   try clear c3b1
   try clear c3b2
   try clear p6
   try clear c14
   try clear c14b0
   try clear c14b1
   try clear c15
   try clear c16
   try clear hcz10_0
   try clear hcz10_1
   try clear hcz10_2
   try clear hcz10_3
   try clear hcz15_0
   try clear hcz15_1
   try clear hcz15_2
   try clear hcz15_3
   try clear hcz17_0
   try clear hcz17_1
   try clear hcz17_2
   try clear hcz17_3
   try clear hcz5_0
   try clear hcz5_1
   try clear hcz5_2
   try clear hcz5_3
   try clear hfz10_0
   try clear hfz10_1
   try clear hfz10_2
   try clear hfz10_3
   try clear hfz15_0
   try clear hfz15_1
   try clear hfz15_2
   try clear hfz15_3
   try clear hfz17_0
   try clear hfz17_1
   try clear hfz17_2
   try clear hfz17_3
   try clear hfz5_0
   try clear hfz5_1
   try clear hfz5_2
   try clear hfz5_3
   obtain ⟨kq, x13_7, rfl, HA, HJ7, BK821, HB⟩ := hcut
   cases kq with
   | zero => exact absurd HA.out (by simp [impl_Mat_order.j0])
   | succ kj7 =>
    have H := HA.out
    clear HA
    simp only [impl_Mat_order.j0] at H
    have HC19 := aM H
    clear H
    go_upto_if 13 with (fail)
    go_cut [13] (fun v13 wc => ∃ (kq : Nat) (x13_18 : Bool), v13 = .bool x13_18 ∧ Aside0 (impl_Mat_order.j1 kq (wrap64 (a0_0 + a0_3)) x13_18 a0_0 a0_1 a0_2 a0_3 = some r) ∧ Aside0 (kq ≤ kj7) ∧ Aside0 (wc.heap[gb821]? = some (.cells #[.int .i64 a0_0, .int .i64 a0_1, .int .i64 a0_2, .int .i64 a0_3] 51 (0, 0))) ∧ Aside0 (Below w.heap.size w wc))
    case first =>
     have H := HC19.out
     clear HC19
     by_cases c20 : x13_7 = true
     ·subst c20
      have H1 : (impl_Mat_order.j1 kj7 (wrap64 (a0_0 + a0_3)) true a0_0 a0_1 a0_2 a0_3) = some r := by rw [if_pos rfl] at H; exact H
      clear H
      have H := H1
      clear H1
      have H' := aM H
      clear H
      go_wp2
      go_meet
      case rel => exact ⟨_, (true), (by first | rfl | (simp; done) | (simp [*]; done)), H', ⟨by have := HJ7.out; first | omega | exact Nat.le_refl _⟩, ⟨by (with_reducible repeat (first|apply kN|apply kD|apply kA)); exact BK821.out⟩, ⟨by repeat (first | (with_reducible first | exact HB.out | apply bA|apply bN|apply b1 | refine below_set ?_ GE821.out) | exact HB.out)⟩⟩
     ·replace c20 := Bool.eq_false_iff.mpr c20
      subst c20
      have H1 : (impl_Mat_order.j1 kj7 (wrap64 (a0_0 + a0_3)) (a0_0 == (-1) && (a0_1 == 0 && (a0_2 == 0 && (a0_3 == (-1))))) a0_0 a0_1 a0_2 a0_3) = some r := by rw [if_neg (show ¬ (false = true) by decide)] at H; exact H
      clear H
      have H := H1
      clear H1
      have H' := aM H
      clear H
      have hcz21_0 : wc.cell? ⟨gb821, 0, none⟩ = some (.int .i64 a0_0) := (blk_cell BK821.out 0).trans rfl
      have hcz21_1 : wc.cell? ⟨gb821, 1, none⟩ = some (.int .i64 a0_1) := (blk_cell BK821.out 1).trans rfl
      have hcz21_2 : wc.cell? ⟨gb821, 2, none⟩ = some (.int .i64 a0_2) := (blk_cell BK821.out 2).trans rfl
      have hcz21_3 : wc.cell? ⟨gb821, 3, none⟩ = some (.int .i64 a0_3) := (blk_cell BK821.out 3).trans rfl
      have hfz21_0 := blk_frozen BK821.out 0
      have hfz21_1 := blk_frozen BK821.out 1
      have hfz21_2 := blk_frozen BK821.out 2
      have hfz21_3 := blk_frozen BK821.out 3
      go_wp2
      go_meet
      case rel => exact ⟨_, ((a0_0 == (-1) && (a0_1 == 0 && (a0_2 == 0 && (a0_3 == (-1)))))), (by first | rfl | (simp; done) | (simp [*]; done)), H', ⟨by have := HJ7.out; first | omega | exact Nat.le_refl _⟩, ⟨by (with_reducible repeat (first|apply kN|apply kD|apply kA)); exact BK821.out⟩, ⟨by repeat (first | (with_reducible first | exact HB.out | apply bA|apply bN|apply b1 | refine below_set ?_ GE821.out) | exact HB.out)⟩⟩
    case rest =>
     clear HC19
     try clear c1
     try clear c2
     try clear p2
     try clear c3
     try clear c3b0
     try clear c3b1
     try clear c3b2
     try clear p6
     try clear c14
     try clear c14b0
     try clear c14b1
     try clear c15
     try clear c16
     try clear c20
     try clear hcz10_0
     try clear hcz10_1
     try clear hcz10_2
     try clear hcz10_3
     try clear hcz15_0
     try clear hcz15_1
     try clear hcz15_2
     try clear hcz15_3
     try clear hcz17_0
     try clear hcz17_1
     try clear hcz17_2
     try clear hcz17_3
     try clear hcz21_0
     try clear hcz21_1
     try clear hcz21_2
     try clear hcz21_3
     try clear hcz5_0
     try clear hcz5_1
     try clear hcz5_2
     try clear hcz5_3
     try clear hfz10_0
     try clear hfz10_1
     try clear hfz10_2
     try clear hfz10_3
     try clear hfz15_0
     try clear hfz15_1
     try clear hfz15_2
     try clear hfz15_3
     try clear hfz17_0
     try clear hfz17_1
     try clear hfz17_2
     try clear hfz17_3
     try clear hfz21_0
     try clear hfz21_1
     try clear hfz21_2
     try clear hfz21_3
     try clear hfz5_0
     try clear hfz5_1
     try clear hfz5_2
     try clear hfz5_3
     try clear p2
     try clear p6
     obtain ⟨kq, x13_18, rfl, HA, HJ18, BK821, HB⟩ := hcut
     cases kq with
     | zero => exact absurd HA.out (by simp [impl_Mat_order.j1])
     | succ kj18 =>
      have H := HA.out
      clear HA
      simp only [impl_Mat_order.j1] at H
      by_cases c22 : x13_18 = true
      ·subst c22
       have H1 : (some 2) = some r := by rw [if_pos rfl] at H; exact H
       clear H
       have H := H1
       clear H1
       obtain rfl := Option.some.inj H
       go_wp2
       go_ret
       exact ⟨by first|rfl|(simp [*, errW_none, errW_some] <;> rfl), by repeat (first | (with_reducible first | exact HB.out | apply bA|apply bN|apply b1 | refine below_set ?_ GE821.out) | exact HB.out)⟩
      ·replace c22 := Bool.eq_false_iff.mpr c22
       subst c22
       have H1 : ((impl_Mat_det.f a0_0 a0_1 a0_2 a0_3).bind fun t827 => (if t827 = 1 then (impl_Mat_order.j2 kj18 (wrap64 (a0_0 + a0_3)) ((wrap64 (a0_0 + a0_3)) == (-1)) a0_0 a0_1 a0_2 a0_3) else (impl_Mat_order.j2 kj18 (wrap64 (a0_0 + a0_3)) false a0_0 a0_1 a0_2 a0_3))) = some r := by rw [if_neg (show ¬ (false = true) by decide)] at H; exact H
       clear H
       have H := H1
       clear H1
       have HC23 := aM H
       clear H
       go_upto_region 7 with (fail)
       go_cut [24] (fun v24 wc => ∃ (kq : Nat) (x24_22 : Bool), v24 = .bool x24_22 ∧ Aside0 (impl_Mat_order.j2 kq (wrap64 (a0_0 + a0_3)) x24_22 a0_0 a0_1 a0_2 a0_3 = some r) ∧ Aside0 (kq ≤ kj18) ∧ Aside0 (wc.heap[gb821]? = some (.cells #[.int .i64 a0_0, .int .i64 a0_1, .int .i64 a0_2, .int .i64 a0_3] 51 (0, 0))) ∧ Aside0 (Below w.heap.size w wc))
       case first =>
        have H := HC23.out
        clear HC23
        replace H := Option.bind_eq_some_iff.mp H
        obtain ⟨t827, A240, H⟩ := H
        try dsimp only at H
        have A24 := aM A240
        clear A240
        by_cases c25 : t827 = 1
        ·rw [if_pos c25] at H
         have c25b0 : (t827 == 1) = true := beq_iff_eq.mpr c25
         have c25b1 : (t827 != 1) = false := bne_eq_false_iff_eq.mpr c25
         clear c25
         (first | rw [c25b0] | (simp only [i64_w, i32_w]; rw [c25b0]) | skip)
         have H' := aM H
         clear H
         have hcz26_0 : wc.cell? ⟨gb821, 0, none⟩ = some (.int .i64 a0_0) := (blk_cell BK821.out 0).trans rfl
         have hcz26_1 : wc.cell? ⟨gb821, 1, none⟩ = some (.int .i64 a0_1) := (blk_cell BK821.out 1).trans rfl
         have hcz26_2 : wc.cell? ⟨gb821, 2, none⟩ = some (.int .i64 a0_2) := (blk_cell BK821.out 2).trans rfl
         have hcz26_3 : wc.cell? ⟨gb821, 3, none⟩ = some (.int .i64 a0_3) := (blk_cell BK821.out 3).trans rfl
         have hfz26_0 := blk_frozen BK821.out 0
         have hfz26_1 := blk_frozen BK821.out 1
         have hfz26_2 := blk_frozen BK821.out 2
         have hfz26_3 := blk_frozen BK821.out 3
         go_wp2_with (first | ((with_reducible refine gate_callee (f := 156) rfl ?_); refine goesL_ (some 26) rfl rfl Try.func156 (by kernel_rfl) rfl #[.agg #[.int .i64 a0_0, .int .i64 a0_1, .int .i64 a0_2, .int .i64 a0_3]] rfl (by first|rfl|(simp only [List.map_toArray, List.map_cons, List.map_nil]; try rfl)) ?_; (with_reducible refine (impl_Mat_det.calls a0_0 a0_1 a0_2 a0_3 t827 _ A24.out).mono ?_); rintro e w27 ⟨rfl, hb⟩; refine ⟨_, rfl, ?_⟩; have n0_ := aM (blk_below (g := gb821) (o := .cells #[.int .i64 a0_0, .int .i64 a0_1, .int .i64 a0_2, .int .i64 a0_3] 51 (0, 0)) (by (with_reducible repeat (first|apply kN|apply kD|apply kA)); exact BK821.out) hb); have n1_ := aM (below_step (by repeat (first | (with_reducible first | exact HB.out | apply bA|apply bN|apply b1 | refine below_set ?_ GE821.out) | exact HB.out)) hb); clear BK821; clear HB; have BK821 := n0_; have HB := n1_; clear n0_ n1_; (try clear hb)))
         go_meet
         case rel => exact ⟨_, (((wrap64 (a0_0 + a0_3)) == (-1))), (by first | rfl | (simp; done) | (simp [*]; done)), H', ⟨by have := HJ7.out; have := HJ18.out; first | omega | exact Nat.le_refl _⟩, ⟨by (with_reducible repeat (first|apply kN|apply kD|apply kA)); exact BK821.out⟩, ⟨by repeat (first | (with_reducible first | exact HB.out | apply bA|apply bN|apply b1 | refine below_set ?_ GE821.out) | exact HB.out)⟩⟩
        ·rw [if_neg c25] at H
         have c25b0 : (t827 == 1) = false := beq_eq_false_iff_ne.mpr c25
         have c25b1 : (t827 != 1) = true := bne_iff_ne.mpr c25
         (first | rw [c25b0] | (simp only [i64_w, i32_w]; rw [c25b0]) | skip)
         have H' := aM H
         clear H
         have hcz28_0 : wc.cell? ⟨gb821, 0, none⟩ = some (.int .i64 a0_0) := (blk_cell BK821.out 0).trans rfl
         have hcz28_1 : wc.cell? ⟨gb821, 1, none⟩ = some (.int .i64 a0_1) := (blk_cell BK821.out 1).trans rfl
         have hcz28_2 : wc.cell? ⟨gb821, 2, none⟩ = some (.int .i64 a0_2) := (blk_cell BK821.out 2).trans rfl
         have hcz28_3 : wc.cell? ⟨gb821, 3, none⟩ = some (.int .i64 a0_3) := (blk_cell BK821.out 3).trans rfl
         have hfz28_0 := blk_frozen BK821.out 0
         have hfz28_1 := blk_frozen BK821.out 1
         have hfz28_2 := blk_frozen BK821.out 2
         have hfz28_3 := blk_frozen BK821.out 3
         go_wp2_with (first | ((with_reducible refine gate_callee (f := 156) rfl ?_); refine goesL_ (some 26) rfl rfl Try.func156 (by kernel_rfl) rfl #[.agg #[.int .i64 a0_0, .int .i64 a0_1, .int .i64 a0_2, .int .i64 a0_3]] rfl (by first|rfl|(simp only [List.map_toArray, List.map_cons, List.map_nil]; try rfl)) ?_; (with_reducible refine (impl_Mat_det.calls a0_0 a0_1 a0_2 a0_3 t827 _ A24.out).mono ?_); rintro e w29 ⟨rfl, hb⟩; refine ⟨_, rfl, ?_⟩; have n0_ := aM (blk_below (g := gb821) (o := .cells #[.int .i64 a0_0, .int .i64 a0_1, .int .i64 a0_2, .int .i64 a0_3] 51 (0, 0)) (by (with_reducible repeat (first|apply kN|apply kD|apply kA)); exact BK821.out) hb); have n1_ := aM (below_step (by repeat (first | (with_reducible first | exact HB.out | apply bA|apply bN|apply b1 | refine below_set ?_ GE821.out) | exact HB.out)) hb); clear BK821; clear HB; have BK821 := n0_; have HB := n1_; clear n0_ n1_; (try clear hb)))
         go_meet
         case rel => exact ⟨_, (false), (by first | rfl | (simp; done) | (simp [*]; done)), H', ⟨by have := HJ7.out; have := HJ18.out; first | omega | exact Nat.le_refl _⟩, ⟨by (with_reducible repeat (first|apply kN|apply kD|apply kA)); exact BK821.out⟩, ⟨by repeat (first | (with_reducible first | exact HB.out | apply bA|apply bN|apply b1 | refine below_set ?_ GE821.out) | exact HB.out)⟩⟩
       case rest =>
        clear HC23
        try clear c1
        try clear c2
        try clear p2
        try clear c3
        try clear c3b0
        try clear c3b1
        try clear c3b2
        try clear p6
        try clear c14
        try clear c14b0
        try clear c14b1
        try clear c15
        try clear c16
        try clear c20
        try clear c22
        try clear c25
        try clear c25b0
        try clear c25b1
        try clear hcz10_0
        try clear hcz10_1
        try clear hcz10_2
        try clear hcz10_3
        try clear hcz15_0
        try clear hcz15_1
        try clear hcz15_2
        try clear hcz15_3
        try clear hcz17_0
        try clear hcz17_1
        try clear hcz17_2
        try clear hcz17_3
        try clear hcz21_0
        try clear hcz21_1
        try clear hcz21_2
        try clear hcz21_3
        try clear hcz26_0
        try clear hcz26_1
        try clear hcz26_2
        try clear hcz26_3
        try clear hcz28_0
        try clear hcz28_1
        try clear hcz28_2
        try clear hcz28_3
        try clear hcz5_0
        try clear hcz5_1
        try clear hcz5_2
        try clear hcz5_3
        try clear hfz10_0
        try clear hfz10_1
        try clear hfz10_2
        try clear hfz10_3
        try clear hfz15_0
        try clear hfz15_1
        try clear hfz15_2
        try clear hfz15_3
        try clear hfz17_0
        try clear hfz17_1
        try clear hfz17_2
        try clear hfz17_3
        try clear hfz21_0
        try clear hfz21_1
        try clear hfz21_2
        try clear hfz21_3
        try clear hfz26_0
        try clear hfz26_1
        try clear hfz26_2
        try clear hfz26_3
        try clear hfz28_0
        try clear hfz28_1
        try clear hfz28_2
        try clear hfz28_3
        try clear hfz5_0
        try clear hfz5_1
        try clear hfz5_2
        try clear hfz5_3
        try clear p2
        try clear p6
        obtain ⟨kq, x24_22, rfl, HA, HJ22, BK821, HB⟩ := hcut
        cases kq with
        | zero => exact absurd HA.out (by simp [impl_Mat_order.j2])
        | succ kj22 =>
         have H := HA.out
         clear HA
         simp only [impl_Mat_order.j2] at H
         by_cases c30 : x24_22 = true
         ·subst c30
          have H1 : (some 3) = some r := by rw [if_pos rfl] at H; exact H
          clear H
          have H := H1
          clear H1
          obtain rfl := Option.some.inj H
          go_wp2
          go_ret
          exact ⟨by first|rfl|(simp [*, errW_none, errW_some] <;> rfl), by repeat (first | (with_reducible first | exact HB.out | apply bA|apply bN|apply b1 | refine below_set ?_ GE821.out) | exact HB.out)⟩
         ·replace c30 := Bool.eq_false_iff.mpr c30
          subst c30
          have H1 : ((impl_Mat_det.f a0_0 a0_1 a0_2 a0_3).bind fun t828 => (if t828 = 1 then (impl_Mat_order.j3 kj22 (wrap64 (a0_0 + a0_3)) ((wrap64 (a0_0 + a0_3)) == 0) a0_0 a0_1 a0_2 a0_3) else (impl_Mat_order.j3 kj22 (wrap64 (a0_0 + a0_3)) false a0_0 a0_1 a0_2 a0_3))) = some r := by rw [if_neg (show ¬ (false = true) by decide)] at H; exact H
          clear H
          have H := H1
          clear H1
          have HC31 := aM H
          clear H
          go_upto_region 9 with (fail)
          go_cut [32] (fun v32 wc => ∃ (kq : Nat) (x32_30 : Bool), v32 = .bool x32_30 ∧ Aside0 (impl_Mat_order.j3 kq (wrap64 (a0_0 + a0_3)) x32_30 a0_0 a0_1 a0_2 a0_3 = some r) ∧ Aside0 (kq ≤ kj22) ∧ Aside0 (wc.heap[gb821]? = some (.cells #[.int .i64 a0_0, .int .i64 a0_1, .int .i64 a0_2, .int .i64 a0_3] 51 (0, 0))) ∧ Aside0 (Below w.heap.size w wc))
          case first =>
           have H := HC31.out
           clear HC31
           replace H := Option.bind_eq_some_iff.mp H
           obtain ⟨t828, A320, H⟩ := H
           try dsimp only at H
           have A32 := aM A320
           clear A320
           by_cases c33 : t828 = 1
           ·rw [if_pos c33] at H
            have c33b0 : (t828 == 1) = true := beq_iff_eq.mpr c33
            have c33b1 : (t828 != 1) = false := bne_eq_false_iff_eq.mpr c33
            clear c33
            (first | rw [c33b0] | (simp only [i64_w, i32_w]; rw [c33b0]) | skip)
            have H' := aM H
            clear H
            have hcz34_0 : wc.cell? ⟨gb821, 0, none⟩ = some (.int .i64 a0_0) := (blk_cell BK821.out 0).trans rfl
            have hcz34_1 : wc.cell? ⟨gb821, 1, none⟩ = some (.int .i64 a0_1) := (blk_cell BK821.out 1).trans rfl
            have hcz34_2 : wc.cell? ⟨gb821, 2, none⟩ = some (.int .i64 a0_2) := (blk_cell BK821.out 2).trans rfl
            have hcz34_3 : wc.cell? ⟨gb821, 3, none⟩ = some (.int .i64 a0_3) := (blk_cell BK821.out 3).trans rfl
            have hfz34_0 := blk_frozen BK821.out 0
            have hfz34_1 := blk_frozen BK821.out 1
            have hfz34_2 := blk_frozen BK821.out 2
            have hfz34_3 := blk_frozen BK821.out 3
            go_wp2_with (first | ((with_reducible refine gate_callee (f := 156) rfl ?_); refine goesL_ (some 34) rfl rfl Try.func156 (by kernel_rfl) rfl #[.agg #[.int .i64 a0_0, .int .i64 a0_1, .int .i64 a0_2, .int .i64 a0_3]] rfl (by first|rfl|(simp only [List.map_toArray, List.map_cons, List.map_nil]; try rfl)) ?_; (with_reducible refine (impl_Mat_det.calls a0_0 a0_1 a0_2 a0_3 t828 _ A32.out).mono ?_); rintro e w35 ⟨rfl, hb⟩; refine ⟨_, rfl, ?_⟩; have n0_ := aM (blk_below (g := gb821) (o := .cells #[.int .i64 a0_0, .int .i64 a0_1, .int .i64 a0_2, .int .i64 a0_3] 51 (0, 0)) (by (with_reducible repeat (first|apply kN|apply kD|apply kA)); exact BK821.out) hb); have n1_ := aM (below_step (by repeat (first | (with_reducible first | exact HB.out | apply bA|apply bN|apply b1 | refine below_set ?_ GE821.out) | exact HB.out)) hb); clear BK821; clear HB; have BK821 := n0_; have HB := n1_; clear n0_ n1_; (try clear hb)))
            go_meet
            case rel => exact ⟨_, (((wrap64 (a0_0 + a0_3)) == 0)), (by first | rfl | (simp; done) | (simp [*]; done)), H', ⟨by have := HJ7.out; have := HJ18.out; have := HJ22.out; first | omega | exact Nat.le_refl _⟩, ⟨by (with_reducible repeat (first|apply kN|apply kD|apply kA)); exact BK821.out⟩, ⟨by repeat (first | (with_reducible first | exact HB.out | apply bA|apply bN|apply b1 | refine below_set ?_ GE821.out) | exact HB.out)⟩⟩
           ·rw [if_neg c33] at H
            have c33b0 : (t828 == 1) = false := beq_eq_false_iff_ne.mpr c33
            have c33b1 : (t828 != 1) = true := bne_iff_ne.mpr c33
            (first | rw [c33b0] | (simp only [i64_w, i32_w]; rw [c33b0]) | skip)
            have H' := aM H
            clear H
            have hcz36_0 : wc.cell? ⟨gb821, 0, none⟩ = some (.int .i64 a0_0) := (blk_cell BK821.out 0).trans rfl
            have hcz36_1 : wc.cell? ⟨gb821, 1, none⟩ = some (.int .i64 a0_1) := (blk_cell BK821.out 1).trans rfl
            have hcz36_2 : wc.cell? ⟨gb821, 2, none⟩ = some (.int .i64 a0_2) := (blk_cell BK821.out 2).trans rfl
            have hcz36_3 : wc.cell? ⟨gb821, 3, none⟩ = some (.int .i64 a0_3) := (blk_cell BK821.out 3).trans rfl
            have hfz36_0 := blk_frozen BK821.out 0
            have hfz36_1 := blk_frozen BK821.out 1
            have hfz36_2 := blk_frozen BK821.out 2
            have hfz36_3 := blk_frozen BK821.out 3
            go_wp2_with (first | ((with_reducible refine gate_callee (f := 156) rfl ?_); refine goesL_ (some 34) rfl rfl Try.func156 (by kernel_rfl) rfl #[.agg #[.int .i64 a0_0, .int .i64 a0_1, .int .i64 a0_2, .int .i64 a0_3]] rfl (by first|rfl|(simp only [List.map_toArray, List.map_cons, List.map_nil]; try rfl)) ?_; (with_reducible refine (impl_Mat_det.calls a0_0 a0_1 a0_2 a0_3 t828 _ A32.out).mono ?_); rintro e w37 ⟨rfl, hb⟩; refine ⟨_, rfl, ?_⟩; have n0_ := aM (blk_below (g := gb821) (o := .cells #[.int .i64 a0_0, .int .i64 a0_1, .int .i64 a0_2, .int .i64 a0_3] 51 (0, 0)) (by (with_reducible repeat (first|apply kN|apply kD|apply kA)); exact BK821.out) hb); have n1_ := aM (below_step (by repeat (first | (with_reducible first | exact HB.out | apply bA|apply bN|apply b1 | refine below_set ?_ GE821.out) | exact HB.out)) hb); clear BK821; clear HB; have BK821 := n0_; have HB := n1_; clear n0_ n1_; (try clear hb)))
            go_meet
            case rel => exact ⟨_, (false), (by first | rfl | (simp; done) | (simp [*]; done)), H', ⟨by have := HJ7.out; have := HJ18.out; have := HJ22.out; first | omega | exact Nat.le_refl _⟩, ⟨by (with_reducible repeat (first|apply kN|apply kD|apply kA)); exact BK821.out⟩, ⟨by repeat (first | (with_reducible first | exact HB.out | apply bA|apply bN|apply b1 | refine below_set ?_ GE821.out) | exact HB.out)⟩⟩
          case rest =>
           clear HC31
           try clear c1
           try clear c2
           try clear p2
           try clear c3
           try clear c3b0
           try clear c3b1
           try clear c3b2
           try clear p6
           try clear c14
           try clear c14b0
           try clear c14b1
           try clear c15
           try clear c16
           try clear c20
           try clear c22
           try clear c25
           try clear c25b0
           try clear c25b1
           try clear c30
           try clear c33
           try clear c33b0
           try clear c33b1
           try clear hcz10_0
           try clear hcz10_1
           try clear hcz10_2
           try clear hcz10_3
           try clear hcz15_0
           try clear hcz15_1
           try clear hcz15_2
           try clear hcz15_3
           try clear hcz17_0
           try clear hcz17_1
           try clear hcz17_2
           try clear hcz17_3
           try clear hcz21_0
           try clear hcz21_1
           try clear hcz21_2
           try clear hcz21_3
           try clear hcz26_0
           try clear hcz26_1
           try clear hcz26_2
           try clear hcz26_3
           try clear hcz28_0
           try clear hcz28_1
           try clear hcz28_2
           try clear hcz28_3
           try clear hcz34_0
           try clear hcz34_1
           try clear hcz34_2
           try clear hcz34_3
           try clear hcz36_0
           try clear hcz36_1
           try clear hcz36_2
           try clear hcz36_3
           try clear hcz5_0
           try clear hcz5_1
           try clear hcz5_2
           try clear hcz5_3
           try clear hfz10_0
           try clear hfz10_1
           try clear hfz10_2
           try clear hfz10_3
           try clear hfz15_0
           try clear hfz15_1
           try clear hfz15_2
           try clear hfz15_3
           try clear hfz17_0
           try clear hfz17_1
           try clear hfz17_2
           try clear hfz17_3
           try clear hfz21_0
           try clear hfz21_1
           try clear hfz21_2
           try clear hfz21_3
           try clear hfz26_0
           try clear hfz26_1
           try clear hfz26_2
           try clear hfz26_3
           try clear hfz28_0
           try clear hfz28_1
           try clear hfz28_2
           try clear hfz28_3
           try clear hfz34_0
           try clear hfz34_1
           try clear hfz34_2
           try clear hfz34_3
           try clear hfz36_0
           try clear hfz36_1
           try clear hfz36_2
           try clear hfz36_3
           try clear hfz5_0
           try clear hfz5_1
           try clear hfz5_2
           try clear hfz5_3
           try clear p2
           try clear p6
           obtain ⟨kq, x32_30, rfl, HA, HJ30, BK821, HB⟩ := hcut
           cases kq with
           | zero => exact absurd HA.out (by simp [impl_Mat_order.j3])
           | succ kj30 =>
            have H := HA.out
            clear HA
            simp only [impl_Mat_order.j3] at H
            by_cases c38 : x32_30 = true
            ·subst c38
             have H1 : (some 4) = some r := by rw [if_pos rfl] at H; exact H
             clear H
             have H := H1
             clear H1
             obtain rfl := Option.some.inj H
             go_wp2
             go_ret
             exact ⟨by first|rfl|(simp [*, errW_none, errW_some] <;> rfl), by repeat (first | (with_reducible first | exact HB.out | apply bA|apply bN|apply b1 | refine below_set ?_ GE821.out) | exact HB.out)⟩
            ·replace c38 := Bool.eq_false_iff.mpr c38
             subst c38
             have H1 : ((impl_Mat_det.f a0_0 a0_1 a0_2 a0_3).bind fun t829 => (if t829 = 1 then (if (wrap64 (a0_0 + a0_3)) = 1 then (some 6) else (some 0)) else (some 0))) = some r := by rw [if_neg (show ¬ (false = true) by decide)] at H; exact H
             clear H
             have H := H1
             clear H1
             replace H := Option.bind_eq_some_iff.mp H
             obtain ⟨t829, A390, H⟩ := H
             try dsimp only at H
             have A39 := aM A390
             clear A390
             by_cases c40 : t829 = 1
             ·rw [if_pos c40] at H
              have c40b0 : (t829 == 1) = true := beq_iff_eq.mpr c40
              have c40b1 : (t829 != 1) = false := bne_eq_false_iff_eq.mpr c40
              clear c40
              by_cases c41 : (wrap64 (a0_0 + a0_3)) = 1
              ·rw [if_pos c41] at H
               have c41b0 : ((wrap64 (a0_0 + a0_3)) == 1) = true := beq_iff_eq.mpr c41
               have c41b1 : ((wrap64 (a0_0 + a0_3)) != 1) = false := bne_eq_false_iff_eq.mpr c41
               clear c41
               obtain rfl := Option.some.inj H
               have hcz42_0 : wc.cell? ⟨gb821, 0, none⟩ = some (.int .i64 a0_0) := (blk_cell BK821.out 0).trans rfl
               have hcz42_1 : wc.cell? ⟨gb821, 1, none⟩ = some (.int .i64 a0_1) := (blk_cell BK821.out 1).trans rfl
               have hcz42_2 : wc.cell? ⟨gb821, 2, none⟩ = some (.int .i64 a0_2) := (blk_cell BK821.out 2).trans rfl
               have hcz42_3 : wc.cell? ⟨gb821, 3, none⟩ = some (.int .i64 a0_3) := (blk_cell BK821.out 3).trans rfl
               have hfz42_0 := blk_frozen BK821.out 0
               have hfz42_1 := blk_frozen BK821.out 1
               have hfz42_2 := blk_frozen BK821.out 2
               have hfz42_3 := blk_frozen BK821.out 3
               go_wp2_with (first | ((with_reducible refine gate_callee (f := 156) rfl ?_); refine goesL_ (some 42) rfl rfl Try.func156 (by kernel_rfl) rfl #[.agg #[.int .i64 a0_0, .int .i64 a0_1, .int .i64 a0_2, .int .i64 a0_3]] rfl (by first|rfl|(simp only [List.map_toArray, List.map_cons, List.map_nil]; try rfl)) ?_; (with_reducible refine (impl_Mat_det.calls a0_0 a0_1 a0_2 a0_3 t829 _ A39.out).mono ?_); rintro e w43 ⟨rfl, hb⟩; refine ⟨_, rfl, ?_⟩; have n0_ := aM (blk_below (g := gb821) (o := .cells #[.int .i64 a0_0, .int .i64 a0_1, .int .i64 a0_2, .int .i64 a0_3] 51 (0, 0)) (by (with_reducible repeat (first|apply kN|apply kD|apply kA)); exact BK821.out) hb); have n1_ := aM (below_step (by repeat (first | (with_reducible first | exact HB.out | apply bA|apply bN|apply b1 | refine below_set ?_ GE821.out) | exact HB.out)) hb); clear BK821; clear HB; have BK821 := n0_; have HB := n1_; clear n0_ n1_; (try clear hb)))
               go_ret
               exact ⟨by first|rfl|(simp [*, errW_none, errW_some] <;> rfl), by repeat (first | (with_reducible first | exact HB.out | apply bA|apply bN|apply b1 | refine below_set ?_ GE821.out) | exact HB.out)⟩
              ·rw [if_neg c41] at H
               have c41b0 : ((wrap64 (a0_0 + a0_3)) == 1) = false := beq_eq_false_iff_ne.mpr c41
               have c41b1 : ((wrap64 (a0_0 + a0_3)) != 1) = true := bne_iff_ne.mpr c41
               obtain rfl := Option.some.inj H
               have hcz44_0 : wc.cell? ⟨gb821, 0, none⟩ = some (.int .i64 a0_0) := (blk_cell BK821.out 0).trans rfl
               have hcz44_1 : wc.cell? ⟨gb821, 1, none⟩ = some (.int .i64 a0_1) := (blk_cell BK821.out 1).trans rfl
               have hcz44_2 : wc.cell? ⟨gb821, 2, none⟩ = some (.int .i64 a0_2) := (blk_cell BK821.out 2).trans rfl
               have hcz44_3 : wc.cell? ⟨gb821, 3, none⟩ = some (.int .i64 a0_3) := (blk_cell BK821.out 3).trans rfl
               have hfz44_0 := blk_frozen BK821.out 0
               have hfz44_1 := blk_frozen BK821.out 1
               have hfz44_2 := blk_frozen BK821.out 2
               have hfz44_3 := blk_frozen BK821.out 3
               go_wp2_with (first | ((with_reducible refine gate_callee (f := 156) rfl ?_); refine goesL_ (some 42) rfl rfl Try.func156 (by kernel_rfl) rfl #[.agg #[.int .i64 a0_0, .int .i64 a0_1, .int .i64 a0_2, .int .i64 a0_3]] rfl (by first|rfl|(simp only [List.map_toArray, List.map_cons, List.map_nil]; try rfl)) ?_; (with_reducible refine (impl_Mat_det.calls a0_0 a0_1 a0_2 a0_3 t829 _ A39.out).mono ?_); rintro e w45 ⟨rfl, hb⟩; refine ⟨_, rfl, ?_⟩; have n0_ := aM (blk_below (g := gb821) (o := .cells #[.int .i64 a0_0, .int .i64 a0_1, .int .i64 a0_2, .int .i64 a0_3] 51 (0, 0)) (by (with_reducible repeat (first|apply kN|apply kD|apply kA)); exact BK821.out) hb); have n1_ := aM (below_step (by repeat (first | (with_reducible first | exact HB.out | apply bA|apply bN|apply b1 | refine below_set ?_ GE821.out) | exact HB.out)) hb); clear BK821; clear HB; have BK821 := n0_; have HB := n1_; clear n0_ n1_; (try clear hb)))
               go_ret
               exact ⟨by first|rfl|(simp [*, errW_none, errW_some] <;> rfl), by repeat (first | (with_reducible first | exact HB.out | apply bA|apply bN|apply b1 | refine below_set ?_ GE821.out) | exact HB.out)⟩
             ·rw [if_neg c40] at H
              have c40b0 : (t829 == 1) = false := beq_eq_false_iff_ne.mpr c40
              have c40b1 : (t829 != 1) = true := bne_iff_ne.mpr c40
              obtain rfl := Option.some.inj H
              have hcz46_0 : wc.cell? ⟨gb821, 0, none⟩ = some (.int .i64 a0_0) := (blk_cell BK821.out 0).trans rfl
              have hcz46_1 : wc.cell? ⟨gb821, 1, none⟩ = some (.int .i64 a0_1) := (blk_cell BK821.out 1).trans rfl
              have hcz46_2 : wc.cell? ⟨gb821, 2, none⟩ = some (.int .i64 a0_2) := (blk_cell BK821.out 2).trans rfl
              have hcz46_3 : wc.cell? ⟨gb821, 3, none⟩ = some (.int .i64 a0_3) := (blk_cell BK821.out 3).trans rfl
              have hfz46_0 := blk_frozen BK821.out 0
              have hfz46_1 := blk_frozen BK821.out 1
              have hfz46_2 := blk_frozen BK821.out 2
              have hfz46_3 := blk_frozen BK821.out 3
              go_wp2_with (first | ((with_reducible refine gate_callee (f := 156) rfl ?_); refine goesL_ (some 42) rfl rfl Try.func156 (by kernel_rfl) rfl #[.agg #[.int .i64 a0_0, .int .i64 a0_1, .int .i64 a0_2, .int .i64 a0_3]] rfl (by first|rfl|(simp only [List.map_toArray, List.map_cons, List.map_nil]; try rfl)) ?_; (with_reducible refine (impl_Mat_det.calls a0_0 a0_1 a0_2 a0_3 t829 _ A39.out).mono ?_); rintro e w47 ⟨rfl, hb⟩; refine ⟨_, rfl, ?_⟩; have n0_ := aM (blk_below (g := gb821) (o := .cells #[.int .i64 a0_0, .int .i64 a0_1, .int .i64 a0_2, .int .i64 a0_3] 51 (0, 0)) (by (with_reducible repeat (first|apply kN|apply kD|apply kA)); exact BK821.out) hb); have n1_ := aM (below_step (by repeat (first | (with_reducible first | exact HB.out | apply bA|apply bN|apply b1 | refine below_set ?_ GE821.out) | exact HB.out)) hb); clear BK821; clear HB; have BK821 := n0_; have HB := n1_; clear n0_ n1_; (try clear hb)))
              go_ret
              exact ⟨by first|rfl|(simp [*, errW_none, errW_some] <;> rfl), by repeat (first | (with_reducible first | exact HB.out | apply bA|apply bN|apply b1 | refine below_set ?_ GE821.out) | exact HB.out)⟩

def spec_l02Order.l0 : Nat → Int → Int → Int → Int → Int → Int → Int → Int → Int → Option (Int)
 | 0, _, _, _, _, _, _, _, _, _ => none
 | k + 1, x4, x834000, x834001, x834002, x834003, x839000, x839001, x839002, x839003 => if x4 ≤ 6 then ((spec_l02Multiply.f x834000 x834001 x834002 x834003 x839000 x839001 x839002 x839003).bind fun bt839 => ((spec_l02Small.f bt839.1 bt839.2.1 bt839.2.2.1 bt839.2.2.2).bind fun t843 => (if t843 = true then ((spec_l02Unit.f).bind fun bt844 => (if (bt839.1 == bt844.1 && (bt839.2.1 == bt844.2.1 && (bt839.2.2.1 == bt844.2.2.1 && (bt839.2.2.2 == bt844.2.2.2)))) = true then (some x4) else (spec_l02Order.l0 k (wrap64 (x4 + 1)) x834000 x834001 x834002 x834003 bt839.1 bt839.2.1 bt839.2.2.1 bt839.2.2.2))) else (some 0)))) else (some 0)
def spec_l02Order.f (k : Nat) (a0_0 : Int) (a0_1 : Int) (a0_2 : Int) (a0_3 : Int) : Option (Int) := (spec_l02Unit.f).bind fun bt834 => (spec_l02Order.l0 k 1 a0_0 a0_1 a0_2 a0_3 bt834.1 bt834.2.1 bt834.2.2.1 bt834.2.2.2)
set_option maxHeartbeats 40000000 in
set_option maxRecDepth 100000 in
theorem spec_l02Order.calls (k : Nat) (a0_0 : Int) (a0_1 : Int) (a0_2 : Int) (a0_3 : Int) (r : Int) (w : World) (h : spec_l02Order.f k a0_0 a0_1 a0_2 a0_3 = some r) :
  Calls Try.prog 160 #[.agg #[.int .i64 a0_0, .int .i64 a0_1, .int .i64 a0_2, .int .i64 a0_3]] w fun e w' => e = .returned (.int .i64 r) ∧ Below w.heap.size w w' := by
 have hu51 := Try.underlying51
 have HB := aM (Below.refl w.heap.size w)
 have H : ((spec_l02Unit.f).bind fun bt834 => (spec_l02Order.l0 k 1 a0_0 a0_1 a0_2 a0_3 bt834.1 bt834.2.1 bt834.2.2.1 bt834.2.2.2)) = some r := h
 clear h
 replace H := Option.bind_eq_some_iff.mp H
 obtain ⟨⟨t834, t835, t836, t837⟩, A20, H⟩ := H
 try dsimp only at H
 have A2 := aM A20
 clear A20
 have H' := aM H
 clear H
 go_enter Try.func160, Try.ntmps160
 go_wp2_with (first | ((with_reducible refine gate_dst (N := 1) rfl ?_); refine box_event ?hg (N := 1) ?hd (cs := #[.int .i64 a0_0, .int .i64 a0_1, .int .i64 a0_2, .int .i64 a0_3]) (t := 51) ?hr ?_; (case hd => rfl); (case hg => rfl); (case hr => first | (go_simp; done) | (go_simp; rfl)); intro gb833 hg w3 hbox hb; have n0_ := aM (below_step (by repeat (first | (with_reducible first | exact HB.out | apply bA|apply bN|apply b1) | exact HB.out)) hb); have n1_ := aM (hbox); have n2_ := aM ((by rw [hg]; exact (below_size (by repeat (first | (with_reducible first | exact HB.out | apply bA|apply bN|apply b1) | exact HB.out))) : w.heap.size ≤ gb833)); have n3_ := aM ((by rw [hg]; exact (below_size (by repeat (first | (with_reducible first | exact HB.out | apply bA|apply bN|apply b1) | exact HB.out))) : w.heap.size ≤ gb833)); clear HB; have HB := n0_; have BK833 := n1_; have GW833 := n2_; have GE833 := n3_; clear n0_ n1_ n2_ n3_; clear hb hbox hg) | ((with_reducible refine gate_callee (f := 162) rfl ?_); refine goesL_ (some 5) rfl rfl Try.func162 (by kernel_rfl) rfl #[] rfl (by first|rfl|(simp only [List.map_toArray, List.map_cons, List.map_nil]; try rfl)) ?_; (with_reducible refine (spec_l02Unit.calls  t834 t835 t836 t837 _ A2.out).mono ?_); rintro e w4 ⟨rfl, hb⟩; refine ⟨_, rfl, ?_⟩; have n0_ := aM (blk_below (g := gb833) (o := .cells #[.int .i64 a0_0, .int .i64 a0_1, .int .i64 a0_2, .int .i64 a0_3] 51 (0, 0)) (by (with_reducible repeat (first|apply kN|apply kD|apply kA)); exact BK833.out) hb); have n1_ := aM (below_step (by repeat (first | (with_reducible first | exact HB.out | apply bA|apply bN|apply b1 | refine below_set ?_ GE833.out) | exact HB.out)) hb); clear BK833; clear HB; have BK833 := n0_; have HB := n1_; clear n0_ n1_; (try clear hb)) | ((with_reducible refine gate_dst (N := 3) rfl ?_); refine box_event ?hg (N := 3) ?hd (cs := #[.int .i64 0, .int .i64 0, .int .i64 0, .int .i64 0]) (t := 51) ?hr ?_; (case hd => rfl); (case hg => rfl); (case hr => first | (go_simp; done) | (go_simp; rfl)); intro gb838 hg w5 hbox hb; have n0_ := aM (blk_below (g := gb833) (o := .cells #[.int .i64 a0_0, .int .i64 a0_1, .int .i64 a0_2, .int .i64 a0_3] 51 (0, 0)) (by (with_reducible repeat (first|apply kN|apply kD|apply kA)); exact BK833.out) hb); have n1_ := aM (below_step (by repeat (first | (with_reducible first | exact HB.out | apply bA|apply bN|apply b1 | refine below_set ?_ GE833.out) | exact HB.out)) hb); have n2_ := aM (hbox); have n3_ := aM ((by rw [hg]; exact (below_size (by repeat (first | (with_reducible first | exact HB.out | apply bA|apply bN|apply b1 | refine below_set ?_ GE833.out) | exact HB.out))) : w.heap.size ≤ gb838)); have n4_ := aM ((by rw [hg]; exact (below_size (by repeat (first | (with_reducible first | exact HB.out | apply bA|apply bN|apply b1 | refine below_set ?_ GE833.out) | exact HB.out))) : w.heap.size ≤ gb838)); have n5_ := aM ((by rw [hg]; exact Nat.ne_of_lt (blk_lt (g := gb833) (o := .cells #[.int .i64 a0_0, .int .i64 a0_1, .int .i64 a0_2, .int .i64 a0_3] 51 (0, 0)) (by (with_reducible repeat (first|apply kN|apply kD|apply kA)); exact BK833.out)) : gb833 ≠ gb838)); have n6_ := aM ((by rw [hg]; exact Nat.ne_of_gt (blk_lt (g := gb833) (o := .cells #[.int .i64 a0_0, .int .i64 a0_1, .int .i64 a0_2, .int .i64 a0_3] 51 (0, 0)) (by (with_reducible repeat (first|apply kN|apply kD|apply kA)); exact BK833.out)) : gb838 ≠ gb833)); clear BK833; clear HB; have BK833 := n0_; have HB := n1_; have BK838 := n2_; have GW838 := n3_; have GE838 := n4_; have NB833_838 := n5_; have NB838_833 := n6_; clear n0_ n1_ n2_ n3_ n4_ n5_ n6_; clear hb hbox hg; have hnb6 := NB838_833.out; have hnc6 := NB833_838.out; have hcz7_0 : w5.cell? ⟨gb838, 0, none⟩ = some (.int .i64 0) := (blk_cell BK838.out 0).trans rfl; have hcz7_1 : w5.cell? ⟨gb838, 1, none⟩ = some (.int .i64 0) := (blk_cell BK838.out 1).trans rfl; have hcz7_2 : w5.cell? ⟨gb838, 2, none⟩ = some (.int .i64 0) := (blk_cell BK838.out 2).trans rfl; have hcz7_3 : w5.cell? ⟨gb838, 3, none⟩ = some (.int .i64 0) := (blk_cell BK838.out 3).trans rfl; have hfz7_0 := blk_frozen BK838.out 0; have hfz7_1 := blk_frozen BK838.out 1; have hfz7_2 := blk_frozen BK838.out 2; have hfz7_3 := blk_frozen BK838.out 3))
 go_loopg [4] k (fun kq v4 w' => ∃ (x4_1 : Int) (x839000_1 : Int) (x839001_1 : Int) (x839002_1 : Int) (x839003_1 : Int), v4 = .int .i64 x4_1 ∧ Aside0 (spec_l02Order.l0 kq x4_1 a0_0 a0_1 a0_2 a0_3 x839000_1 x839001_1 x839002_1 x839003_1 = some r) ∧ Aside0 (kq ≤ k) ∧ Aside0 (w'.heap[gb833]? = some (.cells #[.int .i64 a0_0, .int .i64 a0_1, .int .i64 a0_2, .int .i64 a0_3] 51 (0, 0))) ∧ Aside0 (w'.heap[gb838]? = some (.cells #[.int .i64 x839000_1, .int .i64 x839001_1, .int .i64 x839002_1, .int .i64 x839003_1] 51 (0, 0))) ∧ Aside0 (Below w.heap.size w w'))
 case atStart => exact ⟨(1), (t834), (t835), (t836), (t837), (by first | rfl | (simp; done) | (simp [*]; done)), H', ⟨Nat.le_refl _⟩, ⟨by (repeat (first|(with_reducible first|apply kN|apply kD|apply kA)|refine blk_far ?_ NB833_838.out _)); exact BK833.out⟩, ⟨by (with_reducible repeat (first|apply kN|apply kD|apply kA)); refine blk_put (cs := #[.int .i64 t834, .int .i64 t835, .int .i64 t836, .int .i64 0]) ?_ 3 _ rfl; (with_reducible repeat (first|apply kN|apply kD|apply kA)); refine blk_put (cs := #[.int .i64 t834, .int .i64 t835, .int .i64 0, .int .i64 0]) ?_ 2 _ rfl; (with_reducible repeat (first|apply kN|apply kD|apply kA)); refine blk_put (cs := #[.int .i64 t834, .int .i64 0, .int .i64 0, .int .i64 0]) ?_ 1 _ rfl; (with_reducible repeat (first|apply kN|apply kD|apply kA)); refine blk_put (cs := #[.int .i64 0, .int .i64 0, .int .i64 0, .int .i64 0]) ?_ 0 _ rfl; (with_reducible repeat (first|apply kN|apply kD|apply kA)); exact BK838.out⟩, ⟨by repeat (first | (with_reducible first | exact HB.out | apply bA|apply bN|apply b1 | refine below_set ?_ (Aside0.out (by assumption))) | exact HB.out)⟩⟩
 case round =>
  clear H'
  try clear c1
  try clear p2
  try clear c6
  try clear hcz7_0
  try clear hcz7_1
  try clear hcz7_2
  try clear hcz7_3
  try clear hfz7_0
  try clear hfz7_1
  try clear hfz7_2
  try clear hfz7_3
  obtain ⟨x4_1, x839000_1, x839001_1, x839002_1, x839003_1, rfl, HA, HK1, BK833, BK838, HB⟩ := hrel
  cases gk with
  | zero => exact absurd HA.out (by simp [spec_l02Order.l0])
  | succ k1 =>
   have H := HA.out
   clear HA
   simp only [spec_l02Order.l0] at H
   by_cases c8 : x4_1 ≤ 6
   ·rw [if_pos c8] at H
    have c8b0 : decide (x4_1 ≤ 6) = true := decide_eq_true c8
    clear c8
    replace H := Option.bind_eq_some_iff.mp H
    obtain ⟨⟨t839, t840, t841, t842⟩, A90, H⟩ := H
    try dsimp only at H
    have A9 := aM A90
    clear A90
    replace H := Option.bind_eq_some_iff.mp H
    obtain ⟨t843, A100, H⟩ := H
    try dsimp only at H
    have A10 := aM A100
    clear A100
    by_cases c11 : t843 = true
    ·subst c11
     have H1 : ((spec_l02Unit.f).bind fun bt844 => (if (t839 == bt844.1 && (t840 == bt844.2.1 && (t841 == bt844.2.2.1 && (t842 == bt844.2.2.2)))) = true then (some x4_1) else (spec_l02Order.l0 k1 (wrap64 (x4_1 + 1)) a0_0 a0_1 a0_2 a0_3 t839 t840 t841 t842))) = some r := by rw [if_pos rfl] at H; exact H
     clear H
     have H := H1
     clear H1
     replace H := Option.bind_eq_some_iff.mp H
     obtain ⟨⟨t844, t845, t846, t847⟩, A120, H⟩ := H
     try dsimp only at H
     have A12 := aM A120
     clear A120
     by_cases c13 : (t839 == t844 && (t840 == t845 && (t841 == t846 && (t842 == t847)))) = true
     ·rw [if_pos c13] at H
      have c13b0 : (t839 == t844 && (t840 == t845 && (t841 == t846 && (t842 == t847)))) = true := c13
      (try (have c13b1 : decide (t839 = t844 && (t840 == t845 && (t841 == t846 && (t842 == t847)))) = true := by simpa using c13))
      (try (have c13b2 : (t839 == t844 && (t840 == t845 && (t841 == t846 && (t842 == t847)))) = true := by simpa using c13))
      clear c13
      obtain rfl := Option.some.inj H
      have hnb14 := NB833_838.out
      have hnc14 := NB838_833.out
      have hcz15_0 : wr.cell? ⟨gb833, 0, none⟩ = some (.int .i64 a0_0) := (blk_cell BK833.out 0).trans rfl
      have hcz15_1 : wr.cell? ⟨gb833, 1, none⟩ = some (.int .i64 a0_1) := (blk_cell BK833.out 1).trans rfl
      have hcz15_2 : wr.cell? ⟨gb833, 2, none⟩ = some (.int .i64 a0_2) := (blk_cell BK833.out 2).trans rfl
      have hcz15_3 : wr.cell? ⟨gb833, 3, none⟩ = some (.int .i64 a0_3) := (blk_cell BK833.out 3).trans rfl
      have hfz15_0 := blk_frozen BK833.out 0
      have hfz15_1 := blk_frozen BK833.out 1
      have hfz15_2 := blk_frozen BK833.out 2
      have hfz15_3 := blk_frozen BK833.out 3
      have hcz16_0 : wr.cell? ⟨gb838, 0, none⟩ = some (.int .i64 x839000_1) := (blk_cell BK838.out 0).trans rfl
      have hcz16_1 : wr.cell? ⟨gb838, 1, none⟩ = some (.int .i64 x839001_1) := (blk_cell BK838.out 1).trans rfl
      have hcz16_2 : wr.cell? ⟨gb838, 2, none⟩ = some (.int .i64 x839002_1) := (blk_cell BK838.out 2).trans rfl
      have hcz16_3 : wr.cell? ⟨gb838, 3, none⟩ = some (.int .i64 x839003_1) := (blk_cell BK838.out 3).trans rfl
      have hfz16_0 := blk_frozen BK838.out 0
      have hfz16_1 := blk_frozen BK838.out 1
      have hfz16_2 := blk_frozen BK838.out 2
      have hfz16_3 := blk_frozen BK838.out 3
      try go_wp2_with (first | ((with_reducible refine gate_callee (f := 151) rfl ?_); refine goesL_ (some 12) rfl rfl Try.func151 (by kernel_rfl) rfl #[.agg #[.int .i64 a0_0, .int .i64 a0_1, .int .i64 a0_2, .int .i64 a0_3], .agg #[.int .i64 x839000_1, .int .i64 x839001_1, .int .i64 x839002_1, .int .i64 x839003_1]] rfl (by first|rfl|(simp only [List.map_toArray, List.map_cons, List.map_nil]; try rfl)) ?_; (with_reducible refine (spec_l02Multiply.calls a0_0 a0_1 a0_2 a0_3 x839000_1 x839001_1 x839002_1 x839003_1 t839 t840 t841 t842 _ A9.out).mono ?_); rintro e w17 ⟨rfl, hb⟩; refine ⟨_, rfl, ?_⟩; have n0_ := aM (blk_below (g := gb833) (o := .cells #[.int .i64 a0_0, .int .i64 a0_1, .int .i64 a0_2, .int .i64 a0_3] 51 (0, 0)) (by (with_reducible repeat (first|apply kN|apply kD|apply kA)); exact BK833.out) hb); have n1_ := aM (blk_below (g := gb838) (o := .cells #[.int .i64 x839000_1, .int .i64 x839001_1, .int .i64 x839002_1, .int .i64 x839003_1] 51 (0, 0)) (by (with_reducible repeat (first|apply kN|apply kD|apply kA)); exact BK838.out) hb); have n2_ := aM (below_step (by repeat (first | (with_reducible first | exact HB.out | apply bA|apply bN|apply b1 | refine below_set ?_ (Aside0.out (by assumption))) | exact HB.out)) hb); clear BK833; clear BK838; clear HB; have BK833 := n0_; have BK838 := n1_; have HB := n2_; clear n0_ n1_ n2_; (try clear hb); have hcz18_0 : w17.cell? ⟨gb838, 0, none⟩ = some (.int .i64 x839000_1) := (blk_cell BK838.out 0).trans rfl; have hcz18_1 : w17.cell? ⟨gb838, 1, none⟩ = some (.int .i64 x839001_1) := (blk_cell BK838.out 1).trans rfl; have hcz18_2 : w17.cell? ⟨gb838, 2, none⟩ = some (.int .i64 x839002_1) := (blk_cell BK838.out 2).trans rfl; have hcz18_3 : w17.cell? ⟨gb838, 3, none⟩ = some (.int .i64 x839003_1) := (blk_cell BK838.out 3).trans rfl; have hfz18_0 := blk_frozen BK838.out 0; have hfz18_1 := blk_frozen BK838.out 1; have hfz18_2 := blk_frozen BK838.out 2; have hfz18_3 := blk_frozen BK838.out 3) | ((with_reducible refine gate_callee (f := 157) rfl ?_); refine goesL_ (some 14) rfl rfl Try.func157 (by kernel_rfl) rfl #[.agg #[.int .i64 t839, .int .i64 t840, .int .i64 t841, .int .i64 t842]] rfl (by first|rfl|(simp only [List.map_toArray, List.map_cons, List.map_nil]; try rfl)) ?_; (with_reducible refine (spec_l02Small.calls t839 t840 t841 t842 true _ A10.out).mono ?_); rintro e w19 ⟨rfl, hb⟩; refine ⟨_, rfl, ?_⟩; have n0_ := aM (blk_below (g := gb833) (o := .cells #[.int .i64 a0_0, .int .i64 a0_1, .int .i64 a0_2, .int .i64 a0_3] 51 (0, 0)) (by (repeat (first|(with_reducible first|apply kN|apply kD|apply kA)|refine blk_far ?_ NB833_838.out _)); exact BK833.out) hb); have n1_ := aM (blk_below (g := gb838) (o := .cells #[.int .i64 t839, .int .i64 t840, .int .i64 t841, .int .i64 t842] 51 (0, 0)) (by (with_reducible repeat (first|apply kN|apply kD|apply kA)); refine blk_put (cs := #[.int .i64 t839, .int .i64 t840, .int .i64 t841, .int .i64 x839003_1]) ?_ 3 _ rfl; (with_reducible repeat (first|apply kN|apply kD|apply kA)); refine blk_put (cs := #[.int .i64 t839, .int .i64 t840, .int .i64 x839002_1, .int .i64 x839003_1]) ?_ 2 _ rfl; (with_reducible repeat (first|apply kN|apply kD|apply kA)); refine blk_put (cs := #[.int .i64 t839, .int .i64 x839001_1, .int .i64 x839002_1, .int .i64 x839003_1]) ?_ 1 _ rfl; (with_reducible repeat (first|apply kN|apply kD|apply kA)); refine blk_put (cs := #[.int .i64 x839000_1, .int .i64 x839001_1, .int .i64 x839002_1, .int .i64 x839003_1]) ?_ 0 _ rfl; (with_reducible repeat (first|apply kN|apply kD|apply kA)); exact BK838.out) hb); have n2_ := aM (below_step (by repeat (first | (with_reducible first | exact HB.out | apply bA|apply bN|apply b1 | refine below_set ?_ (Aside0.out (by assumption))) | exact HB.out)) hb); clear BK833; clear BK838; clear HB; have BK833 := n0_; have BK838 := n1_; have HB := n2_; clear n0_ n1_ n2_; (try clear hb)))
      have n0_ := aM (blk_drew BK833.out)
      have n1_ := aM (blk_drew BK838.out)
      have n2_ := aM (below_drew1 HB.out)
      clear BK833
      clear BK838
      clear HB
      have BK833 := n0_
      have BK838 := n1_
      have HB := n2_
      clear n0_ n1_ n2_
      refine start_ (n := 3) (S := fun w' => w'.cell? ⟨gb838, 0, none⟩ = some (.int .i64 t839) ∧ w'.cell? ⟨gb838, 1, none⟩ = some (.int .i64 t840) ∧ w'.cell? ⟨gb838, 2, none⟩ = some (.int .i64 t841) ∧ w'.cell? ⟨gb838, 3, none⟩ = some (.int .i64 t842)) (ds := []) #[false, false, false] (by kernel_rfl) rfl rfl ⟨(blk_cell BK838.out 0).trans rfl, (blk_cell BK838.out 1).trans rfl, (blk_cell BK838.out 2).trans rfl, (blk_cell BK838.out 3).trans rfl⟩ (fun hHeld => ?_)
      generalize w19.drew = w20 at BK833 BK838 HB hHeld ⊢
      refine take_ (i := 0) (N := some 16) (v := ?_) (a' := ?_) #[true, false, false] rfl rfl (by kernel_rfl) (fun _ _ _ h => h) (Or.inl ⟨by rfl, ?_⟩) hHeld ?_ ?_
      rotate_left
      ·rintro w' ⟨s0, s1, s2, s3⟩
       go_simp
       with_reducible rfl
      rotate_left
      ·simp only [Act.put, List.setIfInBounds_toArray, List.set_cons_zero, List.set_cons_succ, i64_w, i32_w]
       rfl
      refine one_ (i := 1) (N := some 17) #[true, true, false] rfl rfl (by kernel_rfl) (by decide) (fun K hK => ?_)
      refine goes_ Try.func162 (by kernel_rfl) rfl #[] (by rfl) rfl rfl (by first|rfl|(simp only [List.map_toArray, List.map_cons, List.map_nil]; try rfl)) ?_
      with_reducible refine (spec_l02Unit.calls  t844 t845 t846 t847 _ A12.out).mono ?_
      rintro e w21 ⟨rfl, hb⟩
      refine ⟨_, rfl, ?_⟩
      have n0_ := aM (blk_below (g := gb833) (o := .cells #[.int .i64 a0_0, .int .i64 a0_1, .int .i64 a0_2, .int .i64 a0_3] 51 (0, 0)) (by (with_reducible repeat (first|apply kN|apply kD|apply kA)); exact BK833.out) hb)
      have n1_ := aM (blk_below (g := gb838) (o := .cells #[.int .i64 t839, .int .i64 t840, .int .i64 t841, .int .i64 t842] 51 (0, 0)) (by (with_reducible repeat (first|apply kN|apply kD|apply kA)); exact BK838.out) hb)
      have n2_ := aM (below_step (by repeat (first | (with_reducible first | exact HB.out | apply bA|apply bN|apply b1 | refine below_set ?_ (Aside0.out (by assumption))) | exact HB.out)) hb)
      clear BK833
      clear BK838
      clear HB
      have BK833 := n0_
      have BK838 := n1_
      have HB := n2_
      clear n0_ n1_ n2_
      (try clear hb)
      (try clear hb2)
      (try clear hk)
      (try clear hi)
      refine hK.out _ _ ⟨(blk_cell BK838.out 0).trans rfl, (blk_cell BK838.out 1).trans rfl, (blk_cell BK838.out 2).trans rfl, (blk_cell BK838.out 3).trans rfl⟩ (fun hHeld => ?_)
      clear hK K
      refine norm_ (a' := ?_) ?_ ?_
      rotate_left
      ·show Act.put _ (some 17) _ = _
       simp only [Act.put, List.setIfInBounds_toArray, List.set_cons_zero, List.set_cons_succ, i64_w, i32_w]
       rfl
      refine pure_ (i := 2) (N := some 18) (v := ?_) (a' := ?_) #[true, true, true] rfl rfl (by kernel_rfl) (fun _ _ _ h => h) (Or.inl ⟨by rfl, ?_⟩) ?_ ?_
      rotate_left
      ·intro w'
       go_simp
       with_reducible rfl
      rotate_left
      ·simp only [Act.put, List.setIfInBounds_toArray, List.set_cons_zero, List.set_cons_succ, i64_w, i32_w]
       rfl
      refine done_ (by kernel_rfl) ?_
      try go_wp2
      go_ret
      exact ⟨by first|rfl|(simp [*, errW_none, errW_some] <;> rfl), by repeat (first | (with_reducible first | exact HB.out | apply bA|apply bN|apply b1 | refine below_set ?_ (Aside0.out (by assumption))) | exact HB.out)⟩
     ·rw [if_neg c13] at H
      have c13b0 : (t839 == t844 && (t840 == t845 && (t841 == t846 && (t842 == t847)))) = false := by simpa using c13
      (try (have c13b1 : decide (t839 = t844 && (t840 == t845 && (t841 == t846 && (t842 == t847)))) = false := by simpa using c13))
      (try (have c13b2 : (t839 == t844 && (t840 == t845 && (t841 == t846 && (t842 == t847)))) = false := by simpa using c13))
      (try (have c13b3 : ¬ (t839 = t844 && (t840 == t845 && (t841 == t846 && (t842 == t847)))) := by simpa using c13))
      clear c13
      have H' := aM H
      clear H
      have hnb22 := NB833_838.out
      have hnc22 := NB838_833.out
      have hcz23_0 : wr.cell? ⟨gb833, 0, none⟩ = some (.int .i64 a0_0) := (blk_cell BK833.out 0).trans rfl
      have hcz23_1 : wr.cell? ⟨gb833, 1, none⟩ = some (.int .i64 a0_1) := (blk_cell BK833.out 1).trans rfl
      have hcz23_2 : wr.cell? ⟨gb833, 2, none⟩ = some (.int .i64 a0_2) := (blk_cell BK833.out 2).trans rfl
      have hcz23_3 : wr.cell? ⟨gb833, 3, none⟩ = some (.int .i64 a0_3) := (blk_cell BK833.out 3).trans rfl
      have hfz23_0 := blk_frozen BK833.out 0
      have hfz23_1 := blk_frozen BK833.out 1
      have hfz23_2 := blk_frozen BK833.out 2
      have hfz23_3 := blk_frozen BK833.out 3
      have hcz24_0 : wr.cell? ⟨gb838, 0, none⟩ = some (.int .i64 x839000_1) := (blk_cell BK838.out 0).trans rfl
      have hcz24_1 : wr.cell? ⟨gb838, 1, none⟩ = some (.int .i64 x839001_1) := (blk_cell BK838.out 1).trans rfl
      have hcz24_2 : wr.cell? ⟨gb838, 2, none⟩ = some (.int .i64 x839002_1) := (blk_cell BK838.out 2).trans rfl
      have hcz24_3 : wr.cell? ⟨gb838, 3, none⟩ = some (.int .i64 x839003_1) := (blk_cell BK838.out 3).trans rfl
      have hfz24_0 := blk_frozen BK838.out 0
      have hfz24_1 := blk_frozen BK838.out 1
      have hfz24_2 := blk_frozen BK838.out 2
      have hfz24_3 := blk_frozen BK838.out 3
      try go_wp2_with (first | ((with_reducible refine gate_callee (f := 151) rfl ?_); refine goesL_ (some 12) rfl rfl Try.func151 (by kernel_rfl) rfl #[.agg #[.int .i64 a0_0, .int .i64 a0_1, .int .i64 a0_2, .int .i64 a0_3], .agg #[.int .i64 x839000_1, .int .i64 x839001_1, .int .i64 x839002_1, .int .i64 x839003_1]] rfl (by first|rfl|(simp only [List.map_toArray, List.map_cons, List.map_nil]; try rfl)) ?_; (with_reducible refine (spec_l02Multiply.calls a0_0 a0_1 a0_2 a0_3 x839000_1 x839001_1 x839002_1 x839003_1 t839 t840 t841 t842 _ A9.out).mono ?_); rintro e w25 ⟨rfl, hb⟩; refine ⟨_, rfl, ?_⟩; have n0_ := aM (blk_below (g := gb833) (o := .cells #[.int .i64 a0_0, .int .i64 a0_1, .int .i64 a0_2, .int .i64 a0_3] 51 (0, 0)) (by (with_reducible repeat (first|apply kN|apply kD|apply kA)); exact BK833.out) hb); have n1_ := aM (blk_below (g := gb838) (o := .cells #[.int .i64 x839000_1, .int .i64 x839001_1, .int .i64 x839002_1, .int .i64 x839003_1] 51 (0, 0)) (by (with_reducible repeat (first|apply kN|apply kD|apply kA)); exact BK838.out) hb); have n2_ := aM (below_step (by repeat (first | (with_reducible first | exact HB.out | apply bA|apply bN|apply b1 | refine below_set ?_ (Aside0.out (by assumption))) | exact HB.out)) hb); clear BK833; clear BK838; clear HB; have BK833 := n0_; have BK838 := n1_; have HB := n2_; clear n0_ n1_ n2_; (try clear hb); have hcz26_0 : w25.cell? ⟨gb838, 0, none⟩ = some (.int .i64 x839000_1) := (blk_cell BK838.out 0).trans rfl; have hcz26_1 : w25.cell? ⟨gb838, 1, none⟩ = some (.int .i64 x839001_1) := (blk_cell BK838.out 1).trans rfl; have hcz26_2 : w25.cell? ⟨gb838, 2, none⟩ = some (.int .i64 x839002_1) := (blk_cell BK838.out 2).trans rfl; have hcz26_3 : w25.cell? ⟨gb838, 3, none⟩ = some (.int .i64 x839003_1) := (blk_cell BK838.out 3).trans rfl; have hfz26_0 := blk_frozen BK838.out 0; have hfz26_1 := blk_frozen BK838.out 1; have hfz26_2 := blk_frozen BK838.out 2; have hfz26_3 := blk_frozen BK838.out 3) | ((with_reducible refine gate_callee (f := 157) rfl ?_); refine goesL_ (some 14) rfl rfl Try.func157 (by kernel_rfl) rfl #[.agg #[.int .i64 t839, .int .i64 t840, .int .i64 t841, .int .i64 t842]] rfl (by first|rfl|(simp only [List.map_toArray, List.map_cons, List.map_nil]; try rfl)) ?_; (with_reducible refine (spec_l02Small.calls t839 t840 t841 t842 true _ A10.out).mono ?_); rintro e w27 ⟨rfl, hb⟩; refine ⟨_, rfl, ?_⟩; have n0_ := aM (blk_below (g := gb833) (o := .cells #[.int .i64 a0_0, .int .i64 a0_1, .int .i64 a0_2, .int .i64 a0_3] 51 (0, 0)) (by (repeat (first|(with_reducible first|apply kN|apply kD|apply kA)|refine blk_far ?_ NB833_838.out _)); exact BK833.out) hb); have n1_ := aM (blk_below (g := gb838) (o := .cells #[.int .i64 t839, .int .i64 t840, .int .i64 t841, .int .i64 t842] 51 (0, 0)) (by (with_reducible repeat (first|apply kN|apply kD|apply kA)); refine blk_put (cs := #[.int .i64 t839, .int .i64 t840, .int .i64 t841, .int .i64 x839003_1]) ?_ 3 _ rfl; (with_reducible repeat (first|apply kN|apply kD|apply kA)); refine blk_put (cs := #[.int .i64 t839, .int .i64 t840, .int .i64 x839002_1, .int .i64 x839003_1]) ?_ 2 _ rfl; (with_reducible repeat (first|apply kN|apply kD|apply kA)); refine blk_put (cs := #[.int .i64 t839, .int .i64 x839001_1, .int .i64 x839002_1, .int .i64 x839003_1]) ?_ 1 _ rfl; (with_reducible repeat (first|apply kN|apply kD|apply kA)); refine blk_put (cs := #[.int .i64 x839000_1, .int .i64 x839001_1, .int .i64 x839002_1, .int .i64 x839003_1]) ?_ 0 _ rfl; (with_reducible repeat (first|apply kN|apply kD|apply kA)); exact BK838.out) hb); have n2_ := aM (below_step (by repeat (first | (with_reducible first | exact HB.out | apply bA|apply bN|apply b1 | refine below_set ?_ (Aside0.out (by assumption))) | exact HB.out)) hb); clear BK833; clear BK838; clear HB; have BK833 := n0_; have BK838 := n1_; have HB := n2_; clear n0_ n1_ n2_; (try clear hb)))
      have n0_ := aM (blk_drew BK833.out)
      have n1_ := aM (blk_drew BK838.out)
      have n2_ := aM (below_drew1 HB.out)
      clear BK833
      clear BK838
      clear HB
      have BK833 := n0_
      have BK838 := n1_
      have HB := n2_
      clear n0_ n1_ n2_
      refine start_ (n := 3) (S := fun w' => w'.cell? ⟨gb838, 0, none⟩ = some (.int .i64 t839) ∧ w'.cell? ⟨gb838, 1, none⟩ = some (.int .i64 t840) ∧ w'.cell? ⟨gb838, 2, none⟩ = some (.int .i64 t841) ∧ w'.cell? ⟨gb838, 3, none⟩ = some (.int .i64 t842)) (ds := []) #[false, false, false] (by kernel_rfl) rfl rfl ⟨(blk_cell BK838.out 0).trans rfl, (blk_cell BK838.out 1).trans rfl, (blk_cell BK838.out 2).trans rfl, (blk_cell BK838.out 3).trans rfl⟩ (fun hHeld => ?_)
      generalize w27.drew = w28 at BK833 BK838 HB hHeld ⊢
      refine take_ (i := 0) (N := some 16) (v := ?_) (a' := ?_) #[true, false, false] rfl rfl (by kernel_rfl) (fun _ _ _ h => h) (Or.inl ⟨by rfl, ?_⟩) hHeld ?_ ?_
      rotate_left
      ·rintro w' ⟨s0, s1, s2, s3⟩
       go_simp
       with_reducible rfl
      rotate_left
      ·simp only [Act.put, List.setIfInBounds_toArray, List.set_cons_zero, List.set_cons_succ, i64_w, i32_w]
       rfl
      refine one_ (i := 1) (N := some 17) #[true, true, false] rfl rfl (by kernel_rfl) (by decide) (fun K hK => ?_)
      refine goes_ Try.func162 (by kernel_rfl) rfl #[] (by rfl) rfl rfl (by first|rfl|(simp only [List.map_toArray, List.map_cons, List.map_nil]; try rfl)) ?_
      with_reducible refine (spec_l02Unit.calls  t844 t845 t846 t847 _ A12.out).mono ?_
      rintro e w29 ⟨rfl, hb⟩
      refine ⟨_, rfl, ?_⟩
      have n0_ := aM (blk_below (g := gb833) (o := .cells #[.int .i64 a0_0, .int .i64 a0_1, .int .i64 a0_2, .int .i64 a0_3] 51 (0, 0)) (by (with_reducible repeat (first|apply kN|apply kD|apply kA)); exact BK833.out) hb)
      have n1_ := aM (blk_below (g := gb838) (o := .cells #[.int .i64 t839, .int .i64 t840, .int .i64 t841, .int .i64 t842] 51 (0, 0)) (by (with_reducible repeat (first|apply kN|apply kD|apply kA)); exact BK838.out) hb)
      have n2_ := aM (below_step (by repeat (first | (with_reducible first | exact HB.out | apply bA|apply bN|apply b1 | refine below_set ?_ (Aside0.out (by assumption))) | exact HB.out)) hb)
      clear BK833
      clear BK838
      clear HB
      have BK833 := n0_
      have BK838 := n1_
      have HB := n2_
      clear n0_ n1_ n2_
      (try clear hb)
      (try clear hb2)
      (try clear hk)
      (try clear hi)
      refine hK.out _ _ ⟨(blk_cell BK838.out 0).trans rfl, (blk_cell BK838.out 1).trans rfl, (blk_cell BK838.out 2).trans rfl, (blk_cell BK838.out 3).trans rfl⟩ (fun hHeld => ?_)
      clear hK K
      refine norm_ (a' := ?_) ?_ ?_
      rotate_left
      ·show Act.put _ (some 17) _ = _
       simp only [Act.put, List.setIfInBounds_toArray, List.set_cons_zero, List.set_cons_succ, i64_w, i32_w]
       rfl
      refine pure_ (i := 2) (N := some 18) (v := ?_) (a' := ?_) #[true, true, true] rfl rfl (by kernel_rfl) (fun _ _ _ h => h) (Or.inl ⟨by rfl, ?_⟩) ?_ ?_
      rotate_left
      ·intro w'
       go_simp
       with_reducible rfl
      rotate_left
      ·simp only [Act.put, List.setIfInBounds_toArray, List.set_cons_zero, List.set_cons_succ, i64_w, i32_w]
       rfl
      refine done_ (by kernel_rfl) ?_
      try go_wp2
      go_roundg k1
      case measure => have := HK1.out; omega
      case rel => exact ⟨(wrap64 (x4_1 + 1)), (t839), (t840), (t841), (t842), (by first | rfl | (simp; done) | (simp [*]; done)), H', ⟨by have := HK1.out; omega⟩, ⟨by (with_reducible repeat (first|apply kN|apply kD|apply kA)); exact BK833.out⟩, ⟨by (with_reducible repeat (first|apply kN|apply kD|apply kA)); exact BK838.out⟩, ⟨by repeat (first | (with_reducible first | exact HB.out | apply bA|apply bN|apply b1 | refine below_set ?_ (Aside0.out (by assumption))) | exact HB.out)⟩⟩
    ·replace c11 := Bool.eq_false_iff.mpr c11
     subst c11
     have H1 : (some 0) = some r := by rw [if_neg (show ¬ (false = true) by decide)] at H; exact H
     clear H
     have H := H1
     clear H1
     obtain rfl := Option.some.inj H
     have hnb30 := NB833_838.out
     have hnc30 := NB838_833.out
     have hcz31_0 : wr.cell? ⟨gb833, 0, none⟩ = some (.int .i64 a0_0) := (blk_cell BK833.out 0).trans rfl
     have hcz31_1 : wr.cell? ⟨gb833, 1, none⟩ = some (.int .i64 a0_1) := (blk_cell BK833.out 1).trans rfl
     have hcz31_2 : wr.cell? ⟨gb833, 2, none⟩ = some (.int .i64 a0_2) := (blk_cell BK833.out 2).trans rfl
     have hcz31_3 : wr.cell? ⟨gb833, 3, none⟩ = some (.int .i64 a0_3) := (blk_cell BK833.out 3).trans rfl
     have hfz31_0 := blk_frozen BK833.out 0
     have hfz31_1 := blk_frozen BK833.out 1
     have hfz31_2 := blk_frozen BK833.out 2
     have hfz31_3 := blk_frozen BK833.out 3
     have hcz32_0 : wr.cell? ⟨gb838, 0, none⟩ = some (.int .i64 x839000_1) := (blk_cell BK838.out 0).trans rfl
     have hcz32_1 : wr.cell? ⟨gb838, 1, none⟩ = some (.int .i64 x839001_1) := (blk_cell BK838.out 1).trans rfl
     have hcz32_2 : wr.cell? ⟨gb838, 2, none⟩ = some (.int .i64 x839002_1) := (blk_cell BK838.out 2).trans rfl
     have hcz32_3 : wr.cell? ⟨gb838, 3, none⟩ = some (.int .i64 x839003_1) := (blk_cell BK838.out 3).trans rfl
     have hfz32_0 := blk_frozen BK838.out 0
     have hfz32_1 := blk_frozen BK838.out 1
     have hfz32_2 := blk_frozen BK838.out 2
     have hfz32_3 := blk_frozen BK838.out 3
     go_wp2_with (first | ((with_reducible refine gate_callee (f := 151) rfl ?_); refine goesL_ (some 12) rfl rfl Try.func151 (by kernel_rfl) rfl #[.agg #[.int .i64 a0_0, .int .i64 a0_1, .int .i64 a0_2, .int .i64 a0_3], .agg #[.int .i64 x839000_1, .int .i64 x839001_1, .int .i64 x839002_1, .int .i64 x839003_1]] rfl (by first|rfl|(simp only [List.map_toArray, List.map_cons, List.map_nil]; try rfl)) ?_; (with_reducible refine (spec_l02Multiply.calls a0_0 a0_1 a0_2 a0_3 x839000_1 x839001_1 x839002_1 x839003_1 t839 t840 t841 t842 _ A9.out).mono ?_); rintro e w33 ⟨rfl, hb⟩; refine ⟨_, rfl, ?_⟩; have n0_ := aM (blk_below (g := gb833) (o := .cells #[.int .i64 a0_0, .int .i64 a0_1, .int .i64 a0_2, .int .i64 a0_3] 51 (0, 0)) (by (with_reducible repeat (first|apply kN|apply kD|apply kA)); exact BK833.out) hb); have n1_ := aM (blk_below (g := gb838) (o := .cells #[.int .i64 x839000_1, .int .i64 x839001_1, .int .i64 x839002_1, .int .i64 x839003_1] 51 (0, 0)) (by (with_reducible repeat (first|apply kN|apply kD|apply kA)); exact BK838.out) hb); have n2_ := aM (below_step (by repeat (first | (with_reducible first | exact HB.out | apply bA|apply bN|apply b1 | refine below_set ?_ (Aside0.out (by assumption))) | exact HB.out)) hb); clear BK833; clear BK838; clear HB; have BK833 := n0_; have BK838 := n1_; have HB := n2_; clear n0_ n1_ n2_; (try clear hb); have hcz34_0 : w33.cell? ⟨gb838, 0, none⟩ = some (.int .i64 x839000_1) := (blk_cell BK838.out 0).trans rfl; have hcz34_1 : w33.cell? ⟨gb838, 1, none⟩ = some (.int .i64 x839001_1) := (blk_cell BK838.out 1).trans rfl; have hcz34_2 : w33.cell? ⟨gb838, 2, none⟩ = some (.int .i64 x839002_1) := (blk_cell BK838.out 2).trans rfl; have hcz34_3 : w33.cell? ⟨gb838, 3, none⟩ = some (.int .i64 x839003_1) := (blk_cell BK838.out 3).trans rfl; have hfz34_0 := blk_frozen BK838.out 0; have hfz34_1 := blk_frozen BK838.out 1; have hfz34_2 := blk_frozen BK838.out 2; have hfz34_3 := blk_frozen BK838.out 3) | ((with_reducible refine gate_callee (f := 157) rfl ?_); refine goesL_ (some 14) rfl rfl Try.func157 (by kernel_rfl) rfl #[.agg #[.int .i64 t839, .int .i64 t840, .int .i64 t841, .int .i64 t842]] rfl (by first|rfl|(simp only [List.map_toArray, List.map_cons, List.map_nil]; try rfl)) ?_; (with_reducible refine (spec_l02Small.calls t839 t840 t841 t842 false _ A10.out).mono ?_); rintro e w35 ⟨rfl, hb⟩; refine ⟨_, rfl, ?_⟩; have n0_ := aM (blk_below (g := gb833) (o := .cells #[.int .i64 a0_0, .int .i64 a0_1, .int .i64 a0_2, .int .i64 a0_3] 51 (0, 0)) (by (repeat (first|(with_reducible first|apply kN|apply kD|apply kA)|refine blk_far ?_ NB833_838.out _)); exact BK833.out) hb); have n1_ := aM (blk_below (g := gb838) (o := .cells #[.int .i64 t839, .int .i64 t840, .int .i64 t841, .int .i64 t842] 51 (0, 0)) (by (with_reducible repeat (first|apply kN|apply kD|apply kA)); refine blk_put (cs := #[.int .i64 t839, .int .i64 t840, .int .i64 t841, .int .i64 x839003_1]) ?_ 3 _ rfl; (with_reducible repeat (first|apply kN|apply kD|apply kA)); refine blk_put (cs := #[.int .i64 t839, .int .i64 t840, .int .i64 x839002_1, .int .i64 x839003_1]) ?_ 2 _ rfl; (with_reducible repeat (first|apply kN|apply kD|apply kA)); refine blk_put (cs := #[.int .i64 t839, .int .i64 x839001_1, .int .i64 x839002_1, .int .i64 x839003_1]) ?_ 1 _ rfl; (with_reducible repeat (first|apply kN|apply kD|apply kA)); refine blk_put (cs := #[.int .i64 x839000_1, .int .i64 x839001_1, .int .i64 x839002_1, .int .i64 x839003_1]) ?_ 0 _ rfl; (with_reducible repeat (first|apply kN|apply kD|apply kA)); exact BK838.out) hb); have n2_ := aM (below_step (by repeat (first | (with_reducible first | exact HB.out | apply bA|apply bN|apply b1 | refine below_set ?_ (Aside0.out (by assumption))) | exact HB.out)) hb); clear BK833; clear BK838; clear HB; have BK833 := n0_; have BK838 := n1_; have HB := n2_; clear n0_ n1_ n2_; (try clear hb)))
     go_ret
     exact ⟨by first|rfl|(simp [*, errW_none, errW_some] <;> rfl), by repeat (first | (with_reducible first | exact HB.out | apply bA|apply bN|apply b1 | refine below_set ?_ (Aside0.out (by assumption))) | exact HB.out)⟩
   ·rw [if_neg c8] at H
    have c8b0 : decide (x4_1 ≤ 6) = false := decide_eq_false c8
    clear c8
    obtain rfl := Option.some.inj H
    go_wp2
    go_ret
    exact ⟨by first|rfl|(simp [*, errW_none, errW_some] <;> rfl), by repeat (first | (with_reducible first | exact HB.out | apply bA|apply bN|apply b1 | refine below_set ?_ (Aside0.out (by assumption))) | exact HB.out)⟩

end Go.Proofs.Ytjjbjaagfjljnaa.F

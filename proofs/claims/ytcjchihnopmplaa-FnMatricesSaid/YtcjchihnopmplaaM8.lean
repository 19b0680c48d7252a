import Derived.Test.YtcjchihnopmplaaM0
import Derived.Test.YtcjchihnopmplaaM1
import Derived.Test.YtcjchihnopmplaaM5
namespace Go.Proofs.Ytcjchihnopmplaa.F
open Go.RowKit Go.Proofs.YtcjchihnopmplaaW.PrintWords Go.Proofs.YtcjchihnopmplaaW.PrintLast Go.Proofs.YtcjchihnopmplaaW.PrintMore
attribute [local go_sem] max2_int min2_int max_two min_two max_three min_three max_four min_four   -- for this text's walks alone
set_option linter.unusedVariables false
set_option linter.unusedSimpArgs false

def spec_l01Result.f (a0_0 : Int) (a0_1 : Int) : Option (Int × Int × Int) := (spec_IsVec.f a0_0 a0_1).bind fun t669 => (if t669 = true then (some (a0_0, a0_1, 0)) else (some (0, 0, 3)))
set_option maxHeartbeats 8000000 in
set_option maxRecDepth 100000 in
theorem spec_l01Result.calls (a0_0 : Int) (a0_1 : Int) (r1 : Int) (r2 : Int) (r3 : Int) (w : World) (h : spec_l01Result.f a0_0 a0_1 = some (r1, r2, r3)) :
  Calls Try.prog 99 #[.agg #[.int .i64 a0_0, .int .i64 a0_1]] w fun e w' => e = .returned (.tuple #[.agg #[.int .i64 r1, .int .i64 r2], .int .i64 r3]) ∧ Below w.heap.size w w' := by
 have hu47 := Try.underlying47
 have HB := aM (Below.refl w.heap.size w)
 have H : ((spec_IsVec.f a0_0 a0_1).bind fun t669 => (if t669 = true then (some (a0_0, a0_1, 0)) else (some (0, 0, 3)))) = some (r1, r2, r3) := h
 clear h
 replace H := Option.bind_eq_some_iff.mp H
 obtain ⟨t669, A20, H⟩ := H
 try dsimp only at H
 have A2 := aM A20
 clear A20
 by_cases c3 : t669 = true
 ·subst c3
  have H1 : (some (a0_0, a0_1, 0)) = some (r1, r2, r3) := by rw [if_pos rfl] at H; exact H
  clear H
  have H := H1
  clear H1
  simp only [Option.some.injEq, Prod.mk.injEq] at H
  obtain ⟨rfl, rfl, rfl⟩ := H
  go_enter Try.func99, Try.ntmps99
  go_wp2_with (first | ((with_reducible refine gate_dst (N := 1) rfl ?_); refine box_event ?hg (N := 1) ?hd (cs := #[.int .i64 a0_0, .int .i64 a0_1]) (t := 47) ?hr ?_; (case hd => rfl); (case hg => rfl); (case hr => first | (go_simp; done) | (go_simp; rfl)); intro gb667 hg w4 hbox hb; have n0_ := bS HB hb; have n1_ := aM (hbox); have n2_ := bZ hg HB; have n3_ := bZ hg HB; clear HB; have HB := n0_; have BK667 := n1_; have GW667 := n2_; have GE667 := n3_; clear n0_ n1_ n2_ n3_; clear hb hbox hg) | ((with_reducible refine gate_dst (N := 2) rfl ?_); refine box_event ?hg (N := 2) ?hd (cs := #[.int .i64 0, .int .i64 0]) (t := 47) ?hr ?_; (case hd => rfl); (case hg => rfl); (case hr => first | (go_simp; done) | (go_simp; rfl)); intro gb668 hg w5 hbox hb; have n0_ := bB BK667 hb; have n1_ := bS HB hb; have n2_ := aM (hbox); have n3_ := bZ hg HB; have n4_ := bZ hg HB; have n5_ := nL hg BK667; have n6_ := nG hg BK667; clear BK667; clear HB; have BK667 := n0_; have HB := n1_; have BK668 := n2_; have GW668 := n3_; have GE668 := n4_; have NB667_668 := n5_; have NB668_667 := n6_; clear n0_ n1_ n2_ n3_ n4_ n5_ n6_; clear hb hbox hg; have hnb6 := NB667_668.out; have hnc6 := NB668_667.out; obtain ⟨hcz7_0, hcz7_1⟩ := z2 BK667; obtain ⟨hfz7_0, hfz7_1⟩ := y2 BK667) | ((with_reducible refine gate_callee (f := 98) rfl ?_); refine goesL_ (some 5) rfl rfl Try.func98 (by kernel_rfl) rfl #[.agg #[.int .i64 a0_0, .int .i64 a0_1]] rfl (by first|rfl|(simp only [List.map_toArray, List.map_cons, List.map_nil]; try rfl)) ?_; (with_reducible refine (spec_IsVec.calls a0_0 a0_1 true _ A2.out).mono ?_); rintro e w8 ⟨rfl, hb⟩; refine ⟨_, rfl, ?_⟩; have n0_ := bB BK667 hb; have n1_ := bB BK668 hb; have n2_ := bS HB hb; clear BK667; clear BK668; clear HB; have BK667 := n0_; have BK668 := n1_; have HB := n2_; clear n0_ n1_ n2_; (try clear hb); obtain ⟨hcz9_0, hcz9_1⟩ := z2 BK667; obtain ⟨hfz9_0, hfz9_1⟩ := y2 BK667; obtain ⟨hcz10_0, hcz10_1⟩ := z2 BK668; obtain ⟨hfz10_0, hfz10_1⟩ := y2 BK668))
  refine bodyPost_ret (results_ct rfl _ _ gb668 47 #[.int .i64 a0_0, .int .i64 a0_1] (0, 0) _ rfl (by (with_reducible repeat (first|apply kN|apply kD|apply kA)); refine blk_put (cs := #[.int .i64 a0_0, .int .i64 0]) ?_ 1 _ rfl; (with_reducible repeat (first|apply kN|apply kD|apply kA)); refine blk_put (cs := #[.int .i64 0, .int .i64 0]) ?_ 0 _ rfl; (with_reducible repeat (first|apply kN|apply kD|apply kA)); exact BK668.out) Try.underlying47 rfl (by kernel_rfl)) rfl ?_
  exact ⟨by first|rfl|(simp [*, errW_none, errW_some] <;> rfl), by repeat (first | (with_reducible first | exact HB.out | apply bA|apply bN|apply b1 | refine below_set ?_ (Aside0.out (by assumption))) | exact HB.out)⟩
 ·replace c3 := Bool.eq_false_iff.mpr c3
  subst c3
  have H1 : (some (0, 0, 3)) = some (r1, r2, r3) := by rw [if_neg (show ¬ (false = true) by decide)] at H; exact H
  clear H
  have H := H1
  clear H1
  simp only [Option.some.injEq, Prod.mk.injEq] at H
  obtain ⟨rfl, rfl, rfl⟩ := H
  go_enter Try.func99, Try.ntmps99
  go_wp2_with (first | ((with_reducible refine gate_dst (N := 1) rfl ?_); refine box_event ?hg (N := 1) ?hd (cs := #[.int .i64 a0_0, .int .i64 a0_1]) (t := 47) ?hr ?_; (case hd => rfl); (case hg => rfl); (case hr => first | (go_simp; done) | (go_simp; rfl)); intro gb667 hg w11 hbox hb; have n0_ := bS HB hb; have n1_ := aM (hbox); have n2_ := bZ hg HB; have n3_ := bZ hg HB; clear HB; have HB := n0_; have BK667 := n1_; have GW667 := n2_; have GE667 := n3_; clear n0_ n1_ n2_ n3_; clear hb hbox hg) | ((with_reducible refine gate_dst (N := 2) rfl ?_); refine box_event ?hg (N := 2) ?hd (cs := #[.int .i64 0, .int .i64 0]) (t := 47) ?hr ?_; (case hd => rfl); (case hg => rfl); (case hr => first | (go_simp; done) | (go_simp; rfl)); intro gb668 hg w12 hbox hb; have n0_ := bB BK667 hb; have n1_ := bS HB hb; have n2_ := aM (hbox); have n3_ := bZ hg HB; have n4_ := bZ hg HB; have n5_ := nL hg BK667; have n6_ := nG hg BK667; clear BK667; clear HB; have BK667 := n0_; have HB := n1_; have BK668 := n2_; have GW668 := n3_; have GE668 := n4_; have NB667_668 := n5_; have NB668_667 := n6_; clear n0_ n1_ n2_ n3_ n4_ n5_ n6_; clear hb hbox hg; have hnb13 := NB667_668.out; have hnc13 := NB668_667.out; obtain ⟨hcz14_0, hcz14_1⟩ := z2 BK667; obtain ⟨hfz14_0, hfz14_1⟩ := y2 BK667) | ((with_reducible refine gate_callee (f := 98) rfl ?_); refine goesL_ (some 5) rfl rfl Try.func98 (by kernel_rfl) rfl #[.agg #[.int .i64 a0_0, .int .i64 a0_1]] rfl (by first|rfl|(simp only [List.map_toArray, List.map_cons, List.map_nil]; try rfl)) ?_; (with_reducible refine (spec_IsVec.calls a0_0 a0_1 false _ A2.out).mono ?_); rintro e w15 ⟨rfl, hb⟩; refine ⟨_, rfl, ?_⟩; have n0_ := bB BK667 hb; have n1_ := bB BK668 hb; have n2_ := bS HB hb; clear BK667; clear BK668; clear HB; have BK667 := n0_; have BK668 := n1_; have HB := n2_; clear n0_ n1_ n2_; (try clear hb); obtain ⟨hcz16_0, hcz16_1⟩ := z2 BK668; obtain ⟨hfz16_0, hfz16_1⟩ := y2 BK668))
  refine bodyPost_ret (results_ct rfl _ _ gb668 47 #[.int .i64 0, .int .i64 0] (0, 0) _ rfl (by (with_reducible repeat (first|apply kN|apply kD|apply kA)); refine blk_put (cs := #[.int .i64 0, .int .i64 0]) ?_ 1 _ rfl; (with_reducible repeat (first|apply kN|apply kD|apply kA)); refine blk_put (cs := #[.int .i64 0, .int .i64 0]) ?_ 0 _ rfl; (with_reducible repeat (first|apply kN|apply kD|apply kA)); exact BK668.out) Try.underlying47 rfl (by kernel_rfl)) rfl ?_
  exact ⟨by first|rfl|(simp [*, errW_none, errW_some] <;> rfl), by repeat (first | (with_reducible first | exact HB.out | apply bA|apply bN|apply b1 | refine below_set ?_ (Aside0.out (by assumption))) | exact HB.out)⟩

def spec_ApplyMat.j0 : Nat → Bool → Int → Int → Int → Int → Int → Int → Option (Int × Int × Int)
 | 0, _, _, _, _, _, _, _ => none
 | k + 1, x13, x671000, x671001, x671002, x671003, x672000, x672001 => if x13 = true then (some (0, 0, 1)) else ((spec_l02Apply.f x671000 x671001 x671002 x671003 x672000 x672001).bind fun bt675 => ((spec_l01Result.f bt675.1 bt675.2).bind fun bt677 => (some (bt677.1, bt677.2.1, bt677.2.2))))
def spec_ApplyMat.f (k : Nat) (a0_0 : Int) (a0_1 : Int) (a0_2 : Int) (a0_3 : Int) (a1_0 : Int) (a1_1 : Int) : Option (Int × Int × Int) := (spec_IsMat.f a0_0 a0_1 a0_2 a0_3).bind fun t673 => (if t673 = true then ((spec_IsVec.f a1_0 a1_1).bind fun t674 => (spec_ApplyMat.j0 k (!t674) a0_0 a0_1 a0_2 a0_3 a1_0 a1_1)) else (spec_ApplyMat.j0 k true a0_0 a0_1 a0_2 a0_3 a1_0 a1_1))
set_option maxHeartbeats 8000000 in
set_option maxRecDepth 100000 in
theorem spec_ApplyMat.calls (k : Nat) (a0_0 : Int) (a0_1 : Int) (a0_2 : Int) (a0_3 : Int) (a1_0 : Int) (a1_1 : Int) (r1 : Int) (r2 : Int) (r3 : Int) (w : World) (h : spec_ApplyMat.f k a0_0 a0_1 a0_2 a0_3 a1_0 a1_1 = some (r1, r2, r3)) :
  Calls Try.prog 36 #[.agg #[.int .i64 a0_0, .int .i64 a0_1, .int .i64 a0_2, .int .i64 a0_3], .agg #[.int .i64 a1_0, .int .i64 a1_1]] w fun e w' => e = .returned (.tuple #[.agg #[.int .i64 r1, .int .i64 r2], .int .i64 r3]) ∧ Below w.heap.size w w' := by
 have hu51 := Try.underlying51
 have hu47 := Try.underlying47
 have HB := aM (Below.refl w.heap.size w)
 have H : ((spec_IsMat.f a0_0 a0_1 a0_2 a0_3).bind fun t673 => (if t673 = true then ((spec_IsVec.f a1_0 a1_1).bind fun t674 => (spec_ApplyMat.j0 k (!t674) a0_0 a0_1 a0_2 a0_3 a1_0 a1_1)) else (spec_ApplyMat.j0 k true a0_0 a0_1 a0_2 a0_3 a1_0 a1_1))) = some (r1, r2, r3) := h
 clear h
 have HC3 := aM H
 clear H
 go_enter Try.func36, Try.ntmps36
 go_upto_region 1 with (first | ((with_reducible refine gate_dst (N := 2) rfl ?_); refine box_event ?hg (N := 2) ?hd (cs := #[.int .i64 a0_0, .int .i64 a0_1, .int .i64 a0_2, .int .i64 a0_3]) (t := 51) ?hr ?_; (case hd => rfl); (case hg => rfl); (case hr => first | (go_simp; done) | (go_simp; rfl)); intro gb670 hg w4 hbox hb; have n0_ := bS HB hb; have n1_ := aM (hbox); have n2_ := bZ hg HB; have n3_ := bZ hg HB; clear HB; have HB := n0_; have BK670 := n1_; have GW670 := n2_; have GE670 := n3_; clear n0_ n1_ n2_ n3_; clear hb hbox hg) | ((with_reducible refine gate_dst (N := 3) rfl ?_); refine box_event ?hg (N := 3) ?hd (cs := #[.int .i64 a1_0, .int .i64 a1_1]) (t := 47) ?hr ?_; (case hd => rfl); (case hg => rfl); (case hr => first | (go_simp; done) | (go_simp; rfl)); intro gb671 hg w5 hbox hb; have n0_ := bB BK670 hb; have n1_ := bS HB hb; have n2_ := aM (hbox); have n3_ := bZ hg HB; have n4_ := bZ hg HB; have n5_ := nL hg BK670; have n6_ := nG hg BK670; clear BK670; clear HB; have BK670 := n0_; have HB := n1_; have BK671 := n2_; have GW671 := n3_; have GE671 := n4_; have NB670_671 := n5_; have NB671_670 := n6_; clear n0_ n1_ n2_ n3_ n4_ n5_ n6_; clear hb hbox hg) | ((with_reducible refine gate_dst (N := 4) rfl ?_); refine box_event ?hg (N := 4) ?hd (cs := #[.int .i64 0, .int .i64 0]) (t := 47) ?hr ?_; (case hd => rfl); (case hg => rfl); (case hr => first | (go_simp; done) | (go_simp; rfl)); intro gb672 hg w6 hbox hb; have n0_ := bB BK670 hb; have n1_ := bB BK671 hb; have n2_ := bS HB hb; have n3_ := aM (hbox); have n4_ := bZ hg HB; have n5_ := bZ hg HB; have n6_ := nL hg BK670; have n7_ := nG hg BK670; have n8_ := nL hg BK671; have n9_ := nG hg BK671; clear BK670; clear BK671; clear HB; have BK670 := n0_; have BK671 := n1_; have HB := n2_; have BK672 := n3_; have GW672 := n4_; have GE672 := n5_; have NB670_672 := n6_; have NB672_670 := n7_; have NB671_672 := n8_; have NB672_671 := n9_; clear n0_ n1_ n2_ n3_ n4_ n5_ n6_ n7_ n8_ n9_; clear hb hbox hg))
 (try simp only [Act.put, List.setIfInBounds_toArray, List.set_cons_zero, List.set_cons_succ])
 go_cut [13] (fun v13 wc => ∃ (kq : Nat) (x13_2 : Bool), v13 = .bool x13_2 ∧ Aside0 (spec_ApplyMat.j0 kq x13_2 a0_0 a0_1 a0_2 a0_3 a1_0 a1_1 = some (r1, r2, r3)) ∧ Aside0 (kq ≤ k) ∧ Aside0 (wc.heap[gb670]? = some (.cells #[.int .i64 a0_0, .int .i64 a0_1, .int .i64 a0_2, .int .i64 a0_3] 51 (0, 0))) ∧ Aside0 (wc.heap[gb671]? = some (.cells #[.int .i64 a1_0, .int .i64 a1_1] 47 (0, 0))) ∧ Aside0 (wc.heap[gb672]? = some (.cells #[.int .i64 0, .int .i64 0] 47 (0, 0))) ∧ Aside0 (Below w.heap.size w wc))
 case first =>
  have H := HC3.out
  clear HC3
  replace H := Option.bind_eq_some_iff.mp H
  obtain ⟨t673, A70, H⟩ := H
  try dsimp only at H
  have A7 := aM A70
  clear A70
  by_cases c8 : t673 = true
  ·subst c8
   have H1 : ((spec_IsVec.f a1_0 a1_1).bind fun t674 => (spec_ApplyMat.j0 k (!t674) a0_0 a0_1 a0_2 a0_3 a1_0 a1_1)) = some (r1, r2, r3) := by rw [if_pos rfl] at H; exact H
   clear H
   have H := H1
   clear H1
   replace H := Option.bind_eq_some_iff.mp H
   obtain ⟨t674, A90, H⟩ := H
   try dsimp only at H
   have A9 := aM A90
   clear A90
   have H' := aM H
   clear H
   have hnb10 := NB670_671.out
   have hnc10 := NB671_670.out
   have hnb11 := NB670_672.out
   have hnc11 := NB672_670.out
   obtain ⟨hcz12_0, hcz12_1, hcz12_2, hcz12_3⟩ := z4 BK670
   obtain ⟨hfz12_0, hfz12_1, hfz12_2, hfz12_3⟩ := y4 BK670
   go_wp2_with (first | ((with_reducible refine gate_callee (f := 38) rfl ?_); refine goesL_ (some 7) rfl rfl Try.func38 (by kernel_rfl) rfl #[.agg #[.int .i64 a0_0, .int .i64 a0_1, .int .i64 a0_2, .int .i64 a0_3]] rfl (by first|rfl|(simp only [List.map_toArray, List.map_cons, List.map_nil]; try rfl)) ?_; (with_reducible refine (spec_IsMat.calls a0_0 a0_1 a0_2 a0_3 true _ A7.out).mono ?_); rintro e w13 ⟨rfl, hb⟩; refine ⟨_, rfl, ?_⟩; have n0_ := bB BK670 hb; have n1_ := bB BK671 hb; have n2_ := bB BK672 hb; have n3_ := bS HB hb; clear BK670; clear BK671; clear BK672; clear HB; have BK670 := n0_; have BK671 := n1_; have BK672 := n2_; have HB := n3_; clear n0_ n1_ n2_ n3_; (try clear hb); have hnb14 := NB671_672.out; have hnc14 := NB672_671.out; obtain ⟨hcz15_0, hcz15_1⟩ := z2 BK671; obtain ⟨hfz15_0, hfz15_1⟩ := y2 BK671) | (go_at_call 98; (with_reducible refine (spec_IsVec.calls a1_0 a1_1 t674 _ A9.out).mono ?_); rintro e w16 ⟨rfl, hb⟩; have n0_ := bB BK670 hb; have n1_ := bB BK671 hb; have n2_ := bB BK672 hb; have n3_ := bS HB hb; clear BK670; clear BK671; clear BK672; clear HB; have BK670 := n0_; have BK671 := n1_; have BK672 := n2_; have HB := n3_; clear n0_ n1_ n2_ n3_; (try clear hb)))
   go_meet
   case rel => exact ⟨_, (!t674), (by first | rfl | (simp; done) | (simp [*]; done)), H', ⟨by first | omega | exact Nat.le_refl _⟩, ⟨by (with_reducible repeat (first|apply kN|apply kD|apply kA)); exact BK670.out⟩, ⟨by (with_reducible repeat (first|apply kN|apply kD|apply kA)); exact BK671.out⟩, ⟨by (with_reducible repeat (first|apply kN|apply kD|apply kA)); exact BK672.out⟩, ⟨by repeat (first | (with_reducible first | exact HB.out | apply bA|apply bN|apply b1 | refine below_set ?_ (Aside0.out (by assumption))) | exact HB.out)⟩⟩
  ·replace c8 := Bool.eq_false_iff.mpr c8
   subst c8
   have H1 : (spec_ApplyMat.j0 k true a0_0 a0_1 a0_2 a0_3 a1_0 a1_1) = some (r1, r2, r3) := by rw [if_neg (show ¬ (false = true) by decide)] at H; exact H
   clear H
   have H := H1
   clear H1
   have H' := aM H
   clear H
   have hnb17 := NB670_671.out
   have hnc17 := NB671_670.out
   have hnb18 := NB670_672.out
   have hnc18 := NB672_670.out
   obtain ⟨hcz19_0, hcz19_1, hcz19_2, hcz19_3⟩ := z4 BK670
   obtain ⟨hfz19_0, hfz19_1, hfz19_2, hfz19_3⟩ := y4 BK670
   go_wp2_with (first | ((with_reducible refine gate_callee (f := 38) rfl ?_); refine goesL_ (some 7) rfl rfl Try.func38 (by kernel_rfl) rfl #[.agg #[.int .i64 a0_0, .int .i64 a0_1, .int .i64 a0_2, .int .i64 a0_3]] rfl (by first|rfl|(simp only [List.map_toArray, List.map_cons, List.map_nil]; try rfl)) ?_; (with_reducible refine (spec_IsMat.calls a0_0 a0_1 a0_2 a0_3 false _ A7.out).mono ?_); rintro e w20 ⟨rfl, hb⟩; refine ⟨_, rfl, ?_⟩; have n0_ := bB BK670 hb; have n1_ := bB BK671 hb; have n2_ := bB BK672 hb; have n3_ := bS HB hb; clear BK670; clear BK671; clear BK672; clear HB; have BK670 := n0_; have BK671 := n1_; have BK672 := n2_; have HB := n3_; clear n0_ n1_ n2_ n3_; (try clear hb)))
   go_meet
   case rel => exact ⟨_, (true), (by first | rfl | (simp; done) | (simp [*]; done)), H', ⟨by first | omega | exact Nat.le_refl _⟩, ⟨by (with_reducible repeat (first|apply kN|apply kD|apply kA)); exact BK670.out⟩, ⟨by (with_reducible repeat (first|apply kN|apply kD|apply kA)); exact BK671.out⟩, ⟨by (with_reducible repeat (first|apply kN|apply kD|apply kA)); exact BK672.out⟩, ⟨by repeat (first | (with_reducible first | exact HB.out | apply bA|apply bN|apply b1 | refine below_set ?_ (Aside0.out (by assumption))) | exact HB.out)⟩⟩
 case rest =>
  clear HC3
  try clear c1
  try clear p2
  try clear c3
  try clear c8
  try clear c10
  try clear c11
  try clear c14
  try clear c17
  try clear c18
  try clear hcz12_0
  try clear hcz12_1
  try clear hcz12_2
  try clear hcz12_3
  try clear hcz15_0
  try clear hcz15_1
  try clear hcz19_0
  try clear hcz19_1
  try clear hcz19_2
  try clear hcz19_3
  try clear hfz12_0
  try clear hfz12_1
  try clear hfz12_2
  try clear hfz12_3
  try clear hfz15_0
  try clear hfz15_1
  try clear hfz19_0
  try clear hfz19_1
  try clear hfz19_2
  try clear hfz19_3
  obtain ⟨kq, x13_2, rfl, HA, HJ2, BK670, BK671, BK672, HB⟩ := hcut
  cases kq with
  | zero => exact absurd HA.out (by simp [spec_ApplyMat.j0])
  | succ kj2 =>
   have H := HA.out
   clear HA
   simp only [spec_ApplyMat.j0] at H
   by_cases c21 : x13_2 = true
   ·subst c21
    have H1 : (some (0, 0, 1)) = some (r1, r2, r3) := by rw [if_pos rfl] at H; exact H
    clear H
    have H := H1
    clear H1
    simp only [Option.some.injEq, Prod.mk.injEq] at H
    obtain ⟨rfl, rfl, rfl⟩ := H
    have hnb22 := NB672_670.out
    have hnc22 := NB670_672.out
    have hnb23 := NB672_671.out
    have hnc23 := NB671_672.out
    obtain ⟨hcz24_0, hcz24_1⟩ := z2 BK672
    obtain ⟨hfz24_0, hfz24_1⟩ := y2 BK672
    go_wp2
    refine bodyPost_ret (results_ct rfl _ _ gb672 47 #[.int .i64 0, .int .i64 0] (0, 0) _ rfl (by (with_reducible repeat (first|apply kN|apply kD|apply kA)); refine blk_put (cs := #[.int .i64 0, .int .i64 0]) ?_ 1 _ rfl; (with_reducible repeat (first|apply kN|apply kD|apply kA)); refine blk_put (cs := #[.int .i64 0, .int .i64 0]) ?_ 0 _ rfl; (with_reducible repeat (first|apply kN|apply kD|apply kA)); exact BK672.out) Try.underlying47 rfl (by kernel_rfl)) rfl ?_
    exact ⟨by first|rfl|(simp [*, errW_none, errW_some] <;> rfl), by repeat (first | (with_reducible first | exact HB.out | apply bA|apply bN|apply b1 | refine below_set ?_ (Aside0.out (by assumption))) | exact HB.out)⟩
   ·replace c21 := Bool.eq_false_iff.mpr c21
    subst c21
    have H1 : ((spec_l02Apply.f a0_0 a0_1 a0_2 a0_3 a1_0 a1_1).bind fun bt675 => ((spec_l01Result.f bt675.1 bt675.2).bind fun bt677 => (some (bt677.1, bt677.2.1, bt677.2.2)))) = some (r1, r2, r3) := by rw [if_neg (show ¬ (false = true) by decide)] at H; exact H
    clear H
    have H := H1
    clear H1
    replace H := Option.bind_eq_some_iff.mp H
    obtain ⟨⟨t675, t676⟩, A250, H⟩ := H
    try dsimp only at H
    have A25 := aM A250
    clear A250
    replace H := Option.bind_eq_some_iff.mp H
    obtain ⟨⟨t677, t678, t679⟩, A260, H⟩ := H
    try dsimp only at H
    have A26 := aM A260
    clear A260
    simp only [Option.some.injEq, Prod.mk.injEq] at H
    obtain ⟨rfl, rfl, rfl⟩ := H
    have hnb27 := NB670_671.out
    have hnc27 := NB671_670.out
    have hnb28 := NB670_672.out
    have hnc28 := NB672_670.out
    obtain ⟨hcz29_0, hcz29_1, hcz29_2, hcz29_3⟩ := z4 BK670
    obtain ⟨hfz29_0, hfz29_1, hfz29_2, hfz29_3⟩ := y4 BK670
    have hnb30 := NB671_672.out
    have hnc30 := NB672_671.out
    obtain ⟨hcz31_0, hcz31_1⟩ := z2 BK671
    obtain ⟨hfz31_0, hfz31_1⟩ := y2 BK671
    go_wp2_with (first | ((with_reducible refine gate_callee (f := 100) rfl ?_); refine goesL_ (some 17) rfl rfl Try.func100 (by kernel_rfl) rfl #[.agg #[.int .i64 a0_0, .int .i64 a0_1, .int .i64 a0_2, .int .i64 a0_3], .agg #[.int .i64 a1_0, .int .i64 a1_1]] rfl (by first|rfl|(simp only [List.map_toArray, List.map_cons, List.map_nil]; try rfl)) ?_; (with_reducible refine (spec_l02Apply.calls a0_0 a0_1 a0_2 a0_3 a1_0 a1_1 t675 t676 _ A25.out).mono ?_); rintro e w32 ⟨rfl, hb⟩; refine ⟨_, rfl, ?_⟩; have n0_ := bB BK670 hb; have n1_ := bB BK671 hb; have n2_ := bB BK672 hb; have n3_ := bS HB hb; clear BK670; clear BK671; clear BK672; clear HB; have BK670 := n0_; have BK671 := n1_; have BK672 := n2_; have HB := n3_; clear n0_ n1_ n2_ n3_; (try clear hb)) | ((with_reducible refine gate_callee (f := 99) rfl ?_); refine goesL_ (some 18) rfl rfl Try.func99 (by kernel_rfl) rfl #[.agg #[.int .i64 t675, .int .i64 t676]] rfl (by first|rfl|(simp only [List.map_toArray, List.map_cons, List.map_nil]; try rfl)) ?_; (with_reducible refine (spec_l01Result.calls t675 t676 t677 t678 t679 _ A26.out).mono ?_); rintro e w33 ⟨rfl, hb⟩; refine ⟨_, rfl, ?_⟩; have n0_ := bB BK670 hb; have n1_ := bB BK671 hb; have n2_ := bB BK672 hb; have n3_ := bS HB hb; clear BK670; clear BK671; clear BK672; clear HB; have BK670 := n0_; have BK671 := n1_; have BK672 := n2_; have HB := n3_; clear n0_ n1_ n2_ n3_; (try clear hb); obtain ⟨hcz34_0, hcz34_1⟩ := z2 BK672; obtain ⟨hfz34_0, hfz34_1⟩ := y2 BK672))
    refine bodyPost_ret (results_ct rfl _ _ gb672 47 #[.int .i64 t677, .int .i64 t678] (0, 0) _ rfl (by (with_reducible repeat (first|apply kN|apply kD|apply kA)); refine blk_put (cs := #[.int .i64 t677, .int .i64 0]) ?_ 1 _ rfl; (with_reducible repeat (first|apply kN|apply kD|apply kA)); refine blk_put (cs := #[.int .i64 0, .int .i64 0]) ?_ 0 _ rfl; (with_reducible repeat (first|apply kN|apply kD|apply kA)); exact BK672.out) Try.underlying47 rfl (by kernel_rfl)) rfl ?_
    exact ⟨by first|rfl|(simp [*, errW_none, errW_some] <;> rfl), by repeat (first | (with_reducible first | exact HB.out | apply bA|apply bN|apply b1 | refine below_set ?_ (Aside0.out (by assumption))) | exact HB.out)⟩

end Go.Proofs.Ytcjchihnopmplaa.F

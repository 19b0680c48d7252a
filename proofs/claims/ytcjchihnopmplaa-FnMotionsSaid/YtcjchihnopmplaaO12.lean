import Derived.Test.YtcjchihnopmplaaO0
import Derived.Test.YtcjchihnopmplaaO3
import Derived.Test.YtcjchihnopmplaaO7
import Derived.Test.YtcjchihnopmplaaO11
namespace Go.Proofs.Ytcjchihnopmplaa.F
open Go.RowKit Go.Proofs.YtcjchihnopmplaaW.PrintWords Go.Proofs.YtcjchihnopmplaaW.PrintLast Go.Proofs.YtcjchihnopmplaaW.PrintMore
attribute [local go_sem] max2_int min2_int max_two min_two max_three min_three max_four min_four   -- for this text's walks alone
set_option linter.unusedVariables false
set_option linter.unusedSimpArgs false

def impl_IsMotion.f (k : Nat) (a0_0 : Int) (a0_1 : Int) (a0_2 : Int) (a0_3 : Int) (a0_4 : Int) (a0_5 : Int) : Option (Bool) := (impl_IsMat.f a0_0 a0_1 a0_2 a0_3).bind fun t875 => (if t875 = true then ((impl_Mat_isTurn.f k a0_0 a0_1 a0_2 a0_3).bind fun t876 => (if t876 = true then ((impl_IsVec.f a0_4 a0_5).bind fun t877 => (some t877)) else (some false))) else (some false))
set_option maxHeartbeats 8000000 in
set_option maxRecDepth 100000 in
theorem impl_IsMotion.calls (k : Nat) (a0_0 : Int) (a0_1 : Int) (a0_2 : Int) (a0_3 : Int) (a0_4 : Int) (a0_5 : Int) (r : Bool) (w : World) (h : impl_IsMotion.f k a0_0 a0_1 a0_2 a0_3 a0_4 a0_5 = some r) :
  Calls Try.prog 48 #[.agg #[.int .i64 a0_0, .int .i64 a0_1, .int .i64 a0_2, .int .i64 a0_3, .int .i64 a0_4, .int .i64 a0_5]] w fun e w' => e = .returned (.bool r) ∧ Below w.heap.size w w' := by
 have hu64 := Try.underlying64
 have hu51 := Try.underlying51
 have hu47 := Try.underlying47
 have HB := aM (Below.refl w.heap.size w)
 have H : ((impl_IsMat.f a0_0 a0_1 a0_2 a0_3).bind fun t875 => (if t875 = true then ((impl_Mat_isTurn.f k a0_0 a0_1 a0_2 a0_3).bind fun t876 => (if t876 = true then ((impl_IsVec.f a0_4 a0_5).bind fun t877 => (some t877)) else (some false))) else (some false))) = some r := h
 clear h
 replace H := Option.bind_eq_some_iff.mp H
 obtain ⟨t875, A20, H⟩ := H
 try dsimp only at H
 have A2 := aM A20
 clear A20
 by_cases c3 : t875 = true
 ·subst c3
  have H1 : ((impl_Mat_isTurn.f k a0_0 a0_1 a0_2 a0_3).bind fun t876 => (if t876 = true then ((impl_IsVec.f a0_4 a0_5).bind fun t877 => (some t877)) else (some false))) = some r := by rw [if_pos rfl] at H; exact H
  clear H
  have H := H1
  clear H1
  replace H := Option.bind_eq_some_iff.mp H
  obtain ⟨t876, A40, H⟩ := H
  try dsimp only at H
  have A4 := aM A40
  clear A40
  by_cases c5 : t876 = true
  ·subst c5
   have H1 : ((impl_IsVec.f a0_4 a0_5).bind fun t877 => (some t877)) = some r := by rw [if_pos rfl] at H; exact H
   clear H
   have H := H1
   clear H1
   replace H := Option.bind_eq_some_iff.mp H
   obtain ⟨t877, A60, H⟩ := H
   try dsimp only at H
   have A6 := aM A60
   clear A60
   obtain rfl := Option.some.inj H
   go_enter Try.func48, Try.ntmps48
   go_wp2_with (first | ((with_reducible refine gate_dst (N := 1) rfl ?_); refine box_event ?hg (N := 1) ?hd (cs := #[.int .i64 a0_0, .int .i64 a0_1, .int .i64 a0_2, .int .i64 a0_3, .int .i64 a0_4, .int .i64 a0_5]) (t := 64) ?hr ?_; (case hd => rfl); (case hg => rfl); (case hr => first | (go_simp; done) | (go_simp; rfl)); intro gb874 hg w7 hbox hb; have n0_ := bS HB hb; have n1_ := aM (hbox); have n2_ := bZ hg HB; have n3_ := bZ hg HB; clear HB; have HB := n0_; have BK874 := n1_; have GW874 := n2_; have GE874 := n3_; clear n0_ n1_ n2_ n3_; clear hb hbox hg; obtain ⟨hcz8_0, hcz8_1, hcz8_2, hcz8_3, hcz8_4, hcz8_5⟩ := z6 BK874; obtain ⟨hfz8_0, hfz8_1, hfz8_2, hfz8_3, hfz8_4, hfz8_5⟩ := y6 BK874) | ((with_reducible refine gate_callee (f := 37) rfl ?_); refine goesL_ (some 5) rfl rfl Try.func37 (by kernel_rfl) rfl #[.agg #[.int .i64 a0_0, .int .i64 a0_1, .int .i64 a0_2, .int .i64 a0_3]] rfl (by first|rfl|(simp only [List.map_toArray, List.map_cons, List.map_nil]; try rfl)) ?_; (with_reducible refine (impl_IsMat.calls a0_0 a0_1 a0_2 a0_3 true _ A2.out).mono ?_); rintro e w9 ⟨rfl, hb⟩; refine ⟨_, rfl, ?_⟩; have n0_ := bB BK874 hb; have n1_ := bS HB hb; clear BK874; clear HB; have BK874 := n0_; have HB := n1_; clear n0_ n1_; (try clear hb); obtain ⟨hcz10_0, hcz10_1, hcz10_2, hcz10_3, hcz10_4, hcz10_5⟩ := z6 BK874; obtain ⟨hfz10_0, hfz10_1, hfz10_2, hfz10_3, hfz10_4, hfz10_5⟩ := y6 BK874) | (go_at_call 107; (with_reducible refine (impl_Mat_isTurn.calls k a0_0 a0_1 a0_2 a0_3 true _ A4.out).mono ?_); rintro e w11 ⟨rfl, hb⟩; have n0_ := bB BK874 hb; have n1_ := bS HB hb; clear BK874; clear HB; have BK874 := n0_; have HB := n1_; clear n0_ n1_; (try clear hb); obtain ⟨hcz12_0, hcz12_1, hcz12_2, hcz12_3, hcz12_4, hcz12_5⟩ := z6 BK874; obtain ⟨hfz12_0, hfz12_1, hfz12_2, hfz12_3, hfz12_4, hfz12_5⟩ := y6 BK874) | (go_at_call 87; (with_reducible refine (impl_IsVec.calls a0_4 a0_5 t877 _ A6.out).mono ?_); rintro e w13 ⟨rfl, hb⟩; have n0_ := bB BK874 hb; have n1_ := bS HB hb; clear BK874; clear HB; have BK874 := n0_; have HB := n1_; clear n0_ n1_; (try clear hb)))
   go_ret
   exact ⟨by first|rfl|(simp [*, errW_none, errW_some] <;> rfl), by repeat (first | (with_reducible first | exact HB.out | apply bA|apply bN|apply b1 | refine below_set ?_ GE874.out) | exact HB.out)⟩
  ·replace c5 := Bool.eq_false_iff.mpr c5
   subst c5
   have H1 : (some false) = some r := by rw [if_neg (show ¬ (false = true) by decide)] at H; exact H
   clear H
   have H := H1
   clear H1
   obtain rfl := Option.some.inj H
   go_enter Try.func48, Try.ntmps48
   go_wp2_with (first | ((with_reducible refine gate_dst (N := 1) rfl ?_); refine box_event ?hg (N := 1) ?hd (cs := #[.int .i64 a0_0, .int .i64 a0_1, .int .i64 a0_2, .int .i64 a0_3, .int .i64 a0_4, .int .i64 a0_5]) (t := 64) ?hr ?_; (case hd => rfl); (case hg => rfl); (case hr => first | (go_simp; done) | (go_simp; rfl)); intro gb874 hg w14 hbox hb; have n0_ := bS HB hb; have n1_ := aM (hbox); have n2_ := bZ hg HB; have n3_ := bZ hg HB; clear HB; have HB := n0_; have BK874 := n1_; have GW874 := n2_; have GE874 := n3_; clear n0_ n1_ n2_ n3_; clear hb hbox hg; obtain ⟨hcz15_0, hcz15_1, hcz15_2, hcz15_3, hcz15_4, hcz15_5⟩ := z6 BK874; obtain ⟨hfz15_0, hfz15_1, hfz15_2, hfz15_3, hfz15_4, hfz15_5⟩ := y6 BK874) | ((with_reducible refine gate_callee (f := 37) rfl ?_); refine goesL_ (some 5) rfl rfl Try.func37 (by kernel_rfl) rfl #[.agg #[.int .i64 a0_0, .int .i64 a0_1, .int .i64 a0_2, .int .i64 a0_3]] rfl (by first|rfl|(simp only [List.map_toArray, List.map_cons, List.map_nil]; try rfl)) ?_; (with_reducible refine (impl_IsMat.calls a0_0 a0_1 a0_2 a0_3 true _ A2.out).mono ?_); rintro e w16 ⟨rfl, hb⟩; refine ⟨_, rfl, ?_⟩; have n0_ := bB BK874 hb; have n1_ := bS HB hb; clear BK874; clear HB; have BK874 := n0_; have HB := n1_; clear n0_ n1_; (try clear hb); obtain ⟨hcz17_0, hcz17_1, hcz17_2, hcz17_3, hcz17_4, hcz17_5⟩ := z6 BK874; obtain ⟨hfz17_0, hfz17_1, hfz17_2, hfz17_3, hfz17_4, hfz17_5⟩ := y6 BK874) | (go_at_call 107; (with_reducible refine (impl_Mat_isTurn.calls k a0_0 a0_1 a0_2 a0_3 false _ A4.out).mono ?_); rintro e w18 ⟨rfl, hb⟩; have n0_ := bB BK874 hb; have n1_ := bS HB hb; clear BK874; clear HB; have BK874 := n0_; have HB := n1_; clear n0_ n1_; (try clear hb)))
   go_ret
   exact ⟨by first|rfl|(simp [*, errW_none, errW_some] <;> rfl), by repeat (first | (with_reducible first | exact HB.out | apply bA|apply bN|apply b1 | refine below_set ?_ GE874.out) | exact HB.out)⟩
 ·replace c3 := Bool.eq_false_iff.mpr c3
  subst c3
  have H1 : (some false) = some r := by rw [if_neg (show ¬ (false = true) by decide)] at H; exact H
  clear H
  have H := H1
  clear H1
  obtain rfl := Option.some.inj H
  go_enter Try.func48, Try.ntmps48
  go_wp2_with (first | ((with_reducible refine gate_dst (N := 1) rfl ?_); refine box_event ?hg (N := 1) ?hd (cs := #[.int .i64 a0_0, .int .i64 a0_1, .int .i64 a0_2, .int .i64 a0_3, .int .i64 a0_4, .int .i64 a0_5]) (t := 64) ?hr ?_; (case hd => rfl); (case hg => rfl); (case hr => first | (go_simp; done) | (go_simp; rfl)); intro gb874 hg w19 hbox hb; have n0_ := bS HB hb; have n1_ := aM (hbox); have n2_ := bZ hg HB; have n3_ := bZ hg HB; clear HB; have HB := n0_; have BK874 := n1_; have GW874 := n2_; have GE874 := n3_; clear n0_ n1_ n2_ n3_; clear hb hbox hg; obtain ⟨hcz20_0, hcz20_1, hcz20_2, hcz20_3, hcz20_4, hcz20_5⟩ := z6 BK874; obtain ⟨hfz20_0, hfz20_1, hfz20_2, hfz20_3, hfz20_4, hfz20_5⟩ := y6 BK874) | ((with_reducible refine gate_callee (f := 37) rfl ?_); refine goesL_ (some 5) rfl rfl Try.func37 (by kernel_rfl) rfl #[.agg #[.int .i64 a0_0, .int .i64 a0_1, .int .i64 a0_2, .int .i64 a0_3]] rfl (by first|rfl|(simp only [List.map_toArray, List.map_cons, List.map_nil]; try rfl)) ?_; (with_reducible refine (impl_IsMat.calls a0_0 a0_1 a0_2 a0_3 false _ A2.out).mono ?_); rintro e w21 ⟨rfl, hb⟩; refine ⟨_, rfl, ?_⟩; have n0_ := bB BK874 hb; have n1_ := bS HB hb; clear BK874; clear HB; have BK874 := n0_; have HB := n1_; clear n0_ n1_; (try clear hb)))
  go_ret
  exact ⟨by first|rfl|(simp [*, errW_none, errW_some] <;> rfl), by repeat (first | (with_reducible first | exact HB.out | apply bA|apply bN|apply b1 | refine below_set ?_ GE874.out) | exact HB.out)⟩

def impl_Vec_add.f (a0_0 : Int) (a0_1 : Int) (a1_0 : Int) (a1_1 : Int) : Option (Int × Int) := some (wrap64 (a0_0 + a1_0), wrap64 (a0_1 + a1_1))
set_option maxHeartbeats 8000000 in
set_option maxRecDepth 100000 in
theorem impl_Vec_add.calls (a0_0 : Int) (a0_1 : Int) (a1_0 : Int) (a1_1 : Int) (r1 : Int) (r2 : Int) (w : World) (h : impl_Vec_add.f a0_0 a0_1 a1_0 a1_1 = some (r1, r2)) :
  Calls Try.prog 140 #[.agg #[.int .i64 a0_0, .int .i64 a0_1], .agg #[.int .i64 a1_0, .int .i64 a1_1]] w fun e w' => e = .returned (.agg #[.int .i64 r1, .int .i64 r2]) ∧ Below w.heap.size w w' := by
 have hu47 := Try.underlying47
 have HB := aM (Below.refl w.heap.size w)
 have H : (some (wrap64 (a0_0 + a1_0), wrap64 (a0_1 + a1_1))) = some (r1, r2) := h
 clear h
 simp only [Option.some.injEq, Prod.mk.injEq] at H
 obtain ⟨rfl, rfl⟩ := H
 go_enter Try.func140, Try.ntmps140
 go_wp2_with (first | ((with_reducible refine gate_dst (N := 2) rfl ?_); refine box_event ?hg (N := 2) ?hd (cs := #[.int .i64 a0_0, .int .i64 a0_1]) (t := 47) ?hr ?_; (case hd => rfl); (case hg => rfl); (case hr => first | (go_simp; done) | (go_simp; rfl)); intro gb878 hg w3 hbox hb; have n0_ := bS HB hb; have n1_ := aM (hbox); have n2_ := bZ hg HB; have n3_ := bZ hg HB; clear HB; have HB := n0_; have BK878 := n1_; have GW878 := n2_; have GE878 := n3_; clear n0_ n1_ n2_ n3_; clear hb hbox hg) | ((with_reducible refine gate_dst (N := 3) rfl ?_); refine box_event ?hg (N := 3) ?hd (cs := #[.int .i64 a1_0, .int .i64 a1_1]) (t := 47) ?hr ?_; (case hd => rfl); (case hg => rfl); (case hr => first | (go_simp; done) | (go_simp; rfl)); intro gb879 hg w4 hbox hb; have n0_ := bB BK878 hb; have n1_ := bS HB hb; have n2_ := aM (hbox); have n3_ := bZ hg HB; have n4_ := bZ hg HB; have n5_ := nL hg BK878; have n6_ := nG hg BK878; clear BK878; clear HB; have BK878 := n0_; have HB := n1_; have BK879 := n2_; have GW879 := n3_; have GE879 := n4_; have NB878_879 := n5_; have NB879_878 := n6_; clear n0_ n1_ n2_ n3_ n4_ n5_ n6_; clear hb hbox hg) | ((with_reducible refine gate_dst (N := 4) rfl ?_); refine box_event ?hg (N := 4) ?hd (cs := #[.int .i64 0, .int .i64 0]) (t := 47) ?hr ?_; (case hd => rfl); (case hg => rfl); (case hr => first | (go_simp; done) | (go_simp; rfl)); intro gb880 hg w5 hbox hb; have n0_ := bB BK878 hb; have n1_ := bB BK879 hb; have n2_ := bS HB hb; have n3_ := aM (hbox); have n4_ := bZ hg HB; have n5_ := bZ hg HB; have n6_ := nL hg BK878; have n7_ := nG hg BK878; have n8_ := nL hg BK879; have n9_ := nG hg BK879; clear BK878; clear BK879; clear HB; have BK878 := n0_; have BK879 := n1_; have HB := n2_; have BK880 := n3_; have GW880 := n4_; have GE880 := n5_; have NB878_880 := n6_; have NB880_878 := n7_; have NB879_880 := n8_; have NB880_879 := n9_; clear n0_ n1_ n2_ n3_ n4_ n5_ n6_ n7_ n8_ n9_; clear hb hbox hg; have hnb6 := NB878_879.out; have hnc6 := NB879_878.out; have hnb7 := NB878_880.out; have hnc7 := NB880_878.out; obtain ⟨hcz8_0, hcz8_1⟩ := z2 BK878; obtain ⟨hfz8_0, hfz8_1⟩ := y2 BK878; have hnb9 := NB879_880.out; have hnc9 := NB880_879.out; obtain ⟨hcz10_0, hcz10_1⟩ := z2 BK879; obtain ⟨hfz10_0, hfz10_1⟩ := y2 BK879; obtain ⟨hcz11_0, hcz11_1⟩ := z2 BK880; obtain ⟨hfz11_0, hfz11_1⟩ := y2 BK880))
 refine bodyPost_ret (results_cell_row rfl _ _ gb880 47 #[.int .i64 (wrap64 (a0_0 + a1_0)), .int .i64 (wrap64 (a0_1 + a1_1))] (0, 0) _ rfl (by (with_reducible repeat (first|apply kN|apply kD|apply kA)); refine blk_put (cs := #[.int .i64 (wrap64 (a0_0 + a1_0)), .int .i64 0]) ?_ 1 _ rfl; (with_reducible repeat (first|apply kN|apply kD|apply kA)); refine blk_put (cs := #[.int .i64 0, .int .i64 0]) ?_ 0 _ rfl; (with_reducible repeat (first|apply kN|apply kD|apply kA)); exact BK880.out) Try.underlying47 rfl (by kernel_rfl)) rfl ?_
 exact ⟨by first|rfl|(simp [*, errW_none, errW_some] <;> rfl), by repeat (first | (with_reducible first | exact HB.out | apply bA|apply bN|apply b1 | refine below_set ?_ (Aside0.out (by assumption))) | exact HB.out)⟩

def impl_Motion_times.f (a0_0 : Int) (a0_1 : Int) (a0_2 : Int) (a0_3 : Int) (a0_4 : Int) (a0_5 : Int) (a1_0 : Int) (a1_1 : Int) (a1_2 : Int) (a1_3 : Int) (a1_4 : Int) (a1_5 : Int) : Option (Int × Int × Int × Int × Int × Int) := (impl_Mat_times.f a0_0 a0_1 a0_2 a0_3 a1_0 a1_1 a1_2 a1_3).bind fun bt884 => ((impl_Mat_apply.f a0_0 a0_1 a0_2 a0_3 a1_4 a1_5).bind fun bt888 => ((impl_Vec_add.f bt888.1 bt888.2 a0_4 a0_5).bind fun bt890 => (some (bt884.1, bt884.2.1, bt884.2.2.1, bt884.2.2.2, bt890.1, bt890.2))))
def impl_Motion_times.T1 : Bool × List (List Nat × List Nat) := (true, [([], []), ([0], [0]), ([], []), ([2], [2]), ([1, 3], [1, 3]), ([], []), ([5], [5]), ([], []), ([7], [7]), ([6, 8, 4], [6, 8]), ([], []), ([10], [10]), ([9, 11, 9], [9, 11]), ([4, 12], [4, 12]), ([13, 12, 0, 1, 2, 3, 4, 5, 6, 7, 8, 9, 10, 11, 12, 13], [13])])
def impl_Motion_times.B1 : List Nat := [0, 1, 0, 4, 15, 0, 32, 0, 128, 511, 0, 1024, 4095, 8191, 16383]
theorem impl_Motion_times.tab1 : rtab .any (opsOf Try.f106 1) = impl_Motion_times.T1 := by kernel_rfl
theorem impl_Motion_times.bits1 : waitsOk impl_Motion_times.T1.2 impl_Motion_times.B1 = true := by kernel_rfl
set_option maxHeartbeats 8000000 in
set_option maxRecDepth 100000 in
theorem impl_Motion_times.calls (a0_0 : Int) (a0_1 : Int) (a0_2 : Int) (a0_3 : Int) (a0_4 : Int) (a0_5 : Int) (a1_0 : Int) (a1_1 : Int) (a1_2 : Int) (a1_3 : Int) (a1_4 : Int) (a1_5 : Int) (r1 : Int) (r2 : Int) (r3 : Int) (r4 : Int) (r5 : Int) (r6 : Int) (w : World) (h : impl_Motion_times.f a0_0 a0_1 a0_2 a0_3 a0_4 a0_5 a1_0 a1_1 a1_2 a1_3 a1_4 a1_5 = some (r1, r2, r3, r4, r5, r6)) :
  Calls Try.prog 106 #[.agg #[.int .i64 a0_0, .int .i64 a0_1, .int .i64 a0_2, .int .i64 a0_3, .int .i64 a0_4, .int .i64 a0_5], .agg #[.int .i64 a1_0, .int .i64 a1_1, .int .i64 a1_2, .int .i64 a1_3, .int .i64 a1_4, .int .i64 a1_5]] w fun e w' => e = .returned (.agg #[.int .i64 r1, .int .i64 r2, .int .i64 r3, .int .i64 r4, .int .i64 r5, .int .i64 r6]) ∧ Below w.heap.size w w' := by
 have hu64 := Try.underlying64
 have hu51 := Try.underlying51
 have hu47 := Try.underlying47
 have HB := aM (Below.refl w.heap.size w)
 have H : ((impl_Mat_times.f a0_0 a0_1 a0_2 a0_3 a1_0 a1_1 a1_2 a1_3).bind fun bt884 => ((impl_Mat_apply.f a0_0 a0_1 a0_2 a0_3 a1_4 a1_5).bind fun bt888 => ((impl_Vec_add.f bt888.1 bt888.2 a0_4 a0_5).bind fun bt890 => (some (bt884.1, bt884.2.1, bt884.2.2.1, bt884.2.2.2, bt890.1, bt890.2))))) = some (r1, r2, r3, r4, r5, r6) := h
 clear h
 replace H := Option.bind_eq_some_iff.mp H
 obtain ⟨⟨t884, t885, t886, t887⟩, A30, H⟩ := H
 try dsimp only at H
 have A3 := aM A30
 clear A30
 replace H := Option.bind_eq_some_iff.mp H
 obtain ⟨⟨t888, t889⟩, A40, H⟩ := H
 try dsimp only at H
 have A4 := aM A40
 clear A40
 replace H := Option.bind_eq_some_iff.mp H
 obtain ⟨⟨t890, t891⟩, A50, H⟩ := H
 try dsimp only at H
 have A5 := aM A50
 clear A50
 simp only [Option.some.injEq, Prod.mk.injEq] at H
 obtain ⟨rfl, rfl, rfl, rfl, rfl, rfl⟩ := H
 go_enter Try.func106, Try.ntmps106
 try go_wp2_with (first | ((with_reducible refine gate_dst (N := 2) rfl ?_); refine box_event ?hg (N := 2) ?hd (cs := #[.int .i64 a0_0, .int .i64 a0_1, .int .i64 a0_2, .int .i64 a0_3, .int .i64 a0_4, .int .i64 a0_5]) (t := 64) ?hr ?_; (case hd => rfl); (case hg => rfl); (case hr => first | (go_simp; done) | (go_simp; rfl)); intro gb881 hg w6 hbox hb; have n0_ := bS HB hb; have n1_ := aM (hbox); have n2_ := bZ hg HB; have n3_ := bZ hg HB; clear HB; have HB := n0_; have BK881 := n1_; have GW881 := n2_; have GE881 := n3_; clear n0_ n1_ n2_ n3_; clear hb hbox hg) | ((with_reducible refine gate_dst (N := 3) rfl ?_); refine box_event ?hg (N := 3) ?hd (cs := #[.int .i64 a1_0, .int .i64 a1_1, .int .i64 a1_2, .int .i64 a1_3, .int .i64 a1_4, .int .i64 a1_5]) (t := 64) ?hr ?_; (case hd => rfl); (case hg => rfl); (case hr => first | (go_simp; done) | (go_simp; rfl)); intro gb882 hg w7 hbox hb; have n0_ := bB BK881 hb; have n1_ := bS HB hb; have n2_ := aM (hbox); have n3_ := bZ hg HB; have n4_ := bZ hg HB; have n5_ := nL hg BK881; have n6_ := nG hg BK881; clear BK881; clear HB; have BK881 := n0_; have HB := n1_; have BK882 := n2_; have GW882 := n3_; have GE882 := n4_; have NB881_882 := n5_; have NB882_881 := n6_; clear n0_ n1_ n2_ n3_ n4_ n5_ n6_; clear hb hbox hg) | ((with_reducible refine gate_dst (N := 4) rfl ?_); refine box_event ?hg (N := 4) ?hd (cs := #[.int .i64 0, .int .i64 0, .int .i64 0, .int .i64 0, .int .i64 0, .int .i64 0]) (t := 64) ?hr ?_; (case hd => rfl); (case hg => rfl); (case hr => first | (go_simp; done) | (go_simp; rfl)); intro gb883 hg w8 hbox hb; have n0_ := bB BK881 hb; have n1_ := bB BK882 hb; have n2_ := bS HB hb; have n3_ := aM (hbox); have n4_ := bZ hg HB; have n5_ := bZ hg HB; have n6_ := nL hg BK881; have n7_ := nG hg BK881; have n8_ := nL hg BK882; have n9_ := nG hg BK882; clear BK881; clear BK882; clear HB; have BK881 := n0_; have BK882 := n1_; have HB := n2_; have BK883 := n3_; have GW883 := n4_; have GE883 := n5_; have NB881_883 := n6_; have NB883_881 := n7_; have NB882_883 := n8_; have NB883_882 := n9_; clear n0_ n1_ n2_ n3_ n4_ n5_ n6_ n7_ n8_ n9_; clear hb hbox hg))
 have n0_ := aM (blk_drew BK881.out)
 have n1_ := aM (blk_drew BK882.out)
 have n2_ := aM (blk_drew BK883.out)
 have n3_ := aM (below_drew1 HB.out)
 clear BK881
 clear BK882
 clear BK883
 clear HB
 have BK881 := n0_
 have BK882 := n1_
 have BK883 := n2_
 have HB := n3_
 clear n0_ n1_ n2_ n3_
 refine start_ (n := 15) (S := fun w' => w'.cell? ⟨gb881, 0, none⟩ = some (.int .i64 a0_0) ∧ w'.cell? ⟨gb881, 1, none⟩ = some (.int .i64 a0_1) ∧ w'.cell? ⟨gb881, 2, none⟩ = some (.int .i64 a0_2) ∧ w'.cell? ⟨gb881, 3, none⟩ = some (.int .i64 a0_3) ∧ w'.cell? ⟨gb881, 4, none⟩ = some (.int .i64 a0_4) ∧ w'.cell? ⟨gb881, 5, none⟩ = some (.int .i64 a0_5) ∧ w'.cell? ⟨gb882, 0, none⟩ = some (.int .i64 a1_0) ∧ w'.cell? ⟨gb882, 1, none⟩ = some (.int .i64 a1_1) ∧ w'.cell? ⟨gb882, 2, none⟩ = some (.int .i64 a1_2) ∧ w'.cell? ⟨gb882, 3, none⟩ = some (.int .i64 a1_3) ∧ w'.cell? ⟨gb882, 4, none⟩ = some (.int .i64 a1_4) ∧ w'.cell? ⟨gb882, 5, none⟩ = some (.int .i64 a1_5)) (ds := []) #[false, false, false, false, false, false, false, false, false, false, false, false, false, false, false] (by kernel_rfl) rfl rfl ⟨(blk_cell BK881.out 0).trans rfl, (blk_cell BK881.out 1).trans rfl, (blk_cell BK881.out 2).trans rfl, (blk_cell BK881.out 3).trans rfl, (blk_cell BK881.out 4).trans rfl, (blk_cell BK881.out 5).trans rfl, (blk_cell BK882.out 0).trans rfl, (blk_cell BK882.out 1).trans rfl, (blk_cell BK882.out 2).trans rfl, (blk_cell BK882.out 3).trans rfl, (blk_cell BK882.out 4).trans rfl, (blk_cell BK882.out 5).trans rfl⟩ (fun hHeld => ?_); refine with_tabW impl_Motion_times.tab1 impl_Motion_times.bits1 (fun HT_ HW_ => ?_)
 generalize w8.drew = w9 at BK881 BK882 BK883 HB hHeld ⊢
 refine pure_ (i := 0) (N := some 5) (v := ?_) (a' := ?_) #[true, false, false, false, false, false, false, false, false, false, false, false, false, false, false] rfl rfl (any_of HT_.out (by kernel_rfl)) (fun _ _ _ h => h) (Or.inl ⟨by rfl, ?_⟩) ?_ ?_
 rotate_left
 ·intro w'
  go_simp
  with_reducible rfl
 rotate_left
 ·simp only [Act.put, List.setIfInBounds_toArray, List.set_cons_zero, List.set_cons_succ, i64_w, i32_w]
  rfl
 refine pure_ (i := 2) (N := some 7) (v := ?_) (a' := ?_) #[true, false, true, false, false, false, false, false, false, false, false, false, false, false, false] rfl rfl (any_of HT_.out (by kernel_rfl)) (fun _ _ _ h => h) (Or.inl ⟨by rfl, ?_⟩) ?_ ?_
 rotate_left
 ·intro w'
  go_simp
  with_reducible rfl
 rotate_left
 ·simp only [Act.put, List.setIfInBounds_toArray, List.set_cons_zero, List.set_cons_succ, i64_w, i32_w]
  rfl
 refine pure_ (i := 5) (N := some 10) (v := ?_) (a' := ?_) #[true, false, true, false, false, true, false, false, false, false, false, false, false, false, false] rfl rfl (any_of HT_.out (by kernel_rfl)) (fun _ _ _ h => h) (Or.inl ⟨by rfl, ?_⟩) ?_ ?_
 rotate_left
 ·intro w'
  go_simp
  with_reducible rfl
 rotate_left
 ·simp only [Act.put, List.setIfInBounds_toArray, List.set_cons_zero, List.set_cons_succ, i64_w, i32_w]
  rfl
 refine pure_ (i := 7) (N := some 12) (v := ?_) (a' := ?_) #[true, false, true, false, false, true, false, true, false, false, false, false, false, false, false] rfl rfl (any_of HT_.out (by kernel_rfl)) (fun _ _ _ h => h) (Or.inl ⟨by rfl, ?_⟩) ?_ ?_
 rotate_left
 ·intro w'
  go_simp
  with_reducible rfl
 rotate_left
 ·simp only [Act.put, List.setIfInBounds_toArray, List.set_cons_zero, List.set_cons_succ, i64_w, i32_w]
  rfl
 refine pure_ (i := 10) (N := some 15) (v := ?_) (a' := ?_) #[true, false, true, false, false, true, false, true, false, false, true, false, false, false, false] rfl rfl (any_of HT_.out (by kernel_rfl)) (fun _ _ _ h => h) (Or.inl ⟨by rfl, ?_⟩) ?_ ?_
 rotate_left
 ·intro w'
  go_simp
  with_reducible rfl
 rotate_left
 ·simp only [Act.put, List.setIfInBounds_toArray, List.set_cons_zero, List.set_cons_succ, i64_w, i32_w]
  rfl
 refine take_ (i := 1) (N := some 6) (v := ?_) (a' := ?_) #[true, true, true, false, false, true, false, true, false, false, true, false, false, false, false] rfl rfl (take_ofW HT_.out HW_.out (by kernel_rfl)) (fun _ _ _ h => h) (Or.inl ⟨by rfl, ?_⟩) hHeld ?_ ?_
 rotate_left
 ·rintro w' ⟨s0, s1, s2, s3, s4, s5, s6, s7, s8, s9, s10, s11⟩
  go_simp
  with_reducible rfl
 rotate_left
 ·simp only [Act.put, List.setIfInBounds_toArray, List.set_cons_zero, List.set_cons_succ, i64_w, i32_w]
  rfl
 refine take_ (i := 3) (N := some 8) (v := ?_) (a' := ?_) #[true, true, true, true, false, true, false, true, false, false, true, false, false, false, false] rfl rfl (take_ofW HT_.out HW_.out (by kernel_rfl)) (fun _ _ _ h => h) (Or.inl ⟨by rfl, ?_⟩) hHeld ?_ ?_
 rotate_left
 ·rintro w' ⟨s0, s1, s2, s3, s4, s5, s6, s7, s8, s9, s10, s11⟩
  go_simp
  with_reducible rfl
 rotate_left
 ·simp only [Act.put, List.setIfInBounds_toArray, List.set_cons_zero, List.set_cons_succ, i64_w, i32_w]
  rfl
 refine take_ (i := 6) (N := some 11) (v := ?_) (a' := ?_) #[true, true, true, true, false, true, true, true, false, false, true, false, false, false, false] rfl rfl (take_ofW HT_.out HW_.out (by kernel_rfl)) (fun _ _ _ h => h) (Or.inl ⟨by rfl, ?_⟩) hHeld ?_ ?_
 rotate_left
 ·rintro w' ⟨s0, s1, s2, s3, s4, s5, s6, s7, s8, s9, s10, s11⟩
  go_simp
  with_reducible rfl
 rotate_left
 ·simp only [Act.put, List.setIfInBounds_toArray, List.set_cons_zero, List.set_cons_succ, i64_w, i32_w]
  rfl
 refine take_ (i := 8) (N := some 13) (v := ?_) (a' := ?_) #[true, true, true, true, false, true, true, true, true, false, true, false, false, false, false] rfl rfl (take_ofW HT_.out HW_.out (by kernel_rfl)) (fun _ _ _ h => h) (Or.inl ⟨by rfl, ?_⟩) hHeld ?_ ?_
 rotate_left
 ·rintro w' ⟨s0, s1, s2, s3, s4, s5, s6, s7, s8, s9, s10, s11⟩
  go_simp
  with_reducible rfl
 rotate_left
 ·simp only [Act.put, List.setIfInBounds_toArray, List.set_cons_zero, List.set_cons_succ, i64_w, i32_w]
  rfl
 refine take_ (i := 11) (N := some 16) (v := ?_) (a' := ?_) #[true, true, true, true, false, true, true, true, true, false, true, true, false, false, false] rfl rfl (take_ofW HT_.out HW_.out (by kernel_rfl)) (fun _ _ _ h => h) (Or.inl ⟨by rfl, ?_⟩) hHeld ?_ ?_
 rotate_left
 ·rintro w' ⟨s0, s1, s2, s3, s4, s5, s6, s7, s8, s9, s10, s11⟩
  go_simp
  with_reducible rfl
 rotate_left
 ·simp only [Act.put, List.setIfInBounds_toArray, List.set_cons_zero, List.set_cons_succ, i64_w, i32_w]
  rfl
 refine one_ (i := 4) (N := some 9) #[true, true, true, true, true, true, true, true, true, false, true, true, false, false, false] rfl rfl (one_of HT_.out (by kernel_rfl)) (by decide) (fun K hK => ?_)
 refine goes_ Try.func89 (by kernel_rfl) rfl #[.agg #[.int .i64 a0_0, .int .i64 a0_1, .int .i64 a0_2, .int .i64 a0_3], .agg #[.int .i64 a1_0, .int .i64 a1_1, .int .i64 a1_2, .int .i64 a1_3]] (by rfl) rfl rfl (by first|rfl|(simp only [List.map_toArray, List.map_cons, List.map_nil]; try rfl)) ?_
 with_reducible refine (impl_Mat_times.calls a0_0 a0_1 a0_2 a0_3 a1_0 a1_1 a1_2 a1_3 t884 t885 t886 t887 _ A3.out).mono ?_
 rintro e w10 ⟨rfl, hb⟩
 refine ⟨_, rfl, ?_⟩
 have n0_ := bB BK881 hb
 have n1_ := bB BK882 hb
 have n2_ := bB BK883 hb
 have n3_ := bS HB hb
 clear BK881
 clear BK882
 clear BK883
 clear HB
 have BK881 := n0_
 have BK882 := n1_
 have BK883 := n2_
 have HB := n3_
 clear n0_ n1_ n2_ n3_
 (try clear hb)
 (try clear hb2)
 (try clear hk)
 (try clear hi)
 refine hK.out _ _ ⟨(blk_cell BK881.out 0).trans rfl, (blk_cell BK881.out 1).trans rfl, (blk_cell BK881.out 2).trans rfl, (blk_cell BK881.out 3).trans rfl, (blk_cell BK881.out 4).trans rfl, (blk_cell BK881.out 5).trans rfl, (blk_cell BK882.out 0).trans rfl, (blk_cell BK882.out 1).trans rfl, (blk_cell BK882.out 2).trans rfl, (blk_cell BK882.out 3).trans rfl, (blk_cell BK882.out 4).trans rfl, (blk_cell BK882.out 5).trans rfl⟩ (fun hHeld => ?_)
 clear hK K
 refine norm_ (a' := ?_) ?_ ?_
 rotate_left
 ·show Act.put _ (some 9) _ = _
  simp only [Act.put, List.setIfInBounds_toArray, List.set_cons_zero, List.set_cons_succ, i64_w, i32_w]
  rfl
 refine one_ (i := 9) (N := some 14) #[true, true, true, true, true, true, true, true, true, true, true, true, false, false, false] rfl rfl (one_of HT_.out (by kernel_rfl)) (by decide) (fun K hK => ?_)
 refine goes_ Try.func97 (by kernel_rfl) rfl #[.agg #[.int .i64 a0_0, .int .i64 a0_1, .int .i64 a0_2, .int .i64 a0_3], .agg #[.int .i64 a1_4, .int .i64 a1_5]] (by rfl) rfl rfl (by first|rfl|(simp only [List.map_toArray, List.map_cons, List.map_nil]; try rfl)) ?_
 with_reducible refine (impl_Mat_apply.calls a0_0 a0_1 a0_2 a0_3 a1_4 a1_5 t888 t889 _ A4.out).mono ?_
 rintro e w11 ⟨rfl, hb⟩
 refine ⟨_, rfl, ?_⟩
 have n0_ := bB BK881 hb
 have n1_ := bB BK882 hb
 have n2_ := bB BK883 hb
 have n3_ := bS HB hb
 clear BK881
 clear BK882
 clear BK883
 clear HB
 have BK881 := n0_
 have BK882 := n1_
 have BK883 := n2_
 have HB := n3_
 clear n0_ n1_ n2_ n3_
 (try clear hb)
 (try clear hb2)
 (try clear hk)
 (try clear hi)
 refine hK.out _ _ ⟨(blk_cell BK881.out 0).trans rfl, (blk_cell BK881.out 1).trans rfl, (blk_cell BK881.out 2).trans rfl, (blk_cell BK881.out 3).trans rfl, (blk_cell BK881.out 4).trans rfl, (blk_cell BK881.out 5).trans rfl, (blk_cell BK882.out 0).trans rfl, (blk_cell BK882.out 1).trans rfl, (blk_cell BK882.out 2).trans rfl, (blk_cell BK882.out 3).trans rfl, (blk_cell BK882.out 4).trans rfl, (blk_cell BK882.out 5).trans rfl⟩ (fun hHeld => ?_)
 clear hK K
 refine norm_ (a' := ?_) ?_ ?_
 rotate_left
 ·show Act.put _ (some 14) _ = _
  simp only [Act.put, List.setIfInBounds_toArray, List.set_cons_zero, List.set_cons_succ, i64_w, i32_w]
  rfl
 refine one_ (i := 12) (N := some 17) #[true, true, true, true, true, true, true, true, true, true, true, true, true, false, false] rfl rfl (one_of HT_.out (by kernel_rfl)) (by decide) (fun K hK => ?_)
 refine goes_ Try.func140 (by kernel_rfl) rfl #[.agg #[.int .i64 t888, .int .i64 t889], .agg #[.int .i64 a0_4, .int .i64 a0_5]] (by rfl) rfl rfl (by first|rfl|(simp only [List.map_toArray, List.map_cons, List.map_nil]; try rfl)) ?_
 with_reducible refine (impl_Vec_add.calls t888 t889 a0_4 a0_5 t890 t891 _ A5.out).mono ?_
 rintro e w12 ⟨rfl, hb⟩
 refine ⟨_, rfl, ?_⟩
 have n0_ := bB BK881 hb
 have n1_ := bB BK882 hb
 have n2_ := bB BK883 hb
 have n3_ := bS HB hb
 clear BK881
 clear BK882
 clear BK883
 clear HB
 have BK881 := n0_
 have BK882 := n1_
 have BK883 := n2_
 have HB := n3_
 clear n0_ n1_ n2_ n3_
 (try clear hb)
 (try clear hb2)
 (try clear hk)
 (try clear hi)
 refine hK.out _ _ ⟨(blk_cell BK881.out 0).trans rfl, (blk_cell BK881.out 1).trans rfl, (blk_cell BK881.out 2).trans rfl, (blk_cell BK881.out 3).trans rfl, (blk_cell BK881.out 4).trans rfl, (blk_cell BK881.out 5).trans rfl, (blk_cell BK882.out 0).trans rfl, (blk_cell BK882.out 1).trans rfl, (blk_cell BK882.out 2).trans rfl, (blk_cell BK882.out 3).trans rfl, (blk_cell BK882.out 4).trans rfl, (blk_cell BK882.out 5).trans rfl⟩ (fun hHeld => ?_)
 clear hK K
 refine norm_ (a' := ?_) ?_ ?_
 rotate_left
 ·show Act.put _ (some 17) _ = _
  simp only [Act.put, List.setIfInBounds_toArray, List.set_cons_zero, List.set_cons_succ, i64_w, i32_w]
  rfl
 refine pure_ (i := 13) (N := some 18) (v := ?_) (a' := ?_) #[true, true, true, true, true, true, true, true, true, true, true, true, true, true, false] rfl rfl (any_of HT_.out (by kernel_rfl)) (fun _ _ _ h => h) (Or.inl ⟨by rfl, ?_⟩) ?_ ?_
 rotate_left
 ·intro w'
  go_simp
  with_reducible rfl
 rotate_left
 ·simp only [Act.put, List.setIfInBounds_toArray, List.set_cons_zero, List.set_cons_succ, i64_w, i32_w]
  rfl
 refine one_ (i := 14) (N := none) #[true, true, true, true, true, true, true, true, true, true, true, true, true, true, true] rfl rfl (one_of HT_.out (by kernel_rfl)) (by decide) (fun K hK => ?_)
 have hs13 : w12.cell? ⟨gb883, 0, none⟩ = some (.int .i64 0) := (blk_cell BK883.out 0).trans rfl
 have hfs13 := blk_frozen BK883.out 0
 have hns13_0 := NB881_883.out
 have hns13_1 := NB882_883.out
 have hms13_0 := NB883_881.out
 have hms13_1 := NB883_882.out
 have hs14 : w12.cell? ⟨gb883, 1, none⟩ = some (.int .i64 0) := (blk_cell BK883.out 1).trans rfl
 have hfs14 := blk_frozen BK883.out 1
 have hns14_0 := NB881_883.out
 have hns14_1 := NB882_883.out
 have hms14_0 := NB883_881.out
 have hms14_1 := NB883_882.out
 have hs15 : w12.cell? ⟨gb883, 2, none⟩ = some (.int .i64 0) := (blk_cell BK883.out 2).trans rfl
 have hfs15 := blk_frozen BK883.out 2
 have hns15_0 := NB881_883.out
 have hns15_1 := NB882_883.out
 have hms15_0 := NB883_881.out
 have hms15_1 := NB883_882.out
 have hs16 : w12.cell? ⟨gb883, 3, none⟩ = some (.int .i64 0) := (blk_cell BK883.out 3).trans rfl
 have hfs16 := blk_frozen BK883.out 3
 have hns16_0 := NB881_883.out
 have hns16_1 := NB882_883.out
 have hms16_0 := NB883_881.out
 have hms16_1 := NB883_882.out
 have hs17 : w12.cell? ⟨gb883, 4, none⟩ = some (.int .i64 0) := (blk_cell BK883.out 4).trans rfl
 have hfs17 := blk_frozen BK883.out 4
 have hns17_0 := NB881_883.out
 have hns17_1 := NB882_883.out
 have hms17_0 := NB883_881.out
 have hms17_1 := NB883_882.out
 have hs18 : w12.cell? ⟨gb883, 5, none⟩ = some (.int .i64 0) := (blk_cell BK883.out 5).trans rfl
 have hfs18 := blk_frozen BK883.out 5
 have hns18_0 := NB881_883.out
 have hns18_1 := NB882_883.out
 have hms18_0 := NB883_881.out
 have hms18_1 := NB883_882.out
 refine skip_ (w1 := ?_) (by rfl) rfl ?_ ?_
 rotate_left
 ·go_simp
  rfl
 refine hK.out _ _ ⟨((cell_far (p := ⟨gb883, _, none⟩) NB881_883.out _).trans (((cell_far (p := ⟨gb883, _, none⟩) NB881_883.out _).trans (((cell_far (p := ⟨gb883, _, none⟩) NB881_883.out _).trans (((cell_far (p := ⟨gb883, _, none⟩) NB881_883.out _).trans (((cell_far (p := ⟨gb883, _, none⟩) NB881_883.out _).trans (((cell_far (p := ⟨gb883, _, none⟩) NB881_883.out _).trans (hHeld.1)))))))))))), ((cell_far (p := ⟨gb883, _, none⟩) NB881_883.out _).trans (((cell_far (p := ⟨gb883, _, none⟩) NB881_883.out _).trans (((cell_far (p := ⟨gb883, _, none⟩) NB881_883.out _).trans (((cell_far (p := ⟨gb883, _, none⟩) NB881_883.out _).trans (((cell_far (p := ⟨gb883, _, none⟩) NB881_883.out _).trans (((cell_far (p := ⟨gb883, _, none⟩) NB881_883.out _).trans (hHeld.2.1)))))))))))), ((cell_far (p := ⟨gb883, _, none⟩) NB881_883.out _).trans (((cell_far (p := ⟨gb883, _, none⟩) NB881_883.out _).trans (((cell_far (p := ⟨gb883, _, none⟩) NB881_883.out _).trans (((cell_far (p := ⟨gb883, _, none⟩) NB881_883.out _).trans (((cell_far (p := ⟨gb883, _, none⟩) NB881_883.out _).trans (((cell_far (p := ⟨gb883, _, none⟩) NB881_883.out _).trans (hHeld.2.2.1)))))))))))), ((cell_far (p := ⟨gb883, _, none⟩) NB881_883.out _).trans (((cell_far (p := ⟨gb883, _, none⟩) NB881_883.out _).trans (((cell_far (p := ⟨gb883, _, none⟩) NB881_883.out _).trans (((cell_far (p := ⟨gb883, _, none⟩) NB881_883.out _).trans (((cell_far (p := ⟨gb883, _, none⟩) NB881_883.out _).trans (((cell_far (p := ⟨gb883, _, none⟩) NB881_883.out _).trans (hHeld.2.2.2.1)))))))))))), ((cell_far (p := ⟨gb883, _, none⟩) NB881_883.out _).trans (((cell_far (p := ⟨gb883, _, none⟩) NB881_883.out _).trans (((cell_far (p := ⟨gb883, _, none⟩) NB881_883.out _).trans (((cell_far (p := ⟨gb883, _, none⟩) NB881_883.out _).trans (((cell_far (p := ⟨gb883, _, none⟩) NB881_883.out _).trans (((cell_far (p := ⟨gb883, _, none⟩) NB881_883.out _).trans (hHeld.2.2.2.2.1)))))))))))), ((cell_far (p := ⟨gb883, _, none⟩) NB881_883.out _).trans (((cell_far (p := ⟨gb883, _, none⟩) NB881_883.out _).trans (((cell_far (p := ⟨gb883, _, none⟩) NB881_883.out _).trans (((cell_far (p := ⟨gb883, _, none⟩) NB881_883.out _).trans (((cell_far (p := ⟨gb883, _, none⟩) NB881_883.out _).trans (((cell_far (p := ⟨gb883, _, none⟩) NB881_883.out _).trans (hHeld.2.2.2.2.2.1)))))))))))), ((cell_far (p := ⟨gb883, _, none⟩) NB882_883.out _).trans (((cell_far (p := ⟨gb883, _, none⟩) NB882_883.out _).trans (((cell_far (p := ⟨gb883, _, none⟩) NB882_883.out _).trans (((cell_far (p := ⟨gb883, _, none⟩) NB882_883.out _).trans (((cell_far (p := ⟨gb883, _, none⟩) NB882_883.out _).trans (((cell_far (p := ⟨gb883, _, none⟩) NB882_883.out _).trans (hHeld.2.2.2.2.2.2.1)))))))))))), ((cell_far (p := ⟨gb883, _, none⟩) NB882_883.out _).trans (((cell_far (p := ⟨gb883, _, none⟩) NB882_883.out _).trans (((cell_far (p := ⟨gb883, _, none⟩) NB882_883.out _).trans (((cell_far (p := ⟨gb883, _, none⟩) NB882_883.out _).trans (((cell_far (p := ⟨gb883, _, none⟩) NB882_883.out _).trans (((cell_far (p := ⟨gb883, _, none⟩) NB882_883.out _).trans (hHeld.2.2.2.2.2.2.2.1)))))))))))), ((cell_far (p := ⟨gb883, _, none⟩) NB882_883.out _).trans (((cell_far (p := ⟨gb883, _, none⟩) NB882_883.out _).trans (((cell_far (p := ⟨gb883, _, none⟩) NB882_883.out _).trans (((cell_far (p := ⟨gb883, _, none⟩) NB882_883.out _).trans (((cell_far (p := ⟨gb883, _, none⟩) NB882_883.out _).trans (((cell_far (p := ⟨gb883, _, none⟩) NB882_883.out _).trans (hHeld.2.2.2.2.2.2.2.2.1)))))))))))), ((cell_far (p := ⟨gb883, _, none⟩) NB882_883.out _).trans (((cell_far (p := ⟨gb883, _, none⟩) NB882_883.out _).trans (((cell_far (p := ⟨gb883, _, none⟩) NB882_883.out _).trans (((cell_far (p := ⟨gb883, _, none⟩) NB882_883.out _).trans (((cell_far (p := ⟨gb883, _, none⟩) NB882_883.out _).trans (((cell_far (p := ⟨gb883, _, none⟩) NB882_883.out _).trans (hHeld.2.2.2.2.2.2.2.2.2.1)))))))))))), ((cell_far (p := ⟨gb883, _, none⟩) NB882_883.out _).trans (((cell_far (p := ⟨gb883, _, none⟩) NB882_883.out _).trans (((cell_far (p := ⟨gb883, _, none⟩) NB882_883.out _).trans (((cell_far (p := ⟨gb883, _, none⟩) NB882_883.out _).trans (((cell_far (p := ⟨gb883, _, none⟩) NB882_883.out _).trans (((cell_far (p := ⟨gb883, _, none⟩) NB882_883.out _).trans (hHeld.2.2.2.2.2.2.2.2.2.2.1)))))))))))), ((cell_far (p := ⟨gb883, _, none⟩) NB882_883.out _).trans (((cell_far (p := ⟨gb883, _, none⟩) NB882_883.out _).trans (((cell_far (p := ⟨gb883, _, none⟩) NB882_883.out _).trans (((cell_far (p := ⟨gb883, _, none⟩) NB882_883.out _).trans (((cell_far (p := ⟨gb883, _, none⟩) NB882_883.out _).trans (((cell_far (p := ⟨gb883, _, none⟩) NB882_883.out _).trans (hHeld.2.2.2.2.2.2.2.2.2.2.2))))))))))))⟩ (fun hHeld => ?_)
 clear hK K
 refine done_ (done_of HT_.out (by kernel_rfl)) ?_
 try go_wp2
 refine bodyPost_ret (results_cell_row rfl _ _ gb883 64 #[.int .i64 t884, .int .i64 t885, .int .i64 t886, .int .i64 t887, .int .i64 t890, .int .i64 t891] (0, 0) _ rfl (by (with_reducible repeat (first|apply kN|apply kD|apply kA)); refine blk_put (cs := #[.int .i64 t884, .int .i64 t885, .int .i64 t886, .int .i64 t887, .int .i64 t890, .int .i64 0]) ?_ 5 _ rfl; (with_reducible repeat (first|apply kN|apply kD|apply kA)); refine blk_put (cs := #[.int .i64 t884, .int .i64 t885, .int .i64 t886, .int .i64 t887, .int .i64 0, .int .i64 0]) ?_ 4 _ rfl; (with_reducible repeat (first|apply kN|apply kD|apply kA)); refine blk_put (cs := #[.int .i64 t884, .int .i64 t885, .int .i64 t886, .int .i64 0, .int .i64 0, .int .i64 0]) ?_ 3 _ rfl; (with_reducible repeat (first|apply kN|apply kD|apply kA)); refine blk_put (cs := #[.int .i64 t884, .int .i64 t885, .int .i64 0, .int .i64 0, .int .i64 0, .int .i64 0]) ?_ 2 _ rfl; (with_reducible repeat (first|apply kN|apply kD|apply kA)); refine blk_put (cs := #[.int .i64 t884, .int .i64 0, .int .i64 0, .int .i64 0, .int .i64 0, .int .i64 0]) ?_ 1 _ rfl; (with_reducible repeat (first|apply kN|apply kD|apply kA)); refine blk_put (cs := #[.int .i64 0, .int .i64 0, .int .i64 0, .int .i64 0, .int .i64 0, .int .i64 0]) ?_ 0 _ rfl; (with_reducible repeat (first|apply kN|apply kD|apply kA)); exact BK883.out) Try.underlying64 rfl (by kernel_rfl)) rfl ?_
 exact ⟨by first|rfl|(simp [*, errW_none, errW_some] <;> rfl), by repeat (first | (with_reducible first | exact HB.out | apply bA|apply bN|apply b1 | refine below_set ?_ (Aside0.out (by assumption))) | exact HB.out)⟩

end Go.Proofs.Ytcjchihnopmplaa.F

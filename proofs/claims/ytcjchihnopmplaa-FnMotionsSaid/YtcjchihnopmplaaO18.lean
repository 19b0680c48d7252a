import Derived.Test.YtcjchihnopmplaaO0
import Derived.Test.YtcjchihnopmplaaO3
import Derived.Test.YtcjchihnopmplaaO4
import Derived.Test.YtcjchihnopmplaaO7
import Derived.Test.YtcjchihnopmplaaO8
import Derived.Test.YtcjchihnopmplaaO9
import Derived.Test.YtcjchihnopmplaaO14
namespace Go.Proofs.Ytcjchihnopmplaa.F
open Go.RowKit Go.Proofs.YtcjchihnopmplaaW.PrintWords Go.Proofs.YtcjchihnopmplaaW.PrintLast Go.Proofs.YtcjchihnopmplaaW.PrintMore
attribute [local go_sem] max2_int min2_int max_two min_two max_three min_three max_four min_four   -- for this text's walks alone
set_option linter.unusedVariables false
set_option linter.unusedSimpArgs false

def spec_l05Inverse.f (a0_0 : Int) (a0_1 : Int) (a0_2 : Int) (a0_3 : Int) (a0_4 : Int) (a0_5 : Int) : Option (Int × Int × Int × Int × Int × Int) := (spec_l02Inverse.f a0_0 a0_1 a0_2 a0_3).bind fun bt995 => ((spec_l02Apply.f bt995.1 bt995.2.1 bt995.2.2.1 bt995.2.2.2 a0_4 a0_5).bind fun bt1000 => ((spec_l01Scale.f bt1000.1 bt1000.2 (-1)).bind fun bt1002 => (some (bt995.1, bt995.2.1, bt995.2.2.1, bt995.2.2.2, bt1002.1, bt1002.2))))
def spec_l05Inverse.T2 : Bool × List (List Nat × List Nat) := (true, [([], []), ([], []), ([], []), ([2], [2]), ([1, 3], [1, 3]), ([4, 4], [4]), ([0, 5], [0, 5]), ([6, 5, 0, 1, 2, 3, 4, 5, 6], [6])])
def spec_l05Inverse.B2 : List Nat := [0, 0, 0, 4, 14, 30, 63, 127]
theorem spec_l05Inverse.tab2 : rtab .any (opsOf Try.f110 2) = spec_l05Inverse.T2 := by kernel_rfl
theorem spec_l05Inverse.bits2 : waitsOk spec_l05Inverse.T2.2 spec_l05Inverse.B2 = true := by kernel_rfl
set_option maxHeartbeats 8000000 in
set_option maxRecDepth 100000 in
theorem spec_l05Inverse.calls (a0_0 : Int) (a0_1 : Int) (a0_2 : Int) (a0_3 : Int) (a0_4 : Int) (a0_5 : Int) (r1 : Int) (r2 : Int) (r3 : Int) (r4 : Int) (r5 : Int) (r6 : Int) (w : World) (h : spec_l05Inverse.f a0_0 a0_1 a0_2 a0_3 a0_4 a0_5 = some (r1, r2, r3, r4, r5, r6)) :
  Calls Try.prog 110 #[.agg #[.int .i64 a0_0, .int .i64 a0_1, .int .i64 a0_2, .int .i64 a0_3, .int .i64 a0_4, .int .i64 a0_5]] w fun e w' => e = .returned (.agg #[.int .i64 r1, .int .i64 r2, .int .i64 r3, .int .i64 r4, .int .i64 r5, .int .i64 r6]) ∧ Below w.heap.size w w' := by
 have hu64 := Try.underlying64
 have hu51 := Try.underlying51
 have hu47 := Try.underlying47
 have HB := aM (Below.refl w.heap.size w)
 have H : ((spec_l02Inverse.f a0_0 a0_1 a0_2 a0_3).bind fun bt995 => ((spec_l02Apply.f bt995.1 bt995.2.1 bt995.2.2.1 bt995.2.2.2 a0_4 a0_5).bind fun bt1000 => ((spec_l01Scale.f bt1000.1 bt1000.2 (-1)).bind fun bt1002 => (some (bt995.1, bt995.2.1, bt995.2.2.1, bt995.2.2.2, bt1002.1, bt1002.2))))) = some (r1, r2, r3, r4, r5, r6) := h
 clear h
 replace H := Option.bind_eq_some_iff.mp H
 obtain ⟨⟨t995, t996, t997, t998⟩, A20, H⟩ := H
 try dsimp only at H
 have A2 := aM A20
 clear A20
 replace H := Option.bind_eq_some_iff.mp H
 obtain ⟨⟨t1000, t1001⟩, A30, H⟩ := H
 try dsimp only at H
 have A3 := aM A30
 clear A30
 replace H := Option.bind_eq_some_iff.mp H
 obtain ⟨⟨t1002, t1003⟩, A40, H⟩ := H
 try dsimp only at H
 have A4 := aM A40
 clear A40
 simp only [Option.some.injEq, Prod.mk.injEq] at H
 obtain ⟨rfl, rfl, rfl, rfl, rfl, rfl⟩ := H
 go_enter Try.func110, Try.ntmps110
 try go_wp2_with (first | ((with_reducible refine gate_dst (N := 1) rfl ?_); refine box_event ?hg (N := 1) ?hd (cs := #[.int .i64 a0_0, .int .i64 a0_1, .int .i64 a0_2, .int .i64 a0_3, .int .i64 a0_4, .int .i64 a0_5]) (t := 64) ?hr ?_; (case hd => rfl); (case hg => rfl); (case hr => first | (go_simp; done) | (go_simp; rfl)); intro gb993 hg w5 hbox hb; have n0_ := bS HB hb; have n1_ := aM (hbox); have n2_ := bZ hg HB; have n3_ := bZ hg HB; clear HB; have HB := n0_; have BK993 := n1_; have GW993 := n2_; have GE993 := n3_; clear n0_ n1_ n2_ n3_; clear hb hbox hg) | ((with_reducible refine gate_dst (N := 2) rfl ?_); refine box_event ?hg (N := 2) ?hd (cs := #[.int .i64 0, .int .i64 0, .int .i64 0, .int .i64 0, .int .i64 0, .int .i64 0]) (t := 64) ?hr ?_; (case hd => rfl); (case hg => rfl); (case hr => first | (go_simp; done) | (go_simp; rfl)); intro gb994 hg w6 hbox hb; have n0_ := bB BK993 hb; have n1_ := bS HB hb; have n2_ := aM (hbox); have n3_ := bZ hg HB; have n4_ := bZ hg HB; have n5_ := nL hg BK993; have n6_ := nG hg BK993; clear BK993; clear HB; have BK993 := n0_; have HB := n1_; have BK994 := n2_; have GW994 := n3_; have GE994 := n4_; have NB993_994 := n5_; have NB994_993 := n6_; clear n0_ n1_ n2_ n3_ n4_ n5_ n6_; clear hb hbox hg; have hnb7 := NB993_994.out; have hnc7 := NB994_993.out; obtain ⟨hcz8_0, hcz8_1, hcz8_2, hcz8_3, hcz8_4, hcz8_5⟩ := z6 BK993; obtain ⟨hfz8_0, hfz8_1, hfz8_2, hfz8_3, hfz8_4, hfz8_5⟩ := y6 BK993) | ((with_reducible refine gate_callee (f := 94) rfl ?_); refine goesL_ (some 6) rfl rfl Try.func94 (by kernel_rfl) rfl #[.agg #[.int .i64 a0_0, .int .i64 a0_1, .int .i64 a0_2, .int .i64 a0_3]] rfl (by first|rfl|(simp only [List.map_toArray, List.map_cons, List.map_nil]; try rfl)) ?_; (with_reducible refine (spec_l02Inverse.calls a0_0 a0_1 a0_2 a0_3 t995 t996 t997 t998 _ A2.out).mono ?_); rintro e w9 ⟨rfl, hb⟩; refine ⟨_, rfl, ?_⟩; have n0_ := bB BK993 hb; have n1_ := bB BK994 hb; have n2_ := bS HB hb; clear BK993; clear BK994; clear HB; have BK993 := n0_; have BK994 := n1_; have HB := n2_; clear n0_ n1_ n2_; (try clear hb)) | ((with_reducible refine gate_dst (N := 3) rfl ?_); refine box_event ?hg (N := 3) ?hd (cs := #[.int .i64 0, .int .i64 0, .int .i64 0, .int .i64 0]) (t := 51) ?hr ?_; (case hd => rfl); (case hg => rfl); (case hr => first | (go_simp; done) | (go_simp; rfl)); intro gb999 hg w10 hbox hb; have n0_ := bB BK993 hb; have n1_ := bB BK994 hb; have n2_ := bS HB hb; have n3_ := aM (hbox); have n4_ := bZ hg HB; have n5_ := bZ hg HB; have n6_ := nL hg BK993; have n7_ := nG hg BK993; have n8_ := nL hg BK994; have n9_ := nG hg BK994; clear BK993; clear BK994; clear HB; have BK993 := n0_; have BK994 := n1_; have HB := n2_; have BK999 := n3_; have GW999 := n4_; have GE999 := n5_; have NB993_999 := n6_; have NB999_993 := n7_; have NB994_999 := n8_; have NB999_994 := n9_; clear n0_ n1_ n2_ n3_ n4_ n5_ n6_ n7_ n8_ n9_; clear hb hbox hg; have hnb11 := NB999_993.out; have hnc11 := NB993_999.out; have hnb12 := NB999_994.out; have hnc12 := NB994_999.out; obtain ⟨hcz13_0, hcz13_1, hcz13_2, hcz13_3⟩ := z4 BK999; obtain ⟨hfz13_0, hfz13_1, hfz13_2, hfz13_3⟩ := y4 BK999))
 have n0_ : Aside0 (((((w10.setCell ⟨gb999, 0, none⟩ (.int .i64 t995)).setCell ⟨gb999, 1, none⟩ (.int .i64 t996)).setCell ⟨gb999, 2, none⟩ (.int .i64 t997)).setCell ⟨gb999, 3, none⟩ (.int .i64 t998)).heap[gb993]? = some (.cells #[.int .i64 a0_0, .int .i64 a0_1, .int .i64 a0_2, .int .i64 a0_3, .int .i64 a0_4, .int .i64 a0_5] 64 (0, 0))) := ⟨by (repeat (first|(with_reducible first|apply kN|apply kD|apply kA)|refine blk_far ?_ NB993_999.out _)); exact BK993.out⟩
 have n1_ : Aside0 (((((w10.setCell ⟨gb999, 0, none⟩ (.int .i64 t995)).setCell ⟨gb999, 1, none⟩ (.int .i64 t996)).setCell ⟨gb999, 2, none⟩ (.int .i64 t997)).setCell ⟨gb999, 3, none⟩ (.int .i64 t998)).heap[gb994]? = some (.cells #[.int .i64 0, .int .i64 0, .int .i64 0, .int .i64 0, .int .i64 0, .int .i64 0] 64 (0, 0))) := ⟨by (repeat (first|(with_reducible first|apply kN|apply kD|apply kA)|refine blk_far ?_ NB994_999.out _)); exact BK994.out⟩
 have n2_ : Aside0 (((((w10.setCell ⟨gb999, 0, none⟩ (.int .i64 t995)).setCell ⟨gb999, 1, none⟩ (.int .i64 t996)).setCell ⟨gb999, 2, none⟩ (.int .i64 t997)).setCell ⟨gb999, 3, none⟩ (.int .i64 t998)).heap[gb999]? = some (.cells #[.int .i64 t995, .int .i64 t996, .int .i64 t997, .int .i64 t998] 51 (0, 0))) := ⟨by (with_reducible repeat (first|apply kN|apply kD|apply kA)); refine blk_put (cs := #[.int .i64 t995, .int .i64 t996, .int .i64 t997, .int .i64 0]) ?_ 3 _ rfl; (with_reducible repeat (first|apply kN|apply kD|apply kA)); refine blk_put (cs := #[.int .i64 t995, .int .i64 t996, .int .i64 0, .int .i64 0]) ?_ 2 _ rfl; (with_reducible repeat (first|apply kN|apply kD|apply kA)); refine blk_put (cs := #[.int .i64 t995, .int .i64 0, .int .i64 0, .int .i64 0]) ?_ 1 _ rfl; (with_reducible repeat (first|apply kN|apply kD|apply kA)); refine blk_put (cs := #[.int .i64 0, .int .i64 0, .int .i64 0, .int .i64 0]) ?_ 0 _ rfl; (with_reducible repeat (first|apply kN|apply kD|apply kA)); exact BK999.out⟩
 have n3_ : Aside0 (Below w.heap.size w ((((w10.setCell ⟨gb999, 0, none⟩ (.int .i64 t995)).setCell ⟨gb999, 1, none⟩ (.int .i64 t996)).setCell ⟨gb999, 2, none⟩ (.int .i64 t997)).setCell ⟨gb999, 3, none⟩ (.int .i64 t998))) := ⟨by repeat (first | (with_reducible first | exact HB.out | apply bA|apply bN|apply b1 | refine below_set ?_ (Aside0.out (by assumption))) | exact HB.out)⟩
 (try clear BK993)
 (try clear BK994)
 (try clear BK999)
 (try clear HB)
 generalize ((((w10.setCell ⟨gb999, 0, none⟩ (.int .i64 t995)).setCell ⟨gb999, 1, none⟩ (.int .i64 t996)).setCell ⟨gb999, 2, none⟩ (.int .i64 t997)).setCell ⟨gb999, 3, none⟩ (.int .i64 t998)) = w14 at n0_ n1_ n2_ n3_ ⊢
 have BK993 := n0_
 have BK994 := n1_
 have BK999 := n2_
 have HB := n3_
 clear n0_ n1_ n2_ n3_
 have n0_ := aM (blk_drew BK993.out)
 have n1_ := aM (blk_drew BK994.out)
 have n2_ := aM (blk_drew BK999.out)
 have n3_ := aM (below_drew1 HB.out)
 clear BK993
 clear BK994
 clear BK999
 clear HB
 have BK993 := n0_
 have BK994 := n1_
 have BK999 := n2_
 have HB := n3_
 clear n0_ n1_ n2_ n3_
 refine start_ (n := 8) (S := fun w' => w'.cell? ⟨gb999, 0, none⟩ = some (.int .i64 t995) ∧ w'.cell? ⟨gb999, 1, none⟩ = some (.int .i64 t996) ∧ w'.cell? ⟨gb999, 2, none⟩ = some (.int .i64 t997) ∧ w'.cell? ⟨gb999, 3, none⟩ = some (.int .i64 t998) ∧ w'.cell? ⟨gb993, 0, none⟩ = some (.int .i64 a0_0) ∧ w'.cell? ⟨gb993, 1, none⟩ = some (.int .i64 a0_1) ∧ w'.cell? ⟨gb993, 2, none⟩ = some (.int .i64 a0_2) ∧ w'.cell? ⟨gb993, 3, none⟩ = some (.int .i64 a0_3) ∧ w'.cell? ⟨gb993, 4, none⟩ = some (.int .i64 a0_4) ∧ w'.cell? ⟨gb993, 5, none⟩ = some (.int .i64 a0_5)) (ds := []) #[false, false, false, false, false, false, false, false] (by kernel_rfl) rfl rfl ⟨(blk_cell BK999.out 0).trans rfl, (blk_cell BK999.out 1).trans rfl, (blk_cell BK999.out 2).trans rfl, (blk_cell BK999.out 3).trans rfl, (blk_cell BK993.out 0).trans rfl, (blk_cell BK993.out 1).trans rfl, (blk_cell BK993.out 2).trans rfl, (blk_cell BK993.out 3).trans rfl, (blk_cell BK993.out 4).trans rfl, (blk_cell BK993.out 5).trans rfl⟩ (fun hHeld => ?_); refine with_tabW spec_l05Inverse.tab2 spec_l05Inverse.bits2 (fun HT_ HW_ => ?_)
 generalize w14.drew = w15 at BK993 BK994 BK999 HB hHeld ⊢
 refine pure_ (i := 2) (N := some 9) (v := ?_) (a' := ?_) #[false, false, true, false, false, false, false, false] rfl rfl (any_of HT_.out (by kernel_rfl)) (fun _ _ _ h => h) (Or.inl ⟨by rfl, ?_⟩) ?_ ?_
 rotate_left
 ·intro w'
  go_simp
  with_reducible rfl
 rotate_left
 ·simp only [Act.put, List.setIfInBounds_toArray, List.set_cons_zero, List.set_cons_succ, i64_w, i32_w]
  rfl
 refine take_ (i := 0) (N := some 7) (v := ?_) (a' := ?_) #[true, false, true, false, false, false, false, false] rfl rfl (take_ofW HT_.out HW_.out (by kernel_rfl)) (fun _ _ _ h => h) (Or.inl ⟨by rfl, ?_⟩) hHeld ?_ ?_
 rotate_left
 ·rintro w' ⟨s0, s1, s2, s3, s4, s5, s6, s7, s8, s9⟩
  go_simp
  with_reducible rfl
 rotate_left
 ·simp only [Act.put, List.setIfInBounds_toArray, List.set_cons_zero, List.set_cons_succ, i64_w, i32_w]
  rfl
 refine take_ (i := 1) (N := some 8) (v := ?_) (a' := ?_) #[true, true, true, false, false, false, false, false] rfl rfl (take_ofW HT_.out HW_.out (by kernel_rfl)) (fun _ _ _ h => h) (Or.inl ⟨by rfl, ?_⟩) hHeld ?_ ?_
 rotate_left
 ·rintro w' ⟨s0, s1, s2, s3, s4, s5, s6, s7, s8, s9⟩
  go_simp
  with_reducible rfl
 rotate_left
 ·simp only [Act.put, List.setIfInBounds_toArray, List.set_cons_zero, List.set_cons_succ, i64_w, i32_w]
  rfl
 refine take_ (i := 3) (N := some 10) (v := ?_) (a' := ?_) #[true, true, true, true, false, false, false, false] rfl rfl (take_ofW HT_.out HW_.out (by kernel_rfl)) (fun _ _ _ h => h) (Or.inl ⟨by rfl, ?_⟩) hHeld ?_ ?_
 rotate_left
 ·rintro w' ⟨s0, s1, s2, s3, s4, s5, s6, s7, s8, s9⟩
  go_simp
  with_reducible rfl
 rotate_left
 ·simp only [Act.put, List.setIfInBounds_toArray, List.set_cons_zero, List.set_cons_succ, i64_w, i32_w]
  rfl
 refine one_ (i := 4) (N := some 11) #[true, true, true, true, true, false, false, false] rfl rfl (one_of HT_.out (by kernel_rfl)) (by decide) (fun K hK => ?_)
 refine goes_ Try.func100 (by kernel_rfl) rfl #[.agg #[.int .i64 t995, .int .i64 t996, .int .i64 t997, .int .i64 t998], .agg #[.int .i64 a0_4, .int .i64 a0_5]] (by rfl) rfl rfl (by first|rfl|(simp only [List.map_toArray, List.map_cons, List.map_nil]; try rfl)) ?_
 with_reducible refine (spec_l02Apply.calls t995 t996 t997 t998 a0_4 a0_5 t1000 t1001 _ A3.out).mono ?_
 rintro e w16 ⟨rfl, hb⟩
 refine ⟨_, rfl, ?_⟩
 have n0_ := bB BK993 hb
 have n1_ := bB BK994 hb
 have n2_ := bB BK999 hb
 have n3_ := bS HB hb
 clear BK993
 clear BK994
 clear BK999
 clear HB
 have BK993 := n0_
 have BK994 := n1_
 have BK999 := n2_
 have HB := n3_
 clear n0_ n1_ n2_ n3_
 (try clear hb)
 (try clear hb2)
 (try clear hk)
 (try clear hi)
 refine hK.out _ _ ⟨(blk_cell BK999.out 0).trans rfl, (blk_cell BK999.out 1).trans rfl, (blk_cell BK999.out 2).trans rfl, (blk_cell BK999.out 3).trans rfl, (blk_cell BK993.out 0).trans rfl, (blk_cell BK993.out 1).trans rfl, (blk_cell BK993.out 2).trans rfl, (blk_cell BK993.out 3).trans rfl, (blk_cell BK993.out 4).trans rfl, (blk_cell BK993.out 5).trans rfl⟩ (fun hHeld => ?_)
 clear hK K
 refine norm_ (a' := ?_) ?_ ?_
 rotate_left
 ·show Act.put _ (some 11) _ = _
  simp only [Act.put, List.setIfInBounds_toArray, List.set_cons_zero, List.set_cons_succ, i64_w, i32_w]
  rfl
 refine one_ (i := 5) (N := some 12) #[true, true, true, true, true, true, false, false] rfl rfl (one_of HT_.out (by kernel_rfl)) (by decide) (fun K hK => ?_)
 refine goes_ Try.func145 (by kernel_rfl) rfl #[.agg #[.int .i64 t1000, .int .i64 t1001], .int .i64 (-1)] (by rfl) rfl rfl (by first|rfl|(simp only [List.map_toArray, List.map_cons, List.map_nil]; try rfl)) ?_
 with_reducible refine (spec_l01Scale.calls t1000 t1001 (-1) t1002 t1003 _ A4.out).mono ?_
 rintro e w17 ⟨rfl, hb⟩
 refine ⟨_, rfl, ?_⟩
 have n0_ := bB BK993 hb
 have n1_ := bB BK994 hb
 have n2_ := bB BK999 hb
 have n3_ := bS HB hb
 clear BK993
 clear BK994
 clear BK999
 clear HB
 have BK993 := n0_
 have BK994 := n1_
 have BK999 := n2_
 have HB := n3_
 clear n0_ n1_ n2_ n3_
 (try clear hb)
 (try clear hb2)
 (try clear hk)
 (try clear hi)
 refine hK.out _ _ ⟨(blk_cell BK999.out 0).trans rfl, (blk_cell BK999.out 1).trans rfl, (blk_cell BK999.out 2).trans rfl, (blk_cell BK999.out 3).trans rfl, (blk_cell BK993.out 0).trans rfl, (blk_cell BK993.out 1).trans rfl, (blk_cell BK993.out 2).trans rfl, (blk_cell BK993.out 3).trans rfl, (blk_cell BK993.out 4).trans rfl, (blk_cell BK993.out 5).trans rfl⟩ (fun hHeld => ?_)
 clear hK K
 refine norm_ (a' := ?_) ?_ ?_
 rotate_left
 ·show Act.put _ (some 12) _ = _
  simp only [Act.put, List.setIfInBounds_toArray, List.set_cons_zero, List.set_cons_succ, i64_w, i32_w]
  rfl
 refine pure_ (i := 6) (N := some 13) (v := ?_) (a' := ?_) #[true, true, true, true, true, true, true, false] rfl rfl (any_of HT_.out (by kernel_rfl)) (fun _ _ _ h => h) (Or.inl ⟨by rfl, ?_⟩) ?_ ?_
 rotate_left
 ·intro w'
  go_simp
  with_reducible rfl
 rotate_left
 ·simp only [Act.put, List.setIfInBounds_toArray, List.set_cons_zero, List.set_cons_succ, i64_w, i32_w]
  rfl
 refine one_ (i := 7) (N := none) #[true, true, true, true, true, true, true, true] rfl rfl (one_of HT_.out (by kernel_rfl)) (by decide) (fun K hK => ?_)
 have hs18 : w17.cell? ⟨gb994, 0, none⟩ = some (.int .i64 0) := (blk_cell BK994.out 0).trans rfl
 have hfs18 := blk_frozen BK994.out 0
 have hns18_0 := NB993_994.out
 have hns18_2 := NB999_994.out
 have hms18_0 := NB994_993.out
 have hms18_2 := NB994_999.out
 have hs19 : w17.cell? ⟨gb994, 1, none⟩ = some (.int .i64 0) := (blk_cell BK994.out 1).trans rfl
 have hfs19 := blk_frozen BK994.out 1
 have hns19_0 := NB993_994.out
 have hns19_2 := NB999_994.out
 have hms19_0 := NB994_993.out
 have hms19_2 := NB994_999.out
 have hs20 : w17.cell? ⟨gb994, 2, none⟩ = some (.int .i64 0) := (blk_cell BK994.out 2).trans rfl
 have hfs20 := blk_frozen BK994.out 2
 have hns20_0 := NB993_994.out
 have hns20_2 := NB999_994.out
 have hms20_0 := NB994_993.out
 have hms20_2 := NB994_999.out
 have hs21 : w17.cell? ⟨gb994, 3, none⟩ = some (.int .i64 0) := (blk_cell BK994.out 3).trans rfl
 have hfs21 := blk_frozen BK994.out 3
 have hns21_0 := NB993_994.out
 have hns21_2 := NB999_994.out
 have hms21_0 := NB994_993.out
 have hms21_2 := NB994_999.out
 have hs22 : w17.cell? ⟨gb994, 4, none⟩ = some (.int .i64 0) := (blk_cell BK994.out 4).trans rfl
 have hfs22 := blk_frozen BK994.out 4
 have hns22_0 := NB993_994.out
 have hns22_2 := NB999_994.out
 have hms22_0 := NB994_993.out
 have hms22_2 := NB994_999.out
 have hs23 : w17.cell? ⟨gb994, 5, none⟩ = some (.int .i64 0) := (blk_cell BK994.out 5).trans rfl
 have hfs23 := blk_frozen BK994.out 5
 have hns23_0 := NB993_994.out
 have hns23_2 := NB999_994.out
 have hms23_0 := NB994_993.out
 have hms23_2 := NB994_999.out
 refine skip_ (w1 := ?_) (by rfl) rfl ?_ ?_
 rotate_left
 ·go_simp
  rfl
 refine hK.out _ _ ⟨((cell_far (p := ⟨gb994, _, none⟩) NB999_994.out _).trans (((cell_far (p := ⟨gb994, _, none⟩) NB999_994.out _).trans (((cell_far (p := ⟨gb994, _, none⟩) NB999_994.out _).trans (((cell_far (p := ⟨gb994, _, none⟩) NB999_994.out _).trans (((cell_far (p := ⟨gb994, _, none⟩) NB999_994.out _).trans (((cell_far (p := ⟨gb994, _, none⟩) NB999_994.out _).trans (hHeld.1)))))))))))), ((cell_far (p := ⟨gb994, _, none⟩) NB999_994.out _).trans (((cell_far (p := ⟨gb994, _, none⟩) NB999_994.out _).trans (((cell_far (p := ⟨gb994, _, none⟩) NB999_994.out _).trans (((cell_far (p := ⟨gb994, _, none⟩) NB999_994.out _).trans (((cell_far (p := ⟨gb994, _, none⟩) NB999_994.out _).trans (((cell_far (p := ⟨gb994, _, none⟩) NB999_994.out _).trans (hHeld.2.1)))))))))))), ((cell_far (p := ⟨gb994, _, none⟩) NB999_994.out _).trans (((cell_far (p := ⟨gb994, _, none⟩) NB999_994.out _).trans (((cell_far (p := ⟨gb994, _, none⟩) NB999_994.out _).trans (((cell_far (p := ⟨gb994, _, none⟩) NB999_994.out _).trans (((cell_far (p := ⟨gb994, _, none⟩) NB999_994.out _).trans (((cell_far (p := ⟨gb994, _, none⟩) NB999_994.out _).trans (hHeld.2.2.1)))))))))))), ((cell_far (p := ⟨gb994, _, none⟩) NB999_994.out _).trans (((cell_far (p := ⟨gb994, _, none⟩) NB999_994.out _).trans (((cell_far (p := ⟨gb994, _, none⟩) NB999_994.out _).trans (((cell_far (p := ⟨gb994, _, none⟩) NB999_994.out _).trans (((cell_far (p := ⟨gb994, _, none⟩) NB999_994.out _).trans (((cell_far (p := ⟨gb994, _, none⟩) NB999_994.out _).trans (hHeld.2.2.2.1)))))))))))), ((cell_far (p := ⟨gb994, _, none⟩) NB993_994.out _).trans (((cell_far (p := ⟨gb994, _, none⟩) NB993_994.out _).trans (((cell_far (p := ⟨gb994, _, none⟩) NB993_994.out _).trans (((cell_far (p := ⟨gb994, _, none⟩) NB993_994.out _).trans (((cell_far (p := ⟨gb994, _, none⟩) NB993_994.out _).trans (((cell_far (p := ⟨gb994, _, none⟩) NB993_994.out _).trans (hHeld.2.2.2.2.1)))))))))))), ((cell_far (p := ⟨gb994, _, none⟩) NB993_994.out _).trans (((cell_far (p := ⟨gb994, _, none⟩) NB993_994.out _).trans (((cell_far (p := ⟨gb994, _, none⟩) NB993_994.out _).trans (((cell_far (p := ⟨gb994, _, none⟩) NB993_994.out _).trans (((cell_far (p := ⟨gb994, _, none⟩) NB993_994.out _).trans (((cell_far (p := ⟨gb994, _, none⟩) NB993_994.out _).trans (hHeld.2.2.2.2.2.1)))))))))))), ((cell_far (p := ⟨gb994, _, none⟩) NB993_994.out _).trans (((cell_far (p := ⟨gb994, _, none⟩) NB993_994.out _).trans (((cell_far (p := ⟨gb994, _, none⟩) NB993_994.out _).trans (((cell_far (p := ⟨gb994, _, none⟩) NB993_994.out _).trans (((cell_far (p := ⟨gb994, _, none⟩) NB993_994.out _).trans (((cell_far (p := ⟨gb994, _, none⟩) NB993_994.out _).trans (hHeld.2.2.2.2.2.2.1)))))))))))), ((cell_far (p := ⟨gb994, _, none⟩) NB993_994.out _).trans (((cell_far (p := ⟨gb994, _, none⟩) NB993_994.out _).trans (((cell_far (p := ⟨gb994, _, none⟩) NB993_994.out _).trans (((cell_far (p := ⟨gb994, _, none⟩) NB993_994.out _).trans (((cell_far (p := ⟨gb994, _, none⟩) NB993_994.out _).trans (((cell_far (p := ⟨gb994, _, none⟩) NB993_994.out _).trans (hHeld.2.2.2.2.2.2.2.1)))))))))))), ((cell_far (p := ⟨gb994, _, none⟩) NB993_994.out _).trans (((cell_far (p := ⟨gb994, _, none⟩) NB993_994.out _).trans (((cell_far (p := ⟨gb994, _, none⟩) NB993_994.out _).trans (((cell_far (p := ⟨gb994, _, none⟩) NB993_994.out _).trans (((cell_far (p := ⟨gb994, _, none⟩) NB993_994.out _).trans (((cell_far (p := ⟨gb994, _, none⟩) NB993_994.out _).trans (hHeld.2.2.2.2.2.2.2.2.1)))))))))))), ((cell_far (p := ⟨gb994, _, none⟩) NB993_994.out _).trans (((cell_far (p := ⟨gb994, _, none⟩) NB993_994.out _).trans (((cell_far (p := ⟨gb994, _, none⟩) NB993_994.out _).trans (((cell_far (p := ⟨gb994, _, none⟩) NB993_994.out _).trans (((cell_far (p := ⟨gb994, _, none⟩) NB993_994.out _).trans (((cell_far (p := ⟨gb994, _, none⟩) NB993_994.out _).trans (hHeld.2.2.2.2.2.2.2.2.2))))))))))))⟩ (fun hHeld => ?_)
 clear hK K
 refine done_ (done_of HT_.out (by kernel_rfl)) ?_
 try go_wp2
 refine bodyPost_ret (results_cell_row rfl _ _ gb994 64 #[.int .i64 t995, .int .i64 t996, .int .i64 t997, .int .i64 t998, .int .i64 t1002, .int .i64 t1003] (0, 0) _ rfl (by (with_reducible repeat (first|apply kN|apply kD|apply kA)); refine blk_put (cs := #[.int .i64 t995, .int .i64 t996, .int .i64 t997, .int .i64 t998, .int .i64 t1002, .int .i64 0]) ?_ 5 _ rfl; (with_reducible repeat (first|apply kN|apply kD|apply kA)); refine blk_put (cs := #[.int .i64 t995, .int .i64 t996, .int .i64 t997, .int .i64 t998, .int .i64 0, .int .i64 0]) ?_ 4 _ rfl; (with_reducible repeat (first|apply kN|apply kD|apply kA)); refine blk_put (cs := #[.int .i64 t995, .int .i64 t996, .int .i64 t997, .int .i64 0, .int .i64 0, .int .i64 0]) ?_ 3 _ rfl; (with_reducible repeat (first|apply kN|apply kD|apply kA)); refine blk_put (cs := #[.int .i64 t995, .int .i64 t996, .int .i64 0, .int .i64 0, .int .i64 0, .int .i64 0]) ?_ 2 _ rfl; (with_reducible repeat (first|apply kN|apply kD|apply kA)); refine blk_put (cs := #[.int .i64 t995, .int .i64 0, .int .i64 0, .int .i64 0, .int .i64 0, .int .i64 0]) ?_ 1 _ rfl; (with_reducible repeat (first|apply kN|apply kD|apply kA)); refine blk_put (cs := #[.int .i64 0, .int .i64 0, .int .i64 0, .int .i64 0, .int .i64 0, .int .i64 0]) ?_ 0 _ rfl; (with_reducible repeat (first|apply kN|apply kD|apply kA)); exact BK994.out) Try.underlying64 rfl (by kernel_rfl)) rfl ?_
 exact ⟨by first|rfl|(simp [*, errW_none, errW_some] <;> rfl), by repeat (first | (with_reducible first | exact HB.out | apply bA|apply bN|apply b1 | refine below_set ?_ (Aside0.out (by assumption))) | exact HB.out)⟩

def spec_InverseMotion.f (k : Nat) (a0_0 : Int) (a0_1 : Int) (a0_2 : Int) (a0_3 : Int) (a0_4 : Int) (a0_5 : Int) : Option (Int × Int × Int × Int × Int × Int × Int) := (spec_IsMotion.f k a0_0 a0_1 a0_2 a0_3 a0_4 a0_5).bind fun t1006 => (if t1006 = true then ((spec_l05Inverse.f a0_0 a0_1 a0_2 a0_3 a0_4 a0_5).bind fun bt1007 => ((spec_IsVec.f bt1007.2.2.2.2.1 bt1007.2.2.2.2.2).bind fun t1014 => (if t1014 = true then (some (bt1007.1, bt1007.2.1, bt1007.2.2.1, bt1007.2.2.2.1, bt1007.2.2.2.2.1, bt1007.2.2.2.2.2, 0)) else (some (0, 0, 0, 0, 0, 0, 3))))) else (some (0, 0, 0, 0, 0, 0, 1)))
set_option maxHeartbeats 8000000 in
set_option maxRecDepth 100000 in
theorem spec_InverseMotion.calls (k : Nat) (a0_0 : Int) (a0_1 : Int) (a0_2 : Int) (a0_3 : Int) (a0_4 : Int) (a0_5 : Int) (r1 : Int) (r2 : Int) (r3 : Int) (r4 : Int) (r5 : Int) (r6 : Int) (r7 : Int) (w : World) (h : spec_InverseMotion.f k a0_0 a0_1 a0_2 a0_3 a0_4 a0_5 = some (r1, r2, r3, r4, r5, r6, r7)) :
  Calls Try.prog 44 #[.agg #[.int .i64 a0_0, .int .i64 a0_1, .int .i64 a0_2, .int .i64 a0_3, .int .i64 a0_4, .int .i64 a0_5]] w fun e w' => e = .returned (.tuple #[.agg #[.int .i64 r1, .int .i64 r2, .int .i64 r3, .int .i64 r4, .int .i64 r5, .int .i64 r6], .int .i64 r7]) ∧ Below w.heap.size w w' := by
 have hu64 := Try.underlying64
 have hu47 := Try.underlying47
 have HB := aM (Below.refl w.heap.size w)
 have H : ((spec_IsMotion.f k a0_0 a0_1 a0_2 a0_3 a0_4 a0_5).bind fun t1006 => (if t1006 = true then ((spec_l05Inverse.f a0_0 a0_1 a0_2 a0_3 a0_4 a0_5).bind fun bt1007 => ((spec_IsVec.f bt1007.2.2.2.2.1 bt1007.2.2.2.2.2).bind fun t1014 => (if t1014 = true then (some (bt1007.1, bt1007.2.1, bt1007.2.2.1, bt1007.2.2.2.1, bt1007.2.2.2.2.1, bt1007.2.2.2.2.2, 0)) else (some (0, 0, 0, 0, 0, 0, 3))))) else (some (0, 0, 0, 0, 0, 0, 1)))) = some (r1, r2, r3, r4, r5, r6, r7) := h
 clear h
 replace H := Option.bind_eq_some_iff.mp H
 obtain ⟨t1006, A20, H⟩ := H
 try dsimp only at H
 have A2 := aM A20
 clear A20
 by_cases c3 : t1006 = true
 ·subst c3
  have H1 : ((spec_l05Inverse.f a0_0 a0_1 a0_2 a0_3 a0_4 a0_5).bind fun bt1007 => ((spec_IsVec.f bt1007.2.2.2.2.1 bt1007.2.2.2.2.2).bind fun t1014 => (if t1014 = true then (some (bt1007.1, bt1007.2.1, bt1007.2.2.1, bt1007.2.2.2.1, bt1007.2.2.2.2.1, bt1007.2.2.2.2.2, 0)) else (some (0, 0, 0, 0, 0, 0, 3))))) = some (r1, r2, r3, r4, r5, r6, r7) := by rw [if_pos rfl] at H; exact H
  clear H
  have H := H1
  clear H1
  replace H := Option.bind_eq_some_iff.mp H
  obtain ⟨⟨t1007, t1008, t1009, t1010, t1011, t1012⟩, A40, H⟩ := H
  try dsimp only at H
  have A4 := aM A40
  clear A40
  replace H := Option.bind_eq_some_iff.mp H
  obtain ⟨t1014, A50, H⟩ := H
  try dsimp only at H
  have A5 := aM A50
  clear A50
  by_cases c6 : t1014 = true
  ·subst c6
   have H1 : (some (t1007, t1008, t1009, t1010, t1011, t1012, 0)) = some (r1, r2, r3, r4, r5, r6, r7) := by rw [if_pos rfl] at H; exact H
   clear H
   have H := H1
   clear H1
   simp only [Option.some.injEq, Prod.mk.injEq] at H
   obtain ⟨rfl, rfl, rfl, rfl, rfl, rfl, rfl⟩ := H
   go_enter Try.func44, Try.ntmps44
   go_wp2_with (first | ((with_reducible refine gate_dst (N := 1) rfl ?_); refine box_event ?hg (N := 1) ?hd (cs := #[.int .i64 a0_0, .int .i64 a0_1, .int .i64 a0_2, .int .i64 a0_3, .int .i64 a0_4, .int .i64 a0_5]) (t := 64) ?hr ?_; (case hd => rfl); (case hg => rfl); (case hr => first | (go_simp; done) | (go_simp; rfl)); intro gb1004 hg w7 hbox hb; have n0_ := bS HB hb; have n1_ := aM (hbox); have n2_ := bZ hg HB; have n3_ := bZ hg HB; clear HB; have HB := n0_; have BK1004 := n1_; have GW1004 := n2_; have GE1004 := n3_; clear n0_ n1_ n2_ n3_; clear hb hbox hg) | ((with_reducible refine gate_dst (N := 2) rfl ?_); refine box_event ?hg (N := 2) ?hd (cs := #[.int .i64 0, .int .i64 0, .int .i64 0, .int .i64 0, .int .i64 0, .int .i64 0]) (t := 64) ?hr ?_; (case hd => rfl); (case hg => rfl); (case hr => first | (go_simp; done) | (go_simp; rfl)); intro gb1005 hg w8 hbox hb; have n0_ := bB BK1004 hb; have n1_ := bS HB hb; have n2_ := aM (hbox); have n3_ := bZ hg HB; have n4_ := bZ hg HB; have n5_ := nL hg BK1004; have n6_ := nG hg BK1004; clear BK1004; clear HB; have BK1004 := n0_; have HB := n1_; have BK1005 := n2_; have GW1005 := n3_; have GE1005 := n4_; have NB1004_1005 := n5_; have NB1005_1004 := n6_; clear n0_ n1_ n2_ n3_ n4_ n5_ n6_; clear hb hbox hg; have hnb9 := NB1004_1005.out; have hnc9 := NB1005_1004.out; obtain ⟨hcz10_0, hcz10_1, hcz10_2, hcz10_3, hcz10_4, hcz10_5⟩ := z6 BK1004; obtain ⟨hfz10_0, hfz10_1, hfz10_2, hfz10_3, hfz10_4, hfz10_5⟩ := y6 BK1004) | ((with_reducible refine gate_callee (f := 49) rfl ?_); refine goesL_ (some 6) rfl rfl Try.func49 (by kernel_rfl) rfl #[.agg #[.int .i64 a0_0, .int .i64 a0_1, .int .i64 a0_2, .int .i64 a0_3, .int .i64 a0_4, .int .i64 a0_5]] rfl (by first|rfl|(simp only [List.map_toArray, List.map_cons, List.map_nil]; try rfl)) ?_; (with_reducible refine (spec_IsMotion.calls k a0_0 a0_1 a0_2 a0_3 a0_4 a0_5 true _ A2.out).mono ?_); rintro e w11 ⟨rfl, hb⟩; refine ⟨_, rfl, ?_⟩; have n0_ := bB BK1004 hb; have n1_ := bB BK1005 hb; have n2_ := bS HB hb; clear BK1004; clear BK1005; clear HB; have BK1004 := n0_; have BK1005 := n1_; have HB := n2_; clear n0_ n1_ n2_; (try clear hb); obtain ⟨hcz12_0, hcz12_1, hcz12_2, hcz12_3, hcz12_4, hcz12_5⟩ := z6 BK1004; obtain ⟨hfz12_0, hfz12_1, hfz12_2, hfz12_3, hfz12_4, hfz12_5⟩ := y6 BK1004) | ((with_reducible refine gate_callee (f := 110) rfl ?_); refine goesL_ (some 10) rfl rfl Try.func110 (by kernel_rfl) rfl #[.agg #[.int .i64 a0_0, .int .i64 a0_1, .int .i64 a0_2, .int .i64 a0_3, .int .i64 a0_4, .int .i64 a0_5]] rfl (by first|rfl|(simp only [List.map_toArray, List.map_cons, List.map_nil]; try rfl)) ?_; (with_reducible refine (spec_l05Inverse.calls a0_0 a0_1 a0_2 a0_3 a0_4 a0_5 t1007 t1008 t1009 t1010 t1011 t1012 _ A4.out).mono ?_); rintro e w13 ⟨rfl, hb⟩; refine ⟨_, rfl, ?_⟩; have n0_ := bB BK1004 hb; have n1_ := bB BK1005 hb; have n2_ := bS HB hb; clear BK1004; clear BK1005; clear HB; have BK1004 := n0_; have BK1005 := n1_; have HB := n2_; clear n0_ n1_ n2_; (try clear hb)) | ((with_reducible refine gate_dst (N := 4) rfl ?_); refine box_event ?hg (N := 4) ?hd (cs := #[.int .i64 0, .int .i64 0, .int .i64 0, .int .i64 0, .int .i64 0, .int .i64 0]) (t := 64) ?hr ?_; (case hd => rfl); (case hg => rfl); (case hr => first | (go_simp; done) | (go_simp; rfl)); intro gb1013 hg w14 hbox hb; have n0_ := bB BK1004 hb; have n1_ := bB BK1005 hb; have n2_ := bS HB hb; have n3_ := aM (hbox); have n4_ := bZ hg HB; have n5_ := bZ hg HB; have n6_ := nL hg BK1004; have n7_ := nG hg BK1004; have n8_ := nL hg BK1005; have n9_ := nG hg BK1005; clear BK1004; clear BK1005; clear HB; have BK1004 := n0_; have BK1005 := n1_; have HB := n2_; have BK1013 := n3_; have GW1013 := n4_; have GE1013 := n5_; have NB1004_1013 := n6_; have NB1013_1004 := n7_; have NB1005_1013 := n8_; have NB1013_1005 := n9_; clear n0_ n1_ n2_ n3_ n4_ n5_ n6_ n7_ n8_ n9_; clear hb hbox hg; have hnb15 := NB1013_1004.out; have hnc15 := NB1004_1013.out; have hnb16 := NB1013_1005.out; have hnc16 := NB1005_1013.out; obtain ⟨hcz17_0, hcz17_1, hcz17_2, hcz17_3, hcz17_4, hcz17_5⟩ := z6 BK1013; obtain ⟨hfz17_0, hfz17_1, hfz17_2, hfz17_3, hfz17_4, hfz17_5⟩ := y6 BK1013) | ((with_reducible refine gate_callee (f := 98) rfl ?_); refine goesL_ (some 13) rfl rfl Try.func98 (by kernel_rfl) rfl #[.agg #[.int .i64 t1011, .int .i64 t1012]] rfl (by first|rfl|(simp only [List.map_toArray, List.map_cons, List.map_nil]; try rfl)) ?_; (with_reducible refine (spec_IsVec.calls t1011 t1012 true _ A5.out).mono ?_); rintro e w18 ⟨rfl, hb⟩; refine ⟨_, rfl, ?_⟩; have n0_ := aM (blk_below (g := gb1004) (o := .cells #[.int .i64 a0_0, .int .i64 a0_1, .int .i64 a0_2, .int .i64 a0_3, .int .i64 a0_4, .int .i64 a0_5] 64 (0, 0)) (by (repeat (first|(with_reducible first|apply kN|apply kD|apply kA)|refine blk_far ?_ NB1004_1013.out _)); exact BK1004.out) hb); have n1_ := aM (blk_below (g := gb1005) (o := .cells #[.int .i64 0, .int .i64 0, .int .i64 0, .int .i64 0, .int .i64 0, .int .i64 0] 64 (0, 0)) (by (repeat (first|(with_reducible first|apply kN|apply kD|apply kA)|refine blk_far ?_ NB1005_1013.out _)); exact BK1005.out) hb); have n2_ := aM (blk_below (g := gb1013) (o := .cells #[.int .i64 t1007, .int .i64 t1008, .int .i64 t1009, .int .i64 t1010, .int .i64 t1011, .int .i64 t1012] 64 (0, 0)) (by (with_reducible repeat (first|apply kN|apply kD|apply kA)); refine blk_put (cs := #[.int .i64 t1007, .int .i64 t1008, .int .i64 t1009, .int .i64 t1010, .int .i64 t1011, .int .i64 0]) ?_ 5 _ rfl; (with_reducible repeat (first|apply kN|apply kD|apply kA)); refine blk_put (cs := #[.int .i64 t1007, .int .i64 t1008, .int .i64 t1009, .int .i64 t1010, .int .i64 0, .int .i64 0]) ?_ 4 _ rfl; (with_reducible repeat (first|apply kN|apply kD|apply kA)); refine blk_put (cs := #[.int .i64 t1007, .int .i64 t1008, .int .i64 t1009, .int .i64 0, .int .i64 0, .int .i64 0]) ?_ 3 _ rfl; (with_reducible repeat (first|apply kN|apply kD|apply kA)); refine blk_put (cs := #[.int .i64 t1007, .int .i64 t1008, .int .i64 0, .int .i64 0, .int .i64 0, .int .i64 0]) ?_ 2 _ rfl; (with_reducible repeat (first|apply kN|apply kD|apply kA)); refine blk_put (cs := #[.int .i64 t1007, .int .i64 0, .int .i64 0, .int .i64 0, .int .i64 0, .int .i64 0]) ?_ 1 _ rfl; (with_reducible repeat (first|apply kN|apply kD|apply kA)); refine blk_put (cs := #[.int .i64 0, .int .i64 0, .int .i64 0, .int .i64 0, .int .i64 0, .int .i64 0]) ?_ 0 _ rfl; (with_reducible repeat (first|apply kN|apply kD|apply kA)); exact BK1013.out) hb); have n3_ := bS HB hb; clear BK1004; clear BK1005; clear BK1013; clear HB; have BK1004 := n0_; have BK1005 := n1_; have BK1013 := n2_; have HB := n3_; clear n0_ n1_ n2_ n3_; (try clear hb); obtain ⟨hcz19_0, hcz19_1, hcz19_2, hcz19_3, hcz19_4, hcz19_5⟩ := z6 BK1013; obtain ⟨hfz19_0, hfz19_1, hfz19_2, hfz19_3, hfz19_4, hfz19_5⟩ := y6 BK1013; obtain ⟨hcz20_0, hcz20_1, hcz20_2, hcz20_3, hcz20_4, hcz20_5⟩ := z6 BK1005; obtain ⟨hfz20_0, hfz20_1, hfz20_2, hfz20_3, hfz20_4, hfz20_5⟩ := y6 BK1005))
   refine bodyPost_ret (results_ct rfl _ _ gb1005 64 #[.int .i64 t1007, .int .i64 t1008, .int .i64 t1009, .int .i64 t1010, .int .i64 t1011, .int .i64 t1012] (0, 0) _ rfl (by (with_reducible repeat (first|apply kN|apply kD|apply kA)); refine blk_put (cs := #[.int .i64 t1007, .int .i64 t1008, .int .i64 t1009, .int .i64 t1010, .int .i64 t1011, .int .i64 0]) ?_ 5 _ rfl; (with_reducible repeat (first|apply kN|apply kD|apply kA)); refine blk_put (cs := #[.int .i64 t1007, .int .i64 t1008, .int .i64 t1009, .int .i64 t1010, .int .i64 0, .int .i64 0]) ?_ 4 _ rfl; (with_reducible repeat (first|apply kN|apply kD|apply kA)); refine blk_put (cs := #[.int .i64 t1007, .int .i64 t1008, .int .i64 t1009, .int .i64 0, .int .i64 0, .int .i64 0]) ?_ 3 _ rfl; (with_reducible repeat (first|apply kN|apply kD|apply kA)); refine blk_put (cs := #[.int .i64 t1007, .int .i64 t1008, .int .i64 0, .int .i64 0, .int .i64 0, .int .i64 0]) ?_ 2 _ rfl; (with_reducible repeat (first|apply kN|apply kD|apply kA)); refine blk_put (cs := #[.int .i64 t1007, .int .i64 0, .int .i64 0, .int .i64 0, .int .i64 0, .int .i64 0]) ?_ 1 _ rfl; (with_reducible repeat (first|apply kN|apply kD|apply kA)); refine blk_put (cs := #[.int .i64 0, .int .i64 0, .int .i64 0, .int .i64 0, .int .i64 0, .int .i64 0]) ?_ 0 _ rfl; (with_reducible repeat (first|apply kN|apply kD|apply kA)); exact BK1005.out) Try.underlying64 rfl (by kernel_rfl)) rfl ?_
   exact ⟨by first|rfl|(simp [*, errW_none, errW_some] <;> rfl), by repeat (first | (with_reducible first | exact HB.out | apply bA|apply bN|apply b1 | refine below_set ?_ (Aside0.out (by assumption))) | exact HB.out)⟩
  ·replace c6 := Bool.eq_false_iff.mpr c6
   subst c6
   have H1 : (some (0, 0, 0, 0, 0, 0, 3)) = some (r1, r2, r3, r4, r5, r6, r7) := by rw [if_neg (show ¬ (false = true) by decide)] at H; exact H
   clear H
   have H := H1
   clear H1
   simp only [Option.some.injEq, Prod.mk.injEq] at H
   obtain ⟨rfl, rfl, rfl, rfl, rfl, rfl, rfl⟩ := H
   go_enter Try.func44, Try.ntmps44
   go_wp2_with (first | ((with_reducible refine gate_dst (N := 1) rfl ?_); refine box_event ?hg (N := 1) ?hd (cs := #[.int .i64 a0_0, .int .i64 a0_1, .int .i64 a0_2, .int .i64 a0_3, .int .i64 a0_4, .int .i64 a0_5]) (t := 64) ?hr ?_; (case hd => rfl); (case hg => rfl); (case hr => first | (go_simp; done) | (go_simp; rfl)); intro gb1004 hg w21 hbox hb; have n0_ := bS HB hb; have n1_ := aM (hbox); have n2_ := bZ hg HB; have n3_ := bZ hg HB; clear HB; have HB := n0_; have BK1004 := n1_; have GW1004 := n2_; have GE1004 := n3_; clear n0_ n1_ n2_ n3_; clear hb hbox hg) | ((with_reducible refine gate_dst (N := 2) rfl ?_); refine box_event ?hg (N := 2) ?hd (cs := #[.int .i64 0, .int .i64 0, .int .i64 0, .int .i64 0, .int .i64 0, .int .i64 0]) (t := 64) ?hr ?_; (case hd => rfl); (case hg => rfl); (case hr => first | (go_simp; done) | (go_simp; rfl)); intro gb1005 hg w22 hbox hb; have n0_ := bB BK1004 hb; have n1_ := bS HB hb; have n2_ := aM (hbox); have n3_ := bZ hg HB; have n4_ := bZ hg HB; have n5_ := nL hg BK1004; have n6_ := nG hg BK1004; clear BK1004; clear HB; have BK1004 := n0_; have HB := n1_; have BK1005 := n2_; have GW1005 := n3_; have GE1005 := n4_; have NB1004_1005 := n5_; have NB1005_1004 := n6_; clear n0_ n1_ n2_ n3_ n4_ n5_ n6_; clear hb hbox hg; have hnb23 := NB1004_1005.out; have hnc23 := NB1005_1004.out; obtain ⟨hcz24_0, hcz24_1, hcz24_2, hcz24_3, hcz24_4, hcz24_5⟩ := z6 BK1004; obtain ⟨hfz24_0, hfz24_1, hfz24_2, hfz24_3, hfz24_4, hfz24_5⟩ := y6 BK1004) | ((with_reducible refine gate_callee (f := 49) rfl ?_); refine goesL_ (some 6) rfl rfl Try.func49 (by kernel_rfl) rfl #[.agg #[.int .i64 a0_0, .int .i64 a0_1, .int .i64 a0_2, .int .i64 a0_3, .int .i64 a0_4, .int .i64 a0_5]] rfl (by first|rfl|(simp only [List.map_toArray, List.map_cons, List.map_nil]; try rfl)) ?_; (with_reducible refine (spec_IsMotion.calls k a0_0 a0_1 a0_2 a0_3 a0_4 a0_5 true _ A2.out).mono ?_); rintro e w25 ⟨rfl, hb⟩; refine ⟨_, rfl, ?_⟩; have n0_ := bB BK1004 hb; have n1_ := bB BK1005 hb; have n2_ := bS HB hb; clear BK1004; clear BK1005; clear HB; have BK1004 := n0_; have BK1005 := n1_; have HB := n2_; clear n0_ n1_ n2_; (try clear hb); obtain ⟨hcz26_0, hcz26_1, hcz26_2, hcz26_3, hcz26_4, hcz26_5⟩ := z6 BK1004; obtain ⟨hfz26_0, hfz26_1, hfz26_2, hfz26_3, hfz26_4, hfz26_5⟩ := y6 BK1004) | ((with_reducible refine gate_callee (f := 110) rfl ?_); refine goesL_ (some 10) rfl rfl Try.func110 (by kernel_rfl) rfl #[.agg #[.int .i64 a0_0, .int .i64 a0_1, .int .i64 a0_2, .int .i64 a0_3, .int .i64 a0_4, .int .i64 a0_5]] rfl (by first|rfl|(simp only [List.map_toArray, List.map_cons, List.map_nil]; try rfl)) ?_; (with_reducible refine (spec_l05Inverse.calls a0_0 a0_1 a0_2 a0_3 a0_4 a0_5 t1007 t1008 t1009 t1010 t1011 t1012 _ A4.out).mono ?_); rintro e w27 ⟨rfl, hb⟩; refine ⟨_, rfl, ?_⟩; have n0_ := bB BK1004 hb; have n1_ := bB BK1005 hb; have n2_ := bS HB hb; clear BK1004; clear BK1005; clear HB; have BK1004 := n0_; have BK1005 := n1_; have HB := n2_; clear n0_ n1_ n2_; (try clear hb)) | ((with_reducible refine gate_dst (N := 4) rfl ?_); refine box_event ?hg (N := 4) ?hd (cs := #[.int .i64 0, .int .i64 0, .int .i64 0, .int .i64 0, .int .i64 0, .int .i64 0]) (t := 64) ?hr ?_; (case hd => rfl); (case hg => rfl); (case hr => first | (go_simp; done) | (go_simp; rfl)); intro gb1013 hg w28 hbox hb; have n0_ := bB BK1004 hb; have n1_ := bB BK1005 hb; have n2_ := bS HB hb; have n3_ := aM (hbox); have n4_ := bZ hg HB; have n5_ := bZ hg HB; have n6_ := nL hg BK1004; have n7_ := nG hg BK1004; have n8_ := nL hg BK1005; have n9_ := nG hg BK1005; clear BK1004; clear BK1005; clear HB; have BK1004 := n0_; have BK1005 := n1_; have HB := n2_; have BK1013 := n3_; have GW1013 := n4_; have GE1013 := n5_; have NB1004_1013 := n6_; have NB1013_1004 := n7_; have NB1005_1013 := n8_; have NB1013_1005 := n9_; clear n0_ n1_ n2_ n3_ n4_ n5_ n6_ n7_ n8_ n9_; clear hb hbox hg; have hnb29 := NB1013_1004.out; have hnc29 := NB1004_1013.out; have hnb30 := NB1013_1005.out; have hnc30 := NB1005_1013.out; obtain ⟨hcz31_0, hcz31_1, hcz31_2, hcz31_3, hcz31_4, hcz31_5⟩ := z6 BK1013; obtain ⟨hfz31_0, hfz31_1, hfz31_2, hfz31_3, hfz31_4, hfz31_5⟩ := y6 BK1013) | ((with_reducible refine gate_callee (f := 98) rfl ?_); refine goesL_ (some 13) rfl rfl Try.func98 (by kernel_rfl) rfl #[.agg #[.int .i64 t1011, .int .i64 t1012]] rfl (by first|rfl|(simp only [List.map_toArray, List.map_cons, List.map_nil]; try rfl)) ?_; (with_reducible refine (spec_IsVec.calls t1011 t1012 false _ A5.out).mono ?_); rintro e w32 ⟨rfl, hb⟩; refine ⟨_, rfl, ?_⟩; have n0_ := aM (blk_below (g := gb1004) (o := .cells #[.int .i64 a0_0, .int .i64 a0_1, .int .i64 a0_2, .int .i64 a0_3, .int .i64 a0_4, .int .i64 a0_5] 64 (0, 0)) (by (repeat (first|(with_reducible first|apply kN|apply kD|apply kA)|refine blk_far ?_ NB1004_1013.out _)); exact BK1004.out) hb); have n1_ := aM (blk_below (g := gb1005) (o := .cells #[.int .i64 0, .int .i64 0, .int .i64 0, .int .i64 0, .int .i64 0, .int .i64 0] 64 (0, 0)) (by (repeat (first|(with_reducible first|apply kN|apply kD|apply kA)|refine blk_far ?_ NB1005_1013.out _)); exact BK1005.out) hb); have n2_ := aM (blk_below (g := gb1013) (o := .cells #[.int .i64 t1007, .int .i64 t1008, .int .i64 t1009, .int .i64 t1010, .int .i64 t1011, .int .i64 t1012] 64 (0, 0)) (by (with_reducible repeat (first|apply kN|apply kD|apply kA)); refine blk_put (cs := #[.int .i64 t1007, .int .i64 t1008, .int .i64 t1009, .int .i64 t1010, .int .i64 t1011, .int .i64 0]) ?_ 5 _ rfl; (with_reducible repeat (first|apply kN|apply kD|apply kA)); refine blk_put (cs := #[.int .i64 t1007, .int .i64 t1008, .int .i64 t1009, .int .i64 t1010, .int .i64 0, .int .i64 0]) ?_ 4 _ rfl; (with_reducible repeat (first|apply kN|apply kD|apply kA)); refine blk_put (cs := #[.int .i64 t1007, .int .i64 t1008, .int .i64 t1009, .int .i64 0, .int .i64 0, .int .i64 0]) ?_ 3 _ rfl; (with_reducible repeat (first|apply kN|apply kD|apply kA)); refine blk_put (cs := #[.int .i64 t1007, .int .i64 t1008, .int .i64 0, .int .i64 0, .int .i64 0, .int .i64 0]) ?_ 2 _ rfl; (with_reducible repeat (first|apply kN|apply kD|apply kA)); refine blk_put (cs := #[.int .i64 t1007, .int .i64 0, .int .i64 0, .int .i64 0, .int .i64 0, .int .i64 0]) ?_ 1 _ rfl; (with_reducible repeat (first|apply kN|apply kD|apply kA)); refine blk_put (cs := #[.int .i64 0, .int .i64 0, .int .i64 0, .int .i64 0, .int .i64 0, .int .i64 0]) ?_ 0 _ rfl; (with_reducible repeat (first|apply kN|apply kD|apply kA)); exact BK1013.out) hb); have n3_ := bS HB hb; clear BK1004; clear BK1005; clear BK1013; clear HB; have BK1004 := n0_; have BK1005 := n1_; have BK1013 := n2_; have HB := n3_; clear n0_ n1_ n2_ n3_; (try clear hb); obtain ⟨hcz33_0, hcz33_1, hcz33_2, hcz33_3, hcz33_4, hcz33_5⟩ := z6 BK1005; obtain ⟨hfz33_0, hfz33_1, hfz33_2, hfz33_3, hfz33_4, hfz33_5⟩ := y6 BK1005))
   refine bodyPost_ret (results_ct rfl _ _ gb1005 64 #[.int .i64 0, .int .i64 0, .int .i64 0, .int .i64 0, .int .i64 0, .int .i64 0] (0, 0) _ rfl (by (with_reducible repeat (first|apply kN|apply kD|apply kA)); refine blk_put (cs := #[.int .i64 0, .int .i64 0, .int .i64 0, .int .i64 0, .int .i64 0, .int .i64 0]) ?_ 5 _ rfl; (with_reducible repeat (first|apply kN|apply kD|apply kA)); refine blk_put (cs := #[.int .i64 0, .int .i64 0, .int .i64 0, .int .i64 0, .int .i64 0, .int .i64 0]) ?_ 4 _ rfl; (with_reducible repeat (first|apply kN|apply kD|apply kA)); refine blk_put (cs := #[.int .i64 0, .int .i64 0, .int .i64 0, .int .i64 0, .int .i64 0, .int .i64 0]) ?_ 3 _ rfl; (with_reducible repeat (first|apply kN|apply kD|apply kA)); refine blk_put (cs := #[.int .i64 0, .int .i64 0, .int .i64 0, .int .i64 0, .int .i64 0, .int .i64 0]) ?_ 2 _ rfl; (with_reducible repeat (first|apply kN|apply kD|apply kA)); refine blk_put (cs := #[.int .i64 0, .int .i64 0, .int .i64 0, .int .i64 0, .int .i64 0, .int .i64 0]) ?_ 1 _ rfl; (with_reducible repeat (first|apply kN|apply kD|apply kA)); refine blk_put (cs := #[.int .i64 0, .int .i64 0, .int .i64 0, .int .i64 0, .int .i64 0, .int .i64 0]) ?_ 0 _ rfl; (with_reducible repeat (first|apply kN|apply kD|apply kA)); exact BK1005.out) Try.underlying64 rfl (by kernel_rfl)) rfl ?_
   exact ⟨by first|rfl|(simp [*, errW_none, errW_some] <;> rfl), by repeat (first | (with_reducible first | exact HB.out | apply bA|apply bN|apply b1 | refine below_set ?_ (Aside0.out (by assumption))) | exact HB.out)⟩
 ·replace c3 := Bool.eq_false_iff.mpr c3
  subst c3
  have H1 : (some (0, 0, 0, 0, 0, 0, 1)) = some (r1, r2, r3, r4, r5, r6, r7) := by rw [if_neg (show ¬ (false = true) by decide)] at H; exact H
  clear H
  have H := H1
  clear H1
  simp only [Option.some.injEq, Prod.mk.injEq] at H
  obtain ⟨rfl, rfl, rfl, rfl, rfl, rfl, rfl⟩ := H
  go_enter Try.func44, Try.ntmps44
  go_wp2_with (first | ((with_reducible refine gate_dst (N := 1) rfl ?_); refine box_event ?hg (N := 1) ?hd (cs := #[.int .i64 a0_0, .int .i64 a0_1, .int .i64 a0_2, .int .i64 a0_3, .int .i64 a0_4, .int .i64 a0_5]) (t := 64) ?hr ?_; (case hd => rfl); (case hg => rfl); (case hr => first | (go_simp; done) | (go_simp; rfl)); intro gb1004 hg w34 hbox hb; have n0_ := bS HB hb; have n1_ := aM (hbox); have n2_ := bZ hg HB; have n3_ := bZ hg HB; clear HB; have HB := n0_; have BK1004 := n1_; have GW1004 := n2_; have GE1004 := n3_; clear n0_ n1_ n2_ n3_; clear hb hbox hg) | ((with_reducible refine gate_dst (N := 2) rfl ?_); refine box_event ?hg (N := 2) ?hd (cs := #[.int .i64 0, .int .i64 0, .int .i64 0, .int .i64 0, .int .i64 0, .int .i64 0]) (t := 64) ?hr ?_; (case hd => rfl); (case hg => rfl); (case hr => first | (go_simp; done) | (go_simp; rfl)); intro gb1005 hg w35 hbox hb; have n0_ := bB BK1004 hb; have n1_ := bS HB hb; have n2_ := aM (hbox); have n3_ := bZ hg HB; have n4_ := bZ hg HB; have n5_ := nL hg BK1004; have n6_ := nG hg BK1004; clear BK1004; clear HB; have BK1004 := n0_; have HB := n1_; have BK1005 := n2_; have GW1005 := n3_; have GE1005 := n4_; have NB1004_1005 := n5_; have NB1005_1004 := n6_; clear n0_ n1_ n2_ n3_ n4_ n5_ n6_; clear hb hbox hg; have hnb36 := NB1004_1005.out; have hnc36 := NB1005_1004.out; obtain ⟨hcz37_0, hcz37_1, hcz37_2, hcz37_3, hcz37_4, hcz37_5⟩ := z6 BK1004; obtain ⟨hfz37_0, hfz37_1, hfz37_2, hfz37_3, hfz37_4, hfz37_5⟩ := y6 BK1004) | ((with_reducible refine gate_callee (f := 49) rfl ?_); refine goesL_ (some 6) rfl rfl Try.func49 (by kernel_rfl) rfl #[.agg #[.int .i64 a0_0, .int .i64 a0_1, .int .i64 a0_2, .int .i64 a0_3, .int .i64 a0_4, .int .i64 a0_5]] rfl (by first|rfl|(simp only [List.map_toArray, List.map_cons, List.map_nil]; try rfl)) ?_; (with_reducible refine (spec_IsMotion.calls k a0_0 a0_1 a0_2 a0_3 a0_4 a0_5 false _ A2.out).mono ?_); rintro e w38 ⟨rfl, hb⟩; refine ⟨_, rfl, ?_⟩; have n0_ := bB BK1004 hb; have n1_ := bB BK1005 hb; have n2_ := bS HB hb; clear BK1004; clear BK1005; clear HB; have BK1004 := n0_; have BK1005 := n1_; have HB := n2_; clear n0_ n1_ n2_; (try clear hb); obtain ⟨hcz39_0, hcz39_1, hcz39_2, hcz39_3, hcz39_4, hcz39_5⟩ := z6 BK1005; obtain ⟨hfz39_0, hfz39_1, hfz39_2, hfz39_3, hfz39_4, hfz39_5⟩ := y6 BK1005))
  refine bodyPost_ret (results_ct rfl _ _ gb1005 64 #[.int .i64 0, .int .i64 0, .int .i64 0, .int .i64 0, .int .i64 0, .int .i64 0] (0, 0) _ rfl (by (with_reducible repeat (first|apply kN|apply kD|apply kA)); refine blk_put (cs := #[.int .i64 0, .int .i64 0, .int .i64 0, .int .i64 0, .int .i64 0, .int .i64 0]) ?_ 5 _ rfl; (with_reducible repeat (first|apply kN|apply kD|apply kA)); refine blk_put (cs := #[.int .i64 0, .int .i64 0, .int .i64 0, .int .i64 0, .int .i64 0, .int .i64 0]) ?_ 4 _ rfl; (with_reducible repeat (first|apply kN|apply kD|apply kA)); refine blk_put (cs := #[.int .i64 0, .int .i64 0, .int .i64 0, .int .i64 0, .int .i64 0, .int .i64 0]) ?_ 3 _ rfl; (with_reducible repeat (first|apply kN|apply kD|apply kA)); refine blk_put (cs := #[.int .i64 0, .int .i64 0, .int .i64 0, .int .i64 0, .int .i64 0, .int .i64 0]) ?_ 2 _ rfl; (with_reducible repeat (first|apply kN|apply kD|apply kA)); refine blk_put (cs := #[.int .i64 0, .int .i64 0, .int .i64 0, .int .i64 0, .int .i64 0, .int .i64 0]) ?_ 1 _ rfl; (with_reducible repeat (first|apply kN|apply kD|apply kA)); refine blk_put (cs := #[.int .i64 0, .int .i64 0, .int .i64 0, .int .i64 0, .int .i64 0, .int .i64 0]) ?_ 0 _ rfl; (with_reducible repeat (first|apply kN|apply kD|apply kA)); exact BK1005.out) Try.underlying64 rfl (by kernel_rfl)) rfl ?_
  exact ⟨by first|rfl|(simp [*, errW_none, errW_some] <;> rfl), by repeat (first | (with_reducible first | exact HB.out | apply bA|apply bN|apply b1 | refine below_set ?_ (Aside0.out (by assumption))) | exact HB.out)⟩

def spec_DrawApplyMotion.f (k : Nat) (l0 : List Int) : Option (Int × Int × Int × Int × Int × Int × Int × Int) := (spec_l01From.f k l0).bind fun bt1017 => ((spec_l05Draw.f k bt1017.1 bt1017.2.1 bt1017.2.2).bind fun bt1021 => ((spec_l01Draw.f bt1017.1 bt1021.2.2.2.2.2.2.1 bt1021.2.2.2.2.2.2.2).bind fun bt1029 => (some (bt1021.1, bt1021.2.1, bt1021.2.2.1, bt1021.2.2.2.1, bt1021.2.2.2.2.1, bt1021.2.2.2.2.2.1, bt1029.1, bt1029.2.1))))
set_option maxHeartbeats 8000000 in
set_option maxRecDepth 100000 in
theorem spec_DrawApplyMotion.calls (k : Nat) (A0 : Option Addr) (c0 : Nat) (l0 : List Int) (r1 : Int) (r2 : Int) (r3 : Int) (r4 : Int) (r5 : Int) (r6 : Int) (r7 : Int) (r8 : Int) (w : World) (hr0 : Kd.C (Kd.int .u8) w A0 l0.length l0) (hc0 : l0.length ≤ c0) (h : spec_DrawApplyMotion.f k l0 = some (r1, r2, r3, r4, r5, r6, r7, r8)) :
  Calls Try.prog 45 #[.slice A0 l0.length c0] w fun e w' => e = .returned (.tuple #[.agg #[.int .i64 r1, .int .i64 r2, .int .i64 r3, .int .i64 r4, .int .i64 r5, .int .i64 r6], .agg #[.int .i64 r7, .int .i64 r8]]) ∧ Below w.heap.size w w' := by
 have hu64 := Try.underlying64
 have hu47 := Try.underlying47
 have HR0 := aM hr0
 have HC0 := aM hc0
 clear hr0 hc0
 have HB := aM (Below.refl w.heap.size w)
 have H : ((spec_l01From.f k l0).bind fun bt1017 => ((spec_l05Draw.f k bt1017.1 bt1017.2.1 bt1017.2.2).bind fun bt1021 => ((spec_l01Draw.f bt1017.1 bt1021.2.2.2.2.2.2.1 bt1021.2.2.2.2.2.2.2).bind fun bt1029 => (some (bt1021.1, bt1021.2.1, bt1021.2.2.1, bt1021.2.2.2.1, bt1021.2.2.2.2.1, bt1021.2.2.2.2.2.1, bt1029.1, bt1029.2.1))))) = some (r1, r2, r3, r4, r5, r6, r7, r8) := h
 clear h
 replace H := Option.bind_eq_some_iff.mp H
 obtain ⟨⟨t1017, t1018, t1019⟩, A20, H⟩ := H
 try dsimp only at H
 have A2 := aM A20
 clear A20
 replace H := Option.bind_eq_some_iff.mp H
 obtain ⟨⟨t1021, t1022, t1023, t1024, t1025, t1026, t1027, t1028⟩, A30, H⟩ := H
 try dsimp only at H
 have A3 := aM A30
 clear A30
 replace H := Option.bind_eq_some_iff.mp H
 obtain ⟨⟨t1029, t1030, t1031, t1032⟩, A40, H⟩ := H
 try dsimp only at H
 have A4 := aM A40
 clear A40
 simp only [Option.some.injEq, Prod.mk.injEq] at H
 obtain ⟨rfl, rfl, rfl, rfl, rfl, rfl, rfl, rfl⟩ := H
 go_enter Try.func45, Try.ntmps45
 go_wp2_with (first | ((with_reducible refine gate_dst (N := 2) rfl ?_); refine box_event ?hg (N := 2) ?hd (cs := #[.int .i64 0, .int .i64 0, .int .i64 0, .int .i64 0, .int .i64 0, .int .i64 0]) (t := 64) ?hr ?_; (case hd => rfl); (case hg => rfl); (case hr => first | (go_simp; done) | (go_simp; rfl)); intro gb1015 hg w5 hbox hb; have n0_ := bS HB hb; have n1_ := aM (hbox); have n2_ := bZ hg HB; have n3_ := bZ hg HB; clear HB; have HB := n0_; have BK1015 := n1_; have GW1015 := n2_; have GE1015 := n3_; clear n0_ n1_ n2_ n3_; clear hb hbox hg) | ((with_reducible refine gate_dst (N := 3) rfl ?_); refine box_event ?hg (N := 3) ?hd (cs := #[.int .i64 0, .int .i64 0]) (t := 47) ?hr ?_; (case hd => rfl); (case hg => rfl); (case hr => first | (go_simp; done) | (go_simp; rfl)); intro gb1016 hg w6 hbox hb; have n0_ := bB BK1015 hb; have n1_ := bS HB hb; have n2_ := aM (hbox); have n3_ := bZ hg HB; have n4_ := bZ hg HB; have n5_ := nL hg BK1015; have n6_ := nG hg BK1015; clear BK1015; clear HB; have BK1015 := n0_; have HB := n1_; have BK1016 := n2_; have GW1016 := n3_; have GE1016 := n4_; have NB1015_1016 := n5_; have NB1016_1015 := n6_; clear n0_ n1_ n2_ n3_ n4_ n5_ n6_; clear hb hbox hg) | ((with_reducible refine gate_callee (f := 83) rfl ?_); refine goesL_ (some 6) rfl rfl Try.func83 (by kernel_rfl) rfl #[.slice A0 l0.length c0] rfl (by first|rfl|(simp only [List.map_toArray, List.map_cons, List.map_nil]; try rfl)) ?_; (with_reducible refine (spec_l01From.calls k _ _ l0 t1017 t1018 t1019 w _ ?side1 ?side2 ?side3 A2.out).mono ?_); (case side1 => repeat (first | (with_reducible first | exact HB.out | apply bA|apply bN|apply b1 | refine below_set ?_ (Aside0.out (by assumption))) | exact HB.out)); (case side2 => exact HR0.out); (case side3 => exact HC0.out); rintro e w7 ⟨g1020, rfl, hi, hb, hb2⟩; refine ⟨_, rfl, ?_⟩; have n0_ := aM (blk_below (g := gb1015) (o := .cells #[.int .i64 0, .int .i64 0, .int .i64 0, .int .i64 0, .int .i64 0, .int .i64 0] 64 (0, 0)) (by (with_reducible repeat (first|apply kN|apply kD|apply kA)); exact BK1015.out) hb2); have n1_ := aM (blk_below (g := gb1016) (o := .cells #[.int .i64 0, .int .i64 0] 47 (0, 0)) (by (with_reducible repeat (first|apply kN|apply kD|apply kA)); exact BK1016.out) hb2); have n2_ := aM (hb); have n3_ := aM (hi); have n4_ := aM (IsS144.ne_blk hi (blk_below (g := gb1015) (o := .cells #[.int .i64 0, .int .i64 0, .int .i64 0, .int .i64 0, .int .i64 0, .int .i64 0] 64 (0, 0)) (by (with_reducible repeat (first|apply kN|apply kD|apply kA)); exact BK1015.out) hb2) (by decide)); have n5_ := aM (Ne.symm (IsS144.ne_blk hi (blk_below (g := gb1015) (o := .cells #[.int .i64 0, .int .i64 0, .int .i64 0, .int .i64 0, .int .i64 0, .int .i64 0] 64 (0, 0)) (by (with_reducible repeat (first|apply kN|apply kD|apply kA)); exact BK1015.out) hb2) (by decide))); have n6_ := aM (IsS144.ne_blk hi (blk_below (g := gb1016) (o := .cells #[.int .i64 0, .int .i64 0] 47 (0, 0)) (by (with_reducible repeat (first|apply kN|apply kD|apply kA)); exact BK1016.out) hb2) (by decide)); have n7_ := aM (Ne.symm (IsS144.ne_blk hi (blk_below (g := gb1016) (o := .cells #[.int .i64 0, .int .i64 0] 47 (0, 0)) (by (with_reducible repeat (first|apply kN|apply kD|apply kA)); exact BK1016.out) hb2) (by decide))); clear BK1015; clear BK1016; clear HB; have BK1015 := n0_; have BK1016 := n1_; have HB := n2_; have HI1020 := n3_; have NB1020_1015 := n4_; have NB1015_1020 := n5_; have NB1020_1016 := n6_; have NB1016_1020 := n7_; clear n0_ n1_ n2_ n3_ n4_ n5_ n6_ n7_; (try clear hb)) | ((with_reducible refine gate_callee (f := 104) rfl ?_); refine goesL_ (some 8) rfl rfl Try.func104 (by kernel_rfl) rfl #[.pointer (some ⟨g1020, 0, none⟩)] rfl (by first|rfl|(simp only [List.map_toArray, List.map_cons, List.map_nil]; try rfl)) ?_; (with_reducible refine (spec_l05Draw.calls k g1020 t1017 t1018 t1019 t1021 t1022 t1023 t1024 t1025 t1026 t1027 t1028 w _ ?side1 ?side2 A3.out).mono ?_); (case side1 => repeat (first | (with_reducible first | exact HI1020.out | apply sA|apply sN|apply sD|apply s1|apply s2 | refine IsS144.far ?_ NB1020_1015.out _ | refine IsS144.far ?_ NB1020_1016.out _) | exact HI1020.out)); (case side2 => repeat (first | (with_reducible first | exact HB.out | apply bA|apply bN|apply b1 | refine below_set ?_ (IsS144.ge HI1020.out) | refine below_set ?_ (Aside0.out (by assumption))) | exact HB.out)); rintro e w8 ⟨rfl, hi, hb, hk⟩; refine ⟨_, rfl, ?_⟩; have n0_ := aM (KeepBut.blk hk (g' := gb1015) (o := .cells #[.int .i64 0, .int .i64 0, .int .i64 0, .int .i64 0, .int .i64 0, .int .i64 0] 64 (0, 0)) (by (with_reducible repeat (first|apply kN|apply kD|apply kA)); exact BK1015.out) NB1015_1020.out (by simp)); have n1_ := aM (KeepBut.blk hk (g' := gb1016) (o := .cells #[.int .i64 0, .int .i64 0] 47 (0, 0)) (by (with_reducible repeat (first|apply kN|apply kD|apply kA)); exact BK1016.out) NB1016_1020.out (by simp)); have n2_ := aM (hb); have n3_ := aM (hi); clear BK1015; clear BK1016; clear HB; clear HI1020; have BK1015 := n0_; have BK1016 := n1_; have HB := n2_; have HI1020 := n3_; clear n0_ n1_ n2_ n3_; (try clear hb)) | ((with_reducible refine gate_callee (f := 95) rfl ?_); refine goesL_ (some 10) rfl rfl Try.func95 (by kernel_rfl) rfl #[.pointer (some ⟨g1020, 0, none⟩)] rfl (by first|rfl|(simp only [List.map_toArray, List.map_cons, List.map_nil]; try rfl)) ?_; (with_reducible refine (spec_l01Draw.calls g1020 t1017 t1027 t1028 t1029 t1030 t1031 t1032 w _ ?side1 ?side2 A4.out).mono ?_); (case side1 => repeat (first | (with_reducible first | exact HI1020.out | apply sA|apply sN|apply sD|apply s1|apply s2 | refine IsS144.far ?_ NB1020_1015.out _ | refine IsS144.far ?_ NB1020_1016.out _) | exact HI1020.out)); (case side2 => repeat (first | (with_reducible first | exact HB.out | apply bA|apply bN|apply b1 | refine below_set ?_ (IsS144.ge HI1020.out) | refine below_set ?_ (Aside0.out (by assumption))) | exact HB.out)); rintro e w9 ⟨rfl, hi, hb, hk⟩; refine ⟨_, rfl, ?_⟩; have n0_ := aM (KeepBut.blk hk (g' := gb1015) (o := .cells #[.int .i64 0, .int .i64 0, .int .i64 0, .int .i64 0, .int .i64 0, .int .i64 0] 64 (0, 0)) (by (with_reducible repeat (first|apply kN|apply kD|apply kA)); exact BK1015.out) NB1015_1020.out (by simp)); have n1_ := aM (KeepBut.blk hk (g' := gb1016) (o := .cells #[.int .i64 0, .int .i64 0] 47 (0, 0)) (by (with_reducible repeat (first|apply kN|apply kD|apply kA)); exact BK1016.out) NB1016_1020.out (by simp)); have n2_ := aM (hb); have n3_ := aM (hi); clear BK1015; clear BK1016; clear HB; clear HI1020; have BK1015 := n0_; have BK1016 := n1_; have HB := n2_; have HI1020 := n3_; clear n0_ n1_ n2_ n3_; (try clear hb); have hnb10 := NB1015_1016.out; have hnc10 := NB1016_1015.out; have hnb11 := NB1015_1020.out; have hnc11 := NB1020_1015.out; obtain ⟨hcz12_0, hcz12_1, hcz12_2, hcz12_3, hcz12_4, hcz12_5⟩ := z6 BK1015; obtain ⟨hfz12_0, hfz12_1, hfz12_2, hfz12_3, hfz12_4, hfz12_5⟩ := y6 BK1015; have hnb13 := NB1016_1020.out; have hnc13 := NB1020_1016.out; obtain ⟨hcz14_0, hcz14_1⟩ := z2 BK1016; obtain ⟨hfz14_0, hfz14_1⟩ := y2 BK1016))
 refine bodyPost_ret (results_cc rfl _ _ gb1015 gb1016 64 47 #[.int .i64 t1021, .int .i64 t1022, .int .i64 t1023, .int .i64 t1024, .int .i64 t1025, .int .i64 t1026] #[.int .i64 t1029, .int .i64 t1030] (0, 0) (0, 0) _ _ rfl (by (repeat (first|(with_reducible first|apply kN|apply kD|apply kA)|refine blk_far ?_ NB1015_1016.out _)); refine blk_put (cs := #[.int .i64 t1021, .int .i64 t1022, .int .i64 t1023, .int .i64 t1024, .int .i64 t1025, .int .i64 0]) ?_ 5 _ rfl; (with_reducible repeat (first|apply kN|apply kD|apply kA)); refine blk_put (cs := #[.int .i64 t1021, .int .i64 t1022, .int .i64 t1023, .int .i64 t1024, .int .i64 0, .int .i64 0]) ?_ 4 _ rfl; (with_reducible repeat (first|apply kN|apply kD|apply kA)); refine blk_put (cs := #[.int .i64 t1021, .int .i64 t1022, .int .i64 t1023, .int .i64 0, .int .i64 0, .int .i64 0]) ?_ 3 _ rfl; (with_reducible repeat (first|apply kN|apply kD|apply kA)); refine blk_put (cs := #[.int .i64 t1021, .int .i64 t1022, .int .i64 0, .int .i64 0, .int .i64 0, .int .i64 0]) ?_ 2 _ rfl; (with_reducible repeat (first|apply kN|apply kD|apply kA)); refine blk_put (cs := #[.int .i64 t1021, .int .i64 0, .int .i64 0, .int .i64 0, .int .i64 0, .int .i64 0]) ?_ 1 _ rfl; (with_reducible repeat (first|apply kN|apply kD|apply kA)); refine blk_put (cs := #[.int .i64 0, .int .i64 0, .int .i64 0, .int .i64 0, .int .i64 0, .int .i64 0]) ?_ 0 _ rfl; (with_reducible repeat (first|apply kN|apply kD|apply kA)); exact BK1015.out) Try.underlying64 rfl (by kernel_rfl) rfl (by (with_reducible repeat (first|apply kN|apply kD|apply kA)); refine blk_put (cs := #[.int .i64 t1029, .int .i64 0]) ?_ 1 _ rfl; (with_reducible repeat (first|apply kN|apply kD|apply kA)); refine blk_put (cs := #[.int .i64 0, .int .i64 0]) ?_ 0 _ rfl; (repeat (first|(with_reducible first|apply kN|apply kD|apply kA)|refine blk_far ?_ NB1016_1015.out _)); exact BK1016.out) Try.underlying47 rfl (by kernel_rfl)) rfl ?_
 exact ⟨by first|rfl|(simp [*, errW_none, errW_some] <;> rfl), by repeat (first | (with_reducible first | exact HB.out | apply bA|apply bN|apply b1 | refine below_set ?_ (IsS144.ge HI1020.out) | refine below_set ?_ (Aside0.out (by assumption))) | exact HB.out)⟩

end Go.Proofs.Ytcjchihnopmplaa.F

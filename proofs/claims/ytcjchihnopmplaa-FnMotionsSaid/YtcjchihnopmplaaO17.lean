import Derived.Test.YtcjchihnopmplaaO0
import Derived.Test.YtcjchihnopmplaaO3
import Derived.Test.YtcjchihnopmplaaO7
import Derived.Test.YtcjchihnopmplaaO12
import Derived.Test.YtcjchihnopmplaaO16
namespace Go.Proofs.Ytcjchihnopmplaa.F
open Go.RowKit Go.Proofs.YtcjchihnopmplaaW.PrintWords Go.Proofs.YtcjchihnopmplaaW.PrintLast Go.Proofs.YtcjchihnopmplaaW.PrintMore
attribute [local go_sem] max2_int min2_int max_two min_two max_three min_three max_four min_four   -- for this text's walks alone
set_option linter.unusedVariables false
set_option linter.unusedSimpArgs false

def impl_Motion_inverse.f (a0_0 : Int) (a0_1 : Int) (a0_2 : Int) (a0_3 : Int) (a0_4 : Int) (a0_5 : Int) : Option (Int × Int × Int × Int × Int × Int) := (impl_Mat_inverse.f a0_0 a0_1 a0_2 a0_3).bind fun bt973 => ((impl_Mat_apply.f bt973.1 bt973.2.1 bt973.2.2.1 bt973.2.2.2 a0_4 a0_5).bind fun bt978 => ((impl_Vec_times.f bt978.1 bt978.2 (-1)).bind fun bt980 => (some (bt973.1, bt973.2.1, bt973.2.2.1, bt973.2.2.2, bt980.1, bt980.2))))
def impl_Motion_inverse.T2 : Bool × List (List Nat × List Nat) := (true, [([], []), ([], []), ([], []), ([2], [2]), ([1, 3], [1, 3]), ([4, 4], [4]), ([0, 5], [0, 5]), ([6, 5, 0, 1, 2, 3, 4, 5, 6], [6])])
def impl_Motion_inverse.B2 : List Nat := [0, 0, 0, 4, 14, 30, 63, 127]
theorem impl_Motion_inverse.tab2 : rtab .any (opsOf Try.f109 2) = impl_Motion_inverse.T2 := by kernel_rfl
theorem impl_Motion_inverse.bits2 : waitsOk impl_Motion_inverse.T2.2 impl_Motion_inverse.B2 = true := by kernel_rfl
set_option maxHeartbeats 8000000 in
set_option maxRecDepth 100000 in
theorem impl_Motion_inverse.calls (a0_0 : Int) (a0_1 : Int) (a0_2 : Int) (a0_3 : Int) (a0_4 : Int) (a0_5 : Int) (r1 : Int) (r2 : Int) (r3 : Int) (r4 : Int) (r5 : Int) (r6 : Int) (w : World) (h : impl_Motion_inverse.f a0_0 a0_1 a0_2 a0_3 a0_4 a0_5 = some (r1, r2, r3, r4, r5, r6)) :
  Calls Try.prog 109 #[.agg #[.int .i64 a0_0, .int .i64 a0_1, .int .i64 a0_2, .int .i64 a0_3, .int .i64 a0_4, .int .i64 a0_5]] w fun e w' => e = .returned (.agg #[.int .i64 r1, .int .i64 r2, .int .i64 r3, .int .i64 r4, .int .i64 r5, .int .i64 r6]) ∧ Below w.heap.size w w' := by
 have hu64 := Try.underlying64
 have hu51 := Try.underlying51
 have hu47 := Try.underlying47
 have HB := aM (Below.refl w.heap.size w)
 have H : ((impl_Mat_inverse.f a0_0 a0_1 a0_2 a0_3).bind fun bt973 => ((impl_Mat_apply.f bt973.1 bt973.2.1 bt973.2.2.1 bt973.2.2.2 a0_4 a0_5).bind fun bt978 => ((impl_Vec_times.f bt978.1 bt978.2 (-1)).bind fun bt980 => (some (bt973.1, bt973.2.1, bt973.2.2.1, bt973.2.2.2, bt980.1, bt980.2))))) = some (r1, r2, r3, r4, r5, r6) := h
 clear h
 replace H := Option.bind_eq_some_iff.mp H
 obtain ⟨⟨t973, t974, t975, t976⟩, A20, H⟩ := H
 try dsimp only at H
 have A2 := aM A20
 clear A20
 replace H := Option.bind_eq_some_iff.mp H
 obtain ⟨⟨t978, t979⟩, A30, H⟩ := H
 try dsimp only at H
 have A3 := aM A30
 clear A30
 replace H := Option.bind_eq_some_iff.mp H
 obtain ⟨⟨t980, t981⟩, A40, H⟩ := H
 try dsimp only at H
 have A4 := aM A40
 clear A40
 simp only [Option.some.injEq, Prod.mk.injEq] at H
 obtain ⟨rfl, rfl, rfl, rfl, rfl, rfl⟩ := H
 go_enter Try.func109, Try.ntmps109
 try go_wp2_with (first | ((with_reducible refine gate_dst (N := 1) rfl ?_); refine box_event ?hg (N := 1) ?hd (cs := #[.int .i64 a0_0, .int .i64 a0_1, .int .i64 a0_2, .int .i64 a0_3, .int .i64 a0_4, .int .i64 a0_5]) (t := 64) ?hr ?_; (case hd => rfl); (case hg => rfl); (case hr => first | (go_simp; done) | (go_simp; rfl)); intro gb971 hg w5 hbox hb; have n0_ := bS HB hb; have n1_ := aM (hbox); have n2_ := bZ hg HB; have n3_ := bZ hg HB; clear HB; have HB := n0_; have BK971 := n1_; have GW971 := n2_; have GE971 := n3_; clear n0_ n1_ n2_ n3_; clear hb hbox hg) | ((with_reducible refine gate_dst (N := 2) rfl ?_); refine box_event ?hg (N := 2) ?hd (cs := #[.int .i64 0, .int .i64 0, .int .i64 0, .int .i64 0, .int .i64 0, .int .i64 0]) (t := 64) ?hr ?_; (case hd => rfl); (case hg => rfl); (case hr => first | (go_simp; done) | (go_simp; rfl)); intro gb972 hg w6 hbox hb; have n0_ := bB BK971 hb; have n1_ := bS HB hb; have n2_ := aM (hbox); have n3_ := bZ hg HB; have n4_ := bZ hg HB; have n5_ := nL hg BK971; have n6_ := nG hg BK971; clear BK971; clear HB; have BK971 := n0_; have HB := n1_; have BK972 := n2_; have GW972 := n3_; have GE972 := n4_; have NB971_972 := n5_; have NB972_971 := n6_; clear n0_ n1_ n2_ n3_ n4_ n5_ n6_; clear hb hbox hg; have hnb7 := NB971_972.out; have hnc7 := NB972_971.out; obtain ⟨hcz8_0, hcz8_1, hcz8_2, hcz8_3, hcz8_4, hcz8_5⟩ := z6 BK971; obtain ⟨hfz8_0, hfz8_1, hfz8_2, hfz8_3, hfz8_4, hfz8_5⟩ := y6 BK971) | ((with_reducible refine gate_callee (f := 93) rfl ?_); refine goesL_ (some 6) rfl rfl Try.func93 (by kernel_rfl) rfl #[.agg #[.int .i64 a0_0, .int .i64 a0_1, .int .i64 a0_2, .int .i64 a0_3]] rfl (by first|rfl|(simp only [List.map_toArray, List.map_cons, List.map_nil]; try rfl)) ?_; (with_reducible refine (impl_Mat_inverse.calls a0_0 a0_1 a0_2 a0_3 t973 t974 t975 t976 _ A2.out).mono ?_); rintro e w9 ⟨rfl, hb⟩; refine ⟨_, rfl, ?_⟩; have n0_ := bB BK971 hb; have n1_ := bB BK972 hb; have n2_ := bS HB hb; clear BK971; clear BK972; clear HB; have BK971 := n0_; have BK972 := n1_; have HB := n2_; clear n0_ n1_ n2_; (try clear hb)) | ((with_reducible refine gate_dst (N := 3) rfl ?_); refine box_event ?hg (N := 3) ?hd (cs := #[.int .i64 0, .int .i64 0, .int .i64 0, .int .i64 0]) (t := 51) ?hr ?_; (case hd => rfl); (case hg => rfl); (case hr => first | (go_simp; done) | (go_simp; rfl)); intro gb977 hg w10 hbox hb; have n0_ := bB BK971 hb; have n1_ := bB BK972 hb; have n2_ := bS HB hb; have n3_ := aM (hbox); have n4_ := bZ hg HB; have n5_ := bZ hg HB; have n6_ := nL hg BK971; have n7_ := nG hg BK971; have n8_ := nL hg BK972; have n9_ := nG hg BK972; clear BK971; clear BK972; clear HB; have BK971 := n0_; have BK972 := n1_; have HB := n2_; have BK977 := n3_; have GW977 := n4_; have GE977 := n5_; have NB971_977 := n6_; have NB977_971 := n7_; have NB972_977 := n8_; have NB977_972 := n9_; clear n0_ n1_ n2_ n3_ n4_ n5_ n6_ n7_ n8_ n9_; clear hb hbox hg; have hnb11 := NB977_971.out; have hnc11 := NB971_977.out; have hnb12 := NB977_972.out; have hnc12 := NB972_977.out; obtain ⟨hcz13_0, hcz13_1, hcz13_2, hcz13_3⟩ := z4 BK977; obtain ⟨hfz13_0, hfz13_1, hfz13_2, hfz13_3⟩ := y4 BK977))
 have n0_ : Aside0 (((((w10.setCell ⟨gb977, 0, none⟩ (.int .i64 t973)).setCell ⟨gb977, 1, none⟩ (.int .i64 t974)).setCell ⟨gb977, 2, none⟩ (.int .i64 t975)).setCell ⟨gb977, 3, none⟩ (.int .i64 t976)).heap[gb971]? = some (.cells #[.int .i64 a0_0, .int .i64 a0_1, .int .i64 a0_2, .int .i64 a0_3, .int .i64 a0_4, .int .i64 a0_5] 64 (0, 0))) := ⟨by (repeat (first|(with_reducible first|apply kN|apply kD|apply kA)|refine blk_far ?_ NB971_977.out _)); exact BK971.out⟩
 have n1_ : Aside0 (((((w10.setCell ⟨gb977, 0, none⟩ (.int .i64 t973)).setCell ⟨gb977, 1, none⟩ (.int .i64 t974)).setCell ⟨gb977, 2, none⟩ (.int .i64 t975)).setCell ⟨gb977, 3, none⟩ (.int .i64 t976)).heap[gb972]? = some (.cells #[.int .i64 0, .int .i64 0, .int .i64 0, .int .i64 0, .int .i64 0, .int .i64 0] 64 (0, 0))) := ⟨by (repeat (first|(with_reducible first|apply kN|apply kD|apply kA)|refine blk_far ?_ NB972_977.out _)); exact BK972.out⟩
 have n2_ : Aside0 (((((w10.setCell ⟨gb977, 0, none⟩ (.int .i64 t973)).setCell ⟨gb977, 1, none⟩ (.int .i64 t974)).setCell ⟨gb977, 2, none⟩ (.int .i64 t975)).setCell ⟨gb977, 3, none⟩ (.int .i64 t976)).heap[gb977]? = some (.cells #[.int .i64 t973, .int .i64 t974, .int .i64 t975, .int .i64 t976] 51 (0, 0))) := ⟨by (with_reducible repeat (first|apply kN|apply kD|apply kA)); refine blk_put (cs := #[.int .i64 t973, .int .i64 t974, .int .i64 t975, .int .i64 0]) ?_ 3 _ rfl; (with_reducible repeat (first|apply kN|apply kD|apply kA)); refine blk_put (cs := #[.int .i64 t973, .int .i64 t974, .int .i64 0, .int .i64 0]) ?_ 2 _ rfl; (with_reducible repeat (first|apply kN|apply kD|apply kA)); refine blk_put (cs := #[.int .i64 t973, .int .i64 0, .int .i64 0, .int .i64 0]) ?_ 1 _ rfl; (with_reducible repeat (first|apply kN|apply kD|apply kA)); refine blk_put (cs := #[.int .i64 0, .int .i64 0, .int .i64 0, .int .i64 0]) ?_ 0 _ rfl; (with_reducible repeat (first|apply kN|apply kD|apply kA)); exact BK977.out⟩
 have n3_ : Aside0 (Below w.heap.size w ((((w10.setCell ⟨gb977, 0, none⟩ (.int .i64 t973)).setCell ⟨gb977, 1, none⟩ (.int .i64 t974)).setCell ⟨gb977, 2, none⟩ (.int .i64 t975)).setCell ⟨gb977, 3, none⟩ (.int .i64 t976))) := ⟨by repeat (first | (with_reducible first | exact HB.out | apply bA|apply bN|apply b1 | refine below_set ?_ (Aside0.out (by assumption))) | exact HB.out)⟩
 (try clear BK971)
 (try clear BK972)
 (try clear BK977)
 (try clear HB)
 generalize ((((w10.setCell ⟨gb977, 0, none⟩ (.int .i64 t973)).setCell ⟨gb977, 1, none⟩ (.int .i64 t974)).setCell ⟨gb977, 2, none⟩ (.int .i64 t975)).setCell ⟨gb977, 3, none⟩ (.int .i64 t976)) = w14 at n0_ n1_ n2_ n3_ ⊢
 have BK971 := n0_
 have BK972 := n1_
 have BK977 := n2_
 have HB := n3_
 clear n0_ n1_ n2_ n3_
 have n0_ := aM (blk_drew BK971.out)
 have n1_ := aM (blk_drew BK972.out)
 have n2_ := aM (blk_drew BK977.out)
 have n3_ := aM (below_drew1 HB.out)
 clear BK971
 clear BK972
 clear BK977
 clear HB
 have BK971 := n0_
 have BK972 := n1_
 have BK977 := n2_
 have HB := n3_
 clear n0_ n1_ n2_ n3_
 refine start_ (n := 8) (S := fun w' => w'.cell? ⟨gb977, 0, none⟩ = some (.int .i64 t973) ∧ w'.cell? ⟨gb977, 1, none⟩ = some (.int .i64 t974) ∧ w'.cell? ⟨gb977, 2, none⟩ = some (.int .i64 t975) ∧ w'.cell? ⟨gb977, 3, none⟩ = some (.int .i64 t976) ∧ w'.cell? ⟨gb971, 0, none⟩ = some (.int .i64 a0_0) ∧ w'.cell? ⟨gb971, 1, none⟩ = some (.int .i64 a0_1) ∧ w'.cell? ⟨gb971, 2, none⟩ = some (.int .i64 a0_2) ∧ w'.cell? ⟨gb971, 3, none⟩ = some (.int .i64 a0_3) ∧ w'.cell? ⟨gb971, 4, none⟩ = some (.int .i64 a0_4) ∧ w'.cell? ⟨gb971, 5, none⟩ = some (.int .i64 a0_5)) (ds := []) #[false, false, false, false, false, false, false, false] (by kernel_rfl) rfl rfl ⟨(blk_cell BK977.out 0).trans rfl, (blk_cell BK977.out 1).trans rfl, (blk_cell BK977.out 2).trans rfl, (blk_cell BK977.out 3).trans rfl, (blk_cell BK971.out 0).trans rfl, (blk_cell BK971.out 1).trans rfl, (blk_cell BK971.out 2).trans rfl, (blk_cell BK971.out 3).trans rfl, (blk_cell BK971.out 4).trans rfl, (blk_cell BK971.out 5).trans rfl⟩ (fun hHeld => ?_); refine with_tabW impl_Motion_inverse.tab2 impl_Motion_inverse.bits2 (fun HT_ HW_ => ?_)
 generalize w14.drew = w15 at BK971 BK972 BK977 HB hHeld ⊢
 refine pure_ (i := 2) (N := some 9) (v := ?_) (a' := ?_) #[false, false, true, false, false, false, false, false] rfl rfl (any_of HT_.out (by kernel_rfl)) (fun _ _ _ h => h) (Or.inl ⟨by rfl, ?_⟩) ?_ ?_
 rotate_left
 ·intro w'
  go_simp
  with_reducible rfl
 rotate_left
 ·simp only [Act.put, List.setIfInBounds_toArray, List.set_cons_zero, List.set_cons_succ, i64_w, i32_w]
  rfl
 refine take_ (i := 0) (N := some 7) (v := ?_) (a' := ?_) #[true, false, true, false, false, false, false, false] rfl rfl (take_ofW HT_.out HW_.out (by kernel_rfl)) (fun _ _ _ h => h) (Or.inl ⟨by rfl, ?_⟩) hHeld ?_ ?_
 rotate_left
 ·rintro w' ⟨s0, s1, s2, s3, s4, s5, s6, s7, s8, s9⟩
  go_simp
  with_reducible rfl
 rotate_left
 ·simp only [Act.put, List.setIfInBounds_toArray, List.set_cons_zero, List.set_cons_succ, i64_w, i32_w]
  rfl
 refine take_ (i := 1) (N := some 8) (v := ?_) (a' := ?_) #[true, true, true, false, false, false, false, false] rfl rfl (take_ofW HT_.out HW_.out (by kernel_rfl)) (fun _ _ _ h => h) (Or.inl ⟨by rfl, ?_⟩) hHeld ?_ ?_
 rotate_left
 ·rintro w' ⟨s0, s1, s2, s3, s4, s5, s6, s7, s8, s9⟩
  go_simp
  with_reducible rfl
 rotate_left
 ·simp only [Act.put, List.setIfInBounds_toArray, List.set_cons_zero, List.set_cons_succ, i64_w, i32_w]
  rfl
 refine take_ (i := 3) (N := some 10) (v := ?_) (a' := ?_) #[true, true, true, true, false, false, false, false] rfl rfl (take_ofW HT_.out HW_.out (by kernel_rfl)) (fun _ _ _ h => h) (Or.inl ⟨by rfl, ?_⟩) hHeld ?_ ?_
 rotate_left
 ·rintro w' ⟨s0, s1, s2, s3, s4, s5, s6, s7, s8, s9⟩
  go_simp
  with_reducible rfl
 rotate_left
 ·simp only [Act.put, List.setIfInBounds_toArray, List.set_cons_zero, List.set_cons_succ, i64_w, i32_w]
  rfl
 refine one_ (i := 4) (N := some 11) #[true, true, true, true, true, false, false, false] rfl rfl (one_of HT_.out (by kernel_rfl)) (by decide) (fun K hK => ?_)
 refine goes_ Try.func97 (by kernel_rfl) rfl #[.agg #[.int .i64 t973, .int .i64 t974, .int .i64 t975, .int .i64 t976], .agg #[.int .i64 a0_4, .int .i64 a0_5]] (by rfl) rfl rfl (by first|rfl|(simp only [List.map_toArray, List.map_cons, List.map_nil]; try rfl)) ?_
 with_reducible refine (impl_Mat_apply.calls t973 t974 t975 t976 a0_4 a0_5 t978 t979 _ A3.out).mono ?_
 rintro e w16 ⟨rfl, hb⟩
 refine ⟨_, rfl, ?_⟩
 have n0_ := bB BK971 hb
 have n1_ := bB BK972 hb
 have n2_ := bB BK977 hb
 have n3_ := bS HB hb
 clear BK971
 clear BK972
 clear BK977
 clear HB
 have BK971 := n0_
 have BK972 := n1_
 have BK977 := n2_
 have HB := n3_
 clear n0_ n1_ n2_ n3_
 (try clear hb)
 (try clear hb2)
 (try clear hk)
 (try clear hi)
 refine hK.out _ _ ⟨(blk_cell BK977.out 0).trans rfl, (blk_cell BK977.out 1).trans rfl, (blk_cell BK977.out 2).trans rfl, (blk_cell BK977.out 3).trans rfl, (blk_cell BK971.out 0).trans rfl, (blk_cell BK971.out 1).trans rfl, (blk_cell BK971.out 2).trans rfl, (blk_cell BK971.out 3).trans rfl, (blk_cell BK971.out 4).trans rfl, (blk_cell BK971.out 5).trans rfl⟩ (fun hHeld => ?_)
 clear hK K
 refine norm_ (a' := ?_) ?_ ?_
 rotate_left
 ·show Act.put _ (some 11) _ = _
  simp only [Act.put, List.setIfInBounds_toArray, List.set_cons_zero, List.set_cons_succ, i64_w, i32_w]
  rfl
 refine one_ (i := 5) (N := some 12) #[true, true, true, true, true, true, false, false] rfl rfl (one_of HT_.out (by kernel_rfl)) (by decide) (fun K hK => ?_)
 refine goes_ Try.func144 (by kernel_rfl) rfl #[.agg #[.int .i64 t978, .int .i64 t979], .int .i64 (-1)] (by rfl) rfl rfl (by first|rfl|(simp only [List.map_toArray, List.map_cons, List.map_nil]; try rfl)) ?_
 with_reducible refine (impl_Vec_times.calls t978 t979 (-1) t980 t981 _ A4.out).mono ?_
 rintro e w17 ⟨rfl, hb⟩
 refine ⟨_, rfl, ?_⟩
 have n0_ := bB BK971 hb
 have n1_ := bB BK972 hb
 have n2_ := bB BK977 hb
 have n3_ := bS HB hb
 clear BK971
 clear BK972
 clear BK977
 clear HB
 have BK971 := n0_
 have BK972 := n1_
 have BK977 := n2_
 have HB := n3_
 clear n0_ n1_ n2_ n3_
 (try clear hb)
 (try clear hb2)
 (try clear hk)
 (try clear hi)
 refine hK.out _ _ ⟨(blk_cell BK977.out 0).trans rfl, (blk_cell BK977.out 1).trans rfl, (blk_cell BK977.out 2).trans rfl, (blk_cell BK977.out 3).trans rfl, (blk_cell BK971.out 0).trans rfl, (blk_cell BK971.out 1).trans rfl, (blk_cell BK971.out 2).trans rfl, (blk_cell BK971.out 3).trans rfl, (blk_cell BK971.out 4).trans rfl, (blk_cell BK971.out 5).trans rfl⟩ (fun hHeld => ?_)
 clear hK K
 refine norm_ (a' := ?_) ?_ ?_
 rotate_left
 ·show Act.put _ (some 12) _ = _
  simp only [Act.put, List.setIfInBounds_toArray, List.set_cons_zero, List.set_cons_succ, i64_w, i32_w]
  rfl
 refine pure_ (i := 6) (N := some 13) (v := ?_) (a' := ?_) #[true, true, true, true, true, true, true, false] rfl rfl (any_of HT_.out (by kernel_rfl)) (fun _ _ _ h => h) (Or.inl ⟨by rfl, ?_⟩) ?_ ?_
 rotate_left
 ·intro w'
  go_simp
  with_reducible rfl
 rotate_left
 ·simp only [Act.put, List.setIfInBounds_toArray, List.set_cons_zero, List.set_cons_succ, i64_w, i32_w]
  rfl
 refine one_ (i := 7) (N := none) #[true, true, true, true, true, true, true, true] rfl rfl (one_of HT_.out (by kernel_rfl)) (by decide) (fun K hK => ?_)
 have hs18 : w17.cell? ⟨gb972, 0, none⟩ = some (.int .i64 0) := (blk_cell BK972.out 0).trans rfl
 have hfs18 := blk_frozen BK972.out 0
 have hns18_0 := NB971_972.out
 have hns18_2 := NB977_972.out
 have hms18_0 := NB972_971.out
 have hms18_2 := NB972_977.out
 have hs19 : w17.cell? ⟨gb972, 1, none⟩ = some (.int .i64 0) := (blk_cell BK972.out 1).trans rfl
 have hfs19 := blk_frozen BK972.out 1
 have hns19_0 := NB971_972.out
 have hns19_2 := NB977_972.out
 have hms19_0 := NB972_971.out
 have hms19_2 := NB972_977.out
 have hs20 : w17.cell? ⟨gb972, 2, none⟩ = some (.int .i64 0) := (blk_cell BK972.out 2).trans rfl
 have hfs20 := blk_frozen BK972.out 2
 have hns20_0 := NB971_972.out
 have hns20_2 := NB977_972.out
 have hms20_0 := NB972_971.out
 have hms20_2 := NB972_977.out
 have hs21 : w17.cell? ⟨gb972, 3, none⟩ = some (.int .i64 0) := (blk_cell BK972.out 3).trans rfl
 have hfs21 := blk_frozen BK972.out 3
 have hns21_0 := NB971_972.out
 have hns21_2 := NB977_972.out
 have hms21_0 := NB972_971.out
 have hms21_2 := NB972_977.out
 have hs22 : w17.cell? ⟨gb972, 4, none⟩ = some (.int .i64 0) := (blk_cell BK972.out 4).trans rfl
 have hfs22 := blk_frozen BK972.out 4
 have hns22_0 := NB971_972.out
 have hns22_2 := NB977_972.out
 have hms22_0 := NB972_971.out
 have hms22_2 := NB972_977.out
 have hs23 : w17.cell? ⟨gb972, 5, none⟩ = some (.int .i64 0) := (blk_cell BK972.out 5).trans rfl
 have hfs23 := blk_frozen BK972.out 5
 have hns23_0 := NB971_972.out
 have hns23_2 := NB977_972.out
 have hms23_0 := NB972_971.out
 have hms23_2 := NB972_977.out
 refine skip_ (w1 := ?_) (by rfl) rfl ?_ ?_
 rotate_left
 ·go_simp
  rfl
 refine hK.out _ _ ⟨((cell_far (p := ⟨gb972, _, none⟩) NB977_972.out _).trans (((cell_far (p := ⟨gb972, _, none⟩) NB977_972.out _).trans (((cell_far (p := ⟨gb972, _, none⟩) NB977_972.out _).trans (((cell_far (p := ⟨gb972, _, none⟩) NB977_972.out _).trans (((cell_far (p := ⟨gb972, _, none⟩) NB977_972.out _).trans (((cell_far (p := ⟨gb972, _, none⟩) NB977_972.out _).trans (hHeld.1)))))))))))), ((cell_far (p := ⟨gb972, _, none⟩) NB977_972.out _).trans (((cell_far (p := ⟨gb972, _, none⟩) NB977_972.out _).trans (((cell_far (p := ⟨gb972, _, none⟩) NB977_972.out _).trans (((cell_far (p := ⟨gb972, _, none⟩) NB977_972.out _).trans (((cell_far (p := ⟨gb972, _, none⟩) NB977_972.out _).trans (((cell_far (p := ⟨gb972, _, none⟩) NB977_972.out _).trans (hHeld.2.1)))))))))))), ((cell_far (p := ⟨gb972, _, none⟩) NB977_972.out _).trans (((cell_far (p := ⟨gb972, _, none⟩) NB977_972.out _).trans (((cell_far (p := ⟨gb972, _, none⟩) NB977_972.out _).trans (((cell_far (p := ⟨gb972, _, none⟩) NB977_972.out _).trans (((cell_far (p := ⟨gb972, _, none⟩) NB977_972.out _).trans (((cell_far (p := ⟨gb972, _, none⟩) NB977_972.out _).trans (hHeld.2.2.1)))))))))))), ((cell_far (p := ⟨gb972, _, none⟩) NB977_972.out _).trans (((cell_far (p := ⟨gb972, _, none⟩) NB977_972.out _).trans (((cell_far (p := ⟨gb972, _, none⟩) NB977_972.out _).trans (((cell_far (p := ⟨gb972, _, none⟩) NB977_972.out _).trans (((cell_far (p := ⟨gb972, _, none⟩) NB977_972.out _).trans (((cell_far (p := ⟨gb972, _, none⟩) NB977_972.out _).trans (hHeld.2.2.2.1)))))))))))), ((cell_far (p := ⟨gb972, _, none⟩) NB971_972.out _).trans (((cell_far (p := ⟨gb972, _, none⟩) NB971_972.out _).trans (((cell_far (p := ⟨gb972, _, none⟩) NB971_972.out _).trans (((cell_far (p := ⟨gb972, _, none⟩) NB971_972.out _).trans (((cell_far (p := ⟨gb972, _, none⟩) NB971_972.out _).trans (((cell_far (p := ⟨gb972, _, none⟩) NB971_972.out _).trans (hHeld.2.2.2.2.1)))))))))))), ((cell_far (p := ⟨gb972, _, none⟩) NB971_972.out _).trans (((cell_far (p := ⟨gb972, _, none⟩) NB971_972.out _).trans (((cell_far (p := ⟨gb972, _, none⟩) NB971_972.out _).trans (((cell_far (p := ⟨gb972, _, none⟩) NB971_972.out _).trans (((cell_far (p := ⟨gb972, _, none⟩) NB971_972.out _).trans (((cell_far (p := ⟨gb972, _, none⟩) NB971_972.out _).trans (hHeld.2.2.2.2.2.1)))))))))))), ((cell_far (p := ⟨gb972, _, none⟩) NB971_972.out _).trans (((cell_far (p := ⟨gb972, _, none⟩) NB971_972.out _).trans (((cell_far (p := ⟨gb972, _, none⟩) NB971_972.out _).trans (((cell_far (p := ⟨gb972, _, none⟩) NB971_972.out _).trans (((cell_far (p := ⟨gb972, _, none⟩) NB971_972.out _).trans (((cell_far (p := ⟨gb972, _, none⟩) NB971_972.out _).trans (hHeld.2.2.2.2.2.2.1)))))))))))), ((cell_far (p := ⟨gb972, _, none⟩) NB971_972.out _).trans (((cell_far (p := ⟨gb972, _, none⟩) NB971_972.out _).trans (((cell_far (p := ⟨gb972, _, none⟩) NB971_972.out _).trans (((cell_far (p := ⟨gb972, _, none⟩) NB971_972.out _).trans (((cell_far (p := ⟨gb972, _, none⟩) NB971_972.out _).trans (((cell_far (p := ⟨gb972, _, none⟩) NB971_972.out _).trans (hHeld.2.2.2.2.2.2.2.1)))))))))))), ((cell_far (p := ⟨gb972, _, none⟩) NB971_972.out _).trans (((cell_far (p := ⟨gb972, _, none⟩) NB971_972.out _).trans (((cell_far (p := ⟨gb972, _, none⟩) NB971_972.out _).trans (((cell_far (p := ⟨gb972, _, none⟩) NB971_972.out _).trans (((cell_far (p := ⟨gb972, _, none⟩) NB971_972.out _).trans (((cell_far (p := ⟨gb972, _, none⟩) NB971_972.out _).trans (hHeld.2.2.2.2.2.2.2.2.1)))))))))))), ((cell_far (p := ⟨gb972, _, none⟩) NB971_972.out _).trans (((cell_far (p := ⟨gb972, _, none⟩) NB971_972.out _).trans (((cell_far (p := ⟨gb972, _, none⟩) NB971_972.out _).trans (((cell_far (p := ⟨gb972, _, none⟩) NB971_972.out _).trans (((cell_far (p := ⟨gb972, _, none⟩) NB971_972.out _).trans (((cell_far (p := ⟨gb972, _, none⟩) NB971_972.out _).trans (hHeld.2.2.2.2.2.2.2.2.2))))))))))))⟩ (fun hHeld => ?_)
 clear hK K
 refine done_ (done_of HT_.out (by kernel_rfl)) ?_
 try go_wp2
 refine bodyPost_ret (results_cell_row rfl _ _ gb972 64 #[.int .i64 t973, .int .i64 t974, .int .i64 t975, .int .i64 t976, .int .i64 t980, .int .i64 t981] (0, 0) _ rfl (by (with_reducible repeat (first|apply kN|apply kD|apply kA)); refine blk_put (cs := #[.int .i64 t973, .int .i64 t974, .int .i64 t975, .int .i64 t976, .int .i64 t980, .int .i64 0]) ?_ 5 _ rfl; (with_reducible repeat (first|apply kN|apply kD|apply kA)); refine blk_put (cs := #[.int .i64 t973, .int .i64 t974, .int .i64 t975, .int .i64 t976, .int .i64 0, .int .i64 0]) ?_ 4 _ rfl; (with_reducible repeat (first|apply kN|apply kD|apply kA)); refine blk_put (cs := #[.int .i64 t973, .int .i64 t974, .int .i64 t975, .int .i64 0, .int .i64 0, .int .i64 0]) ?_ 3 _ rfl; (with_reducible repeat (first|apply kN|apply kD|apply kA)); refine blk_put (cs := #[.int .i64 t973, .int .i64 t974, .int .i64 0, .int .i64 0, .int .i64 0, .int .i64 0]) ?_ 2 _ rfl; (with_reducible repeat (first|apply kN|apply kD|apply kA)); refine blk_put (cs := #[.int .i64 t973, .int .i64 0, .int .i64 0, .int .i64 0, .int .i64 0, .int .i64 0]) ?_ 1 _ rfl; (with_reducible repeat (first|apply kN|apply kD|apply kA)); refine blk_put (cs := #[.int .i64 0, .int .i64 0, .int .i64 0, .int .i64 0, .int .i64 0, .int .i64 0]) ?_ 0 _ rfl; (with_reducible repeat (first|apply kN|apply kD|apply kA)); exact BK972.out) Try.underlying64 rfl (by kernel_rfl)) rfl ?_
 exact ⟨by first|rfl|(simp [*, errW_none, errW_some] <;> rfl), by repeat (first | (with_reducible first | exact HB.out | apply bA|apply bN|apply b1 | refine below_set ?_ (Aside0.out (by assumption))) | exact HB.out)⟩

def impl_InverseMotion.f (k : Nat) (a0_0 : Int) (a0_1 : Int) (a0_2 : Int) (a0_3 : Int) (a0_4 : Int) (a0_5 : Int) : Option (Int × Int × Int × Int × Int × Int × Int) := (impl_IsMotion.f k a0_0 a0_1 a0_2 a0_3 a0_4 a0_5).bind fun t984 => (if t984 = true then ((impl_Motion_inverse.f a0_0 a0_1 a0_2 a0_3 a0_4 a0_5).bind fun bt985 => ((impl_IsVec.f bt985.2.2.2.2.1 bt985.2.2.2.2.2).bind fun t992 => (if t992 = true then (some (bt985.1, bt985.2.1, bt985.2.2.1, bt985.2.2.2.1, bt985.2.2.2.2.1, bt985.2.2.2.2.2, 0)) else (some (0, 0, 0, 0, 0, 0, 3))))) else (some (0, 0, 0, 0, 0, 0, 1)))
set_option maxHeartbeats 8000000 in
set_option maxRecDepth 100000 in
theorem impl_InverseMotion.calls (k : Nat) (a0_0 : Int) (a0_1 : Int) (a0_2 : Int) (a0_3 : Int) (a0_4 : Int) (a0_5 : Int) (r1 : Int) (r2 : Int) (r3 : Int) (r4 : Int) (r5 : Int) (r6 : Int) (r7 : Int) (w : World) (h : impl_InverseMotion.f k a0_0 a0_1 a0_2 a0_3 a0_4 a0_5 = some (r1, r2, r3, r4, r5, r6, r7)) :
  Calls Try.prog 43 #[.agg #[.int .i64 a0_0, .int .i64 a0_1, .int .i64 a0_2, .int .i64 a0_3, .int .i64 a0_4, .int .i64 a0_5]] w fun e w' => e = .returned (.tuple #[.agg #[.int .i64 r1, .int .i64 r2, .int .i64 r3, .int .i64 r4, .int .i64 r5, .int .i64 r6], .int .i64 r7]) ∧ Below w.heap.size w w' := by
 have hu64 := Try.underlying64
 have hu47 := Try.underlying47
 have HB := aM (Below.refl w.heap.size w)
 have H : ((impl_IsMotion.f k a0_0 a0_1 a0_2 a0_3 a0_4 a0_5).bind fun t984 => (if t984 = true then ((impl_Motion_inverse.f a0_0 a0_1 a0_2 a0_3 a0_4 a0_5).bind fun bt985 => ((impl_IsVec.f bt985.2.2.2.2.1 bt985.2.2.2.2.2).bind fun t992 => (if t992 = true then (some (bt985.1, bt985.2.1, bt985.2.2.1, bt985.2.2.2.1, bt985.2.2.2.2.1, bt985.2.2.2.2.2, 0)) else (some (0, 0, 0, 0, 0, 0, 3))))) else (some (0, 0, 0, 0, 0, 0, 1)))) = some (r1, r2, r3, r4, r5, r6, r7) := h
 clear h
 replace H := Option.bind_eq_some_iff.mp H
 obtain ⟨t984, A20, H⟩ := H
 try dsimp only at H
 have A2 := aM A20
 clear A20
 by_cases c3 : t984 = true
 ·subst c3
  have H1 : ((impl_Motion_inverse.f a0_0 a0_1 a0_2 a0_3 a0_4 a0_5).bind fun bt985 => ((impl_IsVec.f bt985.2.2.2.2.1 bt985.2.2.2.2.2).bind fun t992 => (if t992 = true then (some (bt985.1, bt985.2.1, bt985.2.2.1, bt985.2.2.2.1, bt985.2.2.2.2.1, bt985.2.2.2.2.2, 0)) else (some (0, 0, 0, 0, 0, 0, 3))))) = some (r1, r2, r3, r4, r5, r6, r7) := by rw [if_pos rfl] at H; exact H
  clear H
  have H := H1
  clear H1
  replace H := Option.bind_eq_some_iff.mp H
  obtain ⟨⟨t985, t986, t987, t988, t989, t990⟩, A40, H⟩ := H
  try dsimp only at H
  have A4 := aM A40
  clear A40
  replace H := Option.bind_eq_some_iff.mp H
  obtain ⟨t992, A50, H⟩ := H
  try dsimp only at H
  have A5 := aM A50
  clear A50
  by_cases c6 : t992 = true
  ·subst c6
   have H1 : (some (t985, t986, t987, t988, t989, t990, 0)) = some (r1, r2, r3, r4, r5, r6, r7) := by rw [if_pos rfl] at H; exact H
   clear H
   have H := H1
   clear H1
   simp only [Option.some.injEq, Prod.mk.injEq] at H
   obtain ⟨rfl, rfl, rfl, rfl, rfl, rfl, rfl⟩ := H
   go_enter Try.func43, Try.ntmps43
   go_wp2_with (first | ((with_reducible refine gate_dst (N := 1) rfl ?_); refine box_event ?hg (N := 1) ?hd (cs := #[.int .i64 a0_0, .int .i64 a0_1, .int .i64 a0_2, .int .i64 a0_3, .int .i64 a0_4, .int .i64 a0_5]) (t := 64) ?hr ?_; (case hd => rfl); (case hg => rfl); (case hr => first | (go_simp; done) | (go_simp; rfl)); intro gb982 hg w7 hbox hb; have n0_ := bS HB hb; have n1_ := aM (hbox); have n2_ := bZ hg HB; have n3_ := bZ hg HB; clear HB; have HB := n0_; have BK982 := n1_; have GW982 := n2_; have GE982 := n3_; clear n0_ n1_ n2_ n3_; clear hb hbox hg) | ((with_reducible refine gate_dst (N := 2) rfl ?_); refine box_event ?hg (N := 2) ?hd (cs := #[.int .i64 0, .int .i64 0, .int .i64 0, .int .i64 0, .int .i64 0, .int .i64 0]) (t := 64) ?hr ?_; (case hd => rfl); (case hg => rfl); (case hr => first | (go_simp; done) | (go_simp; rfl)); intro gb983 hg w8 hbox hb; have n0_ := bB BK982 hb; have n1_ := bS HB hb; have n2_ := aM (hbox); have n3_ := bZ hg HB; have n4_ := bZ hg HB; have n5_ := nL hg BK982; have n6_ := nG hg BK982; clear BK982; clear HB; have BK982 := n0_; have HB := n1_; have BK983 := n2_; have GW983 := n3_; have GE983 := n4_; have NB982_983 := n5_; have NB983_982 := n6_; clear n0_ n1_ n2_ n3_ n4_ n5_ n6_; clear hb hbox hg; have hnb9 := NB982_983.out; have hnc9 := NB983_982.out; obtain ⟨hcz10_0, hcz10_1, hcz10_2, hcz10_3, hcz10_4, hcz10_5⟩ := z6 BK982; obtain ⟨hfz10_0, hfz10_1, hfz10_2, hfz10_3, hfz10_4, hfz10_5⟩ := y6 BK982) | ((with_reducible refine gate_callee (f := 48) rfl ?_); refine goesL_ (some 6) rfl rfl Try.func48 (by kernel_rfl) rfl #[.agg #[.int .i64 a0_0, .int .i64 a0_1, .int .i64 a0_2, .int .i64 a0_3, .int .i64 a0_4, .int .i64 a0_5]] rfl (by first|rfl|(simp only [List.map_toArray, List.map_cons, List.map_nil]; try rfl)) ?_; (with_reducible refine (impl_IsMotion.calls k a0_0 a0_1 a0_2 a0_3 a0_4 a0_5 true _ A2.out).mono ?_); rintro e w11 ⟨rfl, hb⟩; refine ⟨_, rfl, ?_⟩; have n0_ := bB BK982 hb; have n1_ := bB BK983 hb; have n2_ := bS HB hb; clear BK982; clear BK983; clear HB; have BK982 := n0_; have BK983 := n1_; have HB := n2_; clear n0_ n1_ n2_; (try clear hb); obtain ⟨hcz12_0, hcz12_1, hcz12_2, hcz12_3, hcz12_4, hcz12_5⟩ := z6 BK982; obtain ⟨hfz12_0, hfz12_1, hfz12_2, hfz12_3, hfz12_4, hfz12_5⟩ := y6 BK982) | ((with_reducible refine gate_callee (f := 109) rfl ?_); refine goesL_ (some 10) rfl rfl Try.func109 (by kernel_rfl) rfl #[.agg #[.int .i64 a0_0, .int .i64 a0_1, .int .i64 a0_2, .int .i64 a0_3, .int .i64 a0_4, .int .i64 a0_5]] rfl (by first|rfl|(simp only [List.map_toArray, List.map_cons, List.map_nil]; try rfl)) ?_; (with_reducible refine (impl_Motion_inverse.calls a0_0 a0_1 a0_2 a0_3 a0_4 a0_5 t985 t986 t987 t988 t989 t990 _ A4.out).mono ?_); rintro e w13 ⟨rfl, hb⟩; refine ⟨_, rfl, ?_⟩; have n0_ := bB BK982 hb; have n1_ := bB BK983 hb; have n2_ := bS HB hb; clear BK982; clear BK983; clear HB; have BK982 := n0_; have BK983 := n1_; have HB := n2_; clear n0_ n1_ n2_; (try clear hb)) | ((with_reducible refine gate_dst (N := 4) rfl ?_); refine box_event ?hg (N := 4) ?hd (cs := #[.int .i64 0, .int .i64 0, .int .i64 0, .int .i64 0, .int .i64 0, .int .i64 0]) (t := 64) ?hr ?_; (case hd => rfl); (case hg => rfl); (case hr => first | (go_simp; done) | (go_simp; rfl)); intro gb991 hg w14 hbox hb; have n0_ := bB BK982 hb; have n1_ := bB BK983 hb; have n2_ := bS HB hb; have n3_ := aM (hbox); have n4_ := bZ hg HB; have n5_ := bZ hg HB; have n6_ := nL hg BK982; have n7_ := nG hg BK982; have n8_ := nL hg BK983; have n9_ := nG hg BK983; clear BK982; clear BK983; clear HB; have BK982 := n0_; have BK983 := n1_; have HB := n2_; have BK991 := n3_; have GW991 := n4_; have GE991 := n5_; have NB982_991 := n6_; have NB991_982 := n7_; have NB983_991 := n8_; have NB991_983 := n9_; clear n0_ n1_ n2_ n3_ n4_ n5_ n6_ n7_ n8_ n9_; clear hb hbox hg; have hnb15 := NB991_982.out; have hnc15 := NB982_991.out; have hnb16 := NB991_983.out; have hnc16 := NB983_991.out; obtain ⟨hcz17_0, hcz17_1, hcz17_2, hcz17_3, hcz17_4, hcz17_5⟩ := z6 BK991; obtain ⟨hfz17_0, hfz17_1, hfz17_2, hfz17_3, hfz17_4, hfz17_5⟩ := y6 BK991) | ((with_reducible refine gate_callee (f := 87) rfl ?_); refine goesL_ (some 13) rfl rfl Try.func87 (by kernel_rfl) rfl #[.agg #[.int .i64 t989, .int .i64 t990]] rfl (by first|rfl|(simp only [List.map_toArray, List.map_cons, List.map_nil]; try rfl)) ?_; (with_reducible refine (impl_IsVec.calls t989 t990 true _ A5.out).mono ?_); rintro e w18 ⟨rfl, hb⟩; refine ⟨_, rfl, ?_⟩; have n0_ := aM (blk_below (g := gb982) (o := .cells #[.int .i64 a0_0, .int .i64 a0_1, .int .i64 a0_2, .int .i64 a0_3, .int .i64 a0_4, .int .i64 a0_5] 64 (0, 0)) (by (repeat (first|(with_reducible first|apply kN|apply kD|apply kA)|refine blk_far ?_ NB982_991.out _)); exact BK982.out) hb); have n1_ := aM (blk_below (g := gb983) (o := .cells #[.int .i64 0, .int .i64 0, .int .i64 0, .int .i64 0, .int .i64 0, .int .i64 0] 64 (0, 0)) (by (repeat (first|(with_reducible first|apply kN|apply kD|apply kA)|refine blk_far ?_ NB983_991.out _)); exact BK983.out) hb); have n2_ := aM (blk_below (g := gb991) (o := .cells #[.int .i64 t985, .int .i64 t986, .int .i64 t987, .int .i64 t988, .int .i64 t989, .int .i64 t990] 64 (0, 0)) (by (with_reducible repeat (first|apply kN|apply kD|apply kA)); refine blk_put (cs := #[.int .i64 t985, .int .i64 t986, .int .i64 t987, .int .i64 t988, .int .i64 t989, .int .i64 0]) ?_ 5 _ rfl; (with_reducible repeat (first|apply kN|apply kD|apply kA)); refine blk_put (cs := #[.int .i64 t985, .int .i64 t986, .int .i64 t987, .int .i64 t988, .int .i64 0, .int .i64 0]) ?_ 4 _ rfl; (with_reducible repeat (first|apply kN|apply kD|apply kA)); refine blk_put (cs := #[.int .i64 t985, .int .i64 t986, .int .i64 t987, .int .i64 0, .int .i64 0, .int .i64 0]) ?_ 3 _ rfl; (with_reducible repeat (first|apply kN|apply kD|apply kA)); refine blk_put (cs := #[.int .i64 t985, .int .i64 t986, .int .i64 0, .int .i64 0, .int .i64 0, .int .i64 0]) ?_ 2 _ rfl; (with_reducible repeat (first|apply kN|apply kD|apply kA)); refine blk_put (cs := #[.int .i64 t985, .int .i64 0, .int .i64 0, .int .i64 0, .int .i64 0, .int .i64 0]) ?_ 1 _ rfl; (with_reducible repeat (first|apply kN|apply kD|apply kA)); refine blk_put (cs := #[.int .i64 0, .int .i64 0, .int .i64 0, .int .i64 0, .int .i64 0, .int .i64 0]) ?_ 0 _ rfl; (with_reducible repeat (first|apply kN|apply kD|apply kA)); exact BK991.out) hb); have n3_ := bS HB hb; clear BK982; clear BK983; clear BK991; clear HB; have BK982 := n0_; have BK983 := n1_; have BK991 := n2_; have HB := n3_; clear n0_ n1_ n2_ n3_; (try clear hb); obtain ⟨hcz19_0, hcz19_1, hcz19_2, hcz19_3, hcz19_4, hcz19_5⟩ := z6 BK991; obtain ⟨hfz19_0, hfz19_1, hfz19_2, hfz19_3, hfz19_4, hfz19_5⟩ := y6 BK991; obtain ⟨hcz20_0, hcz20_1, hcz20_2, hcz20_3, hcz20_4, hcz20_5⟩ := z6 BK983; obtain ⟨hfz20_0, hfz20_1, hfz20_2, hfz20_3, hfz20_4, hfz20_5⟩ := y6 BK983))
   refine bodyPost_ret (results_ct rfl _ _ gb983 64 #[.int .i64 t985, .int .i64 t986, .int .i64 t987, .int .i64 t988, .int .i64 t989, .int .i64 t990] (0, 0) _ rfl (by (with_reducible repeat (first|apply kN|apply kD|apply kA)); refine blk_put (cs := #[.int .i64 t985, .int .i64 t986, .int .i64 t987, .int .i64 t988, .int .i64 t989, .int .i64 0]) ?_ 5 _ rfl; (with_reducible repeat (first|apply kN|apply kD|apply kA)); refine blk_put (cs := #[.int .i64 t985, .int .i64 t986, .int .i64 t987, .int .i64 t988, .int .i64 0, .int .i64 0]) ?_ 4 _ rfl; (with_reducible repeat (first|apply kN|apply kD|apply kA)); refine blk_put (cs := #[.int .i64 t985, .int .i64 t986, .int .i64 t987, .int .i64 0, .int .i64 0, .int .i64 0]) ?_ 3 _ rfl; (with_reducible repeat (first|apply kN|apply kD|apply kA)); refine blk_put (cs := #[.int .i64 t985, .int .i64 t986, .int .i64 0, .int .i64 0, .int .i64 0, .int .i64 0]) ?_ 2 _ rfl; (with_reducible repeat (first|apply kN|apply kD|apply kA)); refine blk_put (cs := #[.int .i64 t985, .int .i64 0, .int .i64 0, .int .i64 0, .int .i64 0, .int .i64 0]) ?_ 1 _ rfl; (with_reducible repeat (first|apply kN|apply kD|apply kA)); refine blk_put (cs := #[.int .i64 0, .int .i64 0, .int .i64 0, .int .i64 0, .int .i64 0, .int .i64 0]) ?_ 0 _ rfl; (with_reducible repeat (first|apply kN|apply kD|apply kA)); exact BK983.out) Try.underlying64 rfl (by kernel_rfl)) rfl ?_
   exact ⟨by first|rfl|(simp [*, errW_none, errW_some] <;> rfl), by repeat (first | (with_reducible first | exact HB.out | apply bA|apply bN|apply b1 | refine below_set ?_ (Aside0.out (by assumption))) | exact HB.out)⟩
  ·replace c6 := Bool.eq_false_iff.mpr c6
   subst c6
   have H1 : (some (0, 0, 0, 0, 0, 0, 3)) = some (r1, r2, r3, r4, r5, r6, r7) := by rw [if_neg (show ¬ (false = true) by decide)] at H; exact H
   clear H
   have H := H1
   clear H1
   simp only [Option.some.injEq, Prod.mk.injEq] at H
   obtain ⟨rfl, rfl, rfl, rfl, rfl, rfl, rfl⟩ := H
   go_enter Try.func43, Try.ntmps43
   go_wp2_with (first | ((with_reducible refine gate_dst (N := 1) rfl ?_); refine box_event ?hg (N := 1) ?hd (cs := #[.int .i64 a0_0, .int .i64 a0_1, .int .i64 a0_2, .int .i64 a0_3, .int .i64 a0_4, .int .i64 a0_5]) (t := 64) ?hr ?_; (case hd => rfl); (case hg => rfl); (case hr => first | (go_simp; done) | (go_simp; rfl)); intro gb982 hg w21 hbox hb; have n0_ := bS HB hb; have n1_ := aM (hbox); have n2_ := bZ hg HB; have n3_ := bZ hg HB; clear HB; have HB := n0_; have BK982 := n1_; have GW982 := n2_; have GE982 := n3_; clear n0_ n1_ n2_ n3_; clear hb hbox hg) | ((with_reducible refine gate_dst (N := 2) rfl ?_); refine box_event ?hg (N := 2) ?hd (cs := #[.int .i64 0, .int .i64 0, .int .i64 0, .int .i64 0, .int .i64 0, .int .i64 0]) (t := 64) ?hr ?_; (case hd => rfl); (case hg => rfl); (case hr => first | (go_simp; done) | (go_simp; rfl)); intro gb983 hg w22 hbox hb; have n0_ := bB BK982 hb; have n1_ := bS HB hb; have n2_ := aM (hbox); have n3_ := bZ hg HB; have n4_ := bZ hg HB; have n5_ := nL hg BK982; have n6_ := nG hg BK982; clear BK982; clear HB; have BK982 := n0_; have HB := n1_; have BK983 := n2_; have GW983 := n3_; have GE983 := n4_; have NB982_983 := n5_; have NB983_982 := n6_; clear n0_ n1_ n2_ n3_ n4_ n5_ n6_; clear hb hbox hg; have hnb23 := NB982_983.out; have hnc23 := NB983_982.out; obtain ⟨hcz24_0, hcz24_1, hcz24_2, hcz24_3, hcz24_4, hcz24_5⟩ := z6 BK982; obtain ⟨hfz24_0, hfz24_1, hfz24_2, hfz24_3, hfz24_4, hfz24_5⟩ := y6 BK982) | ((with_reducible refine gate_callee (f := 48) rfl ?_); refine goesL_ (some 6) rfl rfl Try.func48 (by kernel_rfl) rfl #[.agg #[.int .i64 a0_0, .int .i64 a0_1, .int .i64 a0_2, .int .i64 a0_3, .int .i64 a0_4, .int .i64 a0_5]] rfl (by first|rfl|(simp only [List.map_toArray, List.map_cons, List.map_nil]; try rfl)) ?_; (with_reducible refine (impl_IsMotion.calls k a0_0 a0_1 a0_2 a0_3 a0_4 a0_5 true _ A2.out).mono ?_); rintro e w25 ⟨rfl, hb⟩; refine ⟨_, rfl, ?_⟩; have n0_ := bB BK982 hb; have n1_ := bB BK983 hb; have n2_ := bS HB hb; clear BK982; clear BK983; clear HB; have BK982 := n0_; have BK983 := n1_; have HB := n2_; clear n0_ n1_ n2_; (try clear hb); obtain ⟨hcz26_0, hcz26_1, hcz26_2, hcz26_3, hcz26_4, hcz26_5⟩ := z6 BK982; obtain ⟨hfz26_0, hfz26_1, hfz26_2, hfz26_3, hfz26_4, hfz26_5⟩ := y6 BK982) | ((with_reducible refine gate_callee (f := 109) rfl ?_); refine goesL_ (some 10) rfl rfl Try.func109 (by kernel_rfl) rfl #[.agg #[.int .i64 a0_0, .int .i64 a0_1, .int .i64 a0_2, .int .i64 a0_3, .int .i64 a0_4, .int .i64 a0_5]] rfl (by first|rfl|(simp only [List.map_toArray, List.map_cons, List.map_nil]; try rfl)) ?_; (with_reducible refine (impl_Motion_inverse.calls a0_0 a0_1 a0_2 a0_3 a0_4 a0_5 t985 t986 t987 t988 t989 t990 _ A4.out).mono ?_); rintro e w27 ⟨rfl, hb⟩; refine ⟨_, rfl, ?_⟩; have n0_ := bB BK982 hb; have n1_ := bB BK983 hb; have n2_ := bS HB hb; clear BK982; clear BK983; clear HB; have BK982 := n0_; have BK983 := n1_; have HB := n2_; clear n0_ n1_ n2_; (try clear hb)) | ((with_reducible refine gate_dst (N := 4) rfl ?_); refine box_event ?hg (N := 4) ?hd (cs := #[.int .i64 0, .int .i64 0, .int .i64 0, .int .i64 0, .int .i64 0, .int .i64 0]) (t := 64) ?hr ?_; (case hd => rfl); (case hg => rfl); (case hr => first | (go_simp; done) | (go_simp; rfl)); intro gb991 hg w28 hbox hb; have n0_ := bB BK982 hb; have n1_ := bB BK983 hb; have n2_ := bS HB hb; have n3_ := aM (hbox); have n4_ := bZ hg HB; have n5_ := bZ hg HB; have n6_ := nL hg BK982; have n7_ := nG hg BK982; have n8_ := nL hg BK983; have n9_ := nG hg BK983; clear BK982; clear BK983; clear HB; have BK982 := n0_; have BK983 := n1_; have HB := n2_; have BK991 := n3_; have GW991 := n4_; have GE991 := n5_; have NB982_991 := n6_; have NB991_982 := n7_; have NB983_991 := n8_; have NB991_983 := n9_; clear n0_ n1_ n2_ n3_ n4_ n5_ n6_ n7_ n8_ n9_; clear hb hbox hg; have hnb29 := NB991_982.out; have hnc29 := NB982_991.out; have hnb30 := NB991_983.out; have hnc30 := NB983_991.out; obtain ⟨hcz31_0, hcz31_1, hcz31_2, hcz31_3, hcz31_4, hcz31_5⟩ := z6 BK991; obtain ⟨hfz31_0, hfz31_1, hfz31_2, hfz31_3, hfz31_4, hfz31_5⟩ := y6 BK991) | ((with_reducible refine gate_callee (f := 87) rfl ?_); refine goesL_ (some 13) rfl rfl Try.func87 (by kernel_rfl) rfl #[.agg #[.int .i64 t989, .int .i64 t990]] rfl (by first|rfl|(simp only [List.map_toArray, List.map_cons, List.map_nil]; try rfl)) ?_; (with_reducible refine (impl_IsVec.calls t989 t990 false _ A5.out).mono ?_); rintro e w32 ⟨rfl, hb⟩; refine ⟨_, rfl, ?_⟩; have n0_ := aM (blk_below (g := gb982) (o := .cells #[.int .i64 a0_0, .int .i64 a0_1, .int .i64 a0_2, .int .i64 a0_3, .int .i64 a0_4, .int .i64 a0_5] 64 (0, 0)) (by (repeat (first|(with_reducible first|apply kN|apply kD|apply kA)|refine blk_far ?_ NB982_991.out _)); exact BK982.out) hb); have n1_ := aM (blk_below (g := gb983) (o := .cells #[.int .i64 0, .int .i64 0, .int .i64 0, .int .i64 0, .int .i64 0, .int .i64 0] 64 (0, 0)) (by (repeat (first|(with_reducible first|apply kN|apply kD|apply kA)|refine blk_far ?_ NB983_991.out _)); exact BK983.out) hb); have n2_ := aM (blk_below (g := gb991) (o := .cells #[.int .i64 t985, .int .i64 t986, .int .i64 t987, .int .i64 t988, .int .i64 t989, .int .i64 t990] 64 (0, 0)) (by (with_reducible repeat (first|apply kN|apply kD|apply kA)); refine blk_put (cs := #[.int .i64 t985, .int .i64 t986, .int .i64 t987, .int .i64 t988, .int .i64 t989, .int .i64 0]) ?_ 5 _ rfl; (with_reducible repeat (first|apply kN|apply kD|apply kA)); refine blk_put (cs := #[.int .i64 t985, .int .i64 t986, .int .i64 t987, .int .i64 t988, .int .i64 0, .int .i64 0]) ?_ 4 _ rfl; (with_reducible repeat (first|apply kN|apply kD|apply kA)); refine blk_put (cs := #[.int .i64 t985, .int .i64 t986, .int .i64 t987, .int .i64 0, .int .i64 0, .int .i64 0]) ?_ 3 _ rfl; (with_reducible repeat (first|apply kN|apply kD|apply kA)); refine blk_put (cs := #[.int .i64 t985, .int .i64 t986, .int .i64 0, .int .i64 0, .int .i64 0, .int .i64 0]) ?_ 2 _ rfl; (with_reducible repeat (first|apply kN|apply kD|apply kA)); refine blk_put (cs := #[.int .i64 t985, .int .i64 0, .int .i64 0, .int .i64 0, .int .i64 0, .int .i64 0]) ?_ 1 _ rfl; (with_reducible repeat (first|apply kN|apply kD|apply kA)); refine blk_put (cs := #[.int .i64 0, .int .i64 0, .int .i64 0, .int .i64 0, .int .i64 0, .int .i64 0]) ?_ 0 _ rfl; (with_reducible repeat (first|apply kN|apply kD|apply kA)); exact BK991.out) hb); have n3_ := bS HB hb; clear BK982; clear BK983; clear BK991; clear HB; have BK982 := n0_; have BK983 := n1_; have BK991 := n2_; have HB := n3_; clear n0_ n1_ n2_ n3_; (try clear hb); obtain ⟨hcz33_0, hcz33_1, hcz33_2, hcz33_3, hcz33_4, hcz33_5⟩ := z6 BK983; obtain ⟨hfz33_0, hfz33_1, hfz33_2, hfz33_3, hfz33_4, hfz33_5⟩ := y6 BK983))
   refine bodyPost_ret (results_ct rfl _ _ gb983 64 #[.int .i64 0, .int .i64 0, .int .i64 0, .int .i64 0, .int .i64 0, .int .i64 0] (0, 0) _ rfl (by (with_reducible repeat (first|apply kN|apply kD|apply kA)); refine blk_put (cs := #[.int .i64 0, .int .i64 0, .int .i64 0, .int .i64 0, .int .i64 0, .int .i64 0]) ?_ 5 _ rfl; (with_reducible repeat (first|apply kN|apply kD|apply kA)); refine blk_put (cs := #[.int .i64 0, .int .i64 0, .int .i64 0, .int .i64 0, .int .i64 0, .int .i64 0]) ?_ 4 _ rfl; (with_reducible repeat (first|apply kN|apply kD|apply kA)); refine blk_put (cs := #[.int .i64 0, .int .i64 0, .int .i64 0, .int .i64 0, .int .i64 0, .int .i64 0]) ?_ 3 _ rfl; (with_reducible repeat (first|apply kN|apply kD|apply kA)); refine blk_put (cs := #[.int .i64 0, .int .i64 0, .int .i64 0, .int .i64 0, .int .i64 0, .int .i64 0]) ?_ 2 _ rfl; (with_reducible repeat (first|apply kN|apply kD|apply kA)); refine blk_put (cs := #[.int .i64 0, .int .i64 0, .int .i64 0, .int .i64 0, .int .i64 0, .int .i64 0]) ?_ 1 _ rfl; (with_reducible repeat (first|apply kN|apply kD|apply kA)); refine blk_put (cs := #[.int .i64 0, .int .i64 0, .int .i64 0, .int .i64 0, .int .i64 0, .int .i64 0]) ?_ 0 _ rfl; (with_reducible repeat (first|apply kN|apply kD|apply kA)); exact BK983.out) Try.underlying64 rfl (by kernel_rfl)) rfl ?_
   exact ⟨by first|rfl|(simp [*, errW_none, errW_some] <;> rfl), by repeat (first | (with_reducible first | exact HB.out | apply bA|apply bN|apply b1 | refine below_set ?_ (Aside0.out (by assumption))) | exact HB.out)⟩
 ·replace c3 := Bool.eq_false_iff.mpr c3
  subst c3
  have H1 : (some (0, 0, 0, 0, 0, 0, 1)) = some (r1, r2, r3, r4, r5, r6, r7) := by rw [if_neg (show ¬ (false = true) by decide)] at H; exact H
  clear H
  have H := H1
  clear H1
  simp only [Option.some.injEq, Prod.mk.injEq] at H
  obtain ⟨rfl, rfl, rfl, rfl, rfl, rfl, rfl⟩ := H
  go_enter Try.func43, Try.ntmps43
  go_wp2_with (first | ((with_reducible refine gate_dst (N := 1) rfl ?_); refine box_event ?hg (N := 1) ?hd (cs := #[.int .i64 a0_0, .int .i64 a0_1, .int .i64 a0_2, .int .i64 a0_3, .int .i64 a0_4, .int .i64 a0_5]) (t := 64) ?hr ?_; (case hd => rfl); (case hg => rfl); (case hr => first | (go_simp; done) | (go_simp; rfl)); intro gb982 hg w34 hbox hb; have n0_ := bS HB hb; have n1_ := aM (hbox); have n2_ := bZ hg HB; have n3_ := bZ hg HB; clear HB; have HB := n0_; have BK982 := n1_; have GW982 := n2_; have GE982 := n3_; clear n0_ n1_ n2_ n3_; clear hb hbox hg) | ((with_reducible refine gate_dst (N := 2) rfl ?_); refine box_event ?hg (N := 2) ?hd (cs := #[.int .i64 0, .int .i64 0, .int .i64 0, .int .i64 0, .int .i64 0, .int .i64 0]) (t := 64) ?hr ?_; (case hd => rfl); (case hg => rfl); (case hr => first | (go_simp; done) | (go_simp; rfl)); intro gb983 hg w35 hbox hb; have n0_ := bB BK982 hb; have n1_ := bS HB hb; have n2_ := aM (hbox); have n3_ := bZ hg HB; have n4_ := bZ hg HB; have n5_ := nL hg BK982; have n6_ := nG hg BK982; clear BK982; clear HB; have BK982 := n0_; have HB := n1_; have BK983 := n2_; have GW983 := n3_; have GE983 := n4_; have NB982_983 := n5_; have NB983_982 := n6_; clear n0_ n1_ n2_ n3_ n4_ n5_ n6_; clear hb hbox hg; have hnb36 := NB982_983.out; have hnc36 := NB983_982.out; obtain ⟨hcz37_0, hcz37_1, hcz37_2, hcz37_3, hcz37_4, hcz37_5⟩ := z6 BK982; obtain ⟨hfz37_0, hfz37_1, hfz37_2, hfz37_3, hfz37_4, hfz37_5⟩ := y6 BK982) | ((with_reducible refine gate_callee (f := 48) rfl ?_); refine goesL_ (some 6) rfl rfl Try.func48 (by kernel_rfl) rfl #[.agg #[.int .i64 a0_0, .int .i64 a0_1, .int .i64 a0_2, .int .i64 a0_3, .int .i64 a0_4, .int .i64 a0_5]] rfl (by first|rfl|(simp only [List.map_toArray, List.map_cons, List.map_nil]; try rfl)) ?_; (with_reducible refine (impl_IsMotion.calls k a0_0 a0_1 a0_2 a0_3 a0_4 a0_5 false _ A2.out).mono ?_); rintro e w38 ⟨rfl, hb⟩; refine ⟨_, rfl, ?_⟩; have n0_ := bB BK982 hb; have n1_ := bB BK983 hb; have n2_ := bS HB hb; clear BK982; clear BK983; clear HB; have BK982 := n0_; have BK983 := n1_; have HB := n2_; clear n0_ n1_ n2_; (try clear hb); obtain ⟨hcz39_0, hcz39_1, hcz39_2, hcz39_3, hcz39_4, hcz39_5⟩ := z6 BK983; obtain ⟨hfz39_0, hfz39_1, hfz39_2, hfz39_3, hfz39_4, hfz39_5⟩ := y6 BK983))
  refine bodyPost_ret (results_ct rfl _ _ gb983 64 #[.int .i64 0, .int .i64 0, .int .i64 0, .int .i64 0, .int .i64 0, .int .i64 0] (0, 0) _ rfl (by (with_reducible repeat (first|apply kN|apply kD|apply kA)); refine blk_put (cs := #[.int .i64 0, .int .i64 0, .int .i64 0, .int .i64 0, .int .i64 0, .int .i64 0]) ?_ 5 _ rfl; (with_reducible repeat (first|apply kN|apply kD|apply kA)); refine blk_put (cs := #[.int .i64 0, .int .i64 0, .int .i64 0, .int .i64 0, .int .i64 0, .int .i64 0]) ?_ 4 _ rfl; (with_reducible repeat (first|apply kN|apply kD|apply kA)); refine blk_put (cs := #[.int .i64 0, .int .i64 0, .int .i64 0, .int .i64 0, .int .i64 0, .int .i64 0]) ?_ 3 _ rfl; (with_reducible repeat (first|apply kN|apply kD|apply kA)); refine blk_put (cs := #[.int .i64 0, .int .i64 0, .int .i64 0, .int .i64 0, .int .i64 0, .int .i64 0]) ?_ 2 _ rfl; (with_reducible repeat (first|apply kN|apply kD|apply kA)); refine blk_put (cs := #[.int .i64 0, .int .i64 0, .int .i64 0, .int .i64 0, .int .i64 0, .int .i64 0]) ?_ 1 _ rfl; (with_reducible repeat (first|apply kN|apply kD|apply kA)); refine blk_put (cs := #[.int .i64 0, .int .i64 0, .int .i64 0, .int .i64 0, .int .i64 0, .int .i64 0]) ?_ 0 _ rfl; (with_reducible repeat (first|apply kN|apply kD|apply kA)); exact BK983.out) Try.underlying64 rfl (by kernel_rfl)) rfl ?_
  exact ⟨by first|rfl|(simp [*, errW_none, errW_some] <;> rfl), by repeat (first | (with_reducible first | exact HB.out | apply bA|apply bN|apply b1 | refine below_set ?_ (Aside0.out (by assumption))) | exact HB.out)⟩

end Go.Proofs.Ytcjchihnopmplaa.F

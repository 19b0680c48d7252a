import Derived.Test.YtcjchihnopmplaaO0
import Derived.Test.YtcjchihnopmplaaO1
import Derived.Test.YtcjchihnopmplaaO3
import Derived.Test.YtcjchihnopmplaaO4
namespace Go.Proofs.Ytcjchihnopmplaa.F
open Go.RowKit Go.Proofs.YtcjchihnopmplaaW.PrintWords Go.Proofs.YtcjchihnopmplaaW.PrintLast Go.Proofs.YtcjchihnopmplaaW.PrintMore
attribute [local go_sem] max2_int min2_int max_two min_two max_three min_three max_four min_four   -- for this text's walks alone
set_option linter.unusedVariables false
set_option linter.unusedSimpArgs false

def spec_l05Compose.f (a0_0 : Int) (a0_1 : Int) (a0_2 : Int) (a0_3 : Int) (a0_4 : Int) (a0_5 : Int) (a1_0 : Int) (a1_1 : Int) (a1_2 : Int) (a1_3 : Int) (a1_4 : Int) (a1_5 : Int) : Option (Int × Int × Int × Int × Int × Int) := (spec_l02Multiply.f a0_0 a0_1 a0_2 a0_3 a1_0 a1_1 a1_2 a1_3).bind fun bt933 => ((spec_l02Apply.f a0_0 a0_1 a0_2 a0_3 a1_4 a1_5).bind fun bt937 => ((spec_l01Add.f bt937.1 bt937.2 a0_4 a0_5).bind fun bt939 => (some (bt933.1, bt933.2.1, bt933.2.2.1, bt933.2.2.2, bt939.1, bt939.2))))
def spec_l05Compose.T1 : Bool × List (List Nat × List Nat) := (true, [([], []), ([0], [0]), ([], []), ([2], [2]), ([1, 3], [1, 3]), ([], []), ([5], [5]), ([], []), ([7], [7]), ([6, 8, 4], [6, 8]), ([], []), ([10], [10]), ([9, 11, 9], [9, 11]), ([4, 12], [4, 12]), ([13, 12, 0, 1, 2, 3, 4, 5, 6, 7, 8, 9, 10, 11, 12, 13], [13])])
def spec_l05Compose.B1 : List Nat := [0, 1, 0, 4, 15, 0, 32, 0, 128, 511, 0, 1024, 4095, 8191, 16383]
theorem spec_l05Compose.tab1 : rtab .any (opsOf Try.f108 1) = spec_l05Compose.T1 := by kernel_rfl
theorem spec_l05Compose.bits1 : waitsOk spec_l05Compose.T1.2 spec_l05Compose.B1 = true := by kernel_rfl
set_option maxHeartbeats 8000000 in
set_option maxRecDepth 100000 in
theorem spec_l05Compose.calls (a0_0 : Int) (a0_1 : Int) (a0_2 : Int) (a0_3 : Int) (a0_4 : Int) (a0_5 : Int) (a1_0 : Int) (a1_1 : Int) (a1_2 : Int) (a1_3 : Int) (a1_4 : Int) (a1_5 : Int) (r1 : Int) (r2 : Int) (r3 : Int) (r4 : Int) (r5 : Int) (r6 : Int) (w : World) (h : spec_l05Compose.f a0_0 a0_1 a0_2 a0_3 a0_4 a0_5 a1_0 a1_1 a1_2 a1_3 a1_4 a1_5 = some (r1, r2, r3, r4, r5, r6)) :
  Calls Try.prog 108 #[.agg #[.int .i64 a0_0, .int .i64 a0_1, .int .i64 a0_2, .int .i64 a0_3, .int .i64 a0_4, .int .i64 a0_5], .agg #[.int .i64 a1_0, .int .i64 a1_1, .int .i64 a1_2, .int .i64 a1_3, .int .i64 a1_4, .int .i64 a1_5]] w fun e w' => e = .returned (.agg #[.int .i64 r1, .int .i64 r2, .int .i64 r3, .int .i64 r4, .int .i64 r5, .int .i64 r6]) ∧ Below w.heap.size w w' := by
 have hu64 := Try.underlying64
 have hu51 := Try.underlying51
 have hu47 := Try.underlying47
 have HB := aM (Below.refl w.heap.size w)
 have H : ((spec_l02Multiply.f a0_0 a0_1 a0_2 a0_3 a1_0 a1_1 a1_2 a1_3).bind fun bt933 => ((spec_l02Apply.f a0_0 a0_1 a0_2 a0_3 a1_4 a1_5).bind fun bt937 => ((spec_l01Add.f bt937.1 bt937.2 a0_4 a0_5).bind fun bt939 => (some (bt933.1, bt933.2.1, bt933.2.2.1, bt933.2.2.2, bt939.1, bt939.2))))) = some (r1, r2, r3, r4, r5, r6) := h
 clear h
 replace H := Option.bind_eq_some_iff.mp H
 obtain ⟨⟨t933, t934, t935, t936⟩, A30, H⟩ := H
 try dsimp only at H
 have A3 := aM A30
 clear A30
 replace H := Option.bind_eq_some_iff.mp H
 obtain ⟨⟨t937, t938⟩, A40, H⟩ := H
 try dsimp only at H
 have A4 := aM A40
 clear A40
 replace H := Option.bind_eq_some_iff.mp H
 obtain ⟨⟨t939, t940⟩, A50, H⟩ := H
 try dsimp only at H
 have A5 := aM A50
 clear A50
 simp only [Option.some.injEq, Prod.mk.injEq] at H
 obtain ⟨rfl, rfl, rfl, rfl, rfl, rfl⟩ := H
 go_enter Try.func108, Try.ntmps108
 try go_wp2_with (first | ((with_reducible refine gate_dst (N := 2) rfl ?_); refine box_event ?hg (N := 2) ?hd (cs := #[.int .i64 a0_0, .int .i64 a0_1, .int .i64 a0_2, .int .i64 a0_3, .int .i64 a0_4, .int .i64 a0_5]) (t := 64) ?hr ?_; (case hd => rfl); (case hg => rfl); (case hr => first | (go_simp; done) | (go_simp; rfl)); intro gb930 hg w6 hbox hb; have n0_ := bS HB hb; have n1_ := aM (hbox); have n2_ := bZ hg HB; have n3_ := bZ hg HB; clear HB; have HB := n0_; have BK930 := n1_; have GW930 := n2_; have GE930 := n3_; clear n0_ n1_ n2_ n3_; clear hb hbox hg) | ((with_reducible refine gate_dst (N := 3) rfl ?_); refine box_event ?hg (N := 3) ?hd (cs := #[.int .i64 a1_0, .int .i64 a1_1, .int .i64 a1_2, .int .i64 a1_3, .int .i64 a1_4, .int .i64 a1_5]) (t := 64) ?hr ?_; (case hd => rfl); (case hg => rfl); (case hr => first | (go_simp; done) | (go_simp; rfl)); intro gb931 hg w7 hbox hb; have n0_ := bB BK930 hb; have n1_ := bS HB hb; have n2_ := aM (hbox); have n3_ := bZ hg HB; have n4_ := bZ hg HB; have n5_ := nL hg BK930; have n6_ := nG hg BK930; clear BK930; clear HB; have BK930 := n0_; have HB := n1_; have BK931 := n2_; have GW931 := n3_; have GE931 := n4_; have NB930_931 := n5_; have NB931_930 := n6_; clear n0_ n1_ n2_ n3_ n4_ n5_ n6_; clear hb hbox hg) | ((with_reducible refine gate_dst (N := 4) rfl ?_); refine box_event ?hg (N := 4) ?hd (cs := #[.int .i64 0, .int .i64 0, .int .i64 0, .int .i64 0, .int .i64 0, .int .i64 0]) (t := 64) ?hr ?_; (case hd => rfl); (case hg => rfl); (case hr => first | (go_simp; done) | (go_simp; rfl)); intro gb932 hg w8 hbox hb; have n0_ := bB BK930 hb; have n1_ := bB BK931 hb; have n2_ := bS HB hb; have n3_ := aM (hbox); have n4_ := bZ hg HB; have n5_ := bZ hg HB; have n6_ := nL hg BK930; have n7_ := nG hg BK930; have n8_ := nL hg BK931; have n9_ := nG hg BK931; clear BK930; clear BK931; clear HB; have BK930 := n0_; have BK931 := n1_; have HB := n2_; have BK932 := n3_; have GW932 := n4_; have GE932 := n5_; have NB930_932 := n6_; have NB932_930 := n7_; have NB931_932 := n8_; have NB932_931 := n9_; clear n0_ n1_ n2_ n3_ n4_ n5_ n6_ n7_ n8_ n9_; clear hb hbox hg))
 have n0_ := aM (blk_drew BK930.out)
 have n1_ := aM (blk_drew BK931.out)
 have n2_ := aM (blk_drew BK932.out)
 have n3_ := aM (below_drew1 HB.out)
 clear BK930
 clear BK931
 clear BK932
 clear HB
 have BK930 := n0_
 have BK931 := n1_
 have BK932 := n2_
 have HB := n3_
 clear n0_ n1_ n2_ n3_
 refine start_ (n := 15) (S := fun w' => w'.cell? ⟨gb930, 0, none⟩ = some (.int .i64 a0_0) ∧ w'.cell? ⟨gb930, 1, none⟩ = some (.int .i64 a0_1) ∧ w'.cell? ⟨gb930, 2, none⟩ = some (.int .i64 a0_2) ∧ w'.cell? ⟨gb930, 3, none⟩ = some (.int .i64 a0_3) ∧ w'.cell? ⟨gb930, 4, none⟩ = some (.int .i64 a0_4) ∧ w'.cell? ⟨gb930, 5, none⟩ = some (.int .i64 a0_5) ∧ w'.cell? ⟨gb931, 0, none⟩ = some (.int .i64 a1_0) ∧ w'.cell? ⟨gb931, 1, none⟩ = some (.int .i64 a1_1) ∧ w'.cell? ⟨gb931, 2, none⟩ = some (.int .i64 a1_2) ∧ w'.cell? ⟨gb931, 3, none⟩ = some (.int .i64 a1_3) ∧ w'.cell? ⟨gb931, 4, none⟩ = some (.int .i64 a1_4) ∧ w'.cell? ⟨gb931, 5, none⟩ = some (.int .i64 a1_5)) (ds := []) #[false, false, false, false, false, false, false, false, false, false, false, false, false, false, false] (by kernel_rfl) rfl rfl ⟨(blk_cell BK930.out 0).trans rfl, (blk_cell BK930.out 1).trans rfl, (blk_cell BK930.out 2).trans rfl, (blk_cell BK930.out 3).trans rfl, (blk_cell BK930.out 4).trans rfl, (blk_cell BK930.out 5).trans rfl, (blk_cell BK931.out 0).trans rfl, (blk_cell BK931.out 1).trans rfl, (blk_cell BK931.out 2).trans rfl, (blk_cell BK931.out 3).trans rfl, (blk_cell BK931.out 4).trans rfl, (blk_cell BK931.out 5).trans rfl⟩ (fun hHeld => ?_); refine with_tabW spec_l05Compose.tab1 spec_l05Compose.bits1 (fun HT_ HW_ => ?_)
 generalize w8.drew = w9 at BK930 BK931 BK932 HB hHeld ⊢
 refine pure_ (i := 0) (N := some 5) (v := ?_) (a' := ?_) #[true, false, false, false, false, false, false, false, false, false, false, false, false, false, false] rfl rfl (any_of HT_.out (by kernel_rfl)) (fun _ _ _ h => h) (Or.inl ⟨by rfl, ?_⟩) ?_ ?_
 rotate_left
 ·intro w'
  go_simp
  with_reducible rfl
 rotate_left
 ·simp only [Act.put, List.setIfInBounds_toArray, List.set_cons_zero, List.set_cons_succ, i64_w, i32_w]
  rfl
 refine pure_ (i := 2) (N := some 7) (v := ?_) (a' := ?_) #[true, false, true, false, false, false, false, false, false, false, false, false, false, false, false] rfl rfl (any_of HT_.out (by kernel_rfl)) (fun _ _ _ h => h) (Or.inl ⟨by rfl, ?_⟩) ?_ ?_
 rotate_left
 ·intro w'
  go_simp
  with_reducible rfl
 rotate_left
 ·simp only [Act.put, List.setIfInBounds_toArray, List.set_cons_zero, List.set_cons_succ, i64_w, i32_w]
  rfl
 refine pure_ (i := 5) (N := some 10) (v := ?_) (a' := ?_) #[true, false, true, false, false, true, false, false, false, false, false, false, false, false, false] rfl rfl (any_of HT_.out (by kernel_rfl)) (fun _ _ _ h => h) (Or.inl ⟨by rfl, ?_⟩) ?_ ?_
 rotate_left
 ·intro w'
  go_simp
  with_reducible rfl
 rotate_left
 ·simp only [Act.put, List.setIfInBounds_toArray, List.set_cons_zero, List.set_cons_succ, i64_w, i32_w]
  rfl
 refine pure_ (i := 7) (N := some 12) (v := ?_) (a' := ?_) #[true, false, true, false, false, true, false, true, false, false, false, false, false, false, false] rfl rfl (any_of HT_.out (by kernel_rfl)) (fun _ _ _ h => h) (Or.inl ⟨by rfl, ?_⟩) ?_ ?_
 rotate_left
 ·intro w'
  go_simp
  with_reducible rfl
 rotate_left
 ·simp only [Act.put, List.setIfInBounds_toArray, List.set_cons_zero, List.set_cons_succ, i64_w, i32_w]
  rfl
 refine pure_ (i := 10) (N := some 15) (v := ?_) (a' := ?_) #[true, false, true, false, false, true, false, true, false, false, true, false, false, false, false] rfl rfl (any_of HT_.out (by kernel_rfl)) (fun _ _ _ h => h) (Or.inl ⟨by rfl, ?_⟩) ?_ ?_
 rotate_left
 ·intro w'
  go_simp
  with_reducible rfl
 rotate_left
 ·simp only [Act.put, List.setIfInBounds_toArray, List.set_cons_zero, List.set_cons_succ, i64_w, i32_w]
  rfl
 refine take_ (i := 1) (N := some 6) (v := ?_) (a' := ?_) #[true, true, true, false, false, true, false, true, false, false, true, false, false, false, false] rfl rfl (take_ofW HT_.out HW_.out (by kernel_rfl)) (fun _ _ _ h => h) (Or.inl ⟨by rfl, ?_⟩) hHeld ?_ ?_
 rotate_left
 ·rintro w' ⟨s0, s1, s2, s3, s4, s5, s6, s7, s8, s9, s10, s11⟩
  go_simp
  with_reducible rfl
 rotate_left
 ·simp only [Act.put, List.setIfInBounds_toArray, List.set_cons_zero, List.set_cons_succ, i64_w, i32_w]
  rfl
 refine take_ (i := 3) (N := some 8) (v := ?_) (a' := ?_) #[true, true, true, true, false, true, false, true, false, false, true, false, false, false, false] rfl rfl (take_ofW HT_.out HW_.out (by kernel_rfl)) (fun _ _ _ h => h) (Or.inl ⟨by rfl, ?_⟩) hHeld ?_ ?_
 rotate_left
 ·rintro w' ⟨s0, s1, s2, s3, s4, s5, s6, s7, s8, s9, s10, s11⟩
  go_simp
  with_reducible rfl
 rotate_left
 ·simp only [Act.put, List.setIfInBounds_toArray, List.set_cons_zero, List.set_cons_succ, i64_w, i32_w]
  rfl
 refine take_ (i := 6) (N := some 11) (v := ?_) (a' := ?_) #[true, true, true, true, false, true, true, true, false, false, true, false, false, false, false] rfl rfl (take_ofW HT_.out HW_.out (by kernel_rfl)) (fun _ _ _ h => h) (Or.inl ⟨by rfl, ?_⟩) hHeld ?_ ?_
 rotate_left
 ·rintro w' ⟨s0, s1, s2, s3, s4, s5, s6, s7, s8, s9, s10, s11⟩
  go_simp
  with_reducible rfl
 rotate_left
 ·simp only [Act.put, List.setIfInBounds_toArray, List.set_cons_zero, List.set_cons_succ, i64_w, i32_w]
  rfl
 refine take_ (i := 8) (N := some 13) (v := ?_) (a' := ?_) #[true, true, true, true, false, true, true, true, true, false, true, false, false, false, false] rfl rfl (take_ofW HT_.out HW_.out (by kernel_rfl)) (fun _ _ _ h => h) (Or.inl ⟨by rfl, ?_⟩) hHeld ?_ ?_
 rotate_left
 ·rintro w' ⟨s0, s1, s2, s3, s4, s5, s6, s7, s8, s9, s10, s11⟩
  go_simp
  with_reducible rfl
 rotate_left
 ·simp only [Act.put, List.setIfInBounds_toArray, List.set_cons_zero, List.set_cons_succ, i64_w, i32_w]
  rfl
 refine take_ (i := 11) (N := some 16) (v := ?_) (a' := ?_) #[true, true, true, true, false, true, true, true, true, false, true, true, false, false, false] rfl rfl (take_ofW HT_.out HW_.out (by kernel_rfl)) (fun _ _ _ h => h) (Or.inl ⟨by rfl, ?_⟩) hHeld ?_ ?_
 rotate_left
 ·rintro w' ⟨s0, s1, s2, s3, s4, s5, s6, s7, s8, s9, s10, s11⟩
  go_simp
  with_reducible rfl
 rotate_left
 ·simp only [Act.put, List.setIfInBounds_toArray, List.set_cons_zero, List.set_cons_succ, i64_w, i32_w]
  rfl
 refine one_ (i := 4) (N := some 9) #[true, true, true, true, true, true, true, true, true, false, true, true, false, false, false] rfl rfl (one_of HT_.out (by kernel_rfl)) (by decide) (fun K hK => ?_)
 refine goes_ Try.func92 (by kernel_rfl) rfl #[.agg #[.int .i64 a0_0, .int .i64 a0_1, .int .i64 a0_2, .int .i64 a0_3], .agg #[.int .i64 a1_0, .int .i64 a1_1, .int .i64 a1_2, .int .i64 a1_3]] (by rfl) rfl rfl (by first|rfl|(simp only [List.map_toArray, List.map_cons, List.map_nil]; try rfl)) ?_
 with_reducible refine (spec_l02Multiply.calls a0_0 a0_1 a0_2 a0_3 a1_0 a1_1 a1_2 a1_3 t933 t934 t935 t936 _ A3.out).mono ?_
 rintro e w10 ⟨rfl, hb⟩
 refine ⟨_, rfl, ?_⟩
 have n0_ := bB BK930 hb
 have n1_ := bB BK931 hb
 have n2_ := bB BK932 hb
 have n3_ := bS HB hb
 clear BK930
 clear BK931
 clear BK932
 clear HB
 have BK930 := n0_
 have BK931 := n1_
 have BK932 := n2_
 have HB := n3_
 clear n0_ n1_ n2_ n3_
 (try clear hb)
 (try clear hb2)
 (try clear hk)
 (try clear hi)
 refine hK.out _ _ ⟨(blk_cell BK930.out 0).trans rfl, (blk_cell BK930.out 1).trans rfl, (blk_cell BK930.out 2).trans rfl, (blk_cell BK930.out 3).trans rfl, (blk_cell BK930.out 4).trans rfl, (blk_cell BK930.out 5).trans rfl, (blk_cell BK931.out 0).trans rfl, (blk_cell BK931.out 1).trans rfl, (blk_cell BK931.out 2).trans rfl, (blk_cell BK931.out 3).trans rfl, (blk_cell BK931.out 4).trans rfl, (blk_cell BK931.out 5).trans rfl⟩ (fun hHeld => ?_)
 clear hK K
 refine norm_ (a' := ?_) ?_ ?_
 rotate_left
 ·show Act.put _ (some 9) _ = _
  simp only [Act.put, List.setIfInBounds_toArray, List.set_cons_zero, List.set_cons_succ, i64_w, i32_w]
  rfl
 refine one_ (i := 9) (N := some 14) #[true, true, true, true, true, true, true, true, true, true, true, true, false, false, false] rfl rfl (one_of HT_.out (by kernel_rfl)) (by decide) (fun K hK => ?_)
 refine goes_ Try.func100 (by kernel_rfl) rfl #[.agg #[.int .i64 a0_0, .int .i64 a0_1, .int .i64 a0_2, .int .i64 a0_3], .agg #[.int .i64 a1_4, .int .i64 a1_5]] (by rfl) rfl rfl (by first|rfl|(simp only [List.map_toArray, List.map_cons, List.map_nil]; try rfl)) ?_
 with_reducible refine (spec_l02Apply.calls a0_0 a0_1 a0_2 a0_3 a1_4 a1_5 t937 t938 _ A4.out).mono ?_
 rintro e w11 ⟨rfl, hb⟩
 refine ⟨_, rfl, ?_⟩
 have n0_ := bB BK930 hb
 have n1_ := bB BK931 hb
 have n2_ := bB BK932 hb
 have n3_ := bS HB hb
 clear BK930
 clear BK931
 clear BK932
 clear HB
 have BK930 := n0_
 have BK931 := n1_
 have BK932 := n2_
 have HB := n3_
 clear n0_ n1_ n2_ n3_
 (try clear hb)
 (try clear hb2)
 (try clear hk)
 (try clear hi)
 refine hK.out _ _ ⟨(blk_cell BK930.out 0).trans rfl, (blk_cell BK930.out 1).trans rfl, (blk_cell BK930.out 2).trans rfl, (blk_cell BK930.out 3).trans rfl, (blk_cell BK930.out 4).trans rfl, (blk_cell BK930.out 5).trans rfl, (blk_cell BK931.out 0).trans rfl, (blk_cell BK931.out 1).trans rfl, (blk_cell BK931.out 2).trans rfl, (blk_cell BK931.out 3).trans rfl, (blk_cell BK931.out 4).trans rfl, (blk_cell BK931.out 5).trans rfl⟩ (fun hHeld => ?_)
 clear hK K
 refine norm_ (a' := ?_) ?_ ?_
 rotate_left
 ·show Act.put _ (some 14) _ = _
  simp only [Act.put, List.setIfInBounds_toArray, List.set_cons_zero, List.set_cons_succ, i64_w, i32_w]
  rfl
 refine one_ (i := 12) (N := some 17) #[true, true, true, true, true, true, true, true, true, true, true, true, true, false, false] rfl rfl (one_of HT_.out (by kernel_rfl)) (by decide) (fun K hK => ?_)
 refine goes_ Try.func143 (by kernel_rfl) rfl #[.agg #[.int .i64 t937, .int .i64 t938], .agg #[.int .i64 a0_4, .int .i64 a0_5]] (by rfl) rfl rfl (by first|rfl|(simp only [List.map_toArray, List.map_cons, List.map_nil]; try rfl)) ?_
 with_reducible refine (spec_l01Add.calls t937 t938 a0_4 a0_5 t939 t940 _ A5.out).mono ?_
 rintro e w12 ⟨rfl, hb⟩
 refine ⟨_, rfl, ?_⟩
 have n0_ := bB BK930 hb
 have n1_ := bB BK931 hb
 have n2_ := bB BK932 hb
 have n3_ := bS HB hb
 clear BK930
 clear BK931
 clear BK932
 clear HB
 have BK930 := n0_
 have BK931 := n1_
 have BK932 := n2_
 have HB := n3_
 clear n0_ n1_ n2_ n3_
 (try clear hb)
 (try clear hb2)
 (try clear hk)
 (try clear hi)
 refine hK.out _ _ ⟨(blk_cell BK930.out 0).trans rfl, (blk_cell BK930.out 1).trans rfl, (blk_cell BK930.out 2).trans rfl, (blk_cell BK930.out 3).trans rfl, (blk_cell BK930.out 4).trans rfl, (blk_cell BK930.out 5).trans rfl, (blk_cell BK931.out 0).trans rfl, (blk_cell BK931.out 1).trans rfl, (blk_cell BK931.out 2).trans rfl, (blk_cell BK931.out 3).trans rfl, (blk_cell BK931.out 4).trans rfl, (blk_cell BK931.out 5).trans rfl⟩ (fun hHeld => ?_)
 clear hK K
 refine norm_ (a' := ?_) ?_ ?_
 rotate_left
 ·show Act.put _ (some 17) _ = _
  simp only [Act.put, List.setIfInBounds_toArray, List.set_cons_zero, List.set_cons_succ, i64_w, i32_w]
  rfl
 refine pure_ (i := 13) (N := some 18) (v := ?_) (a' := ?_) #[true, true, true, true, true, true, true, true, true, true, true, true, true, true, false] rfl rfl (any_of HT_.out (by kernel_rfl)) (fun _ _ _ h => h) (Or.inl ⟨by rfl, ?_⟩) ?_ ?_
 rotate_left
 ·intro w'
  go_simp
  with_reducible rfl
 rotate_left
 ·simp only [Act.put, List.setIfInBounds_toArray, List.set_cons_zero, List.set_cons_succ, i64_w, i32_w]
  rfl
 refine one_ (i := 14) (N := none) #[true, true, true, true, true, true, true, true, true, true, true, true, true, true, true] rfl rfl (one_of HT_.out (by kernel_rfl)) (by decide) (fun K hK => ?_)
 have hs13 : w12.cell? ⟨gb932, 0, none⟩ = some (.int .i64 0) := (blk_cell BK932.out 0).trans rfl
 have hfs13 := blk_frozen BK932.out 0
 have hns13_0 := NB930_932.out
 have hns13_1 := NB931_932.out
 have hms13_0 := NB932_930.out
 have hms13_1 := NB932_931.out
 have hs14 : w12.cell? ⟨gb932, 1, none⟩ = some (.int .i64 0) := (blk_cell BK932.out 1).trans rfl
 have hfs14 := blk_frozen BK932.out 1
 have hns14_0 := NB930_932.out
 have hns14_1 := NB931_932.out
 have hms14_0 := NB932_930.out
 have hms14_1 := NB932_931.out
 have hs15 : w12.cell? ⟨gb932, 2, none⟩ = some (.int .i64 0) := (blk_cell BK932.out 2).trans rfl
 have hfs15 := blk_frozen BK932.out 2
 have hns15_0 := NB930_932.out
 have hns15_1 := NB931_932.out
 have hms15_0 := NB932_930.out
 have hms15_1 := NB932_931.out
 have hs16 : w12.cell? ⟨gb932, 3, none⟩ = some (.int .i64 0) := (blk_cell BK932.out 3).trans rfl
 have hfs16 := blk_frozen BK932.out 3
 have hns16_0 := NB930_932.out
 have hns16_1 := NB931_932.out
 have hms16_0 := NB932_930.out
 have hms16_1 := NB932_931.out
 have hs17 : w12.cell? ⟨gb932, 4, none⟩ = some (.int .i64 0) := (blk_cell BK932.out 4).trans rfl
 have hfs17 := blk_frozen BK932.out 4
 have hns17_0 := NB930_932.out
 have hns17_1 := NB931_932.out
 have hms17_0 := NB932_930.out
 have hms17_1 := NB932_931.out
 have hs18 : w12.cell? ⟨gb932, 5, none⟩ = some (.int .i64 0) := (blk_cell BK932.out 5).trans rfl
 have hfs18 := blk_frozen BK932.out 5
 have hns18_0 := NB930_932.out
 have hns18_1 := NB931_932.out
 have hms18_0 := NB932_930.out
 have hms18_1 := NB932_931.out
 refine skip_ (w1 := ?_) (by rfl) rfl ?_ ?_
 rotate_left
 ·go_simp
  rfl
 refine hK.out _ _ ⟨((cell_far (p := ⟨gb932, _, none⟩) NB930_932.out _).trans (((cell_far (p := ⟨gb932, _, none⟩) NB930_932.out _).trans (((cell_far (p := ⟨gb932, _, none⟩) NB930_932.out _).trans (((cell_far (p := ⟨gb932, _, none⟩) NB930_932.out _).trans (((cell_far (p := ⟨gb932, _, none⟩) NB930_932.out _).trans (((cell_far (p := ⟨gb932, _, none⟩) NB930_932.out _).trans (hHeld.1)))))))))))), ((cell_far (p := ⟨gb932, _, none⟩) NB930_932.out _).trans (((cell_far (p := ⟨gb932, _, none⟩) NB930_932.out _).trans (((cell_far (p := ⟨gb932, _, none⟩) NB930_932.out _).trans (((cell_far (p := ⟨gb932, _, none⟩) NB930_932.out _).trans (((cell_far (p := ⟨gb932, _, none⟩) NB930_932.out _).trans (((cell_far (p := ⟨gb932, _, none⟩) NB930_932.out _).trans (hHeld.2.1)))))))))))), ((cell_far (p := ⟨gb932, _, none⟩) NB930_932.out _).trans (((cell_far (p := ⟨gb932, _, none⟩) NB930_932.out _).trans (((cell_far (p := ⟨gb932, _, none⟩) NB930_932.out _).trans (((cell_far (p := ⟨gb932, _, none⟩) NB930_932.out _).trans (((cell_far (p := ⟨gb932, _, none⟩) NB930_932.out _).trans (((cell_far (p := ⟨gb932, _, none⟩) NB930_932.out _).trans (hHeld.2.2.1)))))))))))), ((cell_far (p := ⟨gb932, _, none⟩) NB930_932.out _).trans (((cell_far (p := ⟨gb932, _, none⟩) NB930_932.out _).trans (((cell_far (p := ⟨gb932, _, none⟩) NB930_932.out _).trans (((cell_far (p := ⟨gb932, _, none⟩) NB930_932.out _).trans (((cell_far (p := ⟨gb932, _, none⟩) NB930_932.out _).trans (((cell_far (p := ⟨gb932, _, none⟩) NB930_932.out _).trans (hHeld.2.2.2.1)))))))))))), ((cell_far (p := ⟨gb932, _, none⟩) NB930_932.out _).trans (((cell_far (p := ⟨gb932, _, none⟩) NB930_932.out _).trans (((cell_far (p := ⟨gb932, _, none⟩) NB930_932.out _).trans (((cell_far (p := ⟨gb932, _, none⟩) NB930_932.out _).trans (((cell_far (p := ⟨gb932, _, none⟩) NB930_932.out _).trans (((cell_far (p := ⟨gb932, _, none⟩) NB930_932.out _).trans (hHeld.2.2.2.2.1)))))))))))), ((cell_far (p := ⟨gb932, _, none⟩) NB930_932.out _).trans (((cell_far (p := ⟨gb932, _, none⟩) NB930_932.out _).trans (((cell_far (p := ⟨gb932, _, none⟩) NB930_932.out _).trans (((cell_far (p := ⟨gb932, _, none⟩) NB930_932.out _).trans (((cell_far (p := ⟨gb932, _, none⟩) NB930_932.out _).trans (((cell_far (p := ⟨gb932, _, none⟩) NB930_932.out _).trans (hHeld.2.2.2.2.2.1)))))))))))), ((cell_far (p := ⟨gb932, _, none⟩) NB931_932.out _).trans (((cell_far (p := ⟨gb932, _, none⟩) NB931_932.out _).trans (((cell_far (p := ⟨gb932, _, none⟩) NB931_932.out _).trans (((cell_far (p := ⟨gb932, _, none⟩) NB931_932.out _).trans (((cell_far (p := ⟨gb932, _, none⟩) NB931_932.out _).trans (((cell_far (p := ⟨gb932, _, none⟩) NB931_932.out _).trans (hHeld.2.2.2.2.2.2.1)))))))))))), ((cell_far (p := ⟨gb932, _, none⟩) NB931_932.out _).trans (((cell_far (p := ⟨gb932, _, none⟩) NB931_932.out _).trans (((cell_far (p := ⟨gb932, _, none⟩) NB931_932.out _).trans (((cell_far (p := ⟨gb932, _, none⟩) NB931_932.out _).trans (((cell_far (p := ⟨gb932, _, none⟩) NB931_932.out _).trans (((cell_far (p := ⟨gb932, _, none⟩) NB931_932.out _).trans (hHeld.2.2.2.2.2.2.2.1)))))))))))), ((cell_far (p := ⟨gb932, _, none⟩) NB931_932.out _).trans (((cell_far (p := ⟨gb932, _, none⟩) NB931_932.out _).trans (((cell_far (p := ⟨gb932, _, none⟩) NB931_932.out _).trans (((cell_far (p := ⟨gb932, _, none⟩) NB931_932.out _).trans (((cell_far (p := ⟨gb932, _, none⟩) NB931_932.out _).trans (((cell_far (p := ⟨gb932, _, none⟩) NB931_932.out _).trans (hHeld.2.2.2.2.2.2.2.2.1)))))))))))), ((cell_far (p := ⟨gb932, _, none⟩) NB931_932.out _).trans (((cell_far (p := ⟨gb932, _, none⟩) NB931_932.out _).trans (((cell_far (p := ⟨gb932, _, none⟩) NB931_932.out _).trans (((cell_far (p := ⟨gb932, _, none⟩) NB931_932.out _).trans (((cell_far (p := ⟨gb932, _, none⟩) NB931_932.out _).trans (((cell_far (p := ⟨gb932, _, none⟩) NB931_932.out _).trans (hHeld.2.2.2.2.2.2.2.2.2.1)))))))))))), ((cell_far (p := ⟨gb932, _, none⟩) NB931_932.out _).trans (((cell_far (p := ⟨gb932, _, none⟩) NB931_932.out _).trans (((cell_far (p := ⟨gb932, _, none⟩) NB931_932.out _).trans (((cell_far (p := ⟨gb932, _, none⟩) NB931_932.out _).trans (((cell_far (p := ⟨gb932, _, none⟩) NB931_932.out _).trans (((cell_far (p := ⟨gb932, _, none⟩) NB931_932.out _).trans (hHeld.2.2.2.2.2.2.2.2.2.2.1)))))))))))), ((cell_far (p := ⟨gb932, _, none⟩) NB931_932.out _).trans (((cell_far (p := ⟨gb932, _, none⟩) NB931_932.out _).trans (((cell_far (p := ⟨gb932, _, none⟩) NB931_932.out _).trans (((cell_far (p := ⟨gb932, _, none⟩) NB931_932.out _).trans (((cell_far (p := ⟨gb932, _, none⟩) NB931_932.out _).trans (((cell_far (p := ⟨gb932, _, none⟩) NB931_932.out _).trans (hHeld.2.2.2.2.2.2.2.2.2.2.2))))))))))))⟩ (fun hHeld => ?_)
 clear hK K
 refine done_ (done_of HT_.out (by kernel_rfl)) ?_
 try go_wp2
 refine bodyPost_ret (results_cell_row rfl _ _ gb932 64 #[.int .i64 t933, .int .i64 t934, .int .i64 t935, .int .i64 t936, .int .i64 t939, .int .i64 t940] (0, 0) _ rfl (by (with_reducible repeat (first|apply kN|apply kD|apply kA)); refine blk_put (cs := #[.int .i64 t933, .int .i64 t934, .int .i64 t935, .int .i64 t936, .int .i64 t939, .int .i64 0]) ?_ 5 _ rfl; (with_reducible repeat (first|apply kN|apply kD|apply kA)); refine blk_put (cs := #[.int .i64 t933, .int .i64 t934, .int .i64 t935, .int .i64 t936, .int .i64 0, .int .i64 0]) ?_ 4 _ rfl; (with_reducible repeat (first|apply kN|apply kD|apply kA)); refine blk_put (cs := #[.int .i64 t933, .int .i64 t934, .int .i64 t935, .int .i64 0, .int .i64 0, .int .i64 0]) ?_ 3 _ rfl; (with_reducible repeat (first|apply kN|apply kD|apply kA)); refine blk_put (cs := #[.int .i64 t933, .int .i64 t934, .int .i64 0, .int .i64 0, .int .i64 0, .int .i64 0]) ?_ 2 _ rfl; (with_reducible repeat (first|apply kN|apply kD|apply kA)); refine blk_put (cs := #[.int .i64 t933, .int .i64 0, .int .i64 0, .int .i64 0, .int .i64 0, .int .i64 0]) ?_ 1 _ rfl; (with_reducible repeat (first|apply kN|apply kD|apply kA)); refine blk_put (cs := #[.int .i64 0, .int .i64 0, .int .i64 0, .int .i64 0, .int .i64 0, .int .i64 0]) ?_ 0 _ rfl; (with_reducible repeat (first|apply kN|apply kD|apply kA)); exact BK932.out) Try.underlying64 rfl (by kernel_rfl)) rfl ?_
 exact ⟨by first|rfl|(simp [*, errW_none, errW_some] <;> rfl), by repeat (first | (with_reducible first | exact HB.out | apply bA|apply bN|apply b1 | refine below_set ?_ (Aside0.out (by assumption))) | exact HB.out)⟩

end Go.Proofs.Ytcjchihnopmplaa.F

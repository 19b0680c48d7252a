import Derived.Test.YtcjchihnopmplaaO0
import Derived.Test.YtcjchihnopmplaaO1
import Derived.Test.YtcjchihnopmplaaO3
import Derived.Test.YtcjchihnopmplaaO7
import Derived.Test.YtcjchihnopmplaaO8
import Derived.Test.YtcjchihnopmplaaO12
import Derived.Test.YtcjchihnopmplaaO14
namespace Go.Proofs.Ytcjchihnopmplaa.F
open Go.RowKit Go.Proofs.YtcjchihnopmplaaW.PrintWords Go.Proofs.YtcjchihnopmplaaW.PrintLast Go.Proofs.YtcjchihnopmplaaW.PrintMore
attribute [local go_sem] max2_int min2_int max_two min_two max_three min_three max_four min_four   -- for this text's walks alone
set_option linter.unusedVariables false
set_option linter.unusedSimpArgs false

def impl_Motion_apply.f (a0_0 : Int) (a0_1 : Int) (a0_2 : Int) (a0_3 : Int) (a0_4 : Int) (a0_5 : Int) (a1_0 : Int) (a1_1 : Int) : Option (Int × Int) := (impl_Mat_apply.f a0_0 a0_1 a0_2 a0_3 a1_0 a1_1).bind fun bt1036 => ((impl_Vec_add.f bt1036.1 bt1036.2 a0_4 a0_5).bind fun bt1038 => (some (bt1038.1, bt1038.2)))
def impl_Motion_apply.T1 : Bool × List (List Nat × List Nat) := (true, [([], []), ([0], [0]), ([], []), ([1, 2], [1, 2]), ([], []), ([4], [4]), ([3, 5, 3], [3, 5]), ([6, 6, 0, 1, 2, 3, 4, 5, 6], [6])])
def impl_Motion_apply.B1 : List Nat := [0, 1, 0, 7, 0, 16, 63, 127]
theorem impl_Motion_apply.tab1 : rtab .any (opsOf Try.f111 1) = impl_Motion_apply.T1 := by kernel_rfl
theorem impl_Motion_apply.bits1 : waitsOk impl_Motion_apply.T1.2 impl_Motion_apply.B1 = true := by kernel_rfl
set_option maxHeartbeats 8000000 in
set_option maxRecDepth 100000 in
theorem impl_Motion_apply.calls (a0_0 : Int) (a0_1 : Int) (a0_2 : Int) (a0_3 : Int) (a0_4 : Int) (a0_5 : Int) (a1_0 : Int) (a1_1 : Int) (r1 : Int) (r2 : Int) (w : World) (h : impl_Motion_apply.f a0_0 a0_1 a0_2 a0_3 a0_4 a0_5 a1_0 a1_1 = some (r1, r2)) :
  Calls Try.prog 111 #[.agg #[.int .i64 a0_0, .int .i64 a0_1, .int .i64 a0_2, .int .i64 a0_3, .int .i64 a0_4, .int .i64 a0_5], .agg #[.int .i64 a1_0, .int .i64 a1_1]] w fun e w' => e = .returned (.agg #[.int .i64 r1, .int .i64 r2]) ∧ Below w.heap.size w w' := by
 have hu64 := Try.underlying64
 have hu47 := Try.underlying47
 have hu51 := Try.underlying51
 have HB := aM (Below.refl w.heap.size w)
 have H : ((impl_Mat_apply.f a0_0 a0_1 a0_2 a0_3 a1_0 a1_1).bind fun bt1036 => ((impl_Vec_add.f bt1036.1 bt1036.2 a0_4 a0_5).bind fun bt1038 => (some (bt1038.1, bt1038.2)))) = some (r1, r2) := h
 clear h
 replace H := Option.bind_eq_some_iff.mp H
 obtain ⟨⟨t1036, t1037⟩, A30, H⟩ := H
 try dsimp only at H
 have A3 := aM A30
 clear A30
 replace H := Option.bind_eq_some_iff.mp H
 obtain ⟨⟨t1038, t1039⟩, A40, H⟩ := H
 try dsimp only at H
 have A4 := aM A40
 clear A40
 simp only [Option.some.injEq, Prod.mk.injEq] at H
 obtain ⟨rfl, rfl⟩ := H
 go_enter Try.func111, Try.ntmps111
 try go_wp2_with (first | ((with_reducible refine gate_dst (N := 2) rfl ?_); refine box_event ?hg (N := 2) ?hd (cs := #[.int .i64 a0_0, .int .i64 a0_1, .int .i64 a0_2, .int .i64 a0_3, .int .i64 a0_4, .int .i64 a0_5]) (t := 64) ?hr ?_; (case hd => rfl); (case hg => rfl); (case hr => first | (go_simp; done) | (go_simp; rfl)); intro gb1033 hg w5 hbox hb; have n0_ := bS HB hb; have n1_ := aM (hbox); have n2_ := bZ hg HB; have n3_ := bZ hg HB; clear HB; have HB := n0_; have BK1033 := n1_; have GW1033 := n2_; have GE1033 := n3_; clear n0_ n1_ n2_ n3_; clear hb hbox hg) | ((with_reducible refine gate_dst (N := 3) rfl ?_); refine box_event ?hg (N := 3) ?hd (cs := #[.int .i64 a1_0, .int .i64 a1_1]) (t := 47) ?hr ?_; (case hd => rfl); (case hg => rfl); (case hr => first | (go_simp; done) | (go_simp; rfl)); intro gb1034 hg w6 hbox hb; have n0_ := bB BK1033 hb; have n1_ := bS HB hb; have n2_ := aM (hbox); have n3_ := bZ hg HB; have n4_ := bZ hg HB; have n5_ := nL hg BK1033; have n6_ := nG hg BK1033; clear BK1033; clear HB; have BK1033 := n0_; have HB := n1_; have BK1034 := n2_; have GW1034 := n3_; have GE1034 := n4_; have NB1033_1034 := n5_; have NB1034_1033 := n6_; clear n0_ n1_ n2_ n3_ n4_ n5_ n6_; clear hb hbox hg) | ((with_reducible refine gate_dst (N := 4) rfl ?_); refine box_event ?hg (N := 4) ?hd (cs := #[.int .i64 0, .int .i64 0]) (t := 47) ?hr ?_; (case hd => rfl); (case hg => rfl); (case hr => first | (go_simp; done) | (go_simp; rfl)); intro gb1035 hg w7 hbox hb; have n0_ := bB BK1033 hb; have n1_ := bB BK1034 hb; have n2_ := bS HB hb; have n3_ := aM (hbox); have n4_ := bZ hg HB; have n5_ := bZ hg HB; have n6_ := nL hg BK1033; have n7_ := nG hg BK1033; have n8_ := nL hg BK1034; have n9_ := nG hg BK1034; clear BK1033; clear BK1034; clear HB; have BK1033 := n0_; have BK1034 := n1_; have HB := n2_; have BK1035 := n3_; have GW1035 := n4_; have GE1035 := n5_; have NB1033_1035 := n6_; have NB1035_1033 := n7_; have NB1034_1035 := n8_; have NB1035_1034 := n9_; clear n0_ n1_ n2_ n3_ n4_ n5_ n6_ n7_ n8_ n9_; clear hb hbox hg))
 have n0_ := aM (blk_drew BK1033.out)
 have n1_ := aM (blk_drew BK1034.out)
 have n2_ := aM (blk_drew BK1035.out)
 have n3_ := aM (below_drew1 HB.out)
 clear BK1033
 clear BK1034
 clear BK1035
 clear HB
 have BK1033 := n0_
 have BK1034 := n1_
 have BK1035 := n2_
 have HB := n3_
 clear n0_ n1_ n2_ n3_
 refine start_ (n := 8) (S := fun w' => w'.cell? ⟨gb1033, 0, none⟩ = some (.int .i64 a0_0) ∧ w'.cell? ⟨gb1033, 1, none⟩ = some (.int .i64 a0_1) ∧ w'.cell? ⟨gb1033, 2, none⟩ = some (.int .i64 a0_2) ∧ w'.cell? ⟨gb1033, 3, none⟩ = some (.int .i64 a0_3) ∧ w'.cell? ⟨gb1033, 4, none⟩ = some (.int .i64 a0_4) ∧ w'.cell? ⟨gb1033, 5, none⟩ = some (.int .i64 a0_5) ∧ w'.cell? ⟨gb1034, 0, none⟩ = some (.int .i64 a1_0) ∧ w'.cell? ⟨gb1034, 1, none⟩ = some (.int .i64 a1_1)) (ds := []) #[false, false, false, false, false, false, false, false] (by kernel_rfl) rfl rfl ⟨(blk_cell BK1033.out 0).trans rfl, (blk_cell BK1033.out 1).trans rfl, (blk_cell BK1033.out 2).trans rfl, (blk_cell BK1033.out 3).trans rfl, (blk_cell BK1033.out 4).trans rfl, (blk_cell BK1033.out 5).trans rfl, (blk_cell BK1034.out 0).trans rfl, (blk_cell BK1034.out 1).trans rfl⟩ (fun hHeld => ?_); refine with_tabW impl_Motion_apply.tab1 impl_Motion_apply.bits1 (fun HT_ HW_ => ?_)
 generalize w7.drew = w8 at BK1033 BK1034 BK1035 HB hHeld ⊢
 refine pure_ (i := 0) (N := some 5) (v := ?_) (a' := ?_) #[true, false, false, false, false, false, false, false] rfl rfl (any_of HT_.out (by kernel_rfl)) (fun _ _ _ h => h) (Or.inl ⟨by rfl, ?_⟩) ?_ ?_
 rotate_left
 ·intro w'
  go_simp
  with_reducible rfl
 rotate_left
 ·simp only [Act.put, List.setIfInBounds_toArray, List.set_cons_zero, List.set_cons_succ, i64_w, i32_w]
  rfl
 refine pure_ (i := 4) (N := some 9) (v := ?_) (a' := ?_) #[true, false, false, false, true, false, false, false] rfl rfl (any_of HT_.out (by kernel_rfl)) (fun _ _ _ h => h) (Or.inl ⟨by rfl, ?_⟩) ?_ ?_
 rotate_left
 ·intro w'
  go_simp
  with_reducible rfl
 rotate_left
 ·simp only [Act.put, List.setIfInBounds_toArray, List.set_cons_zero, List.set_cons_succ, i64_w, i32_w]
  rfl
 refine take_ (i := 1) (N := some 6) (v := ?_) (a' := ?_) #[true, true, false, false, true, false, false, false] rfl rfl (take_ofW HT_.out HW_.out (by kernel_rfl)) (fun _ _ _ h => h) (Or.inl ⟨by rfl, ?_⟩) hHeld ?_ ?_
 rotate_left
 ·rintro w' ⟨s0, s1, s2, s3, s4, s5, s6, s7⟩
  go_simp
  with_reducible rfl
 rotate_left
 ·simp only [Act.put, List.setIfInBounds_toArray, List.set_cons_zero, List.set_cons_succ, i64_w, i32_w]
  rfl
 refine take_ (i := 2) (N := some 7) (v := ?_) (a' := ?_) #[true, true, true, false, true, false, false, false] rfl rfl (take_ofW HT_.out HW_.out (by kernel_rfl)) (fun _ _ _ h => h) (Or.inl ⟨by rfl, ?_⟩) hHeld ?_ ?_
 rotate_left
 ·rintro w' ⟨s0, s1, s2, s3, s4, s5, s6, s7⟩
  go_simp
  with_reducible rfl
 rotate_left
 ·simp only [Act.put, List.setIfInBounds_toArray, List.set_cons_zero, List.set_cons_succ, i64_w, i32_w]
  rfl
 refine take_ (i := 5) (N := some 10) (v := ?_) (a' := ?_) #[true, true, true, false, true, true, false, false] rfl rfl (take_ofW HT_.out HW_.out (by kernel_rfl)) (fun _ _ _ h => h) (Or.inl ⟨by rfl, ?_⟩) hHeld ?_ ?_
 rotate_left
 ·rintro w' ⟨s0, s1, s2, s3, s4, s5, s6, s7⟩
  go_simp
  with_reducible rfl
 rotate_left
 ·simp only [Act.put, List.setIfInBounds_toArray, List.set_cons_zero, List.set_cons_succ, i64_w, i32_w]
  rfl
 refine one_ (i := 3) (N := some 8) #[true, true, true, true, true, true, false, false] rfl rfl (one_of HT_.out (by kernel_rfl)) (by decide) (fun K hK => ?_)
 refine goes_ Try.func97 (by kernel_rfl) rfl #[.agg #[.int .i64 a0_0, .int .i64 a0_1, .int .i64 a0_2, .int .i64 a0_3], .agg #[.int .i64 a1_0, .int .i64 a1_1]] (by rfl) rfl rfl (by first|rfl|(simp only [List.map_toArray, List.map_cons, List.map_nil]; try rfl)) ?_
 with_reducible refine (impl_Mat_apply.calls a0_0 a0_1 a0_2 a0_3 a1_0 a1_1 t1036 t1037 _ A3.out).mono ?_
 rintro e w9 ⟨rfl, hb⟩
 refine ⟨_, rfl, ?_⟩
 have n0_ := bB BK1033 hb
 have n1_ := bB BK1034 hb
 have n2_ := bB BK1035 hb
 have n3_ := bS HB hb
 clear BK1033
 clear BK1034
 clear BK1035
 clear HB
 have BK1033 := n0_
 have BK1034 := n1_
 have BK1035 := n2_
 have HB := n3_
 clear n0_ n1_ n2_ n3_
 (try clear hb)
 (try clear hb2)
 (try clear hk)
 (try clear hi)
 refine hK.out _ _ ⟨(blk_cell BK1033.out 0).trans rfl, (blk_cell BK1033.out 1).trans rfl, (blk_cell BK1033.out 2).trans rfl, (blk_cell BK1033.out 3).trans rfl, (blk_cell BK1033.out 4).trans rfl, (blk_cell BK1033.out 5).trans rfl, (blk_cell BK1034.out 0).trans rfl, (blk_cell BK1034.out 1).trans rfl⟩ (fun hHeld => ?_)
 clear hK K
 refine norm_ (a' := ?_) ?_ ?_
 rotate_left
 ·show Act.put _ (some 8) _ = _
  simp only [Act.put, List.setIfInBounds_toArray, List.set_cons_zero, List.set_cons_succ, i64_w, i32_w]
  rfl
 refine one_ (i := 6) (N := some 11) #[true, true, true, true, true, true, true, false] rfl rfl (one_of HT_.out (by kernel_rfl)) (by decide) (fun K hK => ?_)
 refine goes_ Try.func140 (by kernel_rfl) rfl #[.agg #[.int .i64 t1036, .int .i64 t1037], .agg #[.int .i64 a0_4, .int .i64 a0_5]] (by rfl) rfl rfl (by first|rfl|(simp only [List.map_toArray, List.map_cons, List.map_nil]; try rfl)) ?_
 with_reducible refine (impl_Vec_add.calls t1036 t1037 a0_4 a0_5 t1038 t1039 _ A4.out).mono ?_
 rintro e w10 ⟨rfl, hb⟩
 refine ⟨_, rfl, ?_⟩
 have n0_ := bB BK1033 hb
 have n1_ := bB BK1034 hb
 have n2_ := bB BK1035 hb
 have n3_ := bS HB hb
 clear BK1033
 clear BK1034
 clear BK1035
 clear HB
 have BK1033 := n0_
 have BK1034 := n1_
 have BK1035 := n2_
 have HB := n3_
 clear n0_ n1_ n2_ n3_
 (try clear hb)
 (try clear hb2)
 (try clear hk)
 (try clear hi)
 refine hK.out _ _ ⟨(blk_cell BK1033.out 0).trans rfl, (blk_cell BK1033.out 1).trans rfl, (blk_cell BK1033.out 2).trans rfl, (blk_cell BK1033.out 3).trans rfl, (blk_cell BK1033.out 4).trans rfl, (blk_cell BK1033.out 5).trans rfl, (blk_cell BK1034.out 0).trans rfl, (blk_cell BK1034.out 1).trans rfl⟩ (fun hHeld => ?_)
 clear hK K
 refine norm_ (a' := ?_) ?_ ?_
 rotate_left
 ·show Act.put _ (some 11) _ = _
  simp only [Act.put, List.setIfInBounds_toArray, List.set_cons_zero, List.set_cons_succ, i64_w, i32_w]
  rfl
 refine one_ (i := 7) (N := none) #[true, true, true, true, true, true, true, true] rfl rfl (one_of HT_.out (by kernel_rfl)) (by decide) (fun K hK => ?_)
 have hs11 : w10.cell? ⟨gb1035, 0, none⟩ = some (.int .i64 0) := (blk_cell BK1035.out 0).trans rfl
 have hfs11 := blk_frozen BK1035.out 0
 have hns11_0 := NB1033_1035.out
 have hns11_1 := NB1034_1035.out
 have hms11_0 := NB1035_1033.out
 have hms11_1 := NB1035_1034.out
 have hs12 : w10.cell? ⟨gb1035, 1, none⟩ = some (.int .i64 0) := (blk_cell BK1035.out 1).trans rfl
 have hfs12 := blk_frozen BK1035.out 1
 have hns12_0 := NB1033_1035.out
 have hns12_1 := NB1034_1035.out
 have hms12_0 := NB1035_1033.out
 have hms12_1 := NB1035_1034.out
 refine skip_ (w1 := ?_) (by rfl) rfl ?_ ?_
 rotate_left
 ·go_simp
  rfl
 refine hK.out _ _ ⟨((cell_far (p := ⟨gb1035, _, none⟩) NB1033_1035.out _).trans (((cell_far (p := ⟨gb1035, _, none⟩) NB1033_1035.out _).trans (hHeld.1)))), ((cell_far (p := ⟨gb1035, _, none⟩) NB1033_1035.out _).trans (((cell_far (p := ⟨gb1035, _, none⟩) NB1033_1035.out _).trans (hHeld.2.1)))), ((cell_far (p := ⟨gb1035, _, none⟩) NB1033_1035.out _).trans (((cell_far (p := ⟨gb1035, _, none⟩) NB1033_1035.out _).trans (hHeld.2.2.1)))), ((cell_far (p := ⟨gb1035, _, none⟩) NB1033_1035.out _).trans (((cell_far (p := ⟨gb1035, _, none⟩) NB1033_1035.out _).trans (hHeld.2.2.2.1)))), ((cell_far (p := ⟨gb1035, _, none⟩) NB1033_1035.out _).trans (((cell_far (p := ⟨gb1035, _, none⟩) NB1033_1035.out _).trans (hHeld.2.2.2.2.1)))), ((cell_far (p := ⟨gb1035, _, none⟩) NB1033_1035.out _).trans (((cell_far (p := ⟨gb1035, _, none⟩) NB1033_1035.out _).trans (hHeld.2.2.2.2.2.1)))), ((cell_far (p := ⟨gb1035, _, none⟩) NB1034_1035.out _).trans (((cell_far (p := ⟨gb1035, _, none⟩) NB1034_1035.out _).trans (hHeld.2.2.2.2.2.2.1)))), ((cell_far (p := ⟨gb1035, _, none⟩) NB1034_1035.out _).trans (((cell_far (p := ⟨gb1035, _, none⟩) NB1034_1035.out _).trans (hHeld.2.2.2.2.2.2.2))))⟩ (fun hHeld => ?_)
 clear hK K
 refine done_ (done_of HT_.out (by kernel_rfl)) ?_
 try go_wp2
 refine bodyPost_ret (results_cell_row rfl _ _ gb1035 47 #[.int .i64 t1038, .int .i64 t1039] (0, 0) _ rfl (by (with_reducible repeat (first|apply kN|apply kD|apply kA)); refine blk_put (cs := #[.int .i64 t1038, .int .i64 0]) ?_ 1 _ rfl; (with_reducible repeat (first|apply kN|apply kD|apply kA)); refine blk_put (cs := #[.int .i64 0, .int .i64 0]) ?_ 0 _ rfl; (with_reducible repeat (first|apply kN|apply kD|apply kA)); exact BK1035.out) Try.underlying47 rfl (by kernel_rfl)) rfl ?_
 exact ⟨by first|rfl|(simp [*, errW_none, errW_some] <;> rfl), by repeat (first | (with_reducible first | exact HB.out | apply bA|apply bN|apply b1 | refine below_set ?_ (Aside0.out (by assumption))) | exact HB.out)⟩

def impl_ApplyMotion.j0 : Nat → Bool → Int → Int → Int → Int → Int → Int → Int → Int → Option (Int × Int × Int)
 | 0, _, _, _, _, _, _, _, _, _ => none
 | k + 1, x13, x1041000, x1041001, x1041002, x1041003, x1041004, x1041005, x1042000, x1042001 => if x13 = true then (some (0, 0, 1)) else ((impl_Motion_apply.f x1041000 x1041001 x1041002 x1041003 x1041004 x1041005 x1042000 x1042001).bind fun bt1045 => ((impl_limited.f bt1045.1 bt1045.2).bind fun bt1047 => (some (bt1047.1, bt1047.2.1, bt1047.2.2))))
def impl_ApplyMotion.f (k : Nat) (a0_0 : Int) (a0_1 : Int) (a0_2 : Int) (a0_3 : Int) (a0_4 : Int) (a0_5 : Int) (a1_0 : Int) (a1_1 : Int) : Option (Int × Int × Int) := (impl_IsMotion.f k a0_0 a0_1 a0_2 a0_3 a0_4 a0_5).bind fun t1043 => (if t1043 = true then ((impl_IsVec.f a1_0 a1_1).bind fun t1044 => (impl_ApplyMotion.j0 k (!t1044) a0_0 a0_1 a0_2 a0_3 a0_4 a0_5 a1_0 a1_1)) else (impl_ApplyMotion.j0 k true a0_0 a0_1 a0_2 a0_3 a0_4 a0_5 a1_0 a1_1))
set_option maxHeartbeats 8000000 in
set_option maxRecDepth 100000 in
theorem impl_ApplyMotion.calls (k : Nat) (a0_0 : Int) (a0_1 : Int) (a0_2 : Int) (a0_3 : Int) (a0_4 : Int) (a0_5 : Int) (a1_0 : Int) (a1_1 : Int) (r1 : Int) (r2 : Int) (r3 : Int) (w : World) (h : impl_ApplyMotion.f k a0_0 a0_1 a0_2 a0_3 a0_4 a0_5 a1_0 a1_1 = some (r1, r2, r3)) :
  Calls Try.prog 46 #[.agg #[.int .i64 a0_0, .int .i64 a0_1, .int .i64 a0_2, .int .i64 a0_3, .int .i64 a0_4, .int .i64 a0_5], .agg #[.int .i64 a1_0, .int .i64 a1_1]] w fun e w' => e = .returned (.tuple #[.agg #[.int .i64 r1, .int .i64 r2], .int .i64 r3]) ∧ Below w.heap.size w w' := by
 have hu64 := Try.underlying64
 have hu47 := Try.underlying47
 have HB := aM (Below.refl w.heap.size w)
 have H : ((impl_IsMotion.f k a0_0 a0_1 a0_2 a0_3 a0_4 a0_5).bind fun t1043 => (if t1043 = true then ((impl_IsVec.f a1_0 a1_1).bind fun t1044 => (impl_ApplyMotion.j0 k (!t1044) a0_0 a0_1 a0_2 a0_3 a0_4 a0_5 a1_0 a1_1)) else (impl_ApplyMotion.j0 k true a0_0 a0_1 a0_2 a0_3 a0_4 a0_5 a1_0 a1_1))) = some (r1, r2, r3) := h
 clear h
 have HC3 := aM H
 clear H
 go_enter Try.func46, Try.ntmps46
 go_upto_region 1 with (first | ((with_reducible refine gate_dst (N := 2) rfl ?_); refine box_event ?hg (N := 2) ?hd (cs := #[.int .i64 a0_0, .int .i64 a0_1, .int .i64 a0_2, .int .i64 a0_3, .int .i64 a0_4, .int .i64 a0_5]) (t := 64) ?hr ?_; (case hd => rfl); (case hg => rfl); (case hr => first | (go_simp; done) | (go_simp; rfl)); intro gb1040 hg w4 hbox hb; have n0_ := bS HB hb; have n1_ := aM (hbox); have n2_ := bZ hg HB; have n3_ := bZ hg HB; clear HB; have HB := n0_; have BK1040 := n1_; have GW1040 := n2_; have GE1040 := n3_; clear n0_ n1_ n2_ n3_; clear hb hbox hg) | ((with_reducible refine gate_dst (N := 3) rfl ?_); refine box_event ?hg (N := 3) ?hd (cs := #[.int .i64 a1_0, .int .i64 a1_1]) (t := 47) ?hr ?_; (case hd => rfl); (case hg => rfl); (case hr => first | (go_simp; done) | (go_simp; rfl)); intro gb1041 hg w5 hbox hb; have n0_ := bB BK1040 hb; have n1_ := bS HB hb; have n2_ := aM (hbox); have n3_ := bZ hg HB; have n4_ := bZ hg HB; have n5_ := nL hg BK1040; have n6_ := nG hg BK1040; clear BK1040; clear HB; have BK1040 := n0_; have HB := n1_; have BK1041 := n2_; have GW1041 := n3_; have GE1041 := n4_; have NB1040_1041 := n5_; have NB1041_1040 := n6_; clear n0_ n1_ n2_ n3_ n4_ n5_ n6_; clear hb hbox hg) | ((with_reducible refine gate_dst (N := 4) rfl ?_); refine box_event ?hg (N := 4) ?hd (cs := #[.int .i64 0, .int .i64 0]) (t := 47) ?hr ?_; (case hd => rfl); (case hg => rfl); (case hr => first | (go_simp; done) | (go_simp; rfl)); intro gb1042 hg w6 hbox hb; have n0_ := bB BK1040 hb; have n1_ := bB BK1041 hb; have n2_ := bS HB hb; have n3_ := aM (hbox); have n4_ := bZ hg HB; have n5_ := bZ hg HB; have n6_ := nL hg BK1040; have n7_ := nG hg BK1040; have n8_ := nL hg BK1041; have n9_ := nG hg BK1041; clear BK1040; clear BK1041; clear HB; have BK1040 := n0_; have BK1041 := n1_; have HB := n2_; have BK1042 := n3_; have GW1042 := n4_; have GE1042 := n5_; have NB1040_1042 := n6_; have NB1042_1040 := n7_; have NB1041_1042 := n8_; have NB1042_1041 := n9_; clear n0_ n1_ n2_ n3_ n4_ n5_ n6_ n7_ n8_ n9_; clear hb hbox hg))
 (try simp only [Act.put, List.setIfInBounds_toArray, List.set_cons_zero, List.set_cons_succ])
 go_cut [13] (fun v13 wc => ∃ (kq : Nat) (x13_2 : Bool), v13 = .bool x13_2 ∧ Aside0 (impl_ApplyMotion.j0 kq x13_2 a0_0 a0_1 a0_2 a0_3 a0_4 a0_5 a1_0 a1_1 = some (r1, r2, r3)) ∧ Aside0 (kq ≤ k) ∧ Aside0 (wc.heap[gb1040]? = some (.cells #[.int .i64 a0_0, .int .i64 a0_1, .int .i64 a0_2, .int .i64 a0_3, .int .i64 a0_4, .int .i64 a0_5] 64 (0, 0))) ∧ Aside0 (wc.heap[gb1041]? = some (.cells #[.int .i64 a1_0, .int .i64 a1_1] 47 (0, 0))) ∧ Aside0 (wc.heap[gb1042]? = some (.cells #[.int .i64 0, .int .i64 0] 47 (0, 0))) ∧ Aside0 (Below w.heap.size w wc))
 case first =>
  have H := HC3.out
  clear HC3
  replace H := Option.bind_eq_some_iff.mp H
  obtain ⟨t1043, A70, H⟩ := H
  try dsimp only at H
  have A7 := aM A70
  clear A70
  by_cases c8 : t1043 = true
  ·subst c8
   have H1 : ((impl_IsVec.f a1_0 a1_1).bind fun t1044 => (impl_ApplyMotion.j0 k (!t1044) a0_0 a0_1 a0_2 a0_3 a0_4 a0_5 a1_0 a1_1)) = some (r1, r2, r3) := by rw [if_pos rfl] at H; exact H
   clear H
   have H := H1
   clear H1
   replace H := Option.bind_eq_some_iff.mp H
   obtain ⟨t1044, A90, H⟩ := H
   try dsimp only at H
   have A9 := aM A90
   clear A90
   have H' := aM H
   clear H
   have hnb10 := NB1040_1041.out
   have hnc10 := NB1041_1040.out
   have hnb11 := NB1040_1042.out
   have hnc11 := NB1042_1040.out
   obtain ⟨hcz12_0, hcz12_1, hcz12_2, hcz12_3, hcz12_4, hcz12_5⟩ := z6 BK1040
   obtain ⟨hfz12_0, hfz12_1, hfz12_2, hfz12_3, hfz12_4, hfz12_5⟩ := y6 BK1040
   go_wp2_with (first | ((with_reducible refine gate_callee (f := 48) rfl ?_); refine goesL_ (some 7) rfl rfl Try.func48 (by kernel_rfl) rfl #[.agg #[.int .i64 a0_0, .int .i64 a0_1, .int .i64 a0_2, .int .i64 a0_3, .int .i64 a0_4, .int .i64 a0_5]] rfl (by first|rfl|(simp only [List.map_toArray, List.map_cons, List.map_nil]; try rfl)) ?_; (with_reducible refine (impl_IsMotion.calls k a0_0 a0_1 a0_2 a0_3 a0_4 a0_5 true _ A7.out).mono ?_); rintro e w13 ⟨rfl, hb⟩; refine ⟨_, rfl, ?_⟩; have n0_ := bB BK1040 hb; have n1_ := bB BK1041 hb; have n2_ := bB BK1042 hb; have n3_ := bS HB hb; clear BK1040; clear BK1041; clear BK1042; clear HB; have BK1040 := n0_; have BK1041 := n1_; have BK1042 := n2_; have HB := n3_; clear n0_ n1_ n2_ n3_; (try clear hb); have hnb14 := NB1041_1042.out; have hnc14 := NB1042_1041.out; obtain ⟨hcz15_0, hcz15_1⟩ := z2 BK1041; obtain ⟨hfz15_0, hfz15_1⟩ := y2 BK1041) | (go_at_call 87; (with_reducible refine (impl_IsVec.calls a1_0 a1_1 t1044 _ A9.out).mono ?_); rintro e w16 ⟨rfl, hb⟩; have n0_ := bB BK1040 hb; have n1_ := bB BK1041 hb; have n2_ := bB BK1042 hb; have n3_ := bS HB hb; clear BK1040; clear BK1041; clear BK1042; clear HB; have BK1040 := n0_; have BK1041 := n1_; have BK1042 := n2_; have HB := n3_; clear n0_ n1_ n2_ n3_; (try clear hb)))
   go_meet
   case rel => exact ⟨_, (!t1044), (by first | rfl | (simp; done) | (simp [*]; done)), H', ⟨by first | omega | exact Nat.le_refl _⟩, ⟨by (with_reducible repeat (first|apply kN|apply kD|apply kA)); exact BK1040.out⟩, ⟨by (with_reducible repeat (first|apply kN|apply kD|apply kA)); exact BK1041.out⟩, ⟨by (with_reducible repeat (first|apply kN|apply kD|apply kA)); exact BK1042.out⟩, ⟨by repeat (first | (with_reducible first | exact HB.out | apply bA|apply bN|apply b1 | refine below_set ?_ (Aside0.out (by assumption))) | exact HB.out)⟩⟩
  ·replace c8 := Bool.eq_false_iff.mpr c8
   subst c8
   have H1 : (impl_ApplyMotion.j0 k true a0_0 a0_1 a0_2 a0_3 a0_4 a0_5 a1_0 a1_1) = some (r1, r2, r3) := by rw [if_neg (show ¬ (false = true) by decide)] at H; exact H
   clear H
   have H := H1
   clear H1
   have H' := aM H
   clear H
   have hnb17 := NB1040_1041.out
   have hnc17 := NB1041_1040.out
   have hnb18 := NB1040_1042.out
   have hnc18 := NB1042_1040.out
   obtain ⟨hcz19_0, hcz19_1, hcz19_2, hcz19_3, hcz19_4, hcz19_5⟩ := z6 BK1040
   obtain ⟨hfz19_0, hfz19_1, hfz19_2, hfz19_3, hfz19_4, hfz19_5⟩ := y6 BK1040
   go_wp2_with (first | ((with_reducible refine gate_callee (f := 48) rfl ?_); refine goesL_ (some 7) rfl rfl Try.func48 (by kernel_rfl) rfl #[.agg #[.int .i64 a0_0, .int .i64 a0_1, .int .i64 a0_2, .int .i64 a0_3, .int .i64 a0_4, .int .i64 a0_5]] rfl (by first|rfl|(simp only [List.map_toArray, List.map_cons, List.map_nil]; try rfl)) ?_; (with_reducible refine (impl_IsMotion.calls k a0_0 a0_1 a0_2 a0_3 a0_4 a0_5 false _ A7.out).mono ?_); rintro e w20 ⟨rfl, hb⟩; refine ⟨_, rfl, ?_⟩; have n0_ := bB BK1040 hb; have n1_ := bB BK1041 hb; have n2_ := bB BK1042 hb; have n3_ := bS HB hb; clear BK1040; clear BK1041; clear BK1042; clear HB; have BK1040 := n0_; have BK1041 := n1_; have BK1042 := n2_; have HB := n3_; clear n0_ n1_ n2_ n3_; (try clear hb)))
   go_meet
   case rel => exact ⟨_, (true), (by first | rfl | (simp; done) | (simp [*]; done)), H', ⟨by first | omega | exact Nat.le_refl _⟩, ⟨by (with_reducible repeat (first|apply kN|apply kD|apply kA)); exact BK1040.out⟩, ⟨by (with_reducible repeat (first|apply kN|apply kD|apply kA)); exact BK1041.out⟩, ⟨by (with_reducible repeat (first|apply kN|apply kD|apply kA)); exact BK1042.out⟩, ⟨by repeat (first | (with_reducible first | exact HB.out | apply bA|apply bN|apply b1 | refine below_set ?_ (Aside0.out (by assumption))) | exact HB.out)⟩⟩
 case rest =>
  clear HC3
  try clear c1
  try clear p2
  try clear c4
  try clear c8
  try clear c10
  try clear c11
  try clear c14
  try clear c17
  try clear c18
  try clear hcz12_0
  try clear hcz12_1
  try clear hcz12_2
  try clear hcz12_3
  try clear hcz12_4
  try clear hcz12_5
  try clear hcz15_0
  try clear hcz15_1
  try clear hcz19_0
  try clear hcz19_1
  try clear hcz19_2
  try clear hcz19_3
  try clear hcz19_4
  try clear hcz19_5
  try clear hfz12_0
  try clear hfz12_1
  try clear hfz12_2
  try clear hfz12_3
  try clear hfz12_4
  try clear hfz12_5
  try clear hfz15_0
  try clear hfz15_1
  try clear hfz19_0
  try clear hfz19_1
  try clear hfz19_2
  try clear hfz19_3
  try clear hfz19_4
  try clear hfz19_5
  obtain ⟨kq, x13_2, rfl, HA, HJ2, BK1040, BK1041, BK1042, HB⟩ := hcut
  cases kq with
  | zero => exact absurd HA.out (by simp [impl_ApplyMotion.j0])
  | succ kj2 =>
   have H := HA.out
   clear HA
   simp only [impl_ApplyMotion.j0] at H
   by_cases c21 : x13_2 = true
   ·subst c21
    have H1 : (some (0, 0, 1)) = some (r1, r2, r3) := by rw [if_pos rfl] at H; exact H
    clear H
    have H := H1
    clear H1
    simp only [Option.some.injEq, Prod.mk.injEq] at H
    obtain ⟨rfl, rfl, rfl⟩ := H
    have hnb22 := NB1042_1040.out
    have hnc22 := NB1040_1042.out
    have hnb23 := NB1042_1041.out
    have hnc23 := NB1041_1042.out
    obtain ⟨hcz24_0, hcz24_1⟩ := z2 BK1042
    obtain ⟨hfz24_0, hfz24_1⟩ := y2 BK1042
    go_wp2
    refine bodyPost_ret (results_ct rfl _ _ gb1042 47 #[.int .i64 0, .int .i64 0] (0, 0) _ rfl (by (with_reducible repeat (first|apply kN|apply kD|apply kA)); refine blk_put (cs := #[.int .i64 0, .int .i64 0]) ?_ 1 _ rfl; (with_reducible repeat (first|apply kN|apply kD|apply kA)); refine blk_put (cs := #[.int .i64 0, .int .i64 0]) ?_ 0 _ rfl; (with_reducible repeat (first|apply kN|apply kD|apply kA)); exact BK1042.out) Try.underlying47 rfl (by kernel_rfl)) rfl ?_
    exact ⟨by first|rfl|(simp [*, errW_none, errW_some] <;> rfl), by repeat (first | (with_reducible first | exact HB.out | apply bA|apply bN|apply b1 | refine below_set ?_ (Aside0.out (by assumption))) | exact HB.out)⟩
   ·replace c21 := Bool.eq_false_iff.mpr c21
    subst c21
    have H1 : ((impl_Motion_apply.f a0_0 a0_1 a0_2 a0_3 a0_4 a0_5 a1_0 a1_1).bind fun bt1045 => ((impl_limited.f bt1045.1 bt1045.2).bind fun bt1047 => (some (bt1047.1, bt1047.2.1, bt1047.2.2)))) = some (r1, r2, r3) := by rw [if_neg (show ¬ (false = true) by decide)] at H; exact H
    clear H
    have H := H1
    clear H1
    replace H := Option.bind_eq_some_iff.mp H
    obtain ⟨⟨t1045, t1046⟩, A250, H⟩ := H
    try dsimp only at H
    have A25 := aM A250
    clear A250
    replace H := Option.bind_eq_some_iff.mp H
    obtain ⟨⟨t1047, t1048, t1049⟩, A260, H⟩ := H
    try dsimp only at H
    have A26 := aM A260
    clear A260
    simp only [Option.some.injEq, Prod.mk.injEq] at H
    obtain ⟨rfl, rfl, rfl⟩ := H
    have hnb27 := NB1040_1041.out
    have hnc27 := NB1041_1040.out
    have hnb28 := NB1040_1042.out
    have hnc28 := NB1042_1040.out
    obtain ⟨hcz29_0, hcz29_1, hcz29_2, hcz29_3, hcz29_4, hcz29_5⟩ := z6 BK1040
    obtain ⟨hfz29_0, hfz29_1, hfz29_2, hfz29_3, hfz29_4, hfz29_5⟩ := y6 BK1040
    have hnb30 := NB1041_1042.out
    have hnc30 := NB1042_1041.out
    obtain ⟨hcz31_0, hcz31_1⟩ := z2 BK1041
    obtain ⟨hfz31_0, hfz31_1⟩ := y2 BK1041
    go_wp2_with (first | ((with_reducible refine gate_callee (f := 111) rfl ?_); refine goesL_ (some 17) rfl rfl Try.func111 (by kernel_rfl) rfl #[.agg #[.int .i64 a0_0, .int .i64 a0_1, .int .i64 a0_2, .int .i64 a0_3, .int .i64 a0_4, .int .i64 a0_5], .agg #[.int .i64 a1_0, .int .i64 a1_1]] rfl (by first|rfl|(simp only [List.map_toArray, List.map_cons, List.map_nil]; try rfl)) ?_; (with_reducible refine (impl_Motion_apply.calls a0_0 a0_1 a0_2 a0_3 a0_4 a0_5 a1_0 a1_1 t1045 t1046 _ A25.out).mono ?_); rintro e w32 ⟨rfl, hb⟩; refine ⟨_, rfl, ?_⟩; have n0_ := bB BK1040 hb; have n1_ := bB BK1041 hb; have n2_ := bB BK1042 hb; have n3_ := bS HB hb; clear BK1040; clear BK1041; clear BK1042; clear HB; have BK1040 := n0_; have BK1041 := n1_; have BK1042 := n2_; have HB := n3_; clear n0_ n1_ n2_ n3_; (try clear hb)) | ((with_reducible refine gate_callee (f := 96) rfl ?_); refine goesL_ (some 18) rfl rfl Try.func96 (by kernel_rfl) rfl #[.agg #[.int .i64 t1045, .int .i64 t1046]] rfl (by first|rfl|(simp only [List.map_toArray, List.map_cons, List.map_nil]; try rfl)) ?_; (with_reducible refine (impl_limited.calls t1045 t1046 t1047 t1048 t1049 _ A26.out).mono ?_); rintro e w33 ⟨rfl, hb⟩; refine ⟨_, rfl, ?_⟩; have n0_ := bB BK1040 hb; have n1_ := bB BK1041 hb; have n2_ := bB BK1042 hb; have n3_ := bS HB hb; clear BK1040; clear BK1041; clear BK1042; clear HB; have BK1040 := n0_; have BK1041 := n1_; have BK1042 := n2_; have HB := n3_; clear n0_ n1_ n2_ n3_; (try clear hb); obtain ⟨hcz34_0, hcz34_1⟩ := z2 BK1042; obtain ⟨hfz34_0, hfz34_1⟩ := y2 BK1042))
    refine bodyPost_ret (results_ct rfl _ _ gb1042 47 #[.int .i64 t1047, .int .i64 t1048] (0, 0) _ rfl (by (with_reducible repeat (first|apply kN|apply kD|apply kA)); refine blk_put (cs := #[.int .i64 t1047, .int .i64 0]) ?_ 1 _ rfl; (with_reducible repeat (first|apply kN|apply kD|apply kA)); refine blk_put (cs := #[.int .i64 0, .int .i64 0]) ?_ 0 _ rfl; (with_reducible repeat (first|apply kN|apply kD|apply kA)); exact BK1042.out) Try.underlying47 rfl (by kernel_rfl)) rfl ?_
    exact ⟨by first|rfl|(simp [*, errW_none, errW_some] <;> rfl), by repeat (first | (with_reducible first | exact HB.out | apply bA|apply bN|apply b1 | refine below_set ?_ (Aside0.out (by assumption))) | exact HB.out)⟩

def spec_l05Apply.f (a0_0 : Int) (a0_1 : Int) (a0_2 : Int) (a0_3 : Int) (a0_4 : Int) (a0_5 : Int) (a1_0 : Int) (a1_1 : Int) : Option (Int × Int) := (spec_l02Apply.f a0_0 a0_1 a0_2 a0_3 a1_0 a1_1).bind fun bt1053 => ((spec_l01Add.f bt1053.1 bt1053.2 a0_4 a0_5).bind fun bt1055 => (some (bt1055.1, bt1055.2)))
def spec_l05Apply.T1 : Bool × List (List Nat × List Nat) := (true, [([], []), ([0], [0]), ([], []), ([1, 2], [1, 2]), ([], []), ([4], [4]), ([3, 5, 3], [3, 5]), ([6, 6, 0, 1, 2, 3, 4, 5, 6], [6])])
def spec_l05Apply.B1 : List Nat := [0, 1, 0, 7, 0, 16, 63, 127]
theorem spec_l05Apply.tab1 : rtab .any (opsOf Try.f112 1) = spec_l05Apply.T1 := by kernel_rfl
theorem spec_l05Apply.bits1 : waitsOk spec_l05Apply.T1.2 spec_l05Apply.B1 = true := by kernel_rfl
set_option maxHeartbeats 8000000 in
set_option maxRecDepth 100000 in
theorem spec_l05Apply.calls (a0_0 : Int) (a0_1 : Int) (a0_2 : Int) (a0_3 : Int) (a0_4 : Int) (a0_5 : Int) (a1_0 : Int) (a1_1 : Int) (r1 : Int) (r2 : Int) (w : World) (h : spec_l05Apply.f a0_0 a0_1 a0_2 a0_3 a0_4 a0_5 a1_0 a1_1 = some (r1, r2)) :
  Calls Try.prog 112 #[.agg #[.int .i64 a0_0, .int .i64 a0_1, .int .i64 a0_2, .int .i64 a0_3, .int .i64 a0_4, .int .i64 a0_5], .agg #[.int .i64 a1_0, .int .i64 a1_1]] w fun e w' => e = .returned (.agg #[.int .i64 r1, .int .i64 r2]) ∧ Below w.heap.size w w' := by
 have hu64 := Try.underlying64
 have hu47 := Try.underlying47
 have hu51 := Try.underlying51
 have HB := aM (Below.refl w.heap.size w)
 have H : ((spec_l02Apply.f a0_0 a0_1 a0_2 a0_3 a1_0 a1_1).bind fun bt1053 => ((spec_l01Add.f bt1053.1 bt1053.2 a0_4 a0_5).bind fun bt1055 => (some (bt1055.1, bt1055.2)))) = some (r1, r2) := h
 clear h
 replace H := Option.bind_eq_some_iff.mp H
 obtain ⟨⟨t1053, t1054⟩, A30, H⟩ := H
 try dsimp only at H
 have A3 := aM A30
 clear A30
 replace H := Option.bind_eq_some_iff.mp H
 obtain ⟨⟨t1055, t1056⟩, A40, H⟩ := H
 try dsimp only at H
 have A4 := aM A40
 clear A40
 simp only [Option.some.injEq, Prod.mk.injEq] at H
 obtain ⟨rfl, rfl⟩ := H
 go_enter Try.func112, Try.ntmps112
 try go_wp2_with (first | ((with_reducible refine gate_dst (N := 2) rfl ?_); refine box_event ?hg (N := 2) ?hd (cs := #[.int .i64 a0_0, .int .i64 a0_1, .int .i64 a0_2, .int .i64 a0_3, .int .i64 a0_4, .int .i64 a0_5]) (t := 64) ?hr ?_; (case hd => rfl); (case hg => rfl); (case hr => first | (go_simp; done) | (go_simp; rfl)); intro gb1050 hg w5 hbox hb; have n0_ := bS HB hb; have n1_ := aM (hbox); have n2_ := bZ hg HB; have n3_ := bZ hg HB; clear HB; have HB := n0_; have BK1050 := n1_; have GW1050 := n2_; have GE1050 := n3_; clear n0_ n1_ n2_ n3_; clear hb hbox hg) | ((with_reducible refine gate_dst (N := 3) rfl ?_); refine box_event ?hg (N := 3) ?hd (cs := #[.int .i64 a1_0, .int .i64 a1_1]) (t := 47) ?hr ?_; (case hd => rfl); (case hg => rfl); (case hr => first | (go_simp; done) | (go_simp; rfl)); intro gb1051 hg w6 hbox hb; have n0_ := bB BK1050 hb; have n1_ := bS HB hb; have n2_ := aM (hbox); have n3_ := bZ hg HB; have n4_ := bZ hg HB; have n5_ := nL hg BK1050; have n6_ := nG hg BK1050; clear BK1050; clear HB; have BK1050 := n0_; have HB := n1_; have BK1051 := n2_; have GW1051 := n3_; have GE1051 := n4_; have NB1050_1051 := n5_; have NB1051_1050 := n6_; clear n0_ n1_ n2_ n3_ n4_ n5_ n6_; clear hb hbox hg) | ((with_reducible refine gate_dst (N := 4) rfl ?_); refine box_event ?hg (N := 4) ?hd (cs := #[.int .i64 0, .int .i64 0]) (t := 47) ?hr ?_; (case hd => rfl); (case hg => rfl); (case hr => first | (go_simp; done) | (go_simp; rfl)); intro gb1052 hg w7 hbox hb; have n0_ := bB BK1050 hb; have n1_ := bB BK1051 hb; have n2_ := bS HB hb; have n3_ := aM (hbox); have n4_ := bZ hg HB; have n5_ := bZ hg HB; have n6_ := nL hg BK1050; have n7_ := nG hg BK1050; have n8_ := nL hg BK1051; have n9_ := nG hg BK1051; clear BK1050; clear BK1051; clear HB; have BK1050 := n0_; have BK1051 := n1_; have HB := n2_; have BK1052 := n3_; have GW1052 := n4_; have GE1052 := n5_; have NB1050_1052 := n6_; have NB1052_1050 := n7_; have NB1051_1052 := n8_; have NB1052_1051 := n9_; clear n0_ n1_ n2_ n3_ n4_ n5_ n6_ n7_ n8_ n9_; clear hb hbox hg))
 have n0_ := aM (blk_drew BK1050.out)
 have n1_ := aM (blk_drew BK1051.out)
 have n2_ := aM (blk_drew BK1052.out)
 have n3_ := aM (below_drew1 HB.out)
 clear BK1050
 clear BK1051
 clear BK1052
 clear HB
 have BK1050 := n0_
 have BK1051 := n1_
 have BK1052 := n2_
 have HB := n3_
 clear n0_ n1_ n2_ n3_
 refine start_ (n := 8) (S := fun w' => w'.cell? ⟨gb1050, 0, none⟩ = some (.int .i64 a0_0) ∧ w'.cell? ⟨gb1050, 1, none⟩ = some (.int .i64 a0_1) ∧ w'.cell? ⟨gb1050, 2, none⟩ = some (.int .i64 a0_2) ∧ w'.cell? ⟨gb1050, 3, none⟩ = some (.int .i64 a0_3) ∧ w'.cell? ⟨gb1050, 4, none⟩ = some (.int .i64 a0_4) ∧ w'.cell? ⟨gb1050, 5, none⟩ = some (.int .i64 a0_5) ∧ w'.cell? ⟨gb1051, 0, none⟩ = some (.int .i64 a1_0) ∧ w'.cell? ⟨gb1051, 1, none⟩ = some (.int .i64 a1_1)) (ds := []) #[false, false, false, false, false, false, false, false] (by kernel_rfl) rfl rfl ⟨(blk_cell BK1050.out 0).trans rfl, (blk_cell BK1050.out 1).trans rfl, (blk_cell BK1050.out 2).trans rfl, (blk_cell BK1050.out 3).trans rfl, (blk_cell BK1050.out 4).trans rfl, (blk_cell BK1050.out 5).trans rfl, (blk_cell BK1051.out 0).trans rfl, (blk_cell BK1051.out 1).trans rfl⟩ (fun hHeld => ?_); refine with_tabW spec_l05Apply.tab1 spec_l05Apply.bits1 (fun HT_ HW_ => ?_)
 generalize w7.drew = w8 at BK1050 BK1051 BK1052 HB hHeld ⊢
 refine pure_ (i := 0) (N := some 5) (v := ?_) (a' := ?_) #[true, false, false, false, false, false, false, false] rfl rfl (any_of HT_.out (by kernel_rfl)) (fun _ _ _ h => h) (Or.inl ⟨by rfl, ?_⟩) ?_ ?_
 rotate_left
 ·intro w'
  go_simp
  with_reducible rfl
 rotate_left
 ·simp only [Act.put, List.setIfInBounds_toArray, List.set_cons_zero, List.set_cons_succ, i64_w, i32_w]
  rfl
 refine pure_ (i := 4) (N := some 9) (v := ?_) (a' := ?_) #[true, false, false, false, true, false, false, false] rfl rfl (any_of HT_.out (by kernel_rfl)) (fun _ _ _ h => h) (Or.inl ⟨by rfl, ?_⟩) ?_ ?_
 rotate_left
 ·intro w'
  go_simp
  with_reducible rfl
 rotate_left
 ·simp only [Act.put, List.setIfInBounds_toArray, List.set_cons_zero, List.set_cons_succ, i64_w, i32_w]
  rfl
 refine take_ (i := 1) (N := some 6) (v := ?_) (a' := ?_) #[true, true, false, false, true, false, false, false] rfl rfl (take_ofW HT_.out HW_.out (by kernel_rfl)) (fun _ _ _ h => h) (Or.inl ⟨by rfl, ?_⟩) hHeld ?_ ?_
 rotate_left
 ·rintro w' ⟨s0, s1, s2, s3, s4, s5, s6, s7⟩
  go_simp
  with_reducible rfl
 rotate_left
 ·simp only [Act.put, List.setIfInBounds_toArray, List.set_cons_zero, List.set_cons_succ, i64_w, i32_w]
  rfl
 refine take_ (i := 2) (N := some 7) (v := ?_) (a' := ?_) #[true, true, true, false, true, false, false, false] rfl rfl (take_ofW HT_.out HW_.out (by kernel_rfl)) (fun _ _ _ h => h) (Or.inl ⟨by rfl, ?_⟩) hHeld ?_ ?_
 rotate_left
 ·rintro w' ⟨s0, s1, s2, s3, s4, s5, s6, s7⟩
  go_simp
  with_reducible rfl
 rotate_left
 ·simp only [Act.put, List.setIfInBounds_toArray, List.set_cons_zero, List.set_cons_succ, i64_w, i32_w]
  rfl
 refine take_ (i := 5) (N := some 10) (v := ?_) (a' := ?_) #[true, true, true, false, true, true, false, false] rfl rfl (take_ofW HT_.out HW_.out (by kernel_rfl)) (fun _ _ _ h => h) (Or.inl ⟨by rfl, ?_⟩) hHeld ?_ ?_
 rotate_left
 ·rintro w' ⟨s0, s1, s2, s3, s4, s5, s6, s7⟩
  go_simp
  with_reducible rfl
 rotate_left
 ·simp only [Act.put, List.setIfInBounds_toArray, List.set_cons_zero, List.set_cons_succ, i64_w, i32_w]
  rfl
 refine one_ (i := 3) (N := some 8) #[true, true, true, true, true, true, false, false] rfl rfl (one_of HT_.out (by kernel_rfl)) (by decide) (fun K hK => ?_)
 refine goes_ Try.func100 (by kernel_rfl) rfl #[.agg #[.int .i64 a0_0, .int .i64 a0_1, .int .i64 a0_2, .int .i64 a0_3], .agg #[.int .i64 a1_0, .int .i64 a1_1]] (by rfl) rfl rfl (by first|rfl|(simp only [List.map_toArray, List.map_cons, List.map_nil]; try rfl)) ?_
 with_reducible refine (spec_l02Apply.calls a0_0 a0_1 a0_2 a0_3 a1_0 a1_1 t1053 t1054 _ A3.out).mono ?_
 rintro e w9 ⟨rfl, hb⟩
 refine ⟨_, rfl, ?_⟩
 have n0_ := bB BK1050 hb
 have n1_ := bB BK1051 hb
 have n2_ := bB BK1052 hb
 have n3_ := bS HB hb
 clear BK1050
 clear BK1051
 clear BK1052
 clear HB
 have BK1050 := n0_
 have BK1051 := n1_
 have BK1052 := n2_
 have HB := n3_
 clear n0_ n1_ n2_ n3_
 (try clear hb)
 (try clear hb2)
 (try clear hk)
 (try clear hi)
 refine hK.out _ _ ⟨(blk_cell BK1050.out 0).trans rfl, (blk_cell BK1050.out 1).trans rfl, (blk_cell BK1050.out 2).trans rfl, (blk_cell BK1050.out 3).trans rfl, (blk_cell BK1050.out 4).trans rfl, (blk_cell BK1050.out 5).trans rfl, (blk_cell BK1051.out 0).trans rfl, (blk_cell BK1051.out 1).trans rfl⟩ (fun hHeld => ?_)
 clear hK K
 refine norm_ (a' := ?_) ?_ ?_
 rotate_left
 ·show Act.put _ (some 8) _ = _
  simp only [Act.put, List.setIfInBounds_toArray, List.set_cons_zero, List.set_cons_succ, i64_w, i32_w]
  rfl
 refine one_ (i := 6) (N := some 11) #[true, true, true, true, true, true, true, false] rfl rfl (one_of HT_.out (by kernel_rfl)) (by decide) (fun K hK => ?_)
 refine goes_ Try.func143 (by kernel_rfl) rfl #[.agg #[.int .i64 t1053, .int .i64 t1054], .agg #[.int .i64 a0_4, .int .i64 a0_5]] (by rfl) rfl rfl (by first|rfl|(simp only [List.map_toArray, List.map_cons, List.map_nil]; try rfl)) ?_
 with_reducible refine (spec_l01Add.calls t1053 t1054 a0_4 a0_5 t1055 t1056 _ A4.out).mono ?_
 rintro e w10 ⟨rfl, hb⟩
 refine ⟨_, rfl, ?_⟩
 have n0_ := bB BK1050 hb
 have n1_ := bB BK1051 hb
 have n2_ := bB BK1052 hb
 have n3_ := bS HB hb
 clear BK1050
 clear BK1051
 clear BK1052
 clear HB
 have BK1050 := n0_
 have BK1051 := n1_
 have BK1052 := n2_
 have HB := n3_
 clear n0_ n1_ n2_ n3_
 (try clear hb)
 (try clear hb2)
 (try clear hk)
 (try clear hi)
 refine hK.out _ _ ⟨(blk_cell BK1050.out 0).trans rfl, (blk_cell BK1050.out 1).trans rfl, (blk_cell BK1050.out 2).trans rfl, (blk_cell BK1050.out 3).trans rfl, (blk_cell BK1050.out 4).trans rfl, (blk_cell BK1050.out 5).trans rfl, (blk_cell BK1051.out 0).trans rfl, (blk_cell BK1051.out 1).trans rfl⟩ (fun hHeld => ?_)
 clear hK K
 refine norm_ (a' := ?_) ?_ ?_
 rotate_left
 ·show Act.put _ (some 11) _ = _
  simp only [Act.put, List.setIfInBounds_toArray, List.set_cons_zero, List.set_cons_succ, i64_w, i32_w]
  rfl
 refine one_ (i := 7) (N := none) #[true, true, true, true, true, true, true, true] rfl rfl (one_of HT_.out (by kernel_rfl)) (by decide) (fun K hK => ?_)
 have hs11 : w10.cell? ⟨gb1052, 0, none⟩ = some (.int .i64 0) := (blk_cell BK1052.out 0).trans rfl
 have hfs11 := blk_frozen BK1052.out 0
 have hns11_0 := NB1050_1052.out
 have hns11_1 := NB1051_1052.out
 have hms11_0 := NB1052_1050.out
 have hms11_1 := NB1052_1051.out
 have hs12 : w10.cell? ⟨gb1052, 1, none⟩ = some (.int .i64 0) := (blk_cell BK1052.out 1).trans rfl
 have hfs12 := blk_frozen BK1052.out 1
 have hns12_0 := NB1050_1052.out
 have hns12_1 := NB1051_1052.out
 have hms12_0 := NB1052_1050.out
 have hms12_1 := NB1052_1051.out
 refine skip_ (w1 := ?_) (by rfl) rfl ?_ ?_
 rotate_left
 ·go_simp
  rfl
 refine hK.out _ _ ⟨((cell_far (p := ⟨gb1052, _, none⟩) NB1050_1052.out _).trans (((cell_far (p := ⟨gb1052, _, none⟩) NB1050_1052.out _).trans (hHeld.1)))), ((cell_far (p := ⟨gb1052, _, none⟩) NB1050_1052.out _).trans (((cell_far (p := ⟨gb1052, _, none⟩) NB1050_1052.out _).trans (hHeld.2.1)))), ((cell_far (p := ⟨gb1052, _, none⟩) NB1050_1052.out _).trans (((cell_far (p := ⟨gb1052, _, none⟩) NB1050_1052.out _).trans (hHeld.2.2.1)))), ((cell_far (p := ⟨gb1052, _, none⟩) NB1050_1052.out _).trans (((cell_far (p := ⟨gb1052, _, none⟩) NB1050_1052.out _).trans (hHeld.2.2.2.1)))), ((cell_far (p := ⟨gb1052, _, none⟩) NB1050_1052.out _).trans (((cell_far (p := ⟨gb1052, _, none⟩) NB1050_1052.out _).trans (hHeld.2.2.2.2.1)))), ((cell_far (p := ⟨gb1052, _, none⟩) NB1050_1052.out _).trans (((cell_far (p := ⟨gb1052, _, none⟩) NB1050_1052.out _).trans (hHeld.2.2.2.2.2.1)))), ((cell_far (p := ⟨gb1052, _, none⟩) NB1051_1052.out _).trans (((cell_far (p := ⟨gb1052, _, none⟩) NB1051_1052.out _).trans (hHeld.2.2.2.2.2.2.1)))), ((cell_far (p := ⟨gb1052, _, none⟩) NB1051_1052.out _).trans (((cell_far (p := ⟨gb1052, _, none⟩) NB1051_1052.out _).trans (hHeld.2.2.2.2.2.2.2))))⟩ (fun hHeld => ?_)
 clear hK K
 refine done_ (done_of HT_.out (by kernel_rfl)) ?_
 try go_wp2
 refine bodyPost_ret (results_cell_row rfl _ _ gb1052 47 #[.int .i64 t1055, .int .i64 t1056] (0, 0) _ rfl (by (with_reducible repeat (first|apply kN|apply kD|apply kA)); refine blk_put (cs := #[.int .i64 t1055, .int .i64 0]) ?_ 1 _ rfl; (with_reducible repeat (first|apply kN|apply kD|apply kA)); refine blk_put (cs := #[.int .i64 0, .int .i64 0]) ?_ 0 _ rfl; (with_reducible repeat (first|apply kN|apply kD|apply kA)); exact BK1052.out) Try.underlying47 rfl (by kernel_rfl)) rfl ?_
 exact ⟨by first|rfl|(simp [*, errW_none, errW_some] <;> rfl), by repeat (first | (with_reducible first | exact HB.out | apply bA|apply bN|apply b1 | refine below_set ?_ (Aside0.out (by assumption))) | exact HB.out)⟩

def spec_ApplyMotion.j0 : Nat → Bool → Int → Int → Int → Int → Int → Int → Int → Int → Option (Int × Int × Int)
 | 0, _, _, _, _, _, _, _, _, _ => none
 | k + 1, x13, x1058000, x1058001, x1058002, x1058003, x1058004, x1058005, x1059000, x1059001 => if x13 = true then (some (0, 0, 1)) else ((spec_l05Apply.f x1058000 x1058001 x1058002 x1058003 x1058004 x1058005 x1059000 x1059001).bind fun bt1062 => ((spec_l01Result.f bt1062.1 bt1062.2).bind fun bt1064 => (some (bt1064.1, bt1064.2.1, bt1064.2.2))))
def spec_ApplyMotion.f (k : Nat) (a0_0 : Int) (a0_1 : Int) (a0_2 : Int) (a0_3 : Int) (a0_4 : Int) (a0_5 : Int) (a1_0 : Int) (a1_1 : Int) : Option (Int × Int × Int) := (spec_IsMotion.f k a0_0 a0_1 a0_2 a0_3 a0_4 a0_5).bind fun t1060 => (if t1060 = true then ((spec_IsVec.f a1_0 a1_1).bind fun t1061 => (spec_ApplyMotion.j0 k (!t1061) a0_0 a0_1 a0_2 a0_3 a0_4 a0_5 a1_0 a1_1)) else (spec_ApplyMotion.j0 k true a0_0 a0_1 a0_2 a0_3 a0_4 a0_5 a1_0 a1_1))
set_option maxHeartbeats 8000000 in
set_option maxRecDepth 100000 in
theorem spec_ApplyMotion.calls (k : Nat) (a0_0 : Int) (a0_1 : Int) (a0_2 : Int) (a0_3 : Int) (a0_4 : Int) (a0_5 : Int) (a1_0 : Int) (a1_1 : Int) (r1 : Int) (r2 : Int) (r3 : Int) (w : World) (h : spec_ApplyMotion.f k a0_0 a0_1 a0_2 a0_3 a0_4 a0_5 a1_0 a1_1 = some (r1, r2, r3)) :
  Calls Try.prog 47 #[.agg #[.int .i64 a0_0, .int .i64 a0_1, .int .i64 a0_2, .int .i64 a0_3, .int .i64 a0_4, .int .i64 a0_5], .agg #[.int .i64 a1_0, .int .i64 a1_1]] w fun e w' => e = .returned (.tuple #[.agg #[.int .i64 r1, .int .i64 r2], .int .i64 r3]) ∧ Below w.heap.size w w' := by
 have hu64 := Try.underlying64
 have hu47 := Try.underlying47
 have HB := aM (Below.refl w.heap.size w)
 have H : ((spec_IsMotion.f k a0_0 a0_1 a0_2 a0_3 a0_4 a0_5).bind fun t1060 => (if t1060 = true then ((spec_IsVec.f a1_0 a1_1).bind fun t1061 => (spec_ApplyMotion.j0 k (!t1061) a0_0 a0_1 a0_2 a0_3 a0_4 a0_5 a1_0 a1_1)) else (spec_ApplyMotion.j0 k true a0_0 a0_1 a0_2 a0_3 a0_4 a0_5 a1_0 a1_1))) = some (r1, r2, r3) := h
 clear h
 have HC3 := aM H
 clear H
 go_enter Try.func47, Try.ntmps47
 go_upto_region 1 with (first | ((with_reducible refine gate_dst (N := 2) rfl ?_); refine box_event ?hg (N := 2) ?hd (cs := #[.int .i64 a0_0, .int .i64 a0_1, .int .i64 a0_2, .int .i64 a0_3, .int .i64 a0_4, .int .i64 a0_5]) (t := 64) ?hr ?_; (case hd => rfl); (case hg => rfl); (case hr => first | (go_simp; done) | (go_simp; rfl)); intro gb1057 hg w4 hbox hb; have n0_ := bS HB hb; have n1_ := aM (hbox); have n2_ := bZ hg HB; have n3_ := bZ hg HB; clear HB; have HB := n0_; have BK1057 := n1_; have GW1057 := n2_; have GE1057 := n3_; clear n0_ n1_ n2_ n3_; clear hb hbox hg) | ((with_reducible refine gate_dst (N := 3) rfl ?_); refine box_event ?hg (N := 3) ?hd (cs := #[.int .i64 a1_0, .int .i64 a1_1]) (t := 47) ?hr ?_; (case hd => rfl); (case hg => rfl); (case hr => first | (go_simp; done) | (go_simp; rfl)); intro gb1058 hg w5 hbox hb; have n0_ := bB BK1057 hb; have n1_ := bS HB hb; have n2_ := aM (hbox); have n3_ := bZ hg HB; have n4_ := bZ hg HB; have n5_ := nL hg BK1057; have n6_ := nG hg BK1057; clear BK1057; clear HB; have BK1057 := n0_; have HB := n1_; have BK1058 := n2_; have GW1058 := n3_; have GE1058 := n4_; have NB1057_1058 := n5_; have NB1058_1057 := n6_; clear n0_ n1_ n2_ n3_ n4_ n5_ n6_; clear hb hbox hg) | ((with_reducible refine gate_dst (N := 4) rfl ?_); refine box_event ?hg (N := 4) ?hd (cs := #[.int .i64 0, .int .i64 0]) (t := 47) ?hr ?_; (case hd => rfl); (case hg => rfl); (case hr => first | (go_simp; done) | (go_simp; rfl)); intro gb1059 hg w6 hbox hb; have n0_ := bB BK1057 hb; have n1_ := bB BK1058 hb; have n2_ := bS HB hb; have n3_ := aM (hbox); have n4_ := bZ hg HB; have n5_ := bZ hg HB; have n6_ := nL hg BK1057; have n7_ := nG hg BK1057; have n8_ := nL hg BK1058; have n9_ := nG hg BK1058; clear BK1057; clear BK1058; clear HB; have BK1057 := n0_; have BK1058 := n1_; have HB := n2_; have BK1059 := n3_; have GW1059 := n4_; have GE1059 := n5_; have NB1057_1059 := n6_; have NB1059_1057 := n7_; have NB1058_1059 := n8_; have NB1059_1058 := n9_; clear n0_ n1_ n2_ n3_ n4_ n5_ n6_ n7_ n8_ n9_; clear hb hbox hg))
 (try simp only [Act.put, List.setIfInBounds_toArray, List.set_cons_zero, List.set_cons_succ])
 go_cut [13] (fun v13 wc => ∃ (kq : Nat) (x13_2 : Bool), v13 = .bool x13_2 ∧ Aside0 (spec_ApplyMotion.j0 kq x13_2 a0_0 a0_1 a0_2 a0_3 a0_4 a0_5 a1_0 a1_1 = some (r1, r2, r3)) ∧ Aside0 (kq ≤ k) ∧ Aside0 (wc.heap[gb1057]? = some (.cells #[.int .i64 a0_0, .int .i64 a0_1, .int .i64 a0_2, .int .i64 a0_3, .int .i64 a0_4, .int .i64 a0_5] 64 (0, 0))) ∧ Aside0 (wc.heap[gb1058]? = some (.cells #[.int .i64 a1_0, .int .i64 a1_1] 47 (0, 0))) ∧ Aside0 (wc.heap[gb1059]? = some (.cells #[.int .i64 0, .int .i64 0] 47 (0, 0))) ∧ Aside0 (Below w.heap.size w wc))
 case first =>
  have H := HC3.out
  clear HC3
  replace H := Option.bind_eq_some_iff.mp H
  obtain ⟨t1060, A70, H⟩ := H
  try dsimp only at H
  have A7 := aM A70
  clear A70
  by_cases c8 : t1060 = true
  ·subst c8
   have H1 : ((spec_IsVec.f a1_0 a1_1).bind fun t1061 => (spec_ApplyMotion.j0 k (!t1061) a0_0 a0_1 a0_2 a0_3 a0_4 a0_5 a1_0 a1_1)) = some (r1, r2, r3) := by rw [if_pos rfl] at H; exact H
   clear H
   have H := H1
   clear H1
   replace H := Option.bind_eq_some_iff.mp H
   obtain ⟨t1061, A90, H⟩ := H
   try dsimp only at H
   have A9 := aM A90
   clear A90
   have H' := aM H
   clear H
   have hnb10 := NB1057_1058.out
   have hnc10 := NB1058_1057.out
   have hnb11 := NB1057_1059.out
   have hnc11 := NB1059_1057.out
   obtain ⟨hcz12_0, hcz12_1, hcz12_2, hcz12_3, hcz12_4, hcz12_5⟩ := z6 BK1057
   obtain ⟨hfz12_0, hfz12_1, hfz12_2, hfz12_3, hfz12_4, hfz12_5⟩ := y6 BK1057
   go_wp2_with (first | ((with_reducible refine gate_callee (f := 49) rfl ?_); refine goesL_ (some 7) rfl rfl Try.func49 (by kernel_rfl) rfl #[.agg #[.int .i64 a0_0, .int .i64 a0_1, .int .i64 a0_2, .int .i64 a0_3, .int .i64 a0_4, .int .i64 a0_5]] rfl (by first|rfl|(simp only [List.map_toArray, List.map_cons, List.map_nil]; try rfl)) ?_; (with_reducible refine (spec_IsMotion.calls k a0_0 a0_1 a0_2 a0_3 a0_4 a0_5 true _ A7.out).mono ?_); rintro e w13 ⟨rfl, hb⟩; refine ⟨_, rfl, ?_⟩; have n0_ := bB BK1057 hb; have n1_ := bB BK1058 hb; have n2_ := bB BK1059 hb; have n3_ := bS HB hb; clear BK1057; clear BK1058; clear BK1059; clear HB; have BK1057 := n0_; have BK1058 := n1_; have BK1059 := n2_; have HB := n3_; clear n0_ n1_ n2_ n3_; (try clear hb); have hnb14 := NB1058_1059.out; have hnc14 := NB1059_1058.out; obtain ⟨hcz15_0, hcz15_1⟩ := z2 BK1058; obtain ⟨hfz15_0, hfz15_1⟩ := y2 BK1058) | (go_at_call 98; (with_reducible refine (spec_IsVec.calls a1_0 a1_1 t1061 _ A9.out).mono ?_); rintro e w16 ⟨rfl, hb⟩; have n0_ := bB BK1057 hb; have n1_ := bB BK1058 hb; have n2_ := bB BK1059 hb; have n3_ := bS HB hb; clear BK1057; clear BK1058; clear BK1059; clear HB; have BK1057 := n0_; have BK1058 := n1_; have BK1059 := n2_; have HB := n3_; clear n0_ n1_ n2_ n3_; (try clear hb)))
   go_meet
   case rel => exact ⟨_, (!t1061), (by first | rfl | (simp; done) | (simp [*]; done)), H', ⟨by first | omega | exact Nat.le_refl _⟩, ⟨by (with_reducible repeat (first|apply kN|apply kD|apply kA)); exact BK1057.out⟩, ⟨by (with_reducible repeat (first|apply kN|apply kD|apply kA)); exact BK1058.out⟩, ⟨by (with_reducible repeat (first|apply kN|apply kD|apply kA)); exact BK1059.out⟩, ⟨by repeat (first | (with_reducible first | exact HB.out | apply bA|apply bN|apply b1 | refine below_set ?_ (Aside0.out (by assumption))) | exact HB.out)⟩⟩
  ·replace c8 := Bool.eq_false_iff.mpr c8
   subst c8
   have H1 : (spec_ApplyMotion.j0 k true a0_0 a0_1 a0_2 a0_3 a0_4 a0_5 a1_0 a1_1) = some (r1, r2, r3) := by rw [if_neg (show ¬ (false = true) by decide)] at H; exact H
   clear H
   have H := H1
   clear H1
   have H' := aM H
   clear H
   have hnb17 := NB1057_1058.out
   have hnc17 := NB1058_1057.out
   have hnb18 := NB1057_1059.out
   have hnc18 := NB1059_1057.out
   obtain ⟨hcz19_0, hcz19_1, hcz19_2, hcz19_3, hcz19_4, hcz19_5⟩ := z6 BK1057
   obtain ⟨hfz19_0, hfz19_1, hfz19_2, hfz19_3, hfz19_4, hfz19_5⟩ := y6 BK1057
   go_wp2_with (first | ((with_reducible refine gate_callee (f := 49) rfl ?_); refine goesL_ (some 7) rfl rfl Try.func49 (by kernel_rfl) rfl #[.agg #[.int .i64 a0_0, .int .i64 a0_1, .int .i64 a0_2, .int .i64 a0_3, .int .i64 a0_4, .int .i64 a0_5]] rfl (by first|rfl|(simp only [List.map_toArray, List.map_cons, List.map_nil]; try rfl)) ?_; (with_reducible refine (spec_IsMotion.calls k a0_0 a0_1 a0_2 a0_3 a0_4 a0_5 false _ A7.out).mono ?_); rintro e w20 ⟨rfl, hb⟩; refine ⟨_, rfl, ?_⟩; have n0_ := bB BK1057 hb; have n1_ := bB BK1058 hb; have n2_ := bB BK1059 hb; have n3_ := bS HB hb; clear BK1057; clear BK1058; clear BK1059; clear HB; have BK1057 := n0_; have BK1058 := n1_; have BK1059 := n2_; have HB := n3_; clear n0_ n1_ n2_ n3_; (try clear hb)))
   go_meet
   case rel => exact ⟨_, (true), (by first | rfl | (simp; done) | (simp [*]; done)), H', ⟨by first | omega | exact Nat.le_refl _⟩, ⟨by (with_reducible repeat (first|apply kN|apply kD|apply kA)); exact BK1057.out⟩, ⟨by (with_reducible repeat (first|apply kN|apply kD|apply kA)); exact BK1058.out⟩, ⟨by (with_reducible repeat (first|apply kN|apply kD|apply kA)); exact BK1059.out⟩, ⟨by repeat (first | (with_reducible first | exact HB.out | apply bA|apply bN|apply b1 | refine below_set ?_ (Aside0.out (by assumption))) | exact HB.out)⟩⟩
 case rest =>
  clear HC3
  try clear c1
  try clear p2
  try clear c4
  try clear c8
  try clear c10
  try clear c11
  try clear c14
  try clear c17
  try clear c18
  try clear hcz12_0
  try clear hcz12_1
  try clear hcz12_2
  try clear hcz12_3
  try clear hcz12_4
  try clear hcz12_5
  try clear hcz15_0
  try clear hcz15_1
  try clear hcz19_0
  try clear hcz19_1
  try clear hcz19_2
  try clear hcz19_3
  try clear hcz19_4
  try clear hcz19_5
  try clear hfz12_0
  try clear hfz12_1
  try clear hfz12_2
  try clear hfz12_3
  try clear hfz12_4
  try clear hfz12_5
  try clear hfz15_0
  try clear hfz15_1
  try clear hfz19_0
  try clear hfz19_1
  try clear hfz19_2
  try clear hfz19_3
  try clear hfz19_4
  try clear hfz19_5
  obtain ⟨kq, x13_2, rfl, HA, HJ2, BK1057, BK1058, BK1059, HB⟩ := hcut
  cases kq with
  | zero => exact absurd HA.out (by simp [spec_ApplyMotion.j0])
  | succ kj2 =>
   have H := HA.out
   clear HA
   simp only [spec_ApplyMotion.j0] at H
   by_cases c21 : x13_2 = true
   ·subst c21
    have H1 : (some (0, 0, 1)) = some (r1, r2, r3) := by rw [if_pos rfl] at H; exact H
    clear H
    have H := H1
    clear H1
    simp only [Option.some.injEq, Prod.mk.injEq] at H
    obtain ⟨rfl, rfl, rfl⟩ := H
    have hnb22 := NB1059_1057.out
    have hnc22 := NB1057_1059.out
    have hnb23 := NB1059_1058.out
    have hnc23 := NB1058_1059.out
    obtain ⟨hcz24_0, hcz24_1⟩ := z2 BK1059
    obtain ⟨hfz24_0, hfz24_1⟩ := y2 BK1059
    go_wp2
    refine bodyPost_ret (results_ct rfl _ _ gb1059 47 #[.int .i64 0, .int .i64 0] (0, 0) _ rfl (by (with_reducible repeat (first|apply kN|apply kD|apply kA)); refine blk_put (cs := #[.int .i64 0, .int .i64 0]) ?_ 1 _ rfl; (with_reducible repeat (first|apply kN|apply kD|apply kA)); refine blk_put (cs := #[.int .i64 0, .int .i64 0]) ?_ 0 _ rfl; (with_reducible repeat (first|apply kN|apply kD|apply kA)); exact BK1059.out) Try.underlying47 rfl (by kernel_rfl)) rfl ?_
    exact ⟨by first|rfl|(simp [*, errW_none, errW_some] <;> rfl), by repeat (first | (with_reducible first | exact HB.out | apply bA|apply bN|apply b1 | refine below_set ?_ (Aside0.out (by assumption))) | exact HB.out)⟩
   ·replace c21 := Bool.eq_false_iff.mpr c21
    subst c21
    have H1 : ((spec_l05Apply.f a0_0 a0_1 a0_2 a0_3 a0_4 a0_5 a1_0 a1_1).bind fun bt1062 => ((spec_l01Result.f bt1062.1 bt1062.2).bind fun bt1064 => (some (bt1064.1, bt1064.2.1, bt1064.2.2)))) = some (r1, r2, r3) := by rw [if_neg (show ¬ (false = true) by decide)] at H; exact H
    clear H
    have H := H1
    clear H1
    replace H := Option.bind_eq_some_iff.mp H
    obtain ⟨⟨t1062, t1063⟩, A250, H⟩ := H
    try dsimp only at H
    have A25 := aM A250
    clear A250
    replace H := Option.bind_eq_some_iff.mp H
    obtain ⟨⟨t1064, t1065, t1066⟩, A260, H⟩ := H
    try dsimp only at H
    have A26 := aM A260
    clear A260
    simp only [Option.some.injEq, Prod.mk.injEq] at H
    obtain ⟨rfl, rfl, rfl⟩ := H
    have hnb27 := NB1057_1058.out
    have hnc27 := NB1058_1057.out
    have hnb28 := NB1057_1059.out
    have hnc28 := NB1059_1057.out
    obtain ⟨hcz29_0, hcz29_1, hcz29_2, hcz29_3, hcz29_4, hcz29_5⟩ := z6 BK1057
    obtain ⟨hfz29_0, hfz29_1, hfz29_2, hfz29_3, hfz29_4, hfz29_5⟩ := y6 BK1057
    have hnb30 := NB1058_1059.out
    have hnc30 := NB1059_1058.out
    obtain ⟨hcz31_0, hcz31_1⟩ := z2 BK1058
    obtain ⟨hfz31_0, hfz31_1⟩ := y2 BK1058
    go_wp2_with (first | ((with_reducible refine gate_callee (f := 112) rfl ?_); refine goesL_ (some 17) rfl rfl Try.func112 (by kernel_rfl) rfl #[.agg #[.int .i64 a0_0, .int .i64 a0_1, .int .i64 a0_2, .int .i64 a0_3, .int .i64 a0_4, .int .i64 a0_5], .agg #[.int .i64 a1_0, .int .i64 a1_1]] rfl (by first|rfl|(simp only [List.map_toArray, List.map_cons, List.map_nil]; try rfl)) ?_; (with_reducible refine (spec_l05Apply.calls a0_0 a0_1 a0_2 a0_3 a0_4 a0_5 a1_0 a1_1 t1062 t1063 _ A25.out).mono ?_); rintro e w32 ⟨rfl, hb⟩; refine ⟨_, rfl, ?_⟩; have n0_ := bB BK1057 hb; have n1_ := bB BK1058 hb; have n2_ := bB BK1059 hb; have n3_ := bS HB hb; clear BK1057; clear BK1058; clear BK1059; clear HB; have BK1057 := n0_; have BK1058 := n1_; have BK1059 := n2_; have HB := n3_; clear n0_ n1_ n2_ n3_; (try clear hb)) | ((with_reducible refine gate_callee (f := 99) rfl ?_); refine goesL_ (some 18) rfl rfl Try.func99 (by kernel_rfl) rfl #[.agg #[.int .i64 t1062, .int .i64 t1063]] rfl (by first|rfl|(simp only [List.map_toArray, List.map_cons, List.map_nil]; try rfl)) ?_; (with_reducible refine (spec_l01Result.calls t1062 t1063 t1064 t1065 t1066 _ A26.out).mono ?_); rintro e w33 ⟨rfl, hb⟩; refine ⟨_, rfl, ?_⟩; have n0_ := bB BK1057 hb; have n1_ := bB BK1058 hb; have n2_ := bB BK1059 hb; have n3_ := bS HB hb; clear BK1057; clear BK1058; clear BK1059; clear HB; have BK1057 := n0_; have BK1058 := n1_; have BK1059 := n2_; have HB := n3_; clear n0_ n1_ n2_ n3_; (try clear hb); obtain ⟨hcz34_0, hcz34_1⟩ := z2 BK1059; obtain ⟨hfz34_0, hfz34_1⟩ := y2 BK1059))
    refine bodyPost_ret (results_ct rfl _ _ gb1059 47 #[.int .i64 t1064, .int .i64 t1065] (0, 0) _ rfl (by (with_reducible repeat (first|apply kN|apply kD|apply kA)); refine blk_put (cs := #[.int .i64 t1064, .int .i64 0]) ?_ 1 _ rfl; (with_reducible repeat (first|apply kN|apply kD|apply kA)); refine blk_put (cs := #[.int .i64 0, .int .i64 0]) ?_ 0 _ rfl; (with_reducible repeat (first|apply kN|apply kD|apply kA)); exact BK1059.out) Try.underlying47 rfl (by kernel_rfl)) rfl ?_
    exact ⟨by first|rfl|(simp [*, errW_none, errW_some] <;> rfl), by repeat (first | (with_reducible first | exact HB.out | apply bA|apply bN|apply b1 | refine below_set ?_ (Aside0.out (by assumption))) | exact HB.out)⟩

end Go.Proofs.Ytcjchihnopmplaa.F

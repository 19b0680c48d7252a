import Derived.Test.YtcjchihnopmplaaO0
import Derived.Test.YtcjchihnopmplaaO3
import Derived.Test.YtcjchihnopmplaaO7
import Derived.Test.YtcjchihnopmplaaO11
import Derived.Test.YtcjchihnopmplaaO12
namespace Go.Proofs.Ytcjchihnopmplaa.F
open Go.RowKit Go.Proofs.YtcjchihnopmplaaW.PrintWords Go.Proofs.YtcjchihnopmplaaW.PrintLast Go.Proofs.YtcjchihnopmplaaW.PrintMore
attribute [local go_sem] max2_int min2_int max_two min_two max_three min_three max_four min_four   -- for this text's walks alone
set_option linter.unusedVariables false
set_option linter.unusedSimpArgs false

mutual
def impl_ComposeMotions.j0 : Nat → Bool → Int → Int → Int → Int → Int → Int → Int → Int → Int → Int → Int → Int → Option (Int × Int × Int × Int × Int × Int × Int)
 | 0, _, _, _, _, _, _, _, _, _, _, _, _, _ => none
 | k + 1, x14, x893000, x893001, x893002, x893003, x893004, x893005, x894000, x894001, x894002, x894003, x894004, x894005 => if x14 = true then (some (0, 0, 0, 0, 0, 0, 1)) else ((impl_Motion_times.f x893000 x893001 x893002 x893003 x893004 x893005 x894000 x894001 x894002 x894003 x894004 x894005).bind fun bt897 => ((impl_Mat_isSmall.f bt897.1 bt897.2.1 bt897.2.2.1 bt897.2.2.2.1).bind fun t904 => (if t904 = true then ((impl_IsVec.f bt897.2.2.2.2.1 bt897.2.2.2.2.2).bind fun t905 => (impl_ComposeMotions.j1 k (!t905) bt897.1 bt897.2.1 bt897.2.2.1 bt897.2.2.2.1 bt897.2.2.2.2.1 bt897.2.2.2.2.2)) else (impl_ComposeMotions.j1 k true bt897.1 bt897.2.1 bt897.2.2.1 bt897.2.2.2.1 bt897.2.2.2.2.1 bt897.2.2.2.2.2))))
def impl_ComposeMotions.j1 : Nat → Bool → Int → Int → Int → Int → Int → Int → Option (Int × Int × Int × Int × Int × Int × Int)
 | 0, _, _, _, _, _, _, _ => none
 | k + 1, x28, x904000, x904001, x904002, x904003, x904004, x904005 => if x28 = true then (some (0, 0, 0, 0, 0, 0, 3)) else ((impl_Mat_isTurn.f k x904000 x904001 x904002 x904003).bind fun t906 => (if t906 = true then (some (x904000, x904001, x904002, x904003, x904004, x904005, 0)) else (some (0, 0, 0, 0, 0, 0, 5))))
end
def impl_ComposeMotions.f (k : Nat) (a0_0 : Int) (a0_1 : Int) (a0_2 : Int) (a0_3 : Int) (a0_4 : Int) (a0_5 : Int) (a1_0 : Int) (a1_1 : Int) (a1_2 : Int) (a1_3 : Int) (a1_4 : Int) (a1_5 : Int) : Option (Int × Int × Int × Int × Int × Int × Int) := (impl_IsMotion.f k a0_0 a0_1 a0_2 a0_3 a0_4 a0_5).bind fun t895 => (if t895 = true then ((impl_IsMotion.f k a1_0 a1_1 a1_2 a1_3 a1_4 a1_5).bind fun t896 => (impl_ComposeMotions.j0 k (!t896) a0_0 a0_1 a0_2 a0_3 a0_4 a0_5 a1_0 a1_1 a1_2 a1_3 a1_4 a1_5)) else (impl_ComposeMotions.j0 k true a0_0 a0_1 a0_2 a0_3 a0_4 a0_5 a1_0 a1_1 a1_2 a1_3 a1_4 a1_5))
set_option maxHeartbeats 8000000 in
set_option maxRecDepth 100000 in
theorem impl_ComposeMotions.calls (k : Nat) (a0_0 : Int) (a0_1 : Int) (a0_2 : Int) (a0_3 : Int) (a0_4 : Int) (a0_5 : Int) (a1_0 : Int) (a1_1 : Int) (a1_2 : Int) (a1_3 : Int) (a1_4 : Int) (a1_5 : Int) (r1 : Int) (r2 : Int) (r3 : Int) (r4 : Int) (r5 : Int) (r6 : Int) (r7 : Int) (w : World) (h : impl_ComposeMotions.f k a0_0 a0_1 a0_2 a0_3 a0_4 a0_5 a1_0 a1_1 a1_2 a1_3 a1_4 a1_5 = some (r1, r2, r3, r4, r5, r6, r7)) :
  Calls Try.prog 40 #[.agg #[.int .i64 a0_0, .int .i64 a0_1, .int .i64 a0_2, .int .i64 a0_3, .int .i64 a0_4, .int .i64 a0_5], .agg #[.int .i64 a1_0, .int .i64 a1_1, .int .i64 a1_2, .int .i64 a1_3, .int .i64 a1_4, .int .i64 a1_5]] w fun e w' => e = .returned (.tuple #[.agg #[.int .i64 r1, .int .i64 r2, .int .i64 r3, .int .i64 r4, .int .i64 r5, .int .i64 r6], .int .i64 r7]) ∧ Below w.heap.size w w' := by
 have hu64 := Try.underlying64
 have hu51 := Try.underlying51
 have hu47 := Try.underlying47
 have HB := aM (Below.refl w.heap.size w)
 have H : ((impl_IsMotion.f k a0_0 a0_1 a0_2 a0_3 a0_4 a0_5).bind fun t895 => (if t895 = true then ((impl_IsMotion.f k a1_0 a1_1 a1_2 a1_3 a1_4 a1_5).bind fun t896 => (impl_ComposeMotions.j0 k (!t896) a0_0 a0_1 a0_2 a0_3 a0_4 a0_5 a1_0 a1_1 a1_2 a1_3 a1_4 a1_5)) else (impl_ComposeMotions.j0 k true a0_0 a0_1 a0_2 a0_3 a0_4 a0_5 a1_0 a1_1 a1_2 a1_3 a1_4 a1_5))) = some (r1, r2, r3, r4, r5, r6, r7) := h
 clear h
 have HC3 := aM H
 clear H
 go_enter Try.func40, Try.ntmps40
 go_upto_region 1 with (first | ((with_reducible refine gate_dst (N := 2) rfl ?_); refine box_event ?hg (N := 2) ?hd (cs := #[.int .i64 a0_0, .int .i64 a0_1, .int .i64 a0_2, .int .i64 a0_3, .int .i64 a0_4, .int .i64 a0_5]) (t := 64) ?hr ?_; (case hd => rfl); (case hg => rfl); (case hr => first | (go_simp; done) | (go_simp; rfl)); intro gb892 hg w4 hbox hb; have n0_ := bS HB hb; have n1_ := aM (hbox); have n2_ := bZ hg HB; have n3_ := bZ hg HB; clear HB; have HB := n0_; have BK892 := n1_; have GW892 := n2_; have GE892 := n3_; clear n0_ n1_ n2_ n3_; clear hb hbox hg) | ((with_reducible refine gate_dst (N := 3) rfl ?_); refine box_event ?hg (N := 3) ?hd (cs := #[.int .i64 a1_0, .int .i64 a1_1, .int .i64 a1_2, .int .i64 a1_3, .int .i64 a1_4, .int .i64 a1_5]) (t := 64) ?hr ?_; (case hd => rfl); (case hg => rfl); (case hr => first | (go_simp; done) | (go_simp; rfl)); intro gb893 hg w5 hbox hb; have n0_ := bB BK892 hb; have n1_ := bS HB hb; have n2_ := aM (hbox); have n3_ := bZ hg HB; have n4_ := bZ hg HB; have n5_ := nL hg BK892; have n6_ := nG hg BK892; clear BK892; clear HB; have BK892 := n0_; have HB := n1_; have BK893 := n2_; have GW893 := n3_; have GE893 := n4_; have NB892_893 := n5_; have NB893_892 := n6_; clear n0_ n1_ n2_ n3_ n4_ n5_ n6_; clear hb hbox hg) | ((with_reducible refine gate_dst (N := 4) rfl ?_); refine box_event ?hg (N := 4) ?hd (cs := #[.int .i64 0, .int .i64 0, .int .i64 0, .int .i64 0, .int .i64 0, .int .i64 0]) (t := 64) ?hr ?_; (case hd => rfl); (case hg => rfl); (case hr => first | (go_simp; done) | (go_simp; rfl)); intro gb894 hg w6 hbox hb; have n0_ := bB BK892 hb; have n1_ := bB BK893 hb; have n2_ := bS HB hb; have n3_ := aM (hbox); have n4_ := bZ hg HB; have n5_ := bZ hg HB; have n6_ := nL hg BK892; have n7_ := nG hg BK892; have n8_ := nL hg BK893; have n9_ := nG hg BK893; clear BK892; clear BK893; clear HB; have BK892 := n0_; have BK893 := n1_; have HB := n2_; have BK894 := n3_; have GW894 := n4_; have GE894 := n5_; have NB892_894 := n6_; have NB894_892 := n7_; have NB893_894 := n8_; have NB894_893 := n9_; clear n0_ n1_ n2_ n3_ n4_ n5_ n6_ n7_ n8_ n9_; clear hb hbox hg))
 (try simp only [Act.put, List.setIfInBounds_toArray, List.set_cons_zero, List.set_cons_succ])
 go_cut [14] (fun v14 wc => ∃ (kq : Nat) (x14_2 : Bool), v14 = .bool x14_2 ∧ Aside0 (impl_ComposeMotions.j0 kq x14_2 a0_0 a0_1 a0_2 a0_3 a0_4 a0_5 a1_0 a1_1 a1_2 a1_3 a1_4 a1_5 = some (r1, r2, r3, r4, r5, r6, r7)) ∧ Aside0 (kq ≤ k) ∧ Aside0 (wc.heap[gb892]? = some (.cells #[.int .i64 a0_0, .int .i64 a0_1, .int .i64 a0_2, .int .i64 a0_3, .int .i64 a0_4, .int .i64 a0_5] 64 (0, 0))) ∧ Aside0 (wc.heap[gb893]? = some (.cells #[.int .i64 a1_0, .int .i64 a1_1, .int .i64 a1_2, .int .i64 a1_3, .int .i64 a1_4, .int .i64 a1_5] 64 (0, 0))) ∧ Aside0 (wc.heap[gb894]? = some (.cells #[.int .i64 0, .int .i64 0, .int .i64 0, .int .i64 0, .int .i64 0, .int .i64 0] 64 (0, 0))) ∧ Aside0 (Below w.heap.size w wc))
 case first =>
  have H := HC3.out
  clear HC3
  replace H := Option.bind_eq_some_iff.mp H
  obtain ⟨t895, A70, H⟩ := H
  try dsimp only at H
  have A7 := aM A70
  clear A70
  by_cases c8 : t895 = true
  ·subst c8
   have H1 : ((impl_IsMotion.f k a1_0 a1_1 a1_2 a1_3 a1_4 a1_5).bind fun t896 => (impl_ComposeMotions.j0 k (!t896) a0_0 a0_1 a0_2 a0_3 a0_4 a0_5 a1_0 a1_1 a1_2 a1_3 a1_4 a1_5)) = some (r1, r2, r3, r4, r5, r6, r7) := by rw [if_pos rfl] at H; exact H
   clear H
   have H := H1
   clear H1
   replace H := Option.bind_eq_some_iff.mp H
   obtain ⟨t896, A90, H⟩ := H
   try dsimp only at H
   have A9 := aM A90
   clear A90
   have H' := aM H
   clear H
   have hnb10 := NB892_893.out
   have hnc10 := NB893_892.out
   have hnb11 := NB892_894.out
   have hnc11 := NB894_892.out
   obtain ⟨hcz12_0, hcz12_1, hcz12_2, hcz12_3, hcz12_4, hcz12_5⟩ := z6 BK892
   obtain ⟨hfz12_0, hfz12_1, hfz12_2, hfz12_3, hfz12_4, hfz12_5⟩ := y6 BK892
   go_wp2_with (first | ((with_reducible refine gate_callee (f := 48) rfl ?_); refine goesL_ (some 8) rfl rfl Try.func48 (by kernel_rfl) rfl #[.agg #[.int .i64 a0_0, .int .i64 a0_1, .int .i64 a0_2, .int .i64 a0_3, .int .i64 a0_4, .int .i64 a0_5]] rfl (by first|rfl|(simp only [List.map_toArray, List.map_cons, List.map_nil]; try rfl)) ?_; (with_reducible refine (impl_IsMotion.calls k a0_0 a0_1 a0_2 a0_3 a0_4 a0_5 true _ A7.out).mono ?_); rintro e w13 ⟨rfl, hb⟩; refine ⟨_, rfl, ?_⟩; have n0_ := bB BK892 hb; have n1_ := bB BK893 hb; have n2_ := bB BK894 hb; have n3_ := bS HB hb; clear BK892; clear BK893; clear BK894; clear HB; have BK892 := n0_; have BK893 := n1_; have BK894 := n2_; have HB := n3_; clear n0_ n1_ n2_ n3_; (try clear hb); have hnb14 := NB893_894.out; have hnc14 := NB894_893.out; obtain ⟨hcz15_0, hcz15_1, hcz15_2, hcz15_3, hcz15_4, hcz15_5⟩ := z6 BK893; obtain ⟨hfz15_0, hfz15_1, hfz15_2, hfz15_3, hfz15_4, hfz15_5⟩ := y6 BK893) | (go_at_call 48; (with_reducible refine (impl_IsMotion.calls k a1_0 a1_1 a1_2 a1_3 a1_4 a1_5 t896 _ A9.out).mono ?_); rintro e w16 ⟨rfl, hb⟩; have n0_ := bB BK892 hb; have n1_ := bB BK893 hb; have n2_ := bB BK894 hb; have n3_ := bS HB hb; clear BK892; clear BK893; clear BK894; clear HB; have BK892 := n0_; have BK893 := n1_; have BK894 := n2_; have HB := n3_; clear n0_ n1_ n2_ n3_; (try clear hb)))
   go_meet
   case rel => exact ⟨_, (!t896), (by first | rfl | (simp; done) | (simp [*]; done)), H', ⟨by first | omega | exact Nat.le_refl _⟩, ⟨by (with_reducible repeat (first|apply kN|apply kD|apply kA)); exact BK892.out⟩, ⟨by (with_reducible repeat (first|apply kN|apply kD|apply kA)); exact BK893.out⟩, ⟨by (with_reducible repeat (first|apply kN|apply kD|apply kA)); exact BK894.out⟩, ⟨by repeat (first | (with_reducible first | exact HB.out | apply bA|apply bN|apply b1 | refine below_set ?_ (Aside0.out (by assumption))) | exact HB.out)⟩⟩
  ·replace c8 := Bool.eq_false_iff.mpr c8
   subst c8
   have H1 : (impl_ComposeMotions.j0 k true a0_0 a0_1 a0_2 a0_3 a0_4 a0_5 a1_0 a1_1 a1_2 a1_3 a1_4 a1_5) = some (r1, r2, r3, r4, r5, r6, r7) := by rw [if_neg (show ¬ (false = true) by decide)] at H; exact H
   clear H
   have H := H1
   clear H1
   have H' := aM H
   clear H
   have hnb17 := NB892_893.out
   have hnc17 := NB893_892.out
   have hnb18 := NB892_894.out
   have hnc18 := NB894_892.out
   obtain ⟨hcz19_0, hcz19_1, hcz19_2, hcz19_3, hcz19_4, hcz19_5⟩ := z6 BK892
   obtain ⟨hfz19_0, hfz19_1, hfz19_2, hfz19_3, hfz19_4, hfz19_5⟩ := y6 BK892
   go_wp2_with (first | ((with_reducible refine gate_callee (f := 48) rfl ?_); refine goesL_ (some 8) rfl rfl Try.func48 (by kernel_rfl) rfl #[.agg #[.int .i64 a0_0, .int .i64 a0_1, .int .i64 a0_2, .int .i64 a0_3, .int .i64 a0_4, .int .i64 a0_5]] rfl (by first|rfl|(simp only [List.map_toArray, List.map_cons, List.map_nil]; try rfl)) ?_; (with_reducible refine (impl_IsMotion.calls k a0_0 a0_1 a0_2 a0_3 a0_4 a0_5 false _ A7.out).mono ?_); rintro e w20 ⟨rfl, hb⟩; refine ⟨_, rfl, ?_⟩; have n0_ := bB BK892 hb; have n1_ := bB BK893 hb; have n2_ := bB BK894 hb; have n3_ := bS HB hb; clear BK892; clear BK893; clear BK894; clear HB; have BK892 := n0_; have BK893 := n1_; have BK894 := n2_; have HB := n3_; clear n0_ n1_ n2_ n3_; (try clear hb)))
   go_meet
   case rel => exact ⟨_, (true), (by first | rfl | (simp; done) | (simp [*]; done)), H', ⟨by first | omega | exact Nat.le_refl _⟩, ⟨by (with_reducible repeat (first|apply kN|apply kD|apply kA)); exact BK892.out⟩, ⟨by (with_reducible repeat (first|apply kN|apply kD|apply kA)); exact BK893.out⟩, ⟨by (with_reducible repeat (first|apply kN|apply kD|apply kA)); exact BK894.out⟩, ⟨by repeat (first | (with_reducible first | exact HB.out | apply bA|apply bN|apply b1 | refine below_set ?_ (Aside0.out (by assumption))) | exact HB.out)⟩⟩
 case rest =>
  clear HC3
  try clear c1
  try clear p2
  try clear c4
  try clear c8
  try clear c10
  try clear c11
  try clear c14
  try clear c17
  try clear c18
  try clear hcz12_0
  try clear hcz12_1
  try clear hcz12_2
  try clear hcz12_3
  try clear hcz12_4
  try clear hcz12_5
  try clear hcz15_0
  try clear hcz15_1
  try clear hcz15_2
  try clear hcz15_3
  try clear hcz15_4
  try clear hcz15_5
  try clear hcz19_0
  try clear hcz19_1
  try clear hcz19_2
  try clear hcz19_3
  try clear hcz19_4
  try clear hcz19_5
  try clear hfz12_0
  try clear hfz12_1
  try clear hfz12_2
  try clear hfz12_3
  try clear hfz12_4
  try clear hfz12_5
  try clear hfz15_0
  try clear hfz15_1
  try clear hfz15_2
  try clear hfz15_3
  try clear hfz15_4
  try clear hfz15_5
  try clear hfz19_0
  try clear hfz19_1
  try clear hfz19_2
  try clear hfz19_3
  try clear hfz19_4
  try clear hfz19_5
  obtain ⟨kq, x14_2, rfl, HA, HJ2, BK892, BK893, BK894, HB⟩ := hcut
  cases kq with
  | zero => exact absurd HA.out (by simp [impl_ComposeMotions.j0])
  | succ kj2 =>
   have H := HA.out
   clear HA
   simp only [impl_ComposeMotions.j0] at H
   by_cases c21 : x14_2 = true
   ·subst c21
    have H1 : (some (0, 0, 0, 0, 0, 0, 1)) = some (r1, r2, r3, r4, r5, r6, r7) := by rw [if_pos rfl] at H; exact H
    clear H
    have H := H1
    clear H1
    simp only [Option.some.injEq, Prod.mk.injEq] at H
    obtain ⟨rfl, rfl, rfl, rfl, rfl, rfl, rfl⟩ := H
    have hnb22 := NB894_892.out
    have hnc22 := NB892_894.out
    have hnb23 := NB894_893.out
    have hnc23 := NB893_894.out
    obtain ⟨hcz24_0, hcz24_1, hcz24_2, hcz24_3, hcz24_4, hcz24_5⟩ := z6 BK894
    obtain ⟨hfz24_0, hfz24_1, hfz24_2, hfz24_3, hfz24_4, hfz24_5⟩ := y6 BK894
    go_wp2
    refine bodyPost_ret (results_ct rfl _ _ gb894 64 #[.int .i64 0, .int .i64 0, .int .i64 0, .int .i64 0, .int .i64 0, .int .i64 0] (0, 0) _ rfl (by (with_reducible repeat (first|apply kN|apply kD|apply kA)); refine blk_put (cs := #[.int .i64 0, .int .i64 0, .int .i64 0, .int .i64 0, .int .i64 0, .int .i64 0]) ?_ 5 _ rfl; (with_reducible repeat (first|apply kN|apply kD|apply kA)); refine blk_put (cs := #[.int .i64 0, .int .i64 0, .int .i64 0, .int .i64 0, .int .i64 0, .int .i64 0]) ?_ 4 _ rfl; (with_reducible repeat (first|apply kN|apply kD|apply kA)); refine blk_put (cs := #[.int .i64 0, .int .i64 0, .int .i64 0, .int .i64 0, .int .i64 0, .int .i64 0]) ?_ 3 _ rfl; (with_reducible repeat (first|apply kN|apply kD|apply kA)); refine blk_put (cs := #[.int .i64 0, .int .i64 0, .int .i64 0, .int .i64 0, .int .i64 0, .int .i64 0]) ?_ 2 _ rfl; (with_reducible repeat (first|apply kN|apply kD|apply kA)); refine blk_put (cs := #[.int .i64 0, .int .i64 0, .int .i64 0, .int .i64 0, .int .i64 0, .int .i64 0]) ?_ 1 _ rfl; (with_reducible repeat (first|apply kN|apply kD|apply kA)); refine blk_put (cs := #[.int .i64 0, .int .i64 0, .int .i64 0, .int .i64 0, .int .i64 0, .int .i64 0]) ?_ 0 _ rfl; (with_reducible repeat (first|apply kN|apply kD|apply kA)); exact BK894.out) Try.underlying64 rfl (by kernel_rfl)) rfl ?_
    exact ⟨by first|rfl|(simp [*, errW_none, errW_some] <;> rfl), by repeat (first | (with_reducible first | exact HB.out | apply bA|apply bN|apply b1 | refine below_set ?_ (Aside0.out (by assumption))) | exact HB.out)⟩
   ·replace c21 := Bool.eq_false_iff.mpr c21
    subst c21
    have H1 : ((impl_Motion_times.f a0_0 a0_1 a0_2 a0_3 a0_4 a0_5 a1_0 a1_1 a1_2 a1_3 a1_4 a1_5).bind fun bt897 => ((impl_Mat_isSmall.f bt897.1 bt897.2.1 bt897.2.2.1 bt897.2.2.2.1).bind fun t904 => (if t904 = true then ((impl_IsVec.f bt897.2.2.2.2.1 bt897.2.2.2.2.2).bind fun t905 => (impl_ComposeMotions.j1 kj2 (!t905) bt897.1 bt897.2.1 bt897.2.2.1 bt897.2.2.2.1 bt897.2.2.2.2.1 bt897.2.2.2.2.2)) else (impl_ComposeMotions.j1 kj2 true bt897.1 bt897.2.1 bt897.2.2.1 bt897.2.2.2.1 bt897.2.2.2.2.1 bt897.2.2.2.2.2)))) = some (r1, r2, r3, r4, r5, r6, r7) := by rw [if_neg (show ¬ (false = true) by decide)] at H; exact H
    clear H
    have H := H1
    clear H1
    replace H := Option.bind_eq_some_iff.mp H
    obtain ⟨⟨t897, t898, t899, t900, t901, t902⟩, A250, H⟩ := H
    try dsimp only at H
    have A25 := aM A250
    clear A250
    have HC26 := aM H
    clear H
    have hnb27 := NB892_893.out
    have hnc27 := NB893_892.out
    have hnb28 := NB892_894.out
    have hnc28 := NB894_892.out
    obtain ⟨hcz29_0, hcz29_1, hcz29_2, hcz29_3, hcz29_4, hcz29_5⟩ := z6 BK892
    obtain ⟨hfz29_0, hfz29_1, hfz29_2, hfz29_3, hfz29_4, hfz29_5⟩ := y6 BK892
    have hnb30 := NB893_894.out
    have hnc30 := NB894_893.out
    obtain ⟨hcz31_0, hcz31_1, hcz31_2, hcz31_3, hcz31_4, hcz31_5⟩ := z6 BK893
    obtain ⟨hfz31_0, hfz31_1, hfz31_2, hfz31_3, hfz31_4, hfz31_5⟩ := y6 BK893
    go_upto_region 4 with (first | ((with_reducible refine gate_callee (f := 106) rfl ?_); refine goesL_ (some 18) rfl rfl Try.func106 (by kernel_rfl) rfl #[.agg #[.int .i64 a0_0, .int .i64 a0_1, .int .i64 a0_2, .int .i64 a0_3, .int .i64 a0_4, .int .i64 a0_5], .agg #[.int .i64 a1_0, .int .i64 a1_1, .int .i64 a1_2, .int .i64 a1_3, .int .i64 a1_4, .int .i64 a1_5]] rfl (by first|rfl|(simp only [List.map_toArray, List.map_cons, List.map_nil]; try rfl)) ?_; (with_reducible refine (impl_Motion_times.calls a0_0 a0_1 a0_2 a0_3 a0_4 a0_5 a1_0 a1_1 a1_2 a1_3 a1_4 a1_5 t897 t898 t899 t900 t901 t902 _ A25.out).mono ?_); rintro e w32 ⟨rfl, hb⟩; refine ⟨_, rfl, ?_⟩; have n0_ := bB BK892 hb; have n1_ := bB BK893 hb; have n2_ := bB BK894 hb; have n3_ := bS HB hb; clear BK892; clear BK893; clear BK894; clear HB; have BK892 := n0_; have BK893 := n1_; have BK894 := n2_; have HB := n3_; clear n0_ n1_ n2_ n3_; (try clear hb)) | ((with_reducible refine gate_dst (N := 6) rfl ?_); refine box_event ?hg (N := 6) ?hd (cs := #[.int .i64 0, .int .i64 0, .int .i64 0, .int .i64 0, .int .i64 0, .int .i64 0]) (t := 64) ?hr ?_; (case hd => rfl); (case hg => rfl); (case hr => first | (go_simp; done) | (go_simp; rfl)); intro gb903 hg w33 hbox hb; have n0_ := bB BK892 hb; have n1_ := bB BK893 hb; have n2_ := bB BK894 hb; have n3_ := bS HB hb; have n4_ := aM (hbox); have n5_ := bZ hg HB; have n6_ := bZ hg HB; have n7_ := nL hg BK892; have n8_ := nG hg BK892; have n9_ := nL hg BK893; have n10_ := nG hg BK893; have n11_ := nL hg BK894; have n12_ := nG hg BK894; clear BK892; clear BK893; clear BK894; clear HB; have BK892 := n0_; have BK893 := n1_; have BK894 := n2_; have HB := n3_; have BK903 := n4_; have GW903 := n5_; have GE903 := n6_; have NB892_903 := n7_; have NB903_892 := n8_; have NB893_903 := n9_; have NB903_893 := n10_; have NB894_903 := n11_; have NB903_894 := n12_; clear n0_ n1_ n2_ n3_ n4_ n5_ n6_ n7_ n8_ n9_ n10_ n11_ n12_; clear hb hbox hg; have hnb34 := NB903_892.out; have hnc34 := NB892_903.out; have hnb35 := NB903_893.out; have hnc35 := NB893_903.out; have hnb36 := NB903_894.out; have hnc36 := NB894_903.out; obtain ⟨hcz37_0, hcz37_1, hcz37_2, hcz37_3, hcz37_4, hcz37_5⟩ := z6 BK903; obtain ⟨hfz37_0, hfz37_1, hfz37_2, hfz37_3, hfz37_4, hfz37_5⟩ := y6 BK903))
    (try simp only [Act.put, List.setIfInBounds_toArray, List.set_cons_zero, List.set_cons_succ])
    go_cut [28] (fun v28 wc => ∃ (kq : Nat) (x28_25 : Bool), v28 = .bool x28_25 ∧ Aside0 (impl_ComposeMotions.j1 kq x28_25 t897 t898 t899 t900 t901 t902 = some (r1, r2, r3, r4, r5, r6, r7)) ∧ Aside0 (kq ≤ kj2) ∧ Aside0 (wc.heap[gb892]? = some (.cells #[.int .i64 a0_0, .int .i64 a0_1, .int .i64 a0_2, .int .i64 a0_3, .int .i64 a0_4, .int .i64 a0_5] 64 (0, 0))) ∧ Aside0 (wc.heap[gb893]? = some (.cells #[.int .i64 a1_0, .int .i64 a1_1, .int .i64 a1_2, .int .i64 a1_3, .int .i64 a1_4, .int .i64 a1_5] 64 (0, 0))) ∧ Aside0 (wc.heap[gb894]? = some (.cells #[.int .i64 0, .int .i64 0, .int .i64 0, .int .i64 0, .int .i64 0, .int .i64 0] 64 (0, 0))) ∧ Aside0 (wc.heap[gb903]? = some (.cells #[.int .i64 t897, .int .i64 t898, .int .i64 t899, .int .i64 t900, .int .i64 t901, .int .i64 t902] 64 (0, 0))) ∧ Aside0 (Below w.heap.size w wc))
    case first =>
     have H := HC26.out
     clear HC26
     replace H := Option.bind_eq_some_iff.mp H
     obtain ⟨t904, A380, H⟩ := H
     try dsimp only at H
     have A38 := aM A380
     clear A380
     by_cases c39 : t904 = true
     ·subst c39
      have H1 : ((impl_IsVec.f t901 t902).bind fun t905 => (impl_ComposeMotions.j1 kj2 (!t905) t897 t898 t899 t900 t901 t902)) = some (r1, r2, r3, r4, r5, r6, r7) := by rw [if_pos rfl] at H; exact H
      clear H
      have H := H1
      clear H1
      replace H := Option.bind_eq_some_iff.mp H
      obtain ⟨t905, A400, H⟩ := H
      try dsimp only at H
      have A40 := aM A400
      clear A400
      have H' := aM H
      clear H
      have hnb41 := NB903_892.out
      have hnc41 := NB892_903.out
      have hnb42 := NB903_893.out
      have hnc42 := NB893_903.out
      have hnb43 := NB903_894.out
      have hnc43 := NB894_903.out
      obtain ⟨hcz44_0, hcz44_1, hcz44_2, hcz44_3, hcz44_4, hcz44_5⟩ := z6 BK903
      obtain ⟨hfz44_0, hfz44_1, hfz44_2, hfz44_3, hfz44_4, hfz44_5⟩ := y6 BK903
      go_wp2_with (first | ((with_reducible refine gate_callee (f := 90) rfl ?_); refine goesL_ (some 21) rfl rfl Try.func90 (by kernel_rfl) rfl #[.agg #[.int .i64 t897, .int .i64 t898, .int .i64 t899, .int .i64 t900]] rfl (by first|rfl|(simp only [List.map_toArray, List.map_cons, List.map_nil]; try rfl)) ?_; (with_reducible refine (impl_Mat_isSmall.calls t897 t898 t899 t900 true _ A38.out).mono ?_); rintro e w45 ⟨rfl, hb⟩; refine ⟨_, rfl, ?_⟩; have n0_ := aM (blk_below (g := gb892) (o := .cells #[.int .i64 a0_0, .int .i64 a0_1, .int .i64 a0_2, .int .i64 a0_3, .int .i64 a0_4, .int .i64 a0_5] 64 (0, 0)) (by (repeat (first|(with_reducible first|apply kN|apply kD|apply kA)|refine blk_far ?_ NB892_903.out _)); exact BK892.out) hb); have n1_ := aM (blk_below (g := gb893) (o := .cells #[.int .i64 a1_0, .int .i64 a1_1, .int .i64 a1_2, .int .i64 a1_3, .int .i64 a1_4, .int .i64 a1_5] 64 (0, 0)) (by (repeat (first|(with_reducible first|apply kN|apply kD|apply kA)|refine blk_far ?_ NB893_903.out _)); exact BK893.out) hb); have n2_ := aM (blk_below (g := gb894) (o := .cells #[.int .i64 0, .int .i64 0, .int .i64 0, .int .i64 0, .int .i64 0, .int .i64 0] 64 (0, 0)) (by (repeat (first|(with_reducible first|apply kN|apply kD|apply kA)|refine blk_far ?_ NB894_903.out _)); exact BK894.out) hb); have n3_ := aM (blk_below (g := gb903) (o := .cells #[.int .i64 t897, .int .i64 t898, .int .i64 t899, .int .i64 t900, .int .i64 t901, .int .i64 t902] 64 (0, 0)) (by (with_reducible repeat (first|apply kN|apply kD|apply kA)); refine blk_put (cs := #[.int .i64 t897, .int .i64 t898, .int .i64 t899, .int .i64 t900, .int .i64 t901, .int .i64 0]) ?_ 5 _ rfl; (with_reducible repeat (first|apply kN|apply kD|apply kA)); refine blk_put (cs := #[.int .i64 t897, .int .i64 t898, .int .i64 t899, .int .i64 t900, .int .i64 0, .int .i64 0]) ?_ 4 _ rfl; (with_reducible repeat (first|apply kN|apply kD|apply kA)); refine blk_put (cs := #[.int .i64 t897, .int .i64 t898, .int .i64 t899, .int .i64 0, .int .i64 0, .int .i64 0]) ?_ 3 _ rfl; (with_reducible repeat (first|apply kN|apply kD|apply kA)); refine blk_put (cs := #[.int .i64 t897, .int .i64 t898, .int .i64 0, .int .i64 0, .int .i64 0, .int .i64 0]) ?_ 2 _ rfl; (with_reducible repeat (first|apply kN|apply kD|apply kA)); refine blk_put (cs := #[.int .i64 t897, .int .i64 0, .int .i64 0, .int .i64 0, .int .i64 0, .int .i64 0]) ?_ 1 _ rfl; (with_reducible repeat (first|apply kN|apply kD|apply kA)); refine blk_put (cs := #[.int .i64 0, .int .i64 0, .int .i64 0, .int .i64 0, .int .i64 0, .int .i64 0]) ?_ 0 _ rfl; (with_reducible repeat (first|apply kN|apply kD|apply kA)); exact BK903.out) hb); have n4_ := bS HB hb; clear BK892; clear BK893; clear BK894; clear BK903; clear HB; have BK892 := n0_; have BK893 := n1_; have BK894 := n2_; have BK903 := n3_; have HB := n4_; clear n0_ n1_ n2_ n3_ n4_; (try clear hb); obtain ⟨hcz46_0, hcz46_1, hcz46_2, hcz46_3, hcz46_4, hcz46_5⟩ := z6 BK903; obtain ⟨hfz46_0, hfz46_1, hfz46_2, hfz46_3, hfz46_4, hfz46_5⟩ := y6 BK903) | (go_at_call 87; (with_reducible refine (impl_IsVec.calls t901 t902 t905 _ A40.out).mono ?_); rintro e w47 ⟨rfl, hb⟩; have n0_ := bB BK892 hb; have n1_ := bB BK893 hb; have n2_ := bB BK894 hb; have n3_ := bB BK903 hb; have n4_ := bS HB hb; clear BK892; clear BK893; clear BK894; clear BK903; clear HB; have BK892 := n0_; have BK893 := n1_; have BK894 := n2_; have BK903 := n3_; have HB := n4_; clear n0_ n1_ n2_ n3_ n4_; (try clear hb)))
      go_meet
      case rel => exact ⟨_, (!t905), (by first | rfl | (simp; done) | (simp [*]; done)), H', ⟨by have := HJ2.out; first | omega | exact Nat.le_refl _⟩, ⟨by (with_reducible repeat (first|apply kN|apply kD|apply kA)); exact BK892.out⟩, ⟨by (with_reducible repeat (first|apply kN|apply kD|apply kA)); exact BK893.out⟩, ⟨by (with_reducible repeat (first|apply kN|apply kD|apply kA)); exact BK894.out⟩, ⟨by (with_reducible repeat (first|apply kN|apply kD|apply kA)); exact BK903.out⟩, ⟨by repeat (first | (with_reducible first | exact HB.out | apply bA|apply bN|apply b1 | refine below_set ?_ (Aside0.out (by assumption))) | exact HB.out)⟩⟩
     ·replace c39 := Bool.eq_false_iff.mpr c39
      subst c39
      have H1 : (impl_ComposeMotions.j1 kj2 true t897 t898 t899 t900 t901 t902) = some (r1, r2, r3, r4, r5, r6, r7) := by rw [if_neg (show ¬ (false = true) by decide)] at H; exact H
      clear H
      have H := H1
      clear H1
      have H' := aM H
      clear H
      have hnb48 := NB903_892.out
      have hnc48 := NB892_903.out
      have hnb49 := NB903_893.out
      have hnc49 := NB893_903.out
      have hnb50 := NB903_894.out
      have hnc50 := NB894_903.out
      obtain ⟨hcz51_0, hcz51_1, hcz51_2, hcz51_3, hcz51_4, hcz51_5⟩ := z6 BK903
      obtain ⟨hfz51_0, hfz51_1, hfz51_2, hfz51_3, hfz51_4, hfz51_5⟩ := y6 BK903
      go_wp2_with (first | ((with_reducible refine gate_callee (f := 90) rfl ?_); refine goesL_ (some 21) rfl rfl Try.func90 (by kernel_rfl) rfl #[.agg #[.int .i64 t897, .int .i64 t898, .int .i64 t899, .int .i64 t900]] rfl (by first|rfl|(simp only [List.map_toArray, List.map_cons, List.map_nil]; try rfl)) ?_; (with_reducible refine (impl_Mat_isSmall.calls t897 t898 t899 t900 false _ A38.out).mono ?_); rintro e w52 ⟨rfl, hb⟩; refine ⟨_, rfl, ?_⟩; have n0_ := aM (blk_below (g := gb892) (o := .cells #[.int .i64 a0_0, .int .i64 a0_1, .int .i64 a0_2, .int .i64 a0_3, .int .i64 a0_4, .int .i64 a0_5] 64 (0, 0)) (by (repeat (first|(with_reducible first|apply kN|apply kD|apply kA)|refine blk_far ?_ NB892_903.out _)); exact BK892.out) hb); have n1_ := aM (blk_below (g := gb893) (o := .cells #[.int .i64 a1_0, .int .i64 a1_1, .int .i64 a1_2, .int .i64 a1_3, .int .i64 a1_4, .int .i64 a1_5] 64 (0, 0)) (by (repeat (first|(with_reducible first|apply kN|apply kD|apply kA)|refine blk_far ?_ NB893_903.out _)); exact BK893.out) hb); have n2_ := aM (blk_below (g := gb894) (o := .cells #[.int .i64 0, .int .i64 0, .int .i64 0, .int .i64 0, .int .i64 0, .int .i64 0] 64 (0, 0)) (by (repeat (first|(with_reducible first|apply kN|apply kD|apply kA)|refine blk_far ?_ NB894_903.out _)); exact BK894.out) hb); have n3_ := aM (blk_below (g := gb903) (o := .cells #[.int .i64 t897, .int .i64 t898, .int .i64 t899, .int .i64 t900, .int .i64 t901, .int .i64 t902] 64 (0, 0)) (by (with_reducible repeat (first|apply kN|apply kD|apply kA)); refine blk_put (cs := #[.int .i64 t897, .int .i64 t898, .int .i64 t899, .int .i64 t900, .int .i64 t901, .int .i64 0]) ?_ 5 _ rfl; (with_reducible repeat (first|apply kN|apply kD|apply kA)); refine blk_put (cs := #[.int .i64 t897, .int .i64 t898, .int .i64 t899, .int .i64 t900, .int .i64 0, .int .i64 0]) ?_ 4 _ rfl; (with_reducible repeat (first|apply kN|apply kD|apply kA)); refine blk_put (cs := #[.int .i64 t897, .int .i64 t898, .int .i64 t899, .int .i64 0, .int .i64 0, .int .i64 0]) ?_ 3 _ rfl; (with_reducible repeat (first|apply kN|apply kD|apply kA)); refine blk_put (cs := #[.int .i64 t897, .int .i64 t898, .int .i64 0, .int .i64 0, .int .i64 0, .int .i64 0]) ?_ 2 _ rfl; (with_reducible repeat (first|apply kN|apply kD|apply kA)); refine blk_put (cs := #[.int .i64 t897, .int .i64 0, .int .i64 0, .int .i64 0, .int .i64 0, .int .i64 0]) ?_ 1 _ rfl; (with_reducible repeat (first|apply kN|apply kD|apply kA)); refine blk_put (cs := #[.int .i64 0, .int .i64 0, .int .i64 0, .int .i64 0, .int .i64 0, .int .i64 0]) ?_ 0 _ rfl; (with_reducible repeat (first|apply kN|apply kD|apply kA)); exact BK903.out) hb); have n4_ := bS HB hb; clear BK892; clear BK893; clear BK894; clear BK903; clear HB; have BK892 := n0_; have BK893 := n1_; have BK894 := n2_; have BK903 := n3_; have HB := n4_; clear n0_ n1_ n2_ n3_ n4_; (try clear hb)))
      go_meet
      case rel => exact ⟨_, (true), (by first | rfl | (simp; done) | (simp [*]; done)), H', ⟨by have := HJ2.out; first | omega | exact Nat.le_refl _⟩, ⟨by (with_reducible repeat (first|apply kN|apply kD|apply kA)); exact BK892.out⟩, ⟨by (with_reducible repeat (first|apply kN|apply kD|apply kA)); exact BK893.out⟩, ⟨by (with_reducible repeat (first|apply kN|apply kD|apply kA)); exact BK894.out⟩, ⟨by (with_reducible repeat (first|apply kN|apply kD|apply kA)); exact BK903.out⟩, ⟨by repeat (first | (with_reducible first | exact HB.out | apply bA|apply bN|apply b1 | refine below_set ?_ (Aside0.out (by assumption))) | exact HB.out)⟩⟩
    case rest =>
     clear HC26
     try clear c1
     try clear c2
     try clear p2
     try clear c3
     try clear c4
     try clear c5
     try clear c8
     try clear c9
     try clear c10
     try clear c11
     try clear c14
     try clear c17
     try clear c18
     try clear c21
     try clear c22
     try clear c23
     try clear c27
     try clear c28
     try clear c30
     try clear c34
     try clear c35
     try clear c36
     try clear c39
     try clear c40
     try clear c41
     try clear c42
     try clear c43
     try clear c48
     try clear c49
     try clear c50
     try clear hcz12_0
     try clear hcz12_1
     try clear hcz12_2
     try clear hcz12_3
     try clear hcz12_4
     try clear hcz12_5
     try clear hcz15_0
     try clear hcz15_1
     try clear hcz15_2
     try clear hcz15_3
     try clear hcz15_4
     try clear hcz15_5
     try clear hcz19_0
     try clear hcz19_1
     try clear hcz19_2
     try clear hcz19_3
     try clear hcz19_4
     try clear hcz19_5
     try clear hcz24_0
     try clear hcz24_1
     try clear hcz24_2
     try clear hcz24_3
     try clear hcz24_4
     try clear hcz24_5
     try clear hcz29_0
     try clear hcz29_1
     try clear hcz29_2
     try clear hcz29_3
     try clear hcz29_4
     try clear hcz29_5
     try clear hcz31_0
     try clear hcz31_1
     try clear hcz31_2
     try clear hcz31_3
     try clear hcz31_4
     try clear hcz31_5
     try clear hcz37_0
     try clear hcz37_1
     try clear hcz37_2
     try clear hcz37_3
     try clear hcz37_4
     try clear hcz37_5
     try clear hcz44_0
     try clear hcz44_1
     try clear hcz44_2
     try clear hcz44_3
     try clear hcz44_4
     try clear hcz44_5
     try clear hcz46_0
     try clear hcz46_1
     try clear hcz46_2
     try clear hcz46_3
     try clear hcz46_4
     try clear hcz46_5
     try clear hcz51_0
     try clear hcz51_1
     try clear hcz51_2
     try clear hcz51_3
     try clear hcz51_4
     try clear hcz51_5
     try clear hfz12_0
     try clear hfz12_1
     try clear hfz12_2
     try clear hfz12_3
     try clear hfz12_4
     try clear hfz12_5
     try clear hfz15_0
     try clear hfz15_1
     try clear hfz15_2
     try clear hfz15_3
     try clear hfz15_4
     try clear hfz15_5
     try clear hfz19_0
     try clear hfz19_1
     try clear hfz19_2
     try clear hfz19_3
     try clear hfz19_4
     try clear hfz19_5
     try clear hfz24_0
     try clear hfz24_1
     try clear hfz24_2
     try clear hfz24_3
     try clear hfz24_4
     try clear hfz24_5
     try clear hfz29_0
     try clear hfz29_1
     try clear hfz29_2
     try clear hfz29_3
     try clear hfz29_4
     try clear hfz29_5
     try clear hfz31_0
     try clear hfz31_1
     try clear hfz31_2
     try clear hfz31_3
     try clear hfz31_4
     try clear hfz31_5
     try clear hfz37_0
     try clear hfz37_1
     try clear hfz37_2
     try clear hfz37_3
     try clear hfz37_4
     try clear hfz37_5
     try clear hfz44_0
     try clear hfz44_1
     try clear hfz44_2
     try clear hfz44_3
     try clear hfz44_4
     try clear hfz44_5
     try clear hfz46_0
     try clear hfz46_1
     try clear hfz46_2
     try clear hfz46_3
     try clear hfz46_4
     try clear hfz46_5
     try clear hfz51_0
     try clear hfz51_1
     try clear hfz51_2
     try clear hfz51_3
     try clear hfz51_4
     try clear hfz51_5
     try clear p2
     obtain ⟨kq, x28_25, rfl, HA, HJ25, BK892, BK893, BK894, BK903, HB⟩ := hcut
     cases kq with
     | zero => exact absurd HA.out (by simp [impl_ComposeMotions.j1])
     | succ kj25 =>
      have H := HA.out
      clear HA
      simp only [impl_ComposeMotions.j1] at H
      by_cases c53 : x28_25 = true
      ·subst c53
       have H1 : (some (0, 0, 0, 0, 0, 0, 3)) = some (r1, r2, r3, r4, r5, r6, r7) := by rw [if_pos rfl] at H; exact H
       clear H
       have H := H1
       clear H1
       simp only [Option.some.injEq, Prod.mk.injEq] at H
       obtain ⟨rfl, rfl, rfl, rfl, rfl, rfl, rfl⟩ := H
       have hnb54 := NB894_892.out
       have hnc54 := NB892_894.out
       have hnb55 := NB894_893.out
       have hnc55 := NB893_894.out
       have hnb56 := NB894_903.out
       have hnc56 := NB903_894.out
       obtain ⟨hcz57_0, hcz57_1, hcz57_2, hcz57_3, hcz57_4, hcz57_5⟩ := z6 BK894
       obtain ⟨hfz57_0, hfz57_1, hfz57_2, hfz57_3, hfz57_4, hfz57_5⟩ := y6 BK894
       go_wp2
       refine bodyPost_ret (results_ct rfl _ _ gb894 64 #[.int .i64 0, .int .i64 0, .int .i64 0, .int .i64 0, .int .i64 0, .int .i64 0] (0, 0) _ rfl (by (with_reducible repeat (first|apply kN|apply kD|apply kA)); refine blk_put (cs := #[.int .i64 0, .int .i64 0, .int .i64 0, .int .i64 0, .int .i64 0, .int .i64 0]) ?_ 5 _ rfl; (with_reducible repeat (first|apply kN|apply kD|apply kA)); refine blk_put (cs := #[.int .i64 0, .int .i64 0, .int .i64 0, .int .i64 0, .int .i64 0, .int .i64 0]) ?_ 4 _ rfl; (with_reducible repeat (first|apply kN|apply kD|apply kA)); refine blk_put (cs := #[.int .i64 0, .int .i64 0, .int .i64 0, .int .i64 0, .int .i64 0, .int .i64 0]) ?_ 3 _ rfl; (with_reducible repeat (first|apply kN|apply kD|apply kA)); refine blk_put (cs := #[.int .i64 0, .int .i64 0, .int .i64 0, .int .i64 0, .int .i64 0, .int .i64 0]) ?_ 2 _ rfl; (with_reducible repeat (first|apply kN|apply kD|apply kA)); refine blk_put (cs := #[.int .i64 0, .int .i64 0, .int .i64 0, .int .i64 0, .int .i64 0, .int .i64 0]) ?_ 1 _ rfl; (with_reducible repeat (first|apply kN|apply kD|apply kA)); refine blk_put (cs := #[.int .i64 0, .int .i64 0, .int .i64 0, .int .i64 0, .int .i64 0, .int .i64 0]) ?_ 0 _ rfl; (with_reducible repeat (first|apply kN|apply kD|apply kA)); exact BK894.out) Try.underlying64 rfl (by kernel_rfl)) rfl ?_
       exact ⟨by first|rfl|(simp [*, errW_none, errW_some] <;> rfl), by repeat (first | (with_reducible first | exact HB.out | apply bA|apply bN|apply b1 | refine below_set ?_ (Aside0.out (by assumption))) | exact HB.out)⟩
      ·replace c53 := Bool.eq_false_iff.mpr c53
       subst c53
       have H1 : ((impl_Mat_isTurn.f kj25 t897 t898 t899 t900).bind fun t906 => (if t906 = true then (some (t897, t898, t899, t900, t901, t902, 0)) else (some (0, 0, 0, 0, 0, 0, 5)))) = some (r1, r2, r3, r4, r5, r6, r7) := by rw [if_neg (show ¬ (false = true) by decide)] at H; exact H
       clear H
       have H := H1
       clear H1
       replace H := Option.bind_eq_some_iff.mp H
       obtain ⟨t906, A580, H⟩ := H
       try dsimp only at H
       have A58 := aM A580
       clear A580
       by_cases c59 : t906 = true
       ·subst c59
        have H1 : (some (t897, t898, t899, t900, t901, t902, 0)) = some (r1, r2, r3, r4, r5, r6, r7) := by rw [if_pos rfl] at H; exact H
        clear H
        have H := H1
        clear H1
        simp only [Option.some.injEq, Prod.mk.injEq] at H
        obtain ⟨rfl, rfl, rfl, rfl, rfl, rfl, rfl⟩ := H
        have hnb60 := NB903_892.out
        have hnc60 := NB892_903.out
        have hnb61 := NB903_893.out
        have hnc61 := NB893_903.out
        have hnb62 := NB903_894.out
        have hnc62 := NB894_903.out
        obtain ⟨hcz63_0, hcz63_1, hcz63_2, hcz63_3, hcz63_4, hcz63_5⟩ := z6 BK903
        obtain ⟨hfz63_0, hfz63_1, hfz63_2, hfz63_3, hfz63_4, hfz63_5⟩ := y6 BK903
        go_wp2_with (first | ((with_reducible refine gate_callee (f := 107) rfl ?_); refine goesL_ (some 32) rfl rfl Try.func107 (by kernel_rfl) rfl #[.agg #[.int .i64 t897, .int .i64 t898, .int .i64 t899, .int .i64 t900]] rfl (by first|rfl|(simp only [List.map_toArray, List.map_cons, List.map_nil]; try rfl)) ?_; (with_reducible refine (impl_Mat_isTurn.calls kj25 t897 t898 t899 t900 true _ A58.out).mono ?_); rintro e w64 ⟨rfl, hb⟩; refine ⟨_, rfl, ?_⟩; have n0_ := bB BK892 hb; have n1_ := bB BK893 hb; have n2_ := bB BK894 hb; have n3_ := bB BK903 hb; have n4_ := bS HB hb; clear BK892; clear BK893; clear BK894; clear BK903; clear HB; have BK892 := n0_; have BK893 := n1_; have BK894 := n2_; have BK903 := n3_; have HB := n4_; clear n0_ n1_ n2_ n3_ n4_; (try clear hb); obtain ⟨hcz65_0, hcz65_1, hcz65_2, hcz65_3, hcz65_4, hcz65_5⟩ := z6 BK903; obtain ⟨hfz65_0, hfz65_1, hfz65_2, hfz65_3, hfz65_4, hfz65_5⟩ := y6 BK903; have hnb66 := NB894_892.out; have hnc66 := NB892_894.out; have hnb67 := NB894_893.out; have hnc67 := NB893_894.out; obtain ⟨hcz68_0, hcz68_1, hcz68_2, hcz68_3, hcz68_4, hcz68_5⟩ := z6 BK894; obtain ⟨hfz68_0, hfz68_1, hfz68_2, hfz68_3, hfz68_4, hfz68_5⟩ := y6 BK894))
        refine bodyPost_ret (results_ct rfl _ _ gb894 64 #[.int .i64 t897, .int .i64 t898, .int .i64 t899, .int .i64 t900, .int .i64 t901, .int .i64 t902] (0, 0) _ rfl (by (with_reducible repeat (first|apply kN|apply kD|apply kA)); refine blk_put (cs := #[.int .i64 t897, .int .i64 t898, .int .i64 t899, .int .i64 t900, .int .i64 t901, .int .i64 0]) ?_ 5 _ rfl; (with_reducible repeat (first|apply kN|apply kD|apply kA)); refine blk_put (cs := #[.int .i64 t897, .int .i64 t898, .int .i64 t899, .int .i64 t900, .int .i64 0, .int .i64 0]) ?_ 4 _ rfl; (with_reducible repeat (first|apply kN|apply kD|apply kA)); refine blk_put (cs := #[.int .i64 t897, .int .i64 t898, .int .i64 t899, .int .i64 0, .int .i64 0, .int .i64 0]) ?_ 3 _ rfl; (with_reducible repeat (first|apply kN|apply kD|apply kA)); refine blk_put (cs := #[.int .i64 t897, .int .i64 t898, .int .i64 0, .int .i64 0, .int .i64 0, .int .i64 0]) ?_ 2 _ rfl; (with_reducible repeat (first|apply kN|apply kD|apply kA)); refine blk_put (cs := #[.int .i64 t897, .int .i64 0, .int .i64 0, .int .i64 0, .int .i64 0, .int .i64 0]) ?_ 1 _ rfl; (with_reducible repeat (first|apply kN|apply kD|apply kA)); refine blk_put (cs := #[.int .i64 0, .int .i64 0, .int .i64 0, .int .i64 0, .int .i64 0, .int .i64 0]) ?_ 0 _ rfl; (with_reducible repeat (first|apply kN|apply kD|apply kA)); exact BK894.out) Try.underlying64 rfl (by kernel_rfl)) rfl ?_
        exact ⟨by first|rfl|(simp [*, errW_none, errW_some] <;> rfl), by repeat (first | (with_reducible first | exact HB.out | apply bA|apply bN|apply b1 | refine below_set ?_ (Aside0.out (by assumption))) | exact HB.out)⟩
       ·replace c59 := Bool.eq_false_iff.mpr c59
        subst c59
        have H1 : (some (0, 0, 0, 0, 0, 0, 5)) = some (r1, r2, r3, r4, r5, r6, r7) := by rw [if_neg (show ¬ (false = true) by decide)] at H; exact H
        clear H
        have H := H1
        clear H1
        simp only [Option.some.injEq, Prod.mk.injEq] at H
        obtain ⟨rfl, rfl, rfl, rfl, rfl, rfl, rfl⟩ := H
        have hnb69 := NB903_892.out
        have hnc69 := NB892_903.out
        have hnb70 := NB903_893.out
        have hnc70 := NB893_903.out
        have hnb71 := NB903_894.out
        have hnc71 := NB894_903.out
        obtain ⟨hcz72_0, hcz72_1, hcz72_2, hcz72_3, hcz72_4, hcz72_5⟩ := z6 BK903
        obtain ⟨hfz72_0, hfz72_1, hfz72_2, hfz72_3, hfz72_4, hfz72_5⟩ := y6 BK903
        go_wp2_with (first | ((with_reducible refine gate_callee (f := 107) rfl ?_); refine goesL_ (some 32) rfl rfl Try.func107 (by kernel_rfl) rfl #[.agg #[.int .i64 t897, .int .i64 t898, .int .i64 t899, .int .i64 t900]] rfl (by first|rfl|(simp only [List.map_toArray, List.map_cons, List.map_nil]; try rfl)) ?_; (with_reducible refine (impl_Mat_isTurn.calls kj25 t897 t898 t899 t900 false _ A58.out).mono ?_); rintro e w73 ⟨rfl, hb⟩; refine ⟨_, rfl, ?_⟩; have n0_ := bB BK892 hb; have n1_ := bB BK893 hb; have n2_ := bB BK894 hb; have n3_ := bB BK903 hb; have n4_ := bS HB hb; clear BK892; clear BK893; clear BK894; clear BK903; clear HB; have BK892 := n0_; have BK893 := n1_; have BK894 := n2_; have BK903 := n3_; have HB := n4_; clear n0_ n1_ n2_ n3_ n4_; (try clear hb); have hnb74 := NB894_892.out; have hnc74 := NB892_894.out; have hnb75 := NB894_893.out; have hnc75 := NB893_894.out; obtain ⟨hcz76_0, hcz76_1, hcz76_2, hcz76_3, hcz76_4, hcz76_5⟩ := z6 BK894; obtain ⟨hfz76_0, hfz76_1, hfz76_2, hfz76_3, hfz76_4, hfz76_5⟩ := y6 BK894))
        refine bodyPost_ret (results_ct rfl _ _ gb894 64 #[.int .i64 0, .int .i64 0, .int .i64 0, .int .i64 0, .int .i64 0, .int .i64 0] (0, 0) _ rfl (by (with_reducible repeat (first|apply kN|apply kD|apply kA)); refine blk_put (cs := #[.int .i64 0, .int .i64 0, .int .i64 0, .int .i64 0, .int .i64 0, .int .i64 0]) ?_ 5 _ rfl; (with_reducible repeat (first|apply kN|apply kD|apply kA)); refine blk_put (cs := #[.int .i64 0, .int .i64 0, .int .i64 0, .int .i64 0, .int .i64 0, .int .i64 0]) ?_ 4 _ rfl; (with_reducible repeat (first|apply kN|apply kD|apply kA)); refine blk_put (cs := #[.int .i64 0, .int .i64 0, .int .i64 0, .int .i64 0, .int .i64 0, .int .i64 0]) ?_ 3 _ rfl; (with_reducible repeat (first|apply kN|apply kD|apply kA)); refine blk_put (cs := #[.int .i64 0, .int .i64 0, .int .i64 0, .int .i64 0, .int .i64 0, .int .i64 0]) ?_ 2 _ rfl; (with_reducible repeat (first|apply kN|apply kD|apply kA)); refine blk_put (cs := #[.int .i64 0, .int .i64 0, .int .i64 0, .int .i64 0, .int .i64 0, .int .i64 0]) ?_ 1 _ rfl; (with_reducible repeat (first|apply kN|apply kD|apply kA)); refine blk_put (cs := #[.int .i64 0, .int .i64 0, .int .i64 0, .int .i64 0, .int .i64 0, .int .i64 0]) ?_ 0 _ rfl; (with_reducible repeat (first|apply kN|apply kD|apply kA)); exact BK894.out) Try.underlying64 rfl (by kernel_rfl)) rfl ?_
        exact ⟨by first|rfl|(simp [*, errW_none, errW_some] <;> rfl), by repeat (first | (with_reducible first | exact HB.out | apply bA|apply bN|apply b1 | refine below_set ?_ (Aside0.out (by assumption))) | exact HB.out)⟩

end Go.Proofs.Ytcjchihnopmplaa.F

import Derived.Test.YtcjchihnopmplaaO0
import Derived.Test.YtcjchihnopmplaaO3
import Derived.Test.YtcjchihnopmplaaO4
import Derived.Test.YtcjchihnopmplaaO5
namespace Go.Proofs.Ytcjchihnopmplaa.F
open Go.RowKit Go.Proofs.YtcjchihnopmplaaW.PrintWords Go.Proofs.YtcjchihnopmplaaW.PrintLast Go.Proofs.YtcjchihnopmplaaW.PrintMore
attribute [local go_sem] max2_int min2_int max_two min_two max_three min_three max_four min_four   -- for this text's walks alone
set_option linter.unusedVariables false
set_option linter.unusedSimpArgs false

def spec_l02Unit.f  : Option (Int × Int × Int × Int) := some (1, 0, 0, 1)
set_option maxHeartbeats 8000000 in
set_option maxRecDepth 100000 in
theorem spec_l02Unit.calls  (r1 : Int) (r2 : Int) (r3 : Int) (r4 : Int) (w : World) (h : spec_l02Unit.f  = some (r1, r2, r3, r4)) :
  Calls Try.prog 139 #[] w fun e w' => e = .returned (.agg #[.int .i64 r1, .int .i64 r2, .int .i64 r3, .int .i64 r4]) ∧ Below w.heap.size w w' := by
 have hu51 := Try.underlying51
 have HB := aM (Below.refl w.heap.size w)
 have H : (some (1, 0, 0, 1)) = some (r1, r2, r3, r4) := h
 clear h
 simp only [Option.some.injEq, Prod.mk.injEq] at H
 obtain ⟨rfl, rfl, rfl, rfl⟩ := H
 go_enter Try.func139, Try.ntmps139
 go_wp2_with (first | ((with_reducible refine gate_dst (N := 0) rfl ?_); refine box_event ?hg (N := 0) ?hd (cs := #[.int .i64 0, .int .i64 0, .int .i64 0, .int .i64 0]) (t := 51) ?hr ?_; (case hd => rfl); (case hg => rfl); (case hr => first | (go_simp; done) | (go_simp; rfl)); intro gb474 hg w1 hbox hb; have n0_ := bS HB hb; have n1_ := aM (hbox); have n2_ := bZ hg HB; have n3_ := bZ hg HB; clear HB; have HB := n0_; have BK474 := n1_; have GW474 := n2_; have GE474 := n3_; clear n0_ n1_ n2_ n3_; clear hb hbox hg; obtain ⟨hcz2_0, hcz2_1, hcz2_2, hcz2_3⟩ := z4 BK474; obtain ⟨hfz2_0, hfz2_1, hfz2_2, hfz2_3⟩ := y4 BK474))
 refine bodyPost_ret (results_cell_row rfl _ _ gb474 51 #[.int .i64 1, .int .i64 0, .int .i64 0, .int .i64 1] (0, 0) _ rfl (by (with_reducible repeat (first|apply kN|apply kD|apply kA)); refine blk_put (cs := #[.int .i64 1, .int .i64 0, .int .i64 0, .int .i64 0]) ?_ 3 _ rfl; (with_reducible repeat (first|apply kN|apply kD|apply kA)); refine blk_put (cs := #[.int .i64 1, .int .i64 0, .int .i64 0, .int .i64 0]) ?_ 2 _ rfl; (with_reducible repeat (first|apply kN|apply kD|apply kA)); refine blk_put (cs := #[.int .i64 1, .int .i64 0, .int .i64 0, .int .i64 0]) ?_ 1 _ rfl; (with_reducible repeat (first|apply kN|apply kD|apply kA)); refine blk_put (cs := #[.int .i64 0, .int .i64 0, .int .i64 0, .int .i64 0]) ?_ 0 _ rfl; (with_reducible repeat (first|apply kN|apply kD|apply kA)); exact BK474.out) Try.underlying51 rfl (by kernel_rfl)) rfl ?_
 exact ⟨by first|rfl|(simp [*, errW_none, errW_some] <;> rfl), by repeat (first | (with_reducible first | exact HB.out | apply bA|apply bN|apply b1 | refine below_set ?_ GE474.out) | exact HB.out)⟩

def spec_l02Draw.l0 : Nat → Int → List Int → Int → Int → Int → Int → Int → Int → Option (Int × Int × Int × Int × Int × Int)
 | 0, _, _, _, _, _, _, _, _ => none
 | k + 1, x4, x1000, x1001, x1002, x490000, x490001, x490002, x490003 => if x4 > 0 then ((some (([(⟨1, 1, 0, 1⟩ : S51), (⟨1, 0, 1, 1⟩ : S51), (⟨1, (-2), 0, 1⟩ : S51), (⟨0, 1, 1, 0⟩ : S51), (⟨(-1), 0, 0, 1⟩ : S51)] : List (S51)) : List (S51))).bind fun y493 => ((spec_l01Next.f x1000 x1001 x1002 5).bind fun bt496 => (if 0 ≤ bt496.1 then (if bt496.1 < (y493.length : Int) then ((spec_l02Multiply.f x490000 x490001 x490002 x490003 ((rd_T51 y493 bt496.1).f0) ((rd_T51 y493 bt496.1).f1) ((rd_T51 y493 bt496.1).f2) ((rd_T51 y493 bt496.1).f3)).bind fun bt500 => (spec_l02Draw.l0 k (wrap64 (x4 - 1)) x1000 bt496.2.1 bt496.2.2 bt500.1 bt500.2.1 bt500.2.2.1 bt500.2.2.2)) else (none)) else (none)))) else ((spec_l01Next.f x1000 x1001 x1002 20).bind fun bt504 => (if bt504.1 = 0 then (some (wrap64 (x490000 + 1), x490001, x490002, x490003, bt504.2.1, bt504.2.2)) else (if bt504.1 = 1 then ((spec_l01Pick.f x1000 bt504.2.1 bt504.2.2 (([999, 1000, 1001] : List Int))).bind fun bt510 => (some (1, bt510.1, 0, 1, bt510.2.1, bt510.2.2))) else (some (x490000, x490001, x490002, x490003, bt504.2.1, bt504.2.2)))))
def spec_l02Draw.f (k : Nat) (s0_0 : List Int) (s0_1 : Int) (s0_2 : Int) : Option (Int × Int × Int × Int × Int × Int) := (spec_l01Next.f s0_0 s0_1 s0_2 3).bind fun bt476 => (if bt476.1 > 0 then ((spec_l02DrawFinite.f k s0_0 bt476.2.1 bt476.2.2).bind fun bt479 => (some (bt479.1, bt479.2.1, bt479.2.2.1, bt479.2.2.2.1, bt479.2.2.2.2.1, bt479.2.2.2.2.2))) else ((spec_l02Unit.f).bind fun bt485 => ((spec_l01Next.f s0_0 bt476.2.1 bt476.2.2 5).bind fun bt490 => (spec_l02Draw.l0 k bt490.1 s0_0 bt490.2.1 bt490.2.2 bt485.1 bt485.2.1 bt485.2.2.1 bt485.2.2.2))))
def spec_l02Draw.T7 : Bool × List (List Nat × List Nat) := (true, [([], []), ([], []), ([], []), ([], []), ([], []), ([], []), ([1, 2, 3, 4, 5], [1, 2, 3, 4, 5]), ([], []), ([7], [7]), ([6, 8], [6, 8]), ([9], [9]), ([0, 10, 8], [0, 10]), ([11, 11, 0, 1, 2, 3, 4, 5, 6, 7, 8, 9, 10, 11], [11])])
def spec_l02Draw.B7 : List Nat := [0, 0, 0, 0, 0, 0, 62, 0, 128, 510, 1022, 2047, 4095]
theorem spec_l02Draw.tab7 : rtab .any (opsOf Try.f88 7) = spec_l02Draw.T7 := by kernel_rfl
theorem spec_l02Draw.bits7 : waitsOk spec_l02Draw.T7.2 spec_l02Draw.B7 = true := by kernel_rfl
set_option maxHeartbeats 8000000 in
set_option maxRecDepth 100000 in
theorem spec_l02Draw.calls (k : Nat) (g : Nat) (s0_0 : List Int) (s0_1 : Int) (s0_2 : Int) (r1 : Int) (r2 : Int) (r3 : Int) (r4 : Int) (r5 : Int) (r6 : Int) (w0 w : World) (hI : IsS144 w0 w g s0_0 s0_1 s0_2) (hB : Below w0.heap.size w0 w) (h : spec_l02Draw.f k s0_0 s0_1 s0_2 = some (r1, r2, r3, r4, r5, r6)) :
  Calls Try.prog 88 #[.pointer (some ⟨g, 0, none⟩)] w fun e w' => e = .returned (.agg #[.int .i64 r1, .int .i64 r2, .int .i64 r3, .int .i64 r4]) ∧ IsS144 w0 w' g s0_0 r5 r6 ∧ Below w0.heap.size w0 w' ∧ KeepBut w w' g none := by
 have hu51 := Try.underlying51
 have HI0 := aM hI
 have HK := aM (KeepBut.refl w g none)
 have HL := aM hB.size
 clear hI
 have HW0 := aM hB.size
 have HB := aM hB
 clear hB
 have H : ((spec_l01Next.f s0_0 s0_1 s0_2 3).bind fun bt476 => (if bt476.1 > 0 then ((spec_l02DrawFinite.f k s0_0 bt476.2.1 bt476.2.2).bind fun bt479 => (some (bt479.1, bt479.2.1, bt479.2.2.1, bt479.2.2.2.1, bt479.2.2.2.2.1, bt479.2.2.2.2.2))) else ((spec_l02Unit.f).bind fun bt485 => ((spec_l01Next.f s0_0 bt476.2.1 bt476.2.2 5).bind fun bt490 => (spec_l02Draw.l0 k bt490.1 s0_0 bt490.2.1 bt490.2.2 bt485.1 bt485.2.1 bt485.2.2.1 bt485.2.2.2))))) = some (r1, r2, r3, r4, r5, r6) := h
 clear h
 replace H := Option.bind_eq_some_iff.mp H
 obtain ⟨⟨t476, t477, t478⟩, A20, H⟩ := H
 try dsimp only at H
 have A2 := aM A20
 clear A20
 by_cases c3 : t476 > 0
 ·rw [if_pos c3] at H
  have c3b0 : decide (0 < t476) = true := decide_eq_true c3
  clear c3
  replace H := Option.bind_eq_some_iff.mp H
  obtain ⟨⟨t479, t480, t481, t482, t483, t484⟩, A40, H⟩ := H
  try dsimp only at H
  have A4 := aM A40
  clear A40
  simp only [Option.some.injEq, Prod.mk.injEq] at H
  obtain ⟨rfl, rfl, rfl, rfl, rfl, rfl⟩ := H
  go_enter Try.func88, Try.ntmps88
  go_wp2_with (first | ((with_reducible refine gate_dst (N := 2) rfl ?_); refine box_event ?hg (N := 2) ?hd (cs := #[.int .i64 0, .int .i64 0, .int .i64 0, .int .i64 0]) (t := 51) ?hr ?_; (case hd => rfl); (case hg => rfl); (case hr => first | (go_simp; done) | (go_simp; rfl)); intro gb475 hg w5 hbox hb; have n0_ := aM (IsS144.below (by repeat (first | (with_reducible first | exact HI0.out | apply sA|apply sN|apply sD|apply s1|apply s2) | exact HI0.out)) hb); have n1_ := aM (KeepBut.trans (by repeat (first | (with_reducible first | exact HK.out | apply eS|apply eN|apply eD|apply eA) | exact HK.out)) (KeepBut.of_below hb g none) (.inl rfl)); have n2_ := aM (below_step (by repeat (first | (with_reducible first | exact HB.out | apply bA|apply bN|apply b1 | refine below_set ?_ (IsS144.ge HI0.out)) | exact HB.out)) hb); have n3_ := aM (hbox); have n4_ := aM ((by rw [hg]; exact (keep_size (w := w) (g := g) (row := none) (by repeat (first | (with_reducible first | exact HK.out | apply eS|apply eN|apply eD|apply eA) | exact HK.out))) : w.heap.size ≤ gb475)); have n5_ := aM ((Nat.le_trans HW0.out (by rw [hg]; exact (keep_size (w := w) (g := g) (row := none) (by repeat (first | (with_reducible first | exact HK.out | apply eS|apply eN|apply eD|apply eA) | exact HK.out))) : w.heap.size ≤ gb475) : w0.heap.size ≤ gb475)); have n6_ := aM ((by rw [hg]; exact Nat.ne_of_lt (IsS144.lt (show IsS144 w0 _ g s0_0 s0_1 s0_2 from by repeat (first | (with_reducible first | exact HI0.out | apply sA|apply sN|apply sD|apply s1|apply s2) | exact HI0.out))) : g ≠ gb475)); have n7_ := aM ((by rw [hg]; exact Nat.ne_of_gt (IsS144.lt (show IsS144 w0 _ g s0_0 s0_1 s0_2 from by repeat (first | (with_reducible first | exact HI0.out | apply sA|apply sN|apply sD|apply s1|apply s2) | exact HI0.out))) : gb475 ≠ g)); clear HI0; clear HK; clear HB; have HI0 := n0_; have HK := n1_; have HB := n2_; have BK475 := n3_; have GW475 := n4_; have GE475 := n5_; have NB0_475 := n6_; have NB475_0 := n7_; clear n0_ n1_ n2_ n3_ n4_ n5_ n6_ n7_; clear hb hbox hg) | ((with_reducible refine gate_callee (f := 84) rfl ?_); refine goesL_ (some 6) rfl rfl Try.func84 (by kernel_rfl) rfl #[.pointer (some ⟨g, 0, none⟩), .int .i64 3] rfl (by first|rfl|(simp only [List.map_toArray, List.map_cons, List.map_nil]; try rfl)) ?_; (with_reducible refine (spec_l01Next.calls g s0_0 s0_1 s0_2 3 t476 t477 t478 w0 _ ?side1 ?side2 A2.out).mono ?_); (case side1 => repeat (first | (with_reducible first | exact HI0.out | apply sA|apply sN|apply sD|apply s1|apply s2 | refine IsS144.far ?_ NB0_475.out _) | exact HI0.out)); (case side2 => repeat (first | (with_reducible first | exact HB.out | apply bA|apply bN|apply b1 | refine below_set ?_ (IsS144.ge HI0.out) | refine below_set ?_ GE475.out) | exact HB.out)); rintro e w6 ⟨rfl, hi, hb, hk⟩; refine ⟨_, rfl, ?_⟩; have n0_ := aM (KeepBut.blk hk (g' := gb475) (o := .cells #[.int .i64 0, .int .i64 0, .int .i64 0, .int .i64 0] 51 (0, 0)) (by (with_reducible repeat (first|apply kN|apply kD|apply kA)); exact BK475.out) NB475_0.out (by simp)); have n1_ := aM (KeepBut.trans (by repeat (first | (with_reducible first | exact HK.out | apply eS|apply eN|apply eD|apply eA | refine keep_far ?_ GW475.out _) | exact HK.out)) hk (.inl rfl)); have n2_ := aM (hb); have n3_ := aM (hi); clear BK475; clear HK; clear HB; clear HI0; have BK475 := n0_; have HK := n1_; have HB := n2_; have HI0 := n3_; clear n0_ n1_ n2_ n3_; (try clear hb)) | ((with_reducible refine gate_callee (f := 138) rfl ?_); refine goesL_ (some 9) rfl rfl Try.func138 (by kernel_rfl) rfl #[.pointer (some ⟨g, 0, none⟩)] rfl (by first|rfl|(simp only [List.map_toArray, List.map_cons, List.map_nil]; try rfl)) ?_; (with_reducible refine (spec_l02DrawFinite.calls k g s0_0 t477 t478 t479 t480 t481 t482 t483 t484 w0 _ ?side1 ?side2 A4.out).mono ?_); (case side1 => repeat (first | (with_reducible first | exact HI0.out | apply sA|apply sN|apply sD|apply s1|apply s2 | refine IsS144.far ?_ NB0_475.out _) | exact HI0.out)); (case side2 => repeat (first | (with_reducible first | exact HB.out | apply bA|apply bN|apply b1 | refine below_set ?_ (IsS144.ge HI0.out) | refine below_set ?_ GE475.out) | exact HB.out)); rintro e w7 ⟨rfl, hi, hb, hk⟩; refine ⟨_, rfl, ?_⟩; have n0_ := aM (KeepBut.blk hk (g' := gb475) (o := .cells #[.int .i64 0, .int .i64 0, .int .i64 0, .int .i64 0] 51 (0, 0)) (by (with_reducible repeat (first|apply kN|apply kD|apply kA)); exact BK475.out) NB475_0.out (by simp)); have n1_ := aM (KeepBut.trans (by repeat (first | (with_reducible first | exact HK.out | apply eS|apply eN|apply eD|apply eA | refine keep_far ?_ GW475.out _) | exact HK.out)) hk (.inl rfl)); have n2_ := aM (hb); have n3_ := aM (hi); clear BK475; clear HK; clear HB; clear HI0; have BK475 := n0_; have HK := n1_; have HB := n2_; have HI0 := n3_; clear n0_ n1_ n2_ n3_; (try clear hb); have hnb8 := NB475_0.out; have hnc8 := NB0_475.out; obtain ⟨hcz9_0, hcz9_1, hcz9_2, hcz9_3⟩ := z4 BK475; obtain ⟨hfz9_0, hfz9_1, hfz9_2, hfz9_3⟩ := y4 BK475))
  refine bodyPost_ret (results_cell_row rfl _ _ gb475 51 #[.int .i64 t479, .int .i64 t480, .int .i64 t481, .int .i64 t482] (0, 0) _ rfl (by (with_reducible repeat (first|apply kN|apply kD|apply kA)); refine blk_put (cs := #[.int .i64 t479, .int .i64 t480, .int .i64 t481, .int .i64 0]) ?_ 3 _ rfl; (with_reducible repeat (first|apply kN|apply kD|apply kA)); refine blk_put (cs := #[.int .i64 t479, .int .i64 t480, .int .i64 0, .int .i64 0]) ?_ 2 _ rfl; (with_reducible repeat (first|apply kN|apply kD|apply kA)); refine blk_put (cs := #[.int .i64 t479, .int .i64 0, .int .i64 0, .int .i64 0]) ?_ 1 _ rfl; (with_reducible repeat (first|apply kN|apply kD|apply kA)); refine blk_put (cs := #[.int .i64 0, .int .i64 0, .int .i64 0, .int .i64 0]) ?_ 0 _ rfl; (with_reducible repeat (first|apply kN|apply kD|apply kA)); exact BK475.out) Try.underlying51 rfl (by kernel_rfl)) rfl ?_
  exact ⟨by first|rfl|(simp [*, errW_none, errW_some] <;> rfl), by repeat (first | (with_reducible first | exact HI0.out | apply sA|apply sN|apply sD|apply s1|apply s2 | refine IsS144.far ?_ NB0_475.out _) | exact HI0.out), by repeat (first | (with_reducible first | exact HB.out | apply bA|apply bN|apply b1 | refine below_set ?_ (IsS144.ge HI0.out) | refine below_set ?_ GE475.out) | exact HB.out), by repeat (first | (with_reducible first | exact HK.out | apply eS|apply eN|apply eD|apply eA | refine keep_far ?_ GW475.out _) | exact HK.out)⟩
 ·rw [if_neg c3] at H
  have c3b0 : decide (0 < t476) = false := decide_eq_false c3
  clear c3
  replace H := Option.bind_eq_some_iff.mp H
  obtain ⟨⟨t485, t486, t487, t488⟩, A100, H⟩ := H
  try dsimp only at H
  have A10 := aM A100
  clear A100
  replace H := Option.bind_eq_some_iff.mp H
  obtain ⟨⟨t490, t491, t492⟩, A110, H⟩ := H
  try dsimp only at H
  have A11 := aM A110
  clear A110
  have H' := aM H
  clear H
  go_enter Try.func88, Try.ntmps88
  go_wp2_with (first | ((with_reducible refine gate_dst (N := 2) rfl ?_); refine box_event ?hg (N := 2) ?hd (cs := #[.int .i64 0, .int .i64 0, .int .i64 0, .int .i64 0]) (t := 51) ?hr ?_; (case hd => rfl); (case hg => rfl); (case hr => first | (go_simp; done) | (go_simp; rfl)); intro gb475 hg w12 hbox hb; have n0_ := aM (IsS144.below (by repeat (first | (with_reducible first | exact HI0.out | apply sA|apply sN|apply sD|apply s1|apply s2) | exact HI0.out)) hb); have n1_ := aM (KeepBut.trans (by repeat (first | (with_reducible first | exact HK.out | apply eS|apply eN|apply eD|apply eA) | exact HK.out)) (KeepBut.of_below hb g none) (.inl rfl)); have n2_ := aM (below_step (by repeat (first | (with_reducible first | exact HB.out | apply bA|apply bN|apply b1 | refine below_set ?_ (IsS144.ge HI0.out)) | exact HB.out)) hb); have n3_ := aM (hbox); have n4_ := aM ((by rw [hg]; exact (keep_size (w := w) (g := g) (row := none) (by repeat (first | (with_reducible first | exact HK.out | apply eS|apply eN|apply eD|apply eA) | exact HK.out))) : w.heap.size ≤ gb475)); have n5_ := aM ((Nat.le_trans HW0.out (by rw [hg]; exact (keep_size (w := w) (g := g) (row := none) (by repeat (first | (with_reducible first | exact HK.out | apply eS|apply eN|apply eD|apply eA) | exact HK.out))) : w.heap.size ≤ gb475) : w0.heap.size ≤ gb475)); have n6_ := aM ((by rw [hg]; exact Nat.ne_of_lt (IsS144.lt (show IsS144 w0 _ g s0_0 s0_1 s0_2 from by repeat (first | (with_reducible first | exact HI0.out | apply sA|apply sN|apply sD|apply s1|apply s2) | exact HI0.out))) : g ≠ gb475)); have n7_ := aM ((by rw [hg]; exact Nat.ne_of_gt (IsS144.lt (show IsS144 w0 _ g s0_0 s0_1 s0_2 from by repeat (first | (with_reducible first | exact HI0.out | apply sA|apply sN|apply sD|apply s1|apply s2) | exact HI0.out))) : gb475 ≠ g)); clear HI0; clear HK; clear HB; have HI0 := n0_; have HK := n1_; have HB := n2_; have BK475 := n3_; have GW475 := n4_; have GE475 := n5_; have NB0_475 := n6_; have NB475_0 := n7_; clear n0_ n1_ n2_ n3_ n4_ n5_ n6_ n7_; clear hb hbox hg) | ((with_reducible refine gate_callee (f := 84) rfl ?_); refine goesL_ (some 6) rfl rfl Try.func84 (by kernel_rfl) rfl #[.pointer (some ⟨g, 0, none⟩), .int .i64 3] rfl (by first|rfl|(simp only [List.map_toArray, List.map_cons, List.map_nil]; try rfl)) ?_; (with_reducible refine (spec_l01Next.calls g s0_0 s0_1 s0_2 3 t476 t477 t478 w0 _ ?side1 ?side2 A2.out).mono ?_); (case side1 => repeat (first | (with_reducible first | exact HI0.out | apply sA|apply sN|apply sD|apply s1|apply s2 | refine IsS144.far ?_ NB0_475.out _) | exact HI0.out)); (case side2 => repeat (first | (with_reducible first | exact HB.out | apply bA|apply bN|apply b1 | refine below_set ?_ (IsS144.ge HI0.out) | refine below_set ?_ GE475.out) | exact HB.out)); rintro e w13 ⟨rfl, hi, hb, hk⟩; refine ⟨_, rfl, ?_⟩; have n0_ := aM (KeepBut.blk hk (g' := gb475) (o := .cells #[.int .i64 0, .int .i64 0, .int .i64 0, .int .i64 0] 51 (0, 0)) (by (with_reducible repeat (first|apply kN|apply kD|apply kA)); exact BK475.out) NB475_0.out (by simp)); have n1_ := aM (KeepBut.trans (by repeat (first | (with_reducible first | exact HK.out | apply eS|apply eN|apply eD|apply eA | refine keep_far ?_ GW475.out _) | exact HK.out)) hk (.inl rfl)); have n2_ := aM (hb); have n3_ := aM (hi); clear BK475; clear HK; clear HB; clear HI0; have BK475 := n0_; have HK := n1_; have HB := n2_; have HI0 := n3_; clear n0_ n1_ n2_ n3_; (try clear hb)) | ((with_reducible refine gate_callee (f := 139) rfl ?_); refine goesL_ (some 10) rfl rfl Try.func139 (by kernel_rfl) rfl #[] rfl (by first|rfl|(simp only [List.map_toArray, List.map_cons, List.map_nil]; try rfl)) ?_; (with_reducible refine (spec_l02Unit.calls  t485 t486 t487 t488 _ A10.out).mono ?_); rintro e w14 ⟨rfl, hb⟩; refine ⟨_, rfl, ?_⟩; have n0_ := aM (IsS144.below (by repeat (first | (with_reducible first | exact HI0.out | apply sA|apply sN|apply sD|apply s1|apply s2 | refine IsS144.far ?_ NB0_475.out _) | exact HI0.out)) hb); have n1_ := bB BK475 hb; have n2_ := aM (KeepBut.trans (by repeat (first | (with_reducible first | exact HK.out | apply eS|apply eN|apply eD|apply eA | refine keep_far ?_ GW475.out _) | exact HK.out)) (KeepBut.of_below hb g none) (.inl rfl)); have n3_ := aM (below_step (by repeat (first | (with_reducible first | exact HB.out | apply bA|apply bN|apply b1 | refine below_set ?_ (IsS144.ge HI0.out) | refine below_set ?_ GE475.out) | exact HB.out)) hb); clear HI0; clear BK475; clear HK; clear HB; have HI0 := n0_; have BK475 := n1_; have HK := n2_; have HB := n3_; clear n0_ n1_ n2_ n3_; (try clear hb)) | ((with_reducible refine gate_dst (N := 3) rfl ?_); refine box_event ?hg (N := 3) ?hd (cs := #[.int .i64 0, .int .i64 0, .int .i64 0, .int .i64 0]) (t := 51) ?hr ?_; (case hd => rfl); (case hg => rfl); (case hr => first | (go_simp; done) | (go_simp; rfl)); intro gb489 hg w15 hbox hb; have n0_ := aM (IsS144.below (by repeat (first | (with_reducible first | exact HI0.out | apply sA|apply sN|apply sD|apply s1|apply s2 | refine IsS144.far ?_ NB0_475.out _) | exact HI0.out)) hb); have n1_ := bB BK475 hb; have n2_ := aM (KeepBut.trans (by repeat (first | (with_reducible first | exact HK.out | apply eS|apply eN|apply eD|apply eA | refine keep_far ?_ GW475.out _) | exact HK.out)) (KeepBut.of_below hb g none) (.inl rfl)); have n3_ := aM (below_step (by repeat (first | (with_reducible first | exact HB.out | apply bA|apply bN|apply b1 | refine below_set ?_ (IsS144.ge HI0.out) | refine below_set ?_ GE475.out) | exact HB.out)) hb); have n4_ := aM (hbox); have n5_ := aM ((by rw [hg]; exact (keep_size (w := w) (g := g) (row := none) (by repeat (first | (with_reducible first | exact HK.out | apply eS|apply eN|apply eD|apply eA | refine keep_far ?_ GW475.out _) | exact HK.out))) : w.heap.size ≤ gb489)); have n6_ := aM ((Nat.le_trans HW0.out (by rw [hg]; exact (keep_size (w := w) (g := g) (row := none) (by repeat (first | (with_reducible first | exact HK.out | apply eS|apply eN|apply eD|apply eA | refine keep_far ?_ GW475.out _) | exact HK.out))) : w.heap.size ≤ gb489) : w0.heap.size ≤ gb489)); have n7_ := nL hg BK475; have n8_ := nG hg BK475; have n9_ := aM ((by rw [hg]; exact Nat.ne_of_lt (IsS144.lt (show IsS144 w0 _ g s0_0 t477 t478 from by repeat (first | (with_reducible first | exact HI0.out | apply sA|apply sN|apply sD|apply s1|apply s2 | refine IsS144.far ?_ NB0_475.out _) | exact HI0.out))) : g ≠ gb489)); have n10_ := aM ((by rw [hg]; exact Nat.ne_of_gt (IsS144.lt (show IsS144 w0 _ g s0_0 t477 t478 from by repeat (first | (with_reducible first | exact HI0.out | apply sA|apply sN|apply sD|apply s1|apply s2 | refine IsS144.far ?_ NB0_475.out _) | exact HI0.out))) : gb489 ≠ g)); clear HI0; clear BK475; clear HK; clear HB; have HI0 := n0_; have BK475 := n1_; have HK := n2_; have HB := n3_; have BK489 := n4_; have GW489 := n5_; have GE489 := n6_; have NB475_489 := n7_; have NB489_475 := n8_; have NB0_489 := n9_; have NB489_0 := n10_; clear n0_ n1_ n2_ n3_ n4_ n5_ n6_ n7_ n8_ n9_ n10_; clear hb hbox hg; have hnb16 := NB489_475.out; have hnc16 := NB475_489.out; have hnb17 := NB489_0.out; have hnc17 := NB0_489.out; obtain ⟨hcz18_0, hcz18_1, hcz18_2, hcz18_3⟩ := z4 BK489; obtain ⟨hfz18_0, hfz18_1, hfz18_2, hfz18_3⟩ := y4 BK489) | ((with_reducible refine gate_callee (f := 84) rfl ?_); refine goesL_ (some 12) rfl rfl Try.func84 (by kernel_rfl) rfl #[.pointer (some ⟨g, 0, none⟩), .int .i64 5] rfl (by first|rfl|(simp only [List.map_toArray, List.map_cons, List.map_nil]; try rfl)) ?_; (with_reducible refine (spec_l01Next.calls g s0_0 t477 t478 5 t490 t491 t492 w0 _ ?side1 ?side2 A11.out).mono ?_); (case side1 => repeat (first | (with_reducible first | exact HI0.out | apply sA|apply sN|apply sD|apply s1|apply s2 | refine IsS144.far ?_ NB0_475.out _ | refine IsS144.far ?_ NB0_489.out _) | exact HI0.out)); (case side2 => repeat (first | (with_reducible first | exact HB.out | apply bA|apply bN|apply b1 | refine below_set ?_ (IsS144.ge HI0.out) | refine below_set ?_ (Aside0.out (by assumption))) | exact HB.out)); rintro e w19 ⟨rfl, hi, hb, hk⟩; refine ⟨_, rfl, ?_⟩; have n0_ := aM (KeepBut.blk hk (g' := gb475) (o := .cells #[.int .i64 0, .int .i64 0, .int .i64 0, .int .i64 0] 51 (0, 0)) (by (repeat (first|(with_reducible first|apply kN|apply kD|apply kA)|refine blk_far ?_ NB475_489.out _)); exact BK475.out) NB475_0.out (by simp)); have n1_ := aM (KeepBut.blk hk (g' := gb489) (o := .cells #[.int .i64 t485, .int .i64 t486, .int .i64 t487, .int .i64 t488] 51 (0, 0)) (by (with_reducible repeat (first|apply kN|apply kD|apply kA)); refine blk_put (cs := #[.int .i64 t485, .int .i64 t486, .int .i64 t487, .int .i64 0]) ?_ 3 _ rfl; (with_reducible repeat (first|apply kN|apply kD|apply kA)); refine blk_put (cs := #[.int .i64 t485, .int .i64 t486, .int .i64 0, .int .i64 0]) ?_ 2 _ rfl; (with_reducible repeat (first|apply kN|apply kD|apply kA)); refine blk_put (cs := #[.int .i64 t485, .int .i64 0, .int .i64 0, .int .i64 0]) ?_ 1 _ rfl; (with_reducible repeat (first|apply kN|apply kD|apply kA)); refine blk_put (cs := #[.int .i64 0, .int .i64 0, .int .i64 0, .int .i64 0]) ?_ 0 _ rfl; (with_reducible repeat (first|apply kN|apply kD|apply kA)); exact BK489.out) NB489_0.out (by simp)); have n2_ := aM (KeepBut.trans (by repeat (first | (with_reducible first | exact HK.out | apply eS|apply eN|apply eD|apply eA | refine keep_far ?_ GW475.out _ | refine keep_far ?_ GW489.out _) | exact HK.out)) hk (.inl rfl)); have n3_ := aM (hb); have n4_ := aM (hi); clear BK475; clear BK489; clear HK; clear HB; clear HI0; have BK475 := n0_; have BK489 := n1_; have HK := n2_; have HB := n3_; have HI0 := n4_; clear n0_ n1_ n2_ n3_ n4_; (try clear hb)))
  go_loopg [4] k (fun kq v4 w' => ∃ (x4_1 : Int) (x1001_1 : Int) (x1002_1 : Int) (x490000_1 : Int) (x490001_1 : Int) (x490002_1 : Int) (x490003_1 : Int), v4 = .int .i64 x4_1 ∧ Aside0 (spec_l02Draw.l0 kq x4_1 s0_0 x1001_1 x1002_1 x490000_1 x490001_1 x490002_1 x490003_1 = some (r1, r2, r3, r4, r5, r6)) ∧ Aside0 (kq ≤ k) ∧ Aside0 (w'.heap[gb475]? = some (.cells #[.int .i64 0, .int .i64 0, .int .i64 0, .int .i64 0] 51 (0, 0))) ∧ Aside0 (w'.heap[gb489]? = some (.cells #[.int .i64 x490000_1, .int .i64 x490001_1, .int .i64 x490002_1, .int .i64 x490003_1] 51 (0, 0))) ∧ Aside0 (IsS144 w0 w' g s0_0 x1001_1 x1002_1) ∧ Aside0 (KeepBut w w' g none) ∧ Aside0 (Below w0.heap.size w0 w'))
  case atStart => exact ⟨(t490), (t491), (t492), (t485), (t486), (t487), (t488), (by first | rfl | (simp; done) | (simp [*]; done)), H', ⟨Nat.le_refl _⟩, ⟨by (with_reducible repeat (first|apply kN|apply kD|apply kA)); exact BK475.out⟩, ⟨by (with_reducible repeat (first|apply kN|apply kD|apply kA)); exact BK489.out⟩, ⟨by repeat (first | (with_reducible first | exact HI0.out | apply sA|apply sN|apply sD|apply s1|apply s2 | refine IsS144.far ?_ NB0_475.out _ | refine IsS144.far ?_ NB0_489.out _) | exact HI0.out)⟩, ⟨by repeat (first | (with_reducible first | exact HK.out | apply eS|apply eN|apply eD|apply eA | refine keep_far ?_ GW475.out _ | refine keep_far ?_ GW489.out _) | exact HK.out)⟩, ⟨by repeat (first | (with_reducible first | exact HB.out | apply bA|apply bN|apply b1 | refine below_set ?_ (IsS144.ge HI0.out) | refine below_set ?_ (Aside0.out (by assumption))) | exact HB.out)⟩⟩
  case round =>
   clear H'
   try clear c1
   try clear p2
   try clear c3
   try clear c3b0
   try clear c8
   try clear c13
   try clear c16
   try clear c17
   try clear hcz18_0
   try clear hcz18_1
   try clear hcz18_2
   try clear hcz18_3
   try clear hcz9_0
   try clear hcz9_1
   try clear hcz9_2
   try clear hcz9_3
   try clear hfz18_0
   try clear hfz18_1
   try clear hfz18_2
   try clear hfz18_3
   try clear hfz9_0
   try clear hfz9_1
   try clear hfz9_2
   try clear hfz9_3
   obtain ⟨x4_1, x1001_1, x1002_1, x490000_1, x490001_1, x490002_1, x490003_1, rfl, HA, HK1, BK475, BK489, HI0, HK, HB⟩ := hrel
   cases gk with
   | zero => exact absurd HA.out (by simp [spec_l02Draw.l0])
   | succ k1 =>
    have H := HA.out
    clear HA
    simp only [spec_l02Draw.l0] at H
    by_cases c20 : x4_1 > 0
    ·rw [if_pos c20] at H
     have c20b0 : decide (0 < x4_1) = true := decide_eq_true c20
     clear c20
     obtain ⟨y493, hy493⟩ : ∃ y_ : List (S51), y_ = (([(⟨1, 1, 0, 1⟩ : S51), (⟨1, 0, 1, 1⟩ : S51), (⟨1, (-2), 0, 1⟩ : S51), (⟨0, 1, 1, 0⟩ : S51), (⟨(-1), 0, 0, 1⟩ : S51)] : List (S51))) := ⟨_, rfl⟩
     replace H : ((spec_l01Next.f s0_0 x1001_1 x1002_1 5).bind fun bt496 => (if 0 ≤ bt496.1 then (if bt496.1 < (y493.length : Int) then ((spec_l02Multiply.f x490000_1 x490001_1 x490002_1 x490003_1 ((rd_T51 y493 bt496.1).f0) ((rd_T51 y493 bt496.1).f1) ((rd_T51 y493 bt496.1).f2) ((rd_T51 y493 bt496.1).f3)).bind fun bt500 => (spec_l02Draw.l0 k1 (wrap64 (x4_1 - 1)) s0_0 bt496.2.1 bt496.2.2 bt500.1 bt500.2.1 bt500.2.2.1 bt500.2.2.2)) else (none)) else (none))) = some (r1, r2, r3, r4, r5, r6) := by first | (rw [hy493]; with_reducible exact H) | (have H2_ := (Option.bind_some _ _).symm.trans H; rw [hy493]; with_reducible exact H2_) | (have H2_ := (Option.bind_some _ _).symm.trans H; with_reducible exact H2_) | with_reducible exact H | (rw [hy493]; exact H) | exact H
     have Ny493 := aM hy493
     clear hy493
     replace H := Option.bind_eq_some_iff.mp H
     obtain ⟨⟨t496, t497, t498⟩, A210, H⟩ := H
     try dsimp only at H
     have A21 := aM A210
     clear A210
     by_cases c22 : 0 ≤ t496
     ·rw [if_pos c22] at H
      have c22b0 : decide (0 ≤ t496) = true := decide_eq_true c22
      clear c22
      by_cases c23 : t496 < (y493.length : Int)
      ·rw [if_pos c23] at H
       have c23b0 : decide (t496 < (y493.length : Int)) = true := decide_eq_true c23
       clear c23
       replace H := Option.bind_eq_some_iff.mp H
       obtain ⟨⟨t500, t501, t502, t503⟩, A240, H⟩ := H
       try dsimp only at H
       have A24 := aM A240
       clear A240
       have H' := aM H
       clear H
       try go_wp2
       have pi499 : (0 ≤ (t496 : Int)) = True := eq_true (of_decide_eq_true (by first | (with_reducible assumption) | assumption))
       have qi499 : (t496 < (y493.length : Int)) = True := eq_true (of_decide_eq_true (by first | (with_reducible assumption) | assumption))
       have n0_ := aM (blk_drew BK475.out)
       have n1_ := aM (blk_drew BK489.out)
       have n2_ := aM (IsS144.drew HI0.out)
       have n3_ := aM (keep_drew HK.out)
       have n4_ := aM (below_drew1 HB.out)
       clear BK475
       clear BK489
       clear HI0
       clear HK
       clear HB
       have BK475 := n0_
       have BK489 := n1_
       have HI0 := n2_
       have HK := n3_
       have HB := n4_
       clear n0_ n1_ n2_ n3_ n4_
       refine start_ (n := 13) (S := fun w' => w'.cell? ⟨gb489, 0, none⟩ = some (.int .i64 x490000_1) ∧ w'.cell? ⟨gb489, 1, none⟩ = some (.int .i64 x490001_1) ∧ w'.cell? ⟨gb489, 2, none⟩ = some (.int .i64 x490002_1) ∧ w'.cell? ⟨gb489, 3, none⟩ = some (.int .i64 x490003_1)) (ds := [12]) #[false, false, false, false, false, false, false, false, false, false, false, false, false] (by kernel_rfl) rfl rfl ⟨(blk_cell BK489.out 0).trans rfl, (blk_cell BK489.out 1).trans rfl, (blk_cell BK489.out 2).trans rfl, (blk_cell BK489.out 3).trans rfl⟩ (fun hHeld => ?_); refine with_tabW spec_l02Draw.tab7 spec_l02Draw.bits7 (fun HT_ HW_ => ?_)
       generalize wr.drew = w25 at BK475 BK489 HI0 HK HB hHeld ⊢
       refine pure_ (i := 1) (N := some 18) (v := ?_) (a' := ?_) #[false, true, false, false, false, false, false, false, false, false, false, false, false] rfl rfl (any_of HT_.out (by kernel_rfl)) (fun _ _ _ h => h) (Or.inl ⟨by rfl, ?_⟩) ?_ ?_
       rotate_left
       ·intro w'
        go_simp
        with_reducible rfl
       rotate_left
       ·simp only [Act.put, List.setIfInBounds_toArray, List.set_cons_zero, List.set_cons_succ, i64_w, i32_w]
        rfl
       refine pure_ (i := 2) (N := some 19) (v := ?_) (a' := ?_) #[false, true, true, false, false, false, false, false, false, false, false, false, false] rfl rfl (any_of HT_.out (by kernel_rfl)) (fun _ _ _ h => h) (Or.inl ⟨by rfl, ?_⟩) ?_ ?_
       rotate_left
       ·intro w'
        go_simp
        with_reducible rfl
       rotate_left
       ·simp only [Act.put, List.setIfInBounds_toArray, List.set_cons_zero, List.set_cons_succ, i64_w, i32_w]
        rfl
       refine pure_ (i := 3) (N := some 20) (v := ?_) (a' := ?_) #[false, true, true, true, false, false, false, false, false, false, false, false, false] rfl rfl (any_of HT_.out (by kernel_rfl)) (fun _ _ _ h => h) (Or.inl ⟨by rfl, ?_⟩) ?_ ?_
       rotate_left
       ·intro w'
        go_simp
        with_reducible rfl
       rotate_left
       ·simp only [Act.put, List.setIfInBounds_toArray, List.set_cons_zero, List.set_cons_succ, i64_w, i32_w]
        rfl
       refine pure_ (i := 4) (N := some 21) (v := ?_) (a' := ?_) #[false, true, true, true, true, false, false, false, false, false, false, false, false] rfl rfl (any_of HT_.out (by kernel_rfl)) (fun _ _ _ h => h) (Or.inl ⟨by rfl, ?_⟩) ?_ ?_
       rotate_left
       ·intro w'
        go_simp
        with_reducible rfl
       rotate_left
       ·simp only [Act.put, List.setIfInBounds_toArray, List.set_cons_zero, List.set_cons_succ, i64_w, i32_w]
        rfl
       refine pure_ (i := 5) (N := some 22) (v := ?_) (a' := ?_) #[false, true, true, true, true, true, false, false, false, false, false, false, false] rfl rfl (any_of HT_.out (by kernel_rfl)) (fun _ _ _ h => h) (Or.inl ⟨by rfl, ?_⟩) ?_ ?_
       rotate_left
       ·intro w'
        go_simp
        with_reducible rfl
       rotate_left
       ·simp only [Act.put, List.setIfInBounds_toArray, List.set_cons_zero, List.set_cons_succ, i64_w, i32_w]
        rfl
       refine pure_ (i := 7) (N := some 24) (v := ?_) (a' := ?_) #[false, true, true, true, true, true, false, true, false, false, false, false, false] rfl rfl (any_of HT_.out (by kernel_rfl)) (fun _ _ _ h => h) (Or.inl ⟨by rfl, ?_⟩) ?_ ?_
       rotate_left
       ·intro w'
        go_simp
        with_reducible rfl
       rotate_left
       ·simp only [Act.put, List.setIfInBounds_toArray, List.set_cons_zero, List.set_cons_succ, i64_w, i32_w]
        rfl
       refine take_ (i := 0) (N := some 17) (v := ?_) (a' := ?_) #[true, true, true, true, true, true, false, true, false, false, false, false, false] rfl rfl (take_ofW HT_.out HW_.out (by kernel_rfl)) (fun _ _ _ h => h) (Or.inl ⟨by rfl, ?_⟩) hHeld ?_ ?_
       rotate_left
       ·rintro w' ⟨s0, s1, s2, s3⟩
        go_simp
        with_reducible rfl
       rotate_left
       ·simp only [Act.put, List.setIfInBounds_toArray, List.set_cons_zero, List.set_cons_succ, i64_w, i32_w]
        rfl
       refine join_ (σ := Value × Addr) 4 #[true, true, true, true, true, true, true, true, true, false, false, false, false] (fun s_ => [(23, s_.1), (25, .int .i64 t496)]) (fun s_ w' => (w'.cell? ⟨gb489, 0, none⟩ = some (.int .i64 x490000_1) ∧ w'.cell? ⟨gb489, 1, none⟩ = some (.int .i64 x490001_1) ∧ w'.cell? ⟨gb489, 2, none⟩ = some (.int .i64 x490002_1) ∧ w'.cell? ⟨gb489, 3, none⟩ = some (.int .i64 x490003_1)) ∧ (Kd.R k51 51 w' w.heap.size (fun k_ => k_ ≠ gb475 ∧ k_ ≠ gb489) s_.1 y493) ∧ (∃ c_, (s_.1 : Value) = .slice (some s_.2) y493.length c_) ∧ (w'.heap[gb475]? = some (.cells #[.int .i64 0, .int .i64 0, .int .i64 0, .int .i64 0] 51 (0, 0))) ∧ (w'.heap[gb489]? = some (.cells #[.int .i64 x490000_1, .int .i64 x490001_1, .int .i64 x490002_1, .int .i64 x490003_1] 51 (0, 0))) ∧ (IsS144 w0 w' g s0_0 t497 t498) ∧ (KeepBut w w' g none) ∧ (Below w0.heap.size w0 w')) ?_ ?_
       rotate_left
       ·intro hCont
        refine two_ (i := 6) (j := 8) (Ni := some 23) (Nj := some 25) #[true, true, true, true, true, true, true, true, false, false, false, false, false] #[true, true, true, true, true, true, false, true, true, false, false, false, false] rfl rfl rfl rfl (two_of HT_.out (by kernel_rfl)) (by decide) (by decide) (fun K hK => ?_) (fun K hK => ?_)
        ·skip
         refine Kd.R_lit_step k51 _ 51 ?hg (N := 23) ?hd (xs := ([(⟨1, 1, 0, 1⟩ : S51), (⟨1, 0, 1, 1⟩ : S51), (⟨1, (-2), 0, 1⟩ : S51), (⟨0, 1, 1, 0⟩ : S51), (⟨(-1), 0, 0, 1⟩ : S51)] : List (S51))) (inner := [.int .i64 1, .int .i64 1, .int .i64 0, .int .i64 1, .int .i64 1, .int .i64 0, .int .i64 1, .int .i64 1, .int .i64 1, .int .i64 (-2), .int .i64 0, .int .i64 1, .int .i64 0, .int .i64 1, .int .i64 1, .int .i64 0, .int .i64 (-1), .int .i64 0, .int .i64 0, .int .i64 1]) (ok := fun _ => True) (okp := fun _ => True) ?hr ?hp (fun _ hk => hk) trivial (Below.refl _ _) (Nat.le_refl _) (by simp) ?_; (case hd => rfl); (case hg => rfl); (case hr => first | (go_simp; done) | (go_simp; rfl)); (case hp => exact (Reps.c4 (show Kd.M k51 _ _ _ (⟨1, 1, 0, 1⟩ : S51) [.int .i64 1, .int .i64 1, .int .i64 0, .int .i64 1] from (k51_mkM _ _ _ (⟨1, 1, 0, 1⟩ : S51) )) (Reps.c4 (show Kd.M k51 _ _ _ (⟨1, 0, 1, 1⟩ : S51) [.int .i64 1, .int .i64 0, .int .i64 1, .int .i64 1] from (k51_mkM _ _ _ (⟨1, 0, 1, 1⟩ : S51) )) (Reps.c4 (show Kd.M k51 _ _ _ (⟨1, (-2), 0, 1⟩ : S51) [.int .i64 1, .int .i64 (-2), .int .i64 0, .int .i64 1] from (k51_mkM _ _ _ (⟨1, (-2), 0, 1⟩ : S51) )) (Reps.c4 (show Kd.M k51 _ _ _ (⟨0, 1, 1, 0⟩ : S51) [.int .i64 0, .int .i64 1, .int .i64 1, .int .i64 0] from (k51_mkM _ _ _ (⟨0, 1, 1, 0⟩ : S51) )) (Reps.c4 (show Kd.M k51 _ _ _ (⟨(-1), 0, 0, 1⟩ : S51) [.int .i64 (-1), .int .i64 0, .int .i64 0, .int .i64 1] from (k51_mkM _ _ _ (⟨(-1), 0, 0, 1⟩ : S51) )) (Reps.none _ _)))))))
         intro v494 w26 ho27 hb hg_ hnew_
         clear hg_ hnew_
         (first | rw [← Ny493.out] at ho27 | (simp only [Int.reduceToNat] at ho27; rw [← Ny493.out] at ho27))
         have n0_ := aM (Kd.R_lower (Kd.R_newB (Kd.R_newB ho27 (g := gb475) (o := .cells #[.int .i64 0, .int .i64 0, .int .i64 0, .int .i64 0] 51 (0, 0)) (by (with_reducible repeat (first|apply kN|apply kD|apply kA)); exact BK475.out)) (g := gb489) (o := .cells #[.int .i64 x490000_1, .int .i64 x490001_1, .int .i64 x490002_1, .int .i64 x490003_1] 51 (0, 0)) (by (with_reducible repeat (first|apply kN|apply kD|apply kA)); exact BK489.out)) (keep_size (w := w) (g := g) (row := none) (by repeat (first | (with_reducible first | exact HK.out | apply eS|apply eN|apply eD|apply eA | refine keep_far ?_ GW475.out _ | refine keep_far ?_ GW489.out _) | exact HK.out))))
         have n1_ := bB BK475 hb
         have n2_ := bB BK489 hb
         have n3_ := aM (IsS144.below (by repeat (first | (with_reducible first | exact HI0.out | apply sA|apply sN|apply sD|apply s1|apply s2 | refine IsS144.far ?_ NB0_475.out _ | refine IsS144.far ?_ NB0_489.out _) | exact HI0.out)) hb)
         have n4_ := aM (KeepBut.trans (by repeat (first | (with_reducible first | exact HK.out | apply eS|apply eN|apply eD|apply eA | refine keep_far ?_ GW475.out _ | refine keep_far ?_ GW489.out _) | exact HK.out)) (KeepBut.of_below hb g none) (.inl rfl))
         have n5_ := aM (below_step (by repeat (first | (with_reducible first | exact HB.out | apply bA|apply bN|apply b1 | refine below_set ?_ (IsS144.ge HI0.out) | refine below_set ?_ (Aside0.out (by assumption))) | exact HB.out)) hb)
         clear BK475
         clear BK489
         clear HI0
         clear HK
         clear HB
         have HO495 := n0_
         have BK475 := n1_
         have BK489 := n2_
         have HI0 := n3_
         have HK := n4_
         have HB := n5_
         clear n0_ n1_ n2_ n3_ n4_ n5_
         clear hb ho27
         obtain ⟨Ao28, co28, eo28⟩ := Kd.R_slice HO495.out
         subst eo28
         obtain ⟨ado28, fo28, _⟩ := at_T51 (Kd.R_reads' HO495.out).2.2 0 (by decide) (by rw [Ny493.out]; simp)
         cases fo28
         refine hK.out _ _ ⟨(blk_cell BK489.out 0).trans rfl, (blk_cell BK489.out 1).trans rfl, (blk_cell BK489.out 2).trans rfl, (blk_cell BK489.out 3).trans rfl⟩ (fun hHeld => ?_)
         clear hK K
         refine norm_ (a' := ?_) ?_ ?_
         rotate_left
         ·show Act.put _ (some 23) _ = _
          simp only [Act.put, List.setIfInBounds_toArray, List.set_cons_zero, List.set_cons_succ, i64_w, i32_w]
          rfl
         refine one_ (i := 8) (N := some 25) #[true, true, true, true, true, true, true, true, true, false, false, false, false] rfl rfl (one_of HT_.out (by kernel_rfl)) (by decide) (fun K hK => ?_)
         refine goes_ Try.func84 (by kernel_rfl) rfl #[.pointer (some ⟨g, 0, none⟩), .int .i64 5] (by rfl) rfl rfl (by first|rfl|(simp only [List.map_toArray, List.map_cons, List.map_nil]; try rfl)) ?_
         with_reducible refine (spec_l01Next.calls g s0_0 x1001_1 x1002_1 5 t496 t497 t498 w0 _ ?side1 ?side2 A21.out).mono ?_
         (case side1 => repeat (first | (with_reducible first | exact HI0.out | apply sA|apply sN|apply sD|apply s1|apply s2 | refine IsS144.far ?_ NB0_475.out _ | refine IsS144.far ?_ NB0_489.out _) | exact HI0.out))
         (case side2 => repeat (first | (with_reducible first | exact HB.out | apply bA|apply bN|apply b1 | refine below_set ?_ (IsS144.ge HI0.out) | refine below_set ?_ (Aside0.out (by assumption))) | exact HB.out))
         rintro e w29 ⟨rfl, hi, hb, hk⟩
         refine ⟨_, rfl, ?_⟩
         have n0_ := aM (KeepBut.blk hk (g' := gb475) (o := .cells #[.int .i64 0, .int .i64 0, .int .i64 0, .int .i64 0] 51 (0, 0)) (by (with_reducible repeat (first|apply kN|apply kD|apply kA)); exact BK475.out) NB475_0.out (by simp))
         have n1_ := aM (KeepBut.blk hk (g' := gb489) (o := .cells #[.int .i64 x490000_1, .int .i64 x490001_1, .int .i64 x490002_1, .int .i64 x490003_1] 51 (0, 0)) (by (with_reducible repeat (first|apply kN|apply kD|apply kA)); exact BK489.out) NB489_0.out (by simp))
         have n2_ := aM (Kd.R_mono (Kd.R_keep (IsS144.apart (show IsS144 w0 _ g s0_0 x1001_1 x1002_1 from by repeat (first | (with_reducible first | exact HI0.out | apply sA|apply sN|apply sD|apply s1|apply s2 | refine IsS144.far ?_ NB0_475.out _ | refine IsS144.far ?_ NB0_489.out _) | exact HI0.out)) (by (with_reducible repeat (first | apply Kd.R_alloc | apply Kd.R_drewN | apply Kd.R_drew)); exact HO495.out) (by decide)) hk (fun _ h => h.2)) (fun _ h => h.1))
         have n3_ := aM (KeepBut.trans (by repeat (first | (with_reducible first | exact HK.out | apply eS|apply eN|apply eD|apply eA | refine keep_far ?_ GW475.out _ | refine keep_far ?_ GW489.out _) | exact HK.out)) hk (.inl rfl))
         have n4_ := aM (hb)
         have n5_ := aM (hi)
         clear BK475
         clear BK489
         clear HO495
         clear HK
         clear HB
         clear HI0
         have BK475 := n0_
         have BK489 := n1_
         have HO495 := n2_
         have HK := n3_
         have HB := n4_
         have HI0 := n5_
         clear n0_ n1_ n2_ n3_ n4_ n5_
         (try clear hb)
         (try clear hb2)
         (try clear hk)
         (try clear hi)
         refine hK.out _ _ ⟨(blk_cell BK489.out 0).trans rfl, (blk_cell BK489.out 1).trans rfl, (blk_cell BK489.out 2).trans rfl, (blk_cell BK489.out 3).trans rfl⟩ (fun hHeld => ?_)
         clear hK K
         refine norm_ (a' := ?_) ?_ ?_
         rotate_left
         ·show Act.put _ (some 25) _ = _
          simp only [Act.put, List.setIfInBounds_toArray, List.set_cons_zero, List.set_cons_succ, i64_w, i32_w]
          rfl
         exact norm_ (by simp only [putAll, Act.put, List.setIfInBounds_toArray, List.set_cons_zero, List.set_cons_succ]) (hCont (.slice (some ado28) y493.length co28, ado28) _ ⟨hHeld, (by (with_reducible repeat (first | apply Kd.R_alloc | apply Kd.R_drewN | apply Kd.R_drew)); exact Kd.R_mono HO495.out (fun _ hk => ⟨hk.1.2, hk.2⟩)), ⟨_, rfl⟩, (by (with_reducible repeat (first|apply kN|apply kD|apply kA)); exact BK475.out), (by (with_reducible repeat (first|apply kN|apply kD|apply kA)); exact BK489.out), (by repeat (first | (with_reducible first | exact HI0.out | apply sA|apply sN|apply sD|apply s1|apply s2 | refine IsS144.far ?_ NB0_475.out _ | refine IsS144.far ?_ NB0_489.out _) | exact HI0.out)), (by repeat (first | (with_reducible first | exact HK.out | apply eS|apply eN|apply eD|apply eA | refine keep_far ?_ GW475.out _ | refine keep_far ?_ GW489.out _) | exact HK.out)), (by repeat (first | (with_reducible first | exact HB.out | apply bA|apply bN|apply b1 | refine below_set ?_ (IsS144.ge HI0.out) | refine below_set ?_ (Aside0.out (by assumption))) | exact HB.out))⟩)
        ·skip
         refine goes_ Try.func84 (by kernel_rfl) rfl #[.pointer (some ⟨g, 0, none⟩), .int .i64 5] (by rfl) rfl rfl (by first|rfl|(simp only [List.map_toArray, List.map_cons, List.map_nil]; try rfl)) ?_
         with_reducible refine (spec_l01Next.calls g s0_0 x1001_1 x1002_1 5 t496 t497 t498 w0 _ ?side1 ?side2 A21.out).mono ?_
         (case side1 => repeat (first | (with_reducible first | exact HI0.out | apply sA|apply sN|apply sD|apply s1|apply s2 | refine IsS144.far ?_ NB0_475.out _ | refine IsS144.far ?_ NB0_489.out _) | exact HI0.out))
         (case side2 => repeat (first | (with_reducible first | exact HB.out | apply bA|apply bN|apply b1 | refine below_set ?_ (IsS144.ge HI0.out) | refine below_set ?_ (Aside0.out (by assumption))) | exact HB.out))
         rintro e w26 ⟨rfl, hi, hb, hk⟩
         refine ⟨_, rfl, ?_⟩
         have n0_ := aM (KeepBut.blk hk (g' := gb475) (o := .cells #[.int .i64 0, .int .i64 0, .int .i64 0, .int .i64 0] 51 (0, 0)) (by (with_reducible repeat (first|apply kN|apply kD|apply kA)); exact BK475.out) NB475_0.out (by simp))
         have n1_ := aM (KeepBut.blk hk (g' := gb489) (o := .cells #[.int .i64 x490000_1, .int .i64 x490001_1, .int .i64 x490002_1, .int .i64 x490003_1] 51 (0, 0)) (by (with_reducible repeat (first|apply kN|apply kD|apply kA)); exact BK489.out) NB489_0.out (by simp))
         have n2_ := aM (KeepBut.trans (by repeat (first | (with_reducible first | exact HK.out | apply eS|apply eN|apply eD|apply eA | refine keep_far ?_ GW475.out _ | refine keep_far ?_ GW489.out _) | exact HK.out)) hk (.inl rfl))
         have n3_ := aM (hb)
         have n4_ := aM (hi)
         clear BK475
         clear BK489
         clear HK
         clear HB
         clear HI0
         have BK475 := n0_
         have BK489 := n1_
         have HK := n2_
         have HB := n3_
         have HI0 := n4_
         clear n0_ n1_ n2_ n3_ n4_
         (try clear hb)
         (try clear hb2)
         (try clear hk)
         (try clear hi)
         refine hK.out _ _ ⟨(blk_cell BK489.out 0).trans rfl, (blk_cell BK489.out 1).trans rfl, (blk_cell BK489.out 2).trans rfl, (blk_cell BK489.out 3).trans rfl⟩ (fun hHeld => ?_)
         clear hK K
         refine norm_ (a' := ?_) ?_ ?_
         rotate_left
         ·show Act.put _ (some 25) _ = _
          simp only [Act.put, List.setIfInBounds_toArray, List.set_cons_zero, List.set_cons_succ, i64_w, i32_w]
          rfl
         refine one_ (i := 6) (N := some 23) #[true, true, true, true, true, true, true, true, true, false, false, false, false] rfl rfl (one_of HT_.out (by kernel_rfl)) (by decide) (fun K hK => ?_)
         refine Kd.R_lit_step k51 _ 51 ?hg (N := 23) ?hd (xs := ([(⟨1, 1, 0, 1⟩ : S51), (⟨1, 0, 1, 1⟩ : S51), (⟨1, (-2), 0, 1⟩ : S51), (⟨0, 1, 1, 0⟩ : S51), (⟨(-1), 0, 0, 1⟩ : S51)] : List (S51))) (inner := [.int .i64 1, .int .i64 1, .int .i64 0, .int .i64 1, .int .i64 1, .int .i64 0, .int .i64 1, .int .i64 1, .int .i64 1, .int .i64 (-2), .int .i64 0, .int .i64 1, .int .i64 0, .int .i64 1, .int .i64 1, .int .i64 0, .int .i64 (-1), .int .i64 0, .int .i64 0, .int .i64 1]) (ok := fun _ => True) (okp := fun _ => True) ?hr ?hp (fun _ hk => hk) trivial (Below.refl _ _) (Nat.le_refl _) (by simp) ?_; (case hd => rfl); (case hg => rfl); (case hr => first | (go_simp; done) | (go_simp; rfl)); (case hp => exact (Reps.c4 (show Kd.M k51 _ _ _ (⟨1, 1, 0, 1⟩ : S51) [.int .i64 1, .int .i64 1, .int .i64 0, .int .i64 1] from (k51_mkM _ _ _ (⟨1, 1, 0, 1⟩ : S51) )) (Reps.c4 (show Kd.M k51 _ _ _ (⟨1, 0, 1, 1⟩ : S51) [.int .i64 1, .int .i64 0, .int .i64 1, .int .i64 1] from (k51_mkM _ _ _ (⟨1, 0, 1, 1⟩ : S51) )) (Reps.c4 (show Kd.M k51 _ _ _ (⟨1, (-2), 0, 1⟩ : S51) [.int .i64 1, .int .i64 (-2), .int .i64 0, .int .i64 1] from (k51_mkM _ _ _ (⟨1, (-2), 0, 1⟩ : S51) )) (Reps.c4 (show Kd.M k51 _ _ _ (⟨0, 1, 1, 0⟩ : S51) [.int .i64 0, .int .i64 1, .int .i64 1, .int .i64 0] from (k51_mkM _ _ _ (⟨0, 1, 1, 0⟩ : S51) )) (Reps.c4 (show Kd.M k51 _ _ _ (⟨(-1), 0, 0, 1⟩ : S51) [.int .i64 (-1), .int .i64 0, .int .i64 0, .int .i64 1] from (k51_mkM _ _ _ (⟨(-1), 0, 0, 1⟩ : S51) )) (Reps.none _ _)))))))
         intro v494 w27 ho28 hb hg_ hnew_
         clear hg_ hnew_
         (first | rw [← Ny493.out] at ho28 | (simp only [Int.reduceToNat] at ho28; rw [← Ny493.out] at ho28))
         have n0_ := aM (Kd.R_lower (Kd.R_newB (Kd.R_newB ho28 (g := gb475) (o := .cells #[.int .i64 0, .int .i64 0, .int .i64 0, .int .i64 0] 51 (0, 0)) (by (with_reducible repeat (first|apply kN|apply kD|apply kA)); exact BK475.out)) (g := gb489) (o := .cells #[.int .i64 x490000_1, .int .i64 x490001_1, .int .i64 x490002_1, .int .i64 x490003_1] 51 (0, 0)) (by (with_reducible repeat (first|apply kN|apply kD|apply kA)); exact BK489.out)) (keep_size (w := w) (g := g) (row := none) (by repeat (first | (with_reducible first | exact HK.out | apply eS|apply eN|apply eD|apply eA | refine keep_far ?_ GW475.out _ | refine keep_far ?_ GW489.out _) | exact HK.out))))
         have n1_ := bB BK475 hb
         have n2_ := bB BK489 hb
         have n3_ := aM (IsS144.below (by repeat (first | (with_reducible first | exact HI0.out | apply sA|apply sN|apply sD|apply s1|apply s2 | refine IsS144.far ?_ NB0_475.out _ | refine IsS144.far ?_ NB0_489.out _) | exact HI0.out)) hb)
         have n4_ := aM (KeepBut.trans (by repeat (first | (with_reducible first | exact HK.out | apply eS|apply eN|apply eD|apply eA | refine keep_far ?_ GW475.out _ | refine keep_far ?_ GW489.out _) | exact HK.out)) (KeepBut.of_below hb g none) (.inl rfl))
         have n5_ := aM (below_step (by repeat (first | (with_reducible first | exact HB.out | apply bA|apply bN|apply b1 | refine below_set ?_ (IsS144.ge HI0.out) | refine below_set ?_ (Aside0.out (by assumption))) | exact HB.out)) hb)
         clear BK475
         clear BK489
         clear HI0
         clear HK
         clear HB
         have HO495 := n0_
         have BK475 := n1_
         have BK489 := n2_
         have HI0 := n3_
         have HK := n4_
         have HB := n5_
         clear n0_ n1_ n2_ n3_ n4_ n5_
         clear hb ho28
         obtain ⟨Ao29, co29, eo29⟩ := Kd.R_slice HO495.out
         subst eo29
         obtain ⟨ado29, fo29, _⟩ := at_T51 (Kd.R_reads' HO495.out).2.2 0 (by decide) (by rw [Ny493.out]; simp)
         cases fo29
         refine hK.out _ _ ⟨(blk_cell BK489.out 0).trans rfl, (blk_cell BK489.out 1).trans rfl, (blk_cell BK489.out 2).trans rfl, (blk_cell BK489.out 3).trans rfl⟩ (fun hHeld => ?_)
         clear hK K
         refine norm_ (a' := ?_) ?_ ?_
         rotate_left
         ·show Act.put _ (some 23) _ = _
          simp only [Act.put, List.setIfInBounds_toArray, List.set_cons_zero, List.set_cons_succ, i64_w, i32_w]
          rfl
         exact norm_ (by simp only [putAll, Act.put, List.setIfInBounds_toArray, List.set_cons_zero, List.set_cons_succ]) (hCont (.slice (some ado29) y493.length co29, ado29) _ ⟨hHeld, (by (with_reducible repeat (first | apply Kd.R_alloc | apply Kd.R_drewN | apply Kd.R_drew)); exact Kd.R_mono HO495.out (fun _ hk => ⟨hk.1.2, hk.2⟩)), ⟨_, rfl⟩, (by (with_reducible repeat (first|apply kN|apply kD|apply kA)); exact BK475.out), (by (with_reducible repeat (first|apply kN|apply kD|apply kA)); exact BK489.out), (by repeat (first | (with_reducible first | exact HI0.out | apply sA|apply sN|apply sD|apply s1|apply s2 | refine IsS144.far ?_ NB0_475.out _ | refine IsS144.far ?_ NB0_489.out _) | exact HI0.out)), (by repeat (first | (with_reducible first | exact HK.out | apply eS|apply eN|apply eD|apply eA | refine keep_far ?_ GW475.out _ | refine keep_far ?_ GW489.out _) | exact HK.out)), (by repeat (first | (with_reducible first | exact HB.out | apply bA|apply bN|apply b1 | refine below_set ?_ (IsS144.ge HI0.out) | refine below_set ?_ (Aside0.out (by assumption))) | exact HB.out))⟩)
       rintro ⟨v494, adz_v494⟩ w30 ⟨hS_, h0_, h1_, h2_, h3_, h4_, h5_, h6_⟩
       have n0_ : Aside0 (Kd.R k51 51 w30 w.heap.size (fun k_ => k_ ≠ gb475 ∧ k_ ≠ gb489) v494 y493) := ⟨h0_⟩
       have n1_ : Aside0 (∃ c_, (v494 : Value) = .slice (some adz_v494) y493.length c_) := ⟨h1_⟩
       have n2_ : Aside0 (w30.heap[gb475]? = some (.cells #[.int .i64 0, .int .i64 0, .int .i64 0, .int .i64 0] 51 (0, 0))) := ⟨h2_⟩
       have n3_ : Aside0 (w30.heap[gb489]? = some (.cells #[.int .i64 x490000_1, .int .i64 x490001_1, .int .i64 x490002_1, .int .i64 x490003_1] 51 (0, 0))) := ⟨h3_⟩
       have n4_ : Aside0 (IsS144 w0 w30 g s0_0 t497 t498) := ⟨h4_⟩
       have n5_ : Aside0 (KeepBut w w30 g none) := ⟨h5_⟩
       have n6_ : Aside0 (Below w0.heap.size w0 w30) := ⟨h6_⟩
       clear BK475
       clear BK489
       clear HI0
       clear HK
       clear HB
       clear h0_ h1_ h2_ h3_ h4_ h5_ h6_
       have HO495 := n0_
       have HA_HO495 := n1_
       have BK475 := n2_
       have BK489 := n3_
       have HI0 := n4_
       have HK := n5_
       have HB := n6_
       clear n0_ n1_ n2_ n3_ n4_ n5_ n6_
       have hHeld : w30.cell? ⟨gb489, 0, none⟩ = some (.int .i64 x490000_1) ∧ w30.cell? ⟨gb489, 1, none⟩ = some (.int .i64 x490001_1) ∧ w30.cell? ⟨gb489, 2, none⟩ = some (.int .i64 x490002_1) ∧ w30.cell? ⟨gb489, 3, none⟩ = some (.int .i64 x490003_1) := hS_
       obtain ⟨co31, eo31⟩ := HA_HO495.out
       clear HA_HO495
       subst eo31
       refine norm_ (a' := ?_) ?_ ?_
       rotate_left
       ·simp only [putAll, Act.put, List.setIfInBounds_toArray, List.set_cons_zero, List.set_cons_succ]
        rfl
       refine pure_ (i := 9) (N := some 26) (v := ?_) (a' := ?_) #[true, true, true, true, true, true, true, true, true, true, false, false, false] rfl rfl (any_of HT_.out (by kernel_rfl)) (fun _ _ _ h => h) (Or.inl ⟨by rfl, ?_⟩) ?_ ?_
       rotate_left
       ·intro w'
        go_simp
        with_reducible rfl
       rotate_left
       ·simp only [Act.put, List.setIfInBounds_toArray, List.set_cons_zero, List.set_cons_succ, i64_w, i32_w]
        rfl
       refine one_ (i := 10) (N := some 27) #[true, true, true, true, true, true, true, true, true, true, true, false, false] rfl rfl (one_of HT_.out (by kernel_rfl)) (by decide) (fun K hK => ?_)
       (have p499 : 0 ≤ (t496 : Int) := of_decide_eq_true (by first | (with_reducible assumption) | assumption); have q499 : t496 < (y493.length : Int) := of_decide_eq_true (by first | (with_reducible assumption) | assumption); obtain ⟨ad499, e499, hx499_0, hx499_1, hx499_2, hx499_3⟩ := at_T51 (Kd.R_reads' HO495.out).2.2 t496 p499 q499; obtain rfl : adz_v494 = ad499 := (by injection e499))
       refine value_ (w1 := ?_) (v := ?_) (by rfl) rfl ?_ ?_
       rotate_left 2
       ·go_simp
        constructor
        ·rfl
        ·rfl
       clear hx499_0 hx499_1 hx499_2 hx499_3
       refine hK.out _ _ ⟨(blk_cell BK489.out 0).trans rfl, (blk_cell BK489.out 1).trans rfl, (blk_cell BK489.out 2).trans rfl, (blk_cell BK489.out 3).trans rfl⟩ (fun hHeld => ?_)
       clear hK K
       refine norm_ (a' := ?_) ?_ ?_
       rotate_left
       ·show Act.put _ (some 27) _ = _
        simp only [Act.put, List.setIfInBounds_toArray, List.set_cons_zero, List.set_cons_succ, i64_w, i32_w]
        rfl
       refine one_ (i := 11) (N := some 28) #[true, true, true, true, true, true, true, true, true, true, true, true, false] rfl rfl (one_of HT_.out (by kernel_rfl)) (by decide) (fun K hK => ?_)
       refine goes_ Try.func92 (by kernel_rfl) rfl #[.agg #[.int .i64 x490000_1, .int .i64 x490001_1, .int .i64 x490002_1, .int .i64 x490003_1], .agg #[.int .i64 ((rd_T51 y493 t496).f0), .int .i64 ((rd_T51 y493 t496).f1), .int .i64 ((rd_T51 y493 t496).f2), .int .i64 ((rd_T51 y493 t496).f3)]] (by rfl) rfl rfl (by first|rfl|(simp only [List.map_toArray, List.map_cons, List.map_nil]; try rfl)) ?_
       with_reducible refine (spec_l02Multiply.calls x490000_1 x490001_1 x490002_1 x490003_1 ((rd_T51 y493 t496).f0) ((rd_T51 y493 t496).f1) ((rd_T51 y493 t496).f2) ((rd_T51 y493 t496).f3) t500 t501 t502 t503 _ A24.out).mono ?_
       rintro e w32 ⟨rfl, hb⟩
       refine ⟨_, rfl, ?_⟩
       have n0_ := aM (Kd.R_below (by (with_reducible repeat (first | apply Kd.R_alloc | apply Kd.R_drewN | apply Kd.R_drew)); exact HO495.out) hb)
       have n1_ := bB BK475 hb
       have n2_ := bB BK489 hb
       have n3_ := aM (IsS144.below (by repeat (first | (with_reducible first | exact HI0.out | apply sA|apply sN|apply sD|apply s1|apply s2 | refine IsS144.far ?_ NB0_475.out _ | refine IsS144.far ?_ NB0_489.out _) | exact HI0.out)) hb)
       have n4_ := aM (KeepBut.trans (by repeat (first | (with_reducible first | exact HK.out | apply eS|apply eN|apply eD|apply eA | refine keep_far ?_ GW475.out _ | refine keep_far ?_ GW489.out _) | exact HK.out)) (KeepBut.of_below hb g none) (.inl rfl))
       have n5_ := aM (below_step (by repeat (first | (with_reducible first | exact HB.out | apply bA|apply bN|apply b1 | refine below_set ?_ (IsS144.ge HI0.out) | refine below_set ?_ (Aside0.out (by assumption))) | exact HB.out)) hb)
       clear HO495
       clear BK475
       clear BK489
       clear HI0
       clear HK
       clear HB
       have HO495 := n0_
       have BK475 := n1_
       have BK489 := n2_
       have HI0 := n3_
       have HK := n4_
       have HB := n5_
       clear n0_ n1_ n2_ n3_ n4_ n5_
       (try clear hb)
       (try clear hb2)
       (try clear hk)
       (try clear hi)
       refine hK.out _ _ ⟨(blk_cell BK489.out 0).trans rfl, (blk_cell BK489.out 1).trans rfl, (blk_cell BK489.out 2).trans rfl, (blk_cell BK489.out 3).trans rfl⟩ (fun hHeld => ?_)
       clear hK K
       refine norm_ (a' := ?_) ?_ ?_
       rotate_left
       ·show Act.put _ (some 28) _ = _
        simp only [Act.put, List.setIfInBounds_toArray, List.set_cons_zero, List.set_cons_succ, i64_w, i32_w]
        rfl
       refine last_ (i := 12) (N := none) #[true, true, true, true, true, true, true, true, true, true, true, true, true] rfl rfl (one_of HT_.out (by kernel_rfl)) (by decide) (fun K hK => ?_)
       have hs33 : w32.cell? ⟨gb489, 0, none⟩ = some (.int .i64 x490000_1) := (blk_cell BK489.out 0).trans rfl
       have hfs33 := blk_frozen BK489.out 0
       have hns33_0 := NB475_489.out
       have hms33_0 := NB489_475.out
       have hs34 : w32.cell? ⟨gb489, 1, none⟩ = some (.int .i64 x490001_1) := (blk_cell BK489.out 1).trans rfl
       have hfs34 := blk_frozen BK489.out 1
       have hns34_0 := NB475_489.out
       have hms34_0 := NB489_475.out
       have hs35 : w32.cell? ⟨gb489, 2, none⟩ = some (.int .i64 x490002_1) := (blk_cell BK489.out 2).trans rfl
       have hfs35 := blk_frozen BK489.out 2
       have hns35_0 := NB475_489.out
       have hms35_0 := NB489_475.out
       have hs36 : w32.cell? ⟨gb489, 3, none⟩ = some (.int .i64 x490003_1) := (blk_cell BK489.out 3).trans rfl
       have hfs36 := blk_frozen BK489.out 3
       have hns36_0 := NB475_489.out
       have hms36_0 := NB489_475.out
       refine skip_ (w1 := ?_) (by rfl) rfl ?_ ?_
       rotate_left
       ·go_simp
        rfl
       refine hK.out _ _ ?_
       clear hK K
       refine done_ (done_of HT_.out (by kernel_rfl)) ?_
       try go_wp2
       go_roundg k1
       case measure => have := HK1.out; omega
       case rel => exact ⟨(wrap64 (x4_1 - 1)), (t497), (t498), (t500), (t501), (t502), (t503), (by first | rfl | (simp; done) | (simp [*]; done)), H', ⟨by have := HK1.out; omega⟩, ⟨by (repeat (first|(with_reducible first|apply kN|apply kD|apply kA)|refine blk_far ?_ NB475_489.out _)); exact BK475.out⟩, ⟨by (with_reducible repeat (first|apply kN|apply kD|apply kA)); refine blk_put (cs := #[.int .i64 t500, .int .i64 t501, .int .i64 t502, .int .i64 x490003_1]) ?_ 3 _ rfl; (with_reducible repeat (first|apply kN|apply kD|apply kA)); refine blk_put (cs := #[.int .i64 t500, .int .i64 t501, .int .i64 x490002_1, .int .i64 x490003_1]) ?_ 2 _ rfl; (with_reducible repeat (first|apply kN|apply kD|apply kA)); refine blk_put (cs := #[.int .i64 t500, .int .i64 x490001_1, .int .i64 x490002_1, .int .i64 x490003_1]) ?_ 1 _ rfl; (with_reducible repeat (first|apply kN|apply kD|apply kA)); refine blk_put (cs := #[.int .i64 x490000_1, .int .i64 x490001_1, .int .i64 x490002_1, .int .i64 x490003_1]) ?_ 0 _ rfl; (with_reducible repeat (first|apply kN|apply kD|apply kA)); exact BK489.out⟩, ⟨by repeat (first | (with_reducible first | exact HI0.out | apply sA|apply sN|apply sD|apply s1|apply s2 | refine IsS144.far ?_ NB0_475.out _ | refine IsS144.far ?_ NB0_489.out _) | exact HI0.out)⟩, ⟨by repeat (first | (with_reducible first | exact HK.out | apply eS|apply eN|apply eD|apply eA | refine keep_far ?_ GW475.out _ | refine keep_far ?_ GW489.out _) | exact HK.out)⟩, ⟨by repeat (first | (with_reducible first | exact HB.out | apply bA|apply bN|apply b1 | refine below_set ?_ (IsS144.ge HI0.out) | refine below_set ?_ (Aside0.out (by assumption))) | exact HB.out)⟩⟩
      ·rw [if_neg c23] at H
       exact absurd H (by simp)
     ·rw [if_neg c22] at H
      exact absurd H (by simp)
    ·rw [if_neg c20] at H
     have c20b0 : decide (0 < x4_1) = false := decide_eq_false c20
     clear c20
     replace H := Option.bind_eq_some_iff.mp H
     obtain ⟨⟨t504, t505, t506⟩, A370, H⟩ := H
     try dsimp only at H
     have A37 := aM A370
     clear A370
     by_cases c38 : t504 = 0
     ·rw [if_pos c38] at H
      have c38b0 : (t504 == 0) = true := beq_iff_eq.mpr c38
      have c38b1 : (t504 != 0) = false := bne_eq_false_iff_eq.mpr c38
      clear c38
      simp only [Option.some.injEq, Prod.mk.injEq] at H
      obtain ⟨rfl, rfl, rfl, rfl, rfl, rfl⟩ := H
      go_wp2_with (first | ((with_reducible refine gate_callee (f := 84) rfl ?_); refine goesL_ (some 30) rfl rfl Try.func84 (by kernel_rfl) rfl #[.pointer (some ⟨g, 0, none⟩), .int .i64 20] rfl (by first|rfl|(simp only [List.map_toArray, List.map_cons, List.map_nil]; try rfl)) ?_; (with_reducible refine (spec_l01Next.calls g s0_0 x1001_1 x1002_1 20 t504 t505 t506 w0 _ ?side1 ?side2 A37.out).mono ?_); (case side1 => repeat (first | (with_reducible first | exact HI0.out | apply sA|apply sN|apply sD|apply s1|apply s2 | refine IsS144.far ?_ NB0_475.out _ | refine IsS144.far ?_ NB0_489.out _) | exact HI0.out)); (case side2 => repeat (first | (with_reducible first | exact HB.out | apply bA|apply bN|apply b1 | refine below_set ?_ (IsS144.ge HI0.out) | refine below_set ?_ (Aside0.out (by assumption))) | exact HB.out)); rintro e w39 ⟨rfl, hi, hb, hk⟩; refine ⟨_, rfl, ?_⟩; have n0_ := aM (KeepBut.blk hk (g' := gb475) (o := .cells #[.int .i64 0, .int .i64 0, .int .i64 0, .int .i64 0] 51 (0, 0)) (by (with_reducible repeat (first|apply kN|apply kD|apply kA)); exact BK475.out) NB475_0.out (by simp)); have n1_ := aM (KeepBut.blk hk (g' := gb489) (o := .cells #[.int .i64 x490000_1, .int .i64 x490001_1, .int .i64 x490002_1, .int .i64 x490003_1] 51 (0, 0)) (by (with_reducible repeat (first|apply kN|apply kD|apply kA)); exact BK489.out) NB489_0.out (by simp)); have n2_ := aM (KeepBut.trans (by repeat (first | (with_reducible first | exact HK.out | apply eS|apply eN|apply eD|apply eA | refine keep_far ?_ GW475.out _ | refine keep_far ?_ GW489.out _) | exact HK.out)) hk (.inl rfl)); have n3_ := aM (hb); have n4_ := aM (hi); clear BK475; clear BK489; clear HK; clear HB; clear HI0; have BK475 := n0_; have BK489 := n1_; have HK := n2_; have HB := n3_; have HI0 := n4_; clear n0_ n1_ n2_ n3_ n4_; (try clear hb); have hnb40 := NB489_475.out; have hnc40 := NB475_489.out; have hnb41 := NB489_0.out; have hnc41 := NB0_489.out; obtain ⟨hcz42_0, hcz42_1, hcz42_2, hcz42_3⟩ := z4 BK489; obtain ⟨hfz42_0, hfz42_1, hfz42_2, hfz42_3⟩ := y4 BK489; have hnb43 := NB475_0.out; have hnc43 := NB0_475.out; obtain ⟨hcz44_0, hcz44_1, hcz44_2, hcz44_3⟩ := z4 BK475; obtain ⟨hfz44_0, hfz44_1, hfz44_2, hfz44_3⟩ := y4 BK475))
      refine bodyPost_ret (results_cell_row rfl _ _ gb475 51 #[.int .i64 (wrap64 (x490000_1 + 1)), .int .i64 x490001_1, .int .i64 x490002_1, .int .i64 x490003_1] (0, 0) _ rfl (by (with_reducible repeat (first|apply kN|apply kD|apply kA)); refine blk_put (cs := #[.int .i64 (wrap64 (x490000_1 + 1)), .int .i64 x490001_1, .int .i64 x490002_1, .int .i64 0]) ?_ 3 _ rfl; (with_reducible repeat (first|apply kN|apply kD|apply kA)); refine blk_put (cs := #[.int .i64 (wrap64 (x490000_1 + 1)), .int .i64 x490001_1, .int .i64 0, .int .i64 0]) ?_ 2 _ rfl; (with_reducible repeat (first|apply kN|apply kD|apply kA)); refine blk_put (cs := #[.int .i64 (wrap64 (x490000_1 + 1)), .int .i64 0, .int .i64 0, .int .i64 0]) ?_ 1 _ rfl; (with_reducible repeat (first|apply kN|apply kD|apply kA)); refine blk_put (cs := #[.int .i64 0, .int .i64 0, .int .i64 0, .int .i64 0]) ?_ 0 _ rfl; (repeat (first|(with_reducible first|apply kN|apply kD|apply kA)|refine blk_far ?_ NB475_489.out _)); exact BK475.out) Try.underlying51 rfl (by kernel_rfl)) rfl ?_
      exact ⟨by first|rfl|(simp [*, errW_none, errW_some] <;> rfl), by repeat (first | (with_reducible first | exact HI0.out | apply sA|apply sN|apply sD|apply s1|apply s2 | refine IsS144.far ?_ NB0_475.out _ | refine IsS144.far ?_ NB0_489.out _) | exact HI0.out), by repeat (first | (with_reducible first | exact HB.out | apply bA|apply bN|apply b1 | refine below_set ?_ (IsS144.ge HI0.out) | refine below_set ?_ (Aside0.out (by assumption))) | exact HB.out), by repeat (first | (with_reducible first | exact HK.out | apply eS|apply eN|apply eD|apply eA | refine keep_far ?_ GW475.out _ | refine keep_far ?_ GW489.out _) | exact HK.out)⟩
     ·rw [if_neg c38] at H
      have c38b0 : (t504 == 0) = false := beq_eq_false_iff_ne.mpr c38
      have c38b1 : (t504 != 0) = true := bne_iff_ne.mpr c38
      by_cases c45 : t504 = 1
      ·rw [if_pos c45] at H
       have c45b0 : (t504 == 1) = true := beq_iff_eq.mpr c45
       have c45b1 : (t504 != 1) = false := bne_eq_false_iff_eq.mpr c45
       clear c45
       obtain ⟨y507, hy507⟩ : ∃ y_ : List Int, y_ = (([999, 1000, 1001] : List Int)) := ⟨_, rfl⟩
       replace H : ((spec_l01Pick.f s0_0 t505 t506 y507).bind fun bt510 => (some (1, bt510.1, 0, 1, bt510.2.1, bt510.2.2))) = some (r1, r2, r3, r4, r5, r6) := by first | (rw [hy507]; with_reducible exact H) | (have H2_ := (Option.bind_some _ _).symm.trans H; rw [hy507]; with_reducible exact H2_) | (have H2_ := (Option.bind_some _ _).symm.trans H; with_reducible exact H2_) | with_reducible exact H | (rw [hy507]; exact H) | exact H
       have Ny507 := aM hy507
       clear hy507
       replace H := Option.bind_eq_some_iff.mp H
       obtain ⟨⟨t510, t511, t512⟩, A460, H⟩ := H
       try dsimp only at H
       have A46 := aM A460
       clear A460
       simp only [Option.some.injEq, Prod.mk.injEq] at H
       obtain ⟨rfl, rfl, rfl, rfl, rfl, rfl⟩ := H
       go_wp2_with (first | ((with_reducible refine gate_callee (f := 84) rfl ?_); refine goesL_ (some 30) rfl rfl Try.func84 (by kernel_rfl) rfl #[.pointer (some ⟨g, 0, none⟩), .int .i64 20] rfl (by first|rfl|(simp only [List.map_toArray, List.map_cons, List.map_nil]; try rfl)) ?_; (with_reducible refine (spec_l01Next.calls g s0_0 x1001_1 x1002_1 20 t504 t505 t506 w0 _ ?side1 ?side2 A37.out).mono ?_); (case side1 => repeat (first | (with_reducible first | exact HI0.out | apply sA|apply sN|apply sD|apply s1|apply s2 | refine IsS144.far ?_ NB0_475.out _ | refine IsS144.far ?_ NB0_489.out _) | exact HI0.out)); (case side2 => repeat (first | (with_reducible first | exact HB.out | apply bA|apply bN|apply b1 | refine below_set ?_ (IsS144.ge HI0.out) | refine below_set ?_ (Aside0.out (by assumption))) | exact HB.out)); rintro e w47 ⟨rfl, hi, hb, hk⟩; refine ⟨_, rfl, ?_⟩; have n0_ := aM (KeepBut.blk hk (g' := gb475) (o := .cells #[.int .i64 0, .int .i64 0, .int .i64 0, .int .i64 0] 51 (0, 0)) (by (with_reducible repeat (first|apply kN|apply kD|apply kA)); exact BK475.out) NB475_0.out (by simp)); have n1_ := aM (KeepBut.blk hk (g' := gb489) (o := .cells #[.int .i64 x490000_1, .int .i64 x490001_1, .int .i64 x490002_1, .int .i64 x490003_1] 51 (0, 0)) (by (with_reducible repeat (first|apply kN|apply kD|apply kA)); exact BK489.out) NB489_0.out (by simp)); have n2_ := aM (KeepBut.trans (by repeat (first | (with_reducible first | exact HK.out | apply eS|apply eN|apply eD|apply eA | refine keep_far ?_ GW475.out _ | refine keep_far ?_ GW489.out _) | exact HK.out)) hk (.inl rfl)); have n3_ := aM (hb); have n4_ := aM (hi); clear BK475; clear BK489; clear HK; clear HB; clear HI0; have BK475 := n0_; have BK489 := n1_; have HK := n2_; have HB := n3_; have HI0 := n4_; clear n0_ n1_ n2_ n3_ n4_; (try clear hb)) | ((with_reducible refine gate_dst (N := 40) rfl ?_); refine Kd.R_lit (Kd.int .i64) _ 2 ?hg (N := 40) ?hd (xs := ([999, 1000, 1001] : List Int)) (inner := [.int .i64 999, .int .i64 1000, .int .i64 1001]) (ok := fun _ => True) (okp := fun _ => True) ?hr ?hp (fun _ hk => hk) trivial (Below.refl _ _) (Nat.le_refl _) (by simp) ?_; (case hd => rfl); (case hg => rfl); (case hr => first | (go_simp; done) | (go_simp; rfl)); (case hp => exact (Reps.one (show Kd.M (Kd.int .i64) _ _ _ 999 [.int .i64 999] from rfl) (Reps.one (show Kd.M (Kd.int .i64) _ _ _ 1000 [.int .i64 1000] from rfl) (Reps.one (show Kd.M (Kd.int .i64) _ _ _ 1001 [.int .i64 1001] from rfl) (Reps.none _ _))))); intro v508 w48 ho49 hb hg_ hnew_; clear hg_ hnew_; (first | rw [← Ny507.out] at ho49 | (simp only [Int.reduceToNat] at ho49; rw [← Ny507.out] at ho49)); have n0_ := aM (Kd.R_lower ho49 (keep_size (w := w) (g := g) (row := none) (by repeat (first | (with_reducible first | exact HK.out | apply eS|apply eN|apply eD|apply eA | refine keep_far ?_ GW475.out _ | refine keep_far ?_ GW489.out _) | exact HK.out)))); have n1_ := bB BK475 hb; have n2_ := bB BK489 hb; have n3_ := aM (IsS144.below (by repeat (first | (with_reducible first | exact HI0.out | apply sA|apply sN|apply sD|apply s1|apply s2 | refine IsS144.far ?_ NB0_475.out _ | refine IsS144.far ?_ NB0_489.out _) | exact HI0.out)) hb); have n4_ := aM (KeepBut.trans (by repeat (first | (with_reducible first | exact HK.out | apply eS|apply eN|apply eD|apply eA | refine keep_far ?_ GW475.out _ | refine keep_far ?_ GW489.out _) | exact HK.out)) (KeepBut.of_below hb g none) (.inl rfl)); have n5_ := aM (below_step (by repeat (first | (with_reducible first | exact HB.out | apply bA|apply bN|apply b1 | refine below_set ?_ (IsS144.ge HI0.out) | refine below_set ?_ (Aside0.out (by assumption))) | exact HB.out)) hb); clear BK475; clear BK489; clear HI0; clear HK; clear HB; have HO509 := n0_; have BK475 := n1_; have BK489 := n2_; have HI0 := n3_; have HK := n4_; have HB := n5_; clear n0_ n1_ n2_ n3_ n4_ n5_; clear hb ho49; obtain ⟨Ao50, co50, eo50⟩ := Kd.R_slice HO509.out; subst eo50) | ((with_reducible refine gate_callee (f := 86) rfl ?_); refine goesL_ (some 41) rfl rfl Try.func86 (by kernel_rfl) rfl #[.pointer (some ⟨g, 0, none⟩), .slice Ao50 y507.length co50] rfl (by first|rfl|(simp only [List.map_toArray, List.map_cons, List.map_nil]; try rfl)) ?_; (with_reducible refine (spec_l01Pick.calls g s0_0 t505 t506 _ _ y507 t510 t511 t512 w0 _ ?side1 ?side2 ?side3 ?side4 ?side5 A46.out).mono ?_); (case side1 => repeat (first | (with_reducible first | exact HI0.out | apply sA|apply sN|apply sD|apply s1|apply s2 | refine IsS144.far ?_ NB0_475.out _ | refine IsS144.far ?_ NB0_489.out _) | exact HI0.out)); (case side2 => repeat (first | (with_reducible first | exact HB.out | apply bA|apply bN|apply b1 | refine below_set ?_ (IsS144.ge HI0.out) | refine below_set ?_ (Aside0.out (by assumption))) | exact HB.out)); (case side3 => repeat (first | exact (Kd.R_reads' HO509.out).2.2 | (with_reducible refine Kd.C_alloc ?_ _) | (with_reducible refine Kd.C_drewN ?_ _) | (with_reducible refine Kd.C_drew ?_))); (case side4 => exact (Kd.R_reads' HO509.out).2.1); (case side5 => exact far_slice (IsS144.own_ne HI0.out HO509.out (by decide))); rintro e w51 ⟨rfl, hi, hb, hk⟩; refine ⟨_, rfl, ?_⟩; have n0_ := aM (KeepBut.blk hk (g' := gb475) (o := .cells #[.int .i64 0, .int .i64 0, .int .i64 0, .int .i64 0] 51 (0, 0)) (by (with_reducible repeat (first|apply kN|apply kD|apply kA)); exact BK475.out) NB475_0.out (by simp)); have n1_ := aM (KeepBut.blk hk (g' := gb489) (o := .cells #[.int .i64 x490000_1, .int .i64 x490001_1, .int .i64 x490002_1, .int .i64 x490003_1] 51 (0, 0)) (by (with_reducible repeat (first|apply kN|apply kD|apply kA)); exact BK489.out) NB489_0.out (by simp)); have n2_ := aM (Kd.R_mono (Kd.R_keep (IsS144.apart (show IsS144 w0 _ g s0_0 t505 t506 from by repeat (first | (with_reducible first | exact HI0.out | apply sA|apply sN|apply sD|apply s1|apply s2 | refine IsS144.far ?_ NB0_475.out _ | refine IsS144.far ?_ NB0_489.out _) | exact HI0.out)) (by (with_reducible repeat (first | apply Kd.R_alloc | apply Kd.R_drewN | apply Kd.R_drew)); exact HO509.out) (by decide)) hk (fun _ h => h.2)) (fun _ h => h.1)); have n3_ := aM (KeepBut.trans (by repeat (first | (with_reducible first | exact HK.out | apply eS|apply eN|apply eD|apply eA | refine keep_far ?_ GW475.out _ | refine keep_far ?_ GW489.out _) | exact HK.out)) hk (.inl rfl)); have n4_ := aM (hb); have n5_ := aM (hi); clear BK475; clear BK489; clear HO509; clear HK; clear HB; clear HI0; have BK475 := n0_; have BK489 := n1_; have HO509 := n2_; have HK := n3_; have HB := n4_; have HI0 := n5_; clear n0_ n1_ n2_ n3_ n4_ n5_; (try clear hb); have hnb52 := NB489_475.out; have hnc52 := NB475_489.out; have hnb53 := NB489_0.out; have hnc53 := NB0_489.out; obtain ⟨hcz54_0, hcz54_1, hcz54_2, hcz54_3⟩ := z4 BK489; obtain ⟨hfz54_0, hfz54_1, hfz54_2, hfz54_3⟩ := y4 BK489; have hnb55 := NB475_0.out; have hnc55 := NB0_475.out; obtain ⟨hcz56_0, hcz56_1, hcz56_2, hcz56_3⟩ := z4 BK475; obtain ⟨hfz56_0, hfz56_1, hfz56_2, hfz56_3⟩ := y4 BK475))
       refine bodyPost_ret (results_cell_row rfl _ _ gb475 51 #[.int .i64 1, .int .i64 t510, .int .i64 0, .int .i64 1] (0, 0) _ rfl (by (with_reducible repeat (first|apply kN|apply kD|apply kA)); refine blk_put (cs := #[.int .i64 1, .int .i64 t510, .int .i64 0, .int .i64 0]) ?_ 3 _ rfl; (with_reducible repeat (first|apply kN|apply kD|apply kA)); refine blk_put (cs := #[.int .i64 1, .int .i64 t510, .int .i64 0, .int .i64 0]) ?_ 2 _ rfl; (with_reducible repeat (first|apply kN|apply kD|apply kA)); refine blk_put (cs := #[.int .i64 1, .int .i64 0, .int .i64 0, .int .i64 0]) ?_ 1 _ rfl; (with_reducible repeat (first|apply kN|apply kD|apply kA)); refine blk_put (cs := #[.int .i64 0, .int .i64 0, .int .i64 0, .int .i64 0]) ?_ 0 _ rfl; (repeat (first|(with_reducible first|apply kN|apply kD|apply kA)|refine blk_far ?_ NB475_489.out _)); exact BK475.out) Try.underlying51 rfl (by kernel_rfl)) rfl ?_
       exact ⟨by first|rfl|(simp [*, errW_none, errW_some] <;> rfl), by repeat (first | (with_reducible first | exact HI0.out | apply sA|apply sN|apply sD|apply s1|apply s2 | refine IsS144.far ?_ NB0_475.out _ | refine IsS144.far ?_ NB0_489.out _) | exact HI0.out), by repeat (first | (with_reducible first | exact HB.out | apply bA|apply bN|apply b1 | refine below_set ?_ (IsS144.ge HI0.out) | refine below_set ?_ (Aside0.out (by assumption))) | exact HB.out), by repeat (first | (with_reducible first | exact HK.out | apply eS|apply eN|apply eD|apply eA | refine keep_far ?_ GW475.out _ | refine keep_far ?_ GW489.out _) | exact HK.out)⟩
      ·rw [if_neg c45] at H
       have c45b0 : (t504 == 1) = false := beq_eq_false_iff_ne.mpr c45
       have c45b1 : (t504 != 1) = true := bne_iff_ne.mpr c45
       simp only [Option.some.injEq, Prod.mk.injEq] at H
       obtain ⟨rfl, rfl, rfl, rfl, rfl, rfl⟩ := H
       go_wp2_with (first | ((with_reducible refine gate_callee (f := 84) rfl ?_); refine goesL_ (some 30) rfl rfl Try.func84 (by kernel_rfl) rfl #[.pointer (some ⟨g, 0, none⟩), .int .i64 20] rfl (by first|rfl|(simp only [List.map_toArray, List.map_cons, List.map_nil]; try rfl)) ?_; (with_reducible refine (spec_l01Next.calls g s0_0 x1001_1 x1002_1 20 t504 t505 t506 w0 _ ?side1 ?side2 A37.out).mono ?_); (case side1 => repeat (first | (with_reducible first | exact HI0.out | apply sA|apply sN|apply sD|apply s1|apply s2 | refine IsS144.far ?_ NB0_475.out _ | refine IsS144.far ?_ NB0_489.out _) | exact HI0.out)); (case side2 => repeat (first | (with_reducible first | exact HB.out | apply bA|apply bN|apply b1 | refine below_set ?_ (IsS144.ge HI0.out) | refine below_set ?_ (Aside0.out (by assumption))) | exact HB.out)); rintro e w57 ⟨rfl, hi, hb, hk⟩; refine ⟨_, rfl, ?_⟩; have n0_ := aM (KeepBut.blk hk (g' := gb475) (o := .cells #[.int .i64 0, .int .i64 0, .int .i64 0, .int .i64 0] 51 (0, 0)) (by (with_reducible repeat (first|apply kN|apply kD|apply kA)); exact BK475.out) NB475_0.out (by simp)); have n1_ := aM (KeepBut.blk hk (g' := gb489) (o := .cells #[.int .i64 x490000_1, .int .i64 x490001_1, .int .i64 x490002_1, .int .i64 x490003_1] 51 (0, 0)) (by (with_reducible repeat (first|apply kN|apply kD|apply kA)); exact BK489.out) NB489_0.out (by simp)); have n2_ := aM (KeepBut.trans (by repeat (first | (with_reducible first | exact HK.out | apply eS|apply eN|apply eD|apply eA | refine keep_far ?_ GW475.out _ | refine keep_far ?_ GW489.out _) | exact HK.out)) hk (.inl rfl)); have n3_ := aM (hb); have n4_ := aM (hi); clear BK475; clear BK489; clear HK; clear HB; clear HI0; have BK475 := n0_; have BK489 := n1_; have HK := n2_; have HB := n3_; have HI0 := n4_; clear n0_ n1_ n2_ n3_ n4_; (try clear hb); have hnb58 := NB489_475.out; have hnc58 := NB475_489.out; have hnb59 := NB489_0.out; have hnc59 := NB0_489.out; obtain ⟨hcz60_0, hcz60_1, hcz60_2, hcz60_3⟩ := z4 BK489; obtain ⟨hfz60_0, hfz60_1, hfz60_2, hfz60_3⟩ := y4 BK489; have hnb61 := NB475_0.out; have hnc61 := NB0_475.out; obtain ⟨hcz62_0, hcz62_1, hcz62_2, hcz62_3⟩ := z4 BK475; obtain ⟨hfz62_0, hfz62_1, hfz62_2, hfz62_3⟩ := y4 BK475))
       refine bodyPost_ret (results_cell_row rfl _ _ gb475 51 #[.int .i64 x490000_1, .int .i64 x490001_1, .int .i64 x490002_1, .int .i64 x490003_1] (0, 0) _ rfl (by (with_reducible repeat (first|apply kN|apply kD|apply kA)); refine blk_put (cs := #[.int .i64 x490000_1, .int .i64 x490001_1, .int .i64 x490002_1, .int .i64 0]) ?_ 3 _ rfl; (with_reducible repeat (first|apply kN|apply kD|apply kA)); refine blk_put (cs := #[.int .i64 x490000_1, .int .i64 x490001_1, .int .i64 0, .int .i64 0]) ?_ 2 _ rfl; (with_reducible repeat (first|apply kN|apply kD|apply kA)); refine blk_put (cs := #[.int .i64 x490000_1, .int .i64 0, .int .i64 0, .int .i64 0]) ?_ 1 _ rfl; (with_reducible repeat (first|apply kN|apply kD|apply kA)); refine blk_put (cs := #[.int .i64 0, .int .i64 0, .int .i64 0, .int .i64 0]) ?_ 0 _ rfl; (with_reducible repeat (first|apply kN|apply kD|apply kA)); exact BK475.out) Try.underlying51 rfl (by kernel_rfl)) rfl ?_
       exact ⟨by first|rfl|(simp [*, errW_none, errW_some] <;> rfl), by repeat (first | (with_reducible first | exact HI0.out | apply sA|apply sN|apply sD|apply s1|apply s2 | refine IsS144.far ?_ NB0_475.out _ | refine IsS144.far ?_ NB0_489.out _) | exact HI0.out), by repeat (first | (with_reducible first | exact HB.out | apply bA|apply bN|apply b1 | refine below_set ?_ (IsS144.ge HI0.out) | refine below_set ?_ (Aside0.out (by assumption))) | exact HB.out), by repeat (first | (with_reducible first | exact HK.out | apply eS|apply eN|apply eD|apply eA | refine keep_far ?_ GW475.out _ | refine keep_far ?_ GW489.out _) | exact HK.out)⟩

end Go.Proofs.Ytcjchihnopmplaa.F

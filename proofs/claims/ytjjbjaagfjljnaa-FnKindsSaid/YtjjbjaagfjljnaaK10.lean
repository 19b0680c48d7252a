import Derived.Test.YtjjbjaagfjljnaaK0
import Derived.Test.YtjjbjaagfjljnaaK1
import Derived.Test.YtjjbjaagfjljnaaK2
import Derived.Test.YtjjbjaagfjljnaaK3
import Derived.Test.YtjjbjaagfjljnaaK4
import Derived.Test.YtjjbjaagfjljnaaK5
import Derived.Test.YtjjbjaagfjljnaaK7
import Derived.Test.YtjjbjaagfjljnaaK9
namespace Go.Proofs.Ytjjbjaagfjljnaa.F
open Go.RowKit Go.Proofs.YtjjbjaagfjljnaaW.PrintWords Go.Proofs.YtjjbjaagfjljnaaW.PrintLast Go.Proofs.YtjjbjaagfjljnaaW.PrintMore
attribute [local go_sem] max2_int min2_int max_two min_two max_three min_three max_four min_four   -- for this text's walks alone
set_option linter.unusedVariables false
set_option linter.unusedSimpArgs false

def spec_l05Draw.j0 : Nat → List Int → Int → Int → Int → Int → Int → Int → Option (Int × Int × Int × Int × Int × Int × Int × Int)
 | 0, _, _, _, _, _, _, _ => none
 | k + 1, x1000, x1001, x1002, x1497000, x1497001, x1497002, x1497003 => (spec_l01Next.f x1000 x1001 x1002 5).bind fun bt1516 => (if bt1516.1 = 0 then (some (x1497000, x1497001, x1497002, x1497003, 0, 0, bt1516.2.1, bt1516.2.2)) else ((spec_l01Draw.f x1000 bt1516.2.1 bt1516.2.2).bind fun bt1519 => (some (x1497000, x1497001, x1497002, x1497003, bt1519.1, bt1519.2.1, bt1519.2.2.1, bt1519.2.2.2))))
def spec_l05Draw.f (k : Nat) (s0_0 : List Int) (s0_1 : Int) (s0_2 : Int) : Option (Int × Int × Int × Int × Int × Int × Int × Int) := (spec_l01Next.f s0_0 s0_1 s0_2 2).bind fun bt1487 => ((spec_l04DrawMat.f k s0_0 bt1487.2.1 bt1487.2.2 bt1487.1).bind fun bt1490 => ((spec_l01Next.f s0_0 bt1490.2.2.2.2.1 bt1490.2.2.2.2.2 12).bind fun bt1497 => (if bt1497.1 = 0 then ((spec_l02Draw.f k s0_0 bt1497.2.1 bt1497.2.2).bind fun bt1500 => (spec_l05Draw.j0 k s0_0 bt1500.2.2.2.2.1 bt1500.2.2.2.2.2 bt1500.1 bt1500.2.1 bt1500.2.2.1 bt1500.2.2.2.1)) else (if bt1497.1 = 1 then ((spec_l02Unit.f).bind fun bt1506 => (spec_l05Draw.j0 k s0_0 bt1497.2.1 bt1497.2.2 bt1506.1 bt1506.2.1 bt1506.2.2.1 bt1506.2.2.2)) else (if bt1497.1 = 2 then ((spec_l02DrawFinite.f k s0_0 bt1497.2.1 bt1497.2.2).bind fun bt1510 => (spec_l05Draw.j0 k s0_0 bt1510.2.2.2.2.1 bt1510.2.2.2.2.2 bt1510.1 bt1510.2.1 bt1510.2.2.1 bt1510.2.2.2.1)) else (spec_l05Draw.j0 k s0_0 bt1497.2.1 bt1497.2.2 bt1490.1 bt1490.2.1 bt1490.2.2.1 bt1490.2.2.2.1))))))
set_option maxHeartbeats 40000000 in
set_option maxRecDepth 100000 in
theorem spec_l05Draw.calls (k : Nat) (g : Nat) (s0_0 : List Int) (s0_1 : Int) (s0_2 : Int) (r1 : Int) (r2 : Int) (r3 : Int) (r4 : Int) (r5 : Int) (r6 : Int) (r7 : Int) (r8 : Int) (w0 w : World) (hI : IsS174 w0 w g s0_0 s0_1 s0_2) (hB : Below w0.heap.size w0 w) (h : spec_l05Draw.f k s0_0 s0_1 s0_2 = some (r1, r2, r3, r4, r5, r6, r7, r8)) :
  Calls Try.prog 182 #[.pointer (some ⟨g, 0, none⟩)] w fun e w' => e = .returned (.agg #[.int .i64 r1, .int .i64 r2, .int .i64 r3, .int .i64 r4, .int .i64 r5, .int .i64 r6]) ∧ IsS174 w0 w' g s0_0 r7 r8 ∧ Below w0.heap.size w0 w' ∧ KeepBut w w' g none := by
 have hu84 := Try.underlying84
 have hu51 := Try.underlying51
 have HI0 := aM hI
 have HK := aM (KeepBut.refl w g none)
 have HL := aM hB.size
 clear hI
 have HW0 := aM hB.size
 have HB := aM hB
 clear hB
 have H : ((spec_l01Next.f s0_0 s0_1 s0_2 2).bind fun bt1487 => ((spec_l04DrawMat.f k s0_0 bt1487.2.1 bt1487.2.2 bt1487.1).bind fun bt1490 => ((spec_l01Next.f s0_0 bt1490.2.2.2.2.1 bt1490.2.2.2.2.2 12).bind fun bt1497 => (if bt1497.1 = 0 then ((spec_l02Draw.f k s0_0 bt1497.2.1 bt1497.2.2).bind fun bt1500 => (spec_l05Draw.j0 k s0_0 bt1500.2.2.2.2.1 bt1500.2.2.2.2.2 bt1500.1 bt1500.2.1 bt1500.2.2.1 bt1500.2.2.2.1)) else (if bt1497.1 = 1 then ((spec_l02Unit.f).bind fun bt1506 => (spec_l05Draw.j0 k s0_0 bt1497.2.1 bt1497.2.2 bt1506.1 bt1506.2.1 bt1506.2.2.1 bt1506.2.2.2)) else (if bt1497.1 = 2 then ((spec_l02DrawFinite.f k s0_0 bt1497.2.1 bt1497.2.2).bind fun bt1510 => (spec_l05Draw.j0 k s0_0 bt1510.2.2.2.2.1 bt1510.2.2.2.2.2 bt1510.1 bt1510.2.1 bt1510.2.2.1 bt1510.2.2.2.1)) else (spec_l05Draw.j0 k s0_0 bt1497.2.1 bt1497.2.2 bt1490.1 bt1490.2.1 bt1490.2.2.1 bt1490.2.2.2.1))))))) = some (r1, r2, r3, r4, r5, r6, r7, r8) := h
 clear h
 replace H := Option.bind_eq_some_iff.mp H
 obtain ⟨⟨t1487, t1488, t1489⟩, A20, H⟩ := H
 try dsimp only at H
 have A2 := aM A20
 clear A20
 replace H := Option.bind_eq_some_iff.mp H
 obtain ⟨⟨t1490, t1491, t1492, t1493, t1494, t1495⟩, A30, H⟩ := H
 try dsimp only at H
 have A3 := aM A30
 clear A30
 replace H := Option.bind_eq_some_iff.mp H
 obtain ⟨⟨t1497, t1498, t1499⟩, A40, H⟩ := H
 try dsimp only at H
 have A4 := aM A40
 clear A40
 have HC5 := aM H
 clear H
 go_enter Try.func182, Try.ntmps182
 go_upto_block 0 with (first | ((with_reducible refine gate_dst (N := 2) rfl ?_); refine box_event ?hg (N := 2) ?hd (cs := #[.int .i64 0, .int .i64 0, .int .i64 0, .int .i64 0, .int .i64 0, .int .i64 0]) (t := 84) ?hr ?_; (case hd => rfl); (case hg => rfl); (case hr => first | (go_simp; done) | (go_simp; rfl)); intro gb1486 hg w6 hbox hb; have n0_ := aM (IsS174.below (by repeat (first | (with_reducible first | exact HI0.out | apply sA|apply sN|apply sD|apply s1|apply s2) | exact HI0.out)) hb); have n1_ := aM (KeepBut.trans (by repeat (first | (with_reducible first | exact HK.out | apply eS|apply eN|apply eD|apply eA) | exact HK.out)) (KeepBut.of_below hb g none) (.inl rfl)); have n2_ := aM (below_step (by repeat (first | (with_reducible first | exact HB.out | apply bA|apply bN|apply b1 | refine below_set ?_ (IsS174.ge HI0.out)) | exact HB.out)) hb); have n3_ := aM (hbox); have n4_ := aM ((by rw [hg]; exact (keep_size (w := w) (g := g) (row := none) (by repeat (first | (with_reducible first | exact HK.out | apply eS|apply eN|apply eD|apply eA) | exact HK.out))) : w.heap.size ≤ gb1486)); have n5_ := aM ((Nat.le_trans HW0.out (by rw [hg]; exact (keep_size (w := w) (g := g) (row := none) (by repeat (first | (with_reducible first | exact HK.out | apply eS|apply eN|apply eD|apply eA) | exact HK.out))) : w.heap.size ≤ gb1486) : w0.heap.size ≤ gb1486)); have n6_ := aM ((by rw [hg]; exact Nat.ne_of_lt (IsS174.lt (show IsS174 w0 _ g s0_0 s0_1 s0_2 from by repeat (first | (with_reducible first | exact HI0.out | apply sA|apply sN|apply sD|apply s1|apply s2) | exact HI0.out))) : g ≠ gb1486)); have n7_ := aM ((by rw [hg]; exact Nat.ne_of_gt (IsS174.lt (show IsS174 w0 _ g s0_0 s0_1 s0_2 from by repeat (first | (with_reducible first | exact HI0.out | apply sA|apply sN|apply sD|apply s1|apply s2) | exact HI0.out))) : gb1486 ≠ g)); clear HI0; clear HK; clear HB; have HI0 := n0_; have HK := n1_; have HB := n2_; have BK1486 := n3_; have GW1486 := n4_; have GE1486 := n5_; have NB0_1486 := n6_; have NB1486_0 := n7_; clear n0_ n1_ n2_ n3_ n4_ n5_ n6_ n7_; clear hb hbox hg) | ((with_reducible refine gate_callee (f := 123) rfl ?_); refine goesL_ (some 6) rfl rfl Try.func123 (by kernel_rfl) rfl #[.pointer (some ⟨g, 0, none⟩), .int .i64 2] rfl (by first|rfl|(simp only [List.map_toArray, List.map_cons, List.map_nil]; try rfl)) ?_; (with_reducible refine (spec_l01Next.calls g s0_0 s0_1 s0_2 2 t1487 t1488 t1489 w0 _ ?side1 ?side2 A2.out).mono ?_); (case side1 => repeat (first | (with_reducible first | exact HI0.out | apply sA|apply sN|apply sD|apply s1|apply s2 | refine IsS174.far ?_ NB0_1486.out _) | exact HI0.out)); (case side2 => repeat (first | (with_reducible first | exact HB.out | apply bA|apply bN|apply b1 | refine below_set ?_ (IsS174.ge HI0.out) | refine below_set ?_ GE1486.out) | exact HB.out)); rintro e w7 ⟨rfl, hi, hb, hk⟩; refine ⟨_, rfl, ?_⟩; have n0_ := aM (KeepBut.blk hk (g' := gb1486) (o := .cells #[.int .i64 0, .int .i64 0, .int .i64 0, .int .i64 0, .int .i64 0, .int .i64 0] 84 (0, 0)) (by (with_reducible repeat (first|apply kN|apply kD|apply kA)); exact BK1486.out) NB1486_0.out (by simp)); have n1_ := aM (KeepBut.trans (by repeat (first | (with_reducible first | exact HK.out | apply eS|apply eN|apply eD|apply eA | refine keep_far ?_ GW1486.out _) | exact HK.out)) hk (.inl rfl)); have n2_ := aM (hb); have n3_ := aM (hi); clear BK1486; clear HK; clear HB; clear HI0; have BK1486 := n0_; have HK := n1_; have HB := n2_; have HI0 := n3_; clear n0_ n1_ n2_ n3_; (try clear hb)) | ((with_reducible refine gate_callee (f := 183) rfl ?_); refine goesL_ (some 7) rfl rfl Try.func183 (by kernel_rfl) rfl #[.pointer (some ⟨g, 0, none⟩), .int .i64 t1487] rfl (by first|rfl|(simp only [List.map_toArray, List.map_cons, List.map_nil]; try rfl)) ?_; (with_reducible refine (spec_l04DrawMat.calls k g s0_0 t1488 t1489 t1487 t1490 t1491 t1492 t1493 t1494 t1495 w0 _ ?side1 ?side2 A3.out).mono ?_); (case side1 => repeat (first | (with_reducible first | exact HI0.out | apply sA|apply sN|apply sD|apply s1|apply s2 | refine IsS174.far ?_ NB0_1486.out _) | exact HI0.out)); (case side2 => repeat (first | (with_reducible first | exact HB.out | apply bA|apply bN|apply b1 | refine below_set ?_ (IsS174.ge HI0.out) | refine below_set ?_ GE1486.out) | exact HB.out)); rintro e w8 ⟨rfl, hi, hb, hk⟩; refine ⟨_, rfl, ?_⟩; have n0_ := aM (KeepBut.blk hk (g' := gb1486) (o := .cells #[.int .i64 0, .int .i64 0, .int .i64 0, .int .i64 0, .int .i64 0, .int .i64 0] 84 (0, 0)) (by (with_reducible repeat (first|apply kN|apply kD|apply kA)); exact BK1486.out) NB1486_0.out (by simp)); have n1_ := aM (KeepBut.trans (by repeat (first | (with_reducible first | exact HK.out | apply eS|apply eN|apply eD|apply eA | refine keep_far ?_ GW1486.out _) | exact HK.out)) hk (.inl rfl)); have n2_ := aM (hb); have n3_ := aM (hi); clear BK1486; clear HK; clear HB; clear HI0; have BK1486 := n0_; have HK := n1_; have HB := n2_; have HI0 := n3_; clear n0_ n1_ n2_ n3_; (try clear hb)) | ((with_reducible refine gate_dst (N := 3) rfl ?_); refine box_event ?hg (N := 3) ?hd (cs := #[.int .i64 0, .int .i64 0, .int .i64 0, .int .i64 0]) (t := 51) ?hr ?_; (case hd => rfl); (case hg => rfl); (case hr => first | (go_simp; done) | (go_simp; rfl)); intro gb1496 hg w9 hbox hb; have n0_ := aM (IsS174.below (by repeat (first | (with_reducible first | exact HI0.out | apply sA|apply sN|apply sD|apply s1|apply s2 | refine IsS174.far ?_ NB0_1486.out _) | exact HI0.out)) hb); have n1_ := aM (blk_below (g := gb1486) (o := .cells #[.int .i64 0, .int .i64 0, .int .i64 0, .int .i64 0, .int .i64 0, .int .i64 0] 84 (0, 0)) (by (with_reducible repeat (first|apply kN|apply kD|apply kA)); exact BK1486.out) hb); have n2_ := aM (KeepBut.trans (by repeat (first | (with_reducible first | exact HK.out | apply eS|apply eN|apply eD|apply eA | refine keep_far ?_ GW1486.out _) | exact HK.out)) (KeepBut.of_below hb g none) (.inl rfl)); have n3_ := aM (below_step (by repeat (first | (with_reducible first | exact HB.out | apply bA|apply bN|apply b1 | refine below_set ?_ (IsS174.ge HI0.out) | refine below_set ?_ GE1486.out) | exact HB.out)) hb); have n4_ := aM (hbox); have n5_ := aM ((by rw [hg]; exact (keep_size (w := w) (g := g) (row := none) (by repeat (first | (with_reducible first | exact HK.out | apply eS|apply eN|apply eD|apply eA | refine keep_far ?_ GW1486.out _) | exact HK.out))) : w.heap.size ≤ gb1496)); have n6_ := aM ((Nat.le_trans HW0.out (by rw [hg]; exact (keep_size (w := w) (g := g) (row := none) (by repeat (first | (with_reducible first | exact HK.out | apply eS|apply eN|apply eD|apply eA | refine keep_far ?_ GW1486.out _) | exact HK.out))) : w.heap.size ≤ gb1496) : w0.heap.size ≤ gb1496)); have n7_ := aM ((by rw [hg]; exact Nat.ne_of_lt (blk_lt (g := gb1486) (o := .cells #[.int .i64 0, .int .i64 0, .int .i64 0, .int .i64 0, .int .i64 0, .int .i64 0] 84 (0, 0)) (by (with_reducible repeat (first|apply kN|apply kD|apply kA)); exact BK1486.out)) : gb1486 ≠ gb1496)); have n8_ := aM ((by rw [hg]; exact Nat.ne_of_gt (blk_lt (g := gb1486) (o := .cells #[.int .i64 0, .int .i64 0, .int .i64 0, .int .i64 0, .int .i64 0, .int .i64 0] 84 (0, 0)) (by (with_reducible repeat (first|apply kN|apply kD|apply kA)); exact BK1486.out)) : gb1496 ≠ gb1486)); have n9_ := aM ((by rw [hg]; exact Nat.ne_of_lt (IsS174.lt (show IsS174 w0 _ g s0_0 t1494 t1495 from by repeat (first | (with_reducible first | exact HI0.out | apply sA|apply sN|apply sD|apply s1|apply s2 | refine IsS174.far ?_ NB0_1486.out _) | exact HI0.out))) : g ≠ gb1496)); have n10_ := aM ((by rw [hg]; exact Nat.ne_of_gt (IsS174.lt (show IsS174 w0 _ g s0_0 t1494 t1495 from by repeat (first | (with_reducible first | exact HI0.out | apply sA|apply sN|apply sD|apply s1|apply s2 | refine IsS174.far ?_ NB0_1486.out _) | exact HI0.out))) : gb1496 ≠ g)); clear HI0; clear BK1486; clear HK; clear HB; have HI0 := n0_; have BK1486 := n1_; have HK := n2_; have HB := n3_; have BK1496 := n4_; have GW1496 := n5_; have GE1496 := n6_; have NB1486_1496 := n7_; have NB1496_1486 := n8_; have NB0_1496 := n9_; have NB1496_0 := n10_; clear n0_ n1_ n2_ n3_ n4_ n5_ n6_ n7_ n8_ n9_ n10_; clear hb hbox hg; have hnb10 := NB1496_1486.out; have hnc10 := NB1486_1496.out; have hnb11 := NB1496_0.out; have hnc11 := NB0_1496.out; have hcz12_0 : w9.cell? ⟨gb1496, 0, none⟩ = some (.int .i64 0) := (blk_cell BK1496.out 0).trans rfl; have hcz12_1 : w9.cell? ⟨gb1496, 1, none⟩ = some (.int .i64 0) := (blk_cell BK1496.out 1).trans rfl; have hcz12_2 : w9.cell? ⟨gb1496, 2, none⟩ = some (.int .i64 0) := (blk_cell BK1496.out 2).trans rfl; have hcz12_3 : w9.cell? ⟨gb1496, 3, none⟩ = some (.int .i64 0) := (blk_cell BK1496.out 3).trans rfl; have hfz12_0 := blk_frozen BK1496.out 0; have hfz12_1 := blk_frozen BK1496.out 1; have hfz12_2 := blk_frozen BK1496.out 2; have hfz12_3 := blk_frozen BK1496.out 3) | ((with_reducible refine gate_callee (f := 123) rfl ?_); refine goesL_ (some 9) rfl rfl Try.func123 (by kernel_rfl) rfl #[.pointer (some ⟨g, 0, none⟩), .int .i64 12] rfl (by first|rfl|(simp only [List.map_toArray, List.map_cons, List.map_nil]; try rfl)) ?_; (with_reducible refine (spec_l01Next.calls g s0_0 t1494 t1495 12 t1497 t1498 t1499 w0 _ ?side1 ?side2 A4.out).mono ?_); (case side1 => repeat (first | (with_reducible first | exact HI0.out | apply sA|apply sN|apply sD|apply s1|apply s2 | refine IsS174.far ?_ NB0_1486.out _ | refine IsS174.far ?_ NB0_1496.out _) | exact HI0.out)); (case side2 => repeat (first | (with_reducible first | exact HB.out | apply bA|apply bN|apply b1 | refine below_set ?_ (IsS174.ge HI0.out) | refine below_set ?_ (Aside0.out (by assumption))) | exact HB.out)); rintro e w13 ⟨rfl, hi, hb, hk⟩; refine ⟨_, rfl, ?_⟩; have n0_ := aM (KeepBut.blk hk (g' := gb1486) (o := .cells #[.int .i64 0, .int .i64 0, .int .i64 0, .int .i64 0, .int .i64 0, .int .i64 0] 84 (0, 0)) (by (repeat (first|(with_reducible first|apply kN|apply kD|apply kA)|refine blk_far ?_ NB1486_1496.out _)); exact BK1486.out) NB1486_0.out (by simp)); have n1_ := aM (KeepBut.blk hk (g' := gb1496) (o := .cells #[.int .i64 t1490, .int .i64 t1491, .int .i64 t1492, .int .i64 t1493] 51 (0, 0)) (by (with_reducible repeat (first|apply kN|apply kD|apply kA)); refine blk_put (cs := #[.int .i64 t1490, .int .i64 t1491, .int .i64 t1492, .int .i64 0]) ?_ 3 _ rfl; (with_reducible repeat (first|apply kN|apply kD|apply kA)); refine blk_put (cs := #[.int .i64 t1490, .int .i64 t1491, .int .i64 0, .int .i64 0]) ?_ 2 _ rfl; (with_reducible repeat (first|apply kN|apply kD|apply kA)); refine blk_put (cs := #[.int .i64 t1490, .int .i64 0, .int .i64 0, .int .i64 0]) ?_ 1 _ rfl; (with_reducible repeat (first|apply kN|apply kD|apply kA)); refine blk_put (cs := #[.int .i64 0, .int .i64 0, .int .i64 0, .int .i64 0]) ?_ 0 _ rfl; (with_reducible repeat (first|apply kN|apply kD|apply kA)); exact BK1496.out) NB1496_0.out (by simp)); have n2_ := aM (KeepBut.trans (by repeat (first | (with_reducible first | exact HK.out | apply eS|apply eN|apply eD|apply eA | refine keep_far ?_ GW1486.out _ | refine keep_far ?_ GW1496.out _) | exact HK.out)) hk (.inl rfl)); have n3_ := aM (hb); have n4_ := aM (hi); clear BK1486; clear BK1496; clear HK; clear HB; clear HI0; have BK1486 := n0_; have BK1496 := n1_; have HK := n2_; have HB := n3_; have HI0 := n4_; clear n0_ n1_ n2_ n3_ n4_; (try clear hb)))
 (try simp only [Act.put, List.setIfInBounds_toArray, List.set_cons_zero, List.set_cons_succ])
 go_cut [] (fun wc => ∃ (kq : Nat) (x1001_4 : Int) (x1002_4 : Int) (x1497000_4 : Int) (x1497001_4 : Int) (x1497002_4 : Int) (x1497003_4 : Int), Aside0 (spec_l05Draw.j0 kq s0_0 x1001_4 x1002_4 x1497000_4 x1497001_4 x1497002_4 x1497003_4 = some (r1, r2, r3, r4, r5, r6, r7, r8)) ∧ Aside0 (kq ≤ k) ∧ Aside0 (wc.heap[gb1486]? = some (.cells #[.int .i64 0, .int .i64 0, .int .i64 0, .int .i64 0, .int .i64 0, .int .i64 0] 84 (0, 0))) ∧ Aside0 (wc.heap[gb1496]? = some (.cells #[.int .i64 x1497000_4, .int .i64 x1497001_4, .int .i64 x1497002_4, .int .i64 x1497003_4] 51 (0, 0))) ∧ Aside0 (IsS174 w0 wc g s0_0 x1001_4 x1002_4) ∧ Aside0 (KeepBut w wc g none) ∧ Aside0 (Below w0.heap.size w0 wc))
 case first =>
  have H := HC5.out
  clear HC5
  by_cases c14 : t1497 = 0
  ·rw [if_pos c14] at H
   have c14b0 : (t1497 == 0) = true := beq_iff_eq.mpr c14
   have c14b1 : (t1497 != 0) = false := bne_eq_false_iff_eq.mpr c14
   clear c14
   (first | rw [c14b0] | (simp only [i64_w, i32_w]; rw [c14b0]) | skip)
   replace H := Option.bind_eq_some_iff.mp H
   obtain ⟨⟨t1500, t1501, t1502, t1503, t1504, t1505⟩, A150, H⟩ := H
   try dsimp only at H
   have A15 := aM A150
   clear A150
   have H' := aM H
   clear H
   go_wp2_with (first | ((with_reducible refine gate_callee (f := 147) rfl ?_); refine goesL_ (some 13) rfl rfl Try.func147 (by kernel_rfl) rfl #[.pointer (some ⟨g, 0, none⟩)] rfl (by first|rfl|(simp only [List.map_toArray, List.map_cons, List.map_nil]; try rfl)) ?_; (with_reducible refine (spec_l02Draw.calls k g s0_0 t1498 t1499 t1500 t1501 t1502 t1503 t1504 t1505 w0 _ ?side1 ?side2 A15.out).mono ?_); (case side1 => repeat (first | (with_reducible first | exact HI0.out | apply sA|apply sN|apply sD|apply s1|apply s2 | refine IsS174.far ?_ NB0_1486.out _ | refine IsS174.far ?_ NB0_1496.out _) | exact HI0.out)); (case side2 => repeat (first | (with_reducible first | exact HB.out | apply bA|apply bN|apply b1 | refine below_set ?_ (IsS174.ge HI0.out) | refine below_set ?_ (Aside0.out (by assumption))) | exact HB.out)); rintro e w16 ⟨rfl, hi, hb, hk⟩; refine ⟨_, rfl, ?_⟩; have n0_ := aM (KeepBut.blk hk (g' := gb1486) (o := .cells #[.int .i64 0, .int .i64 0, .int .i64 0, .int .i64 0, .int .i64 0, .int .i64 0] 84 (0, 0)) (by (with_reducible repeat (first|apply kN|apply kD|apply kA)); exact BK1486.out) NB1486_0.out (by simp)); have n1_ := aM (KeepBut.blk hk (g' := gb1496) (o := .cells #[.int .i64 t1490, .int .i64 t1491, .int .i64 t1492, .int .i64 t1493] 51 (0, 0)) (by (with_reducible repeat (first|apply kN|apply kD|apply kA)); exact BK1496.out) NB1496_0.out (by simp)); have n2_ := aM (KeepBut.trans (by repeat (first | (with_reducible first | exact HK.out | apply eS|apply eN|apply eD|apply eA | refine keep_far ?_ GW1486.out _ | refine keep_far ?_ GW1496.out _) | exact HK.out)) hk (.inl rfl)); have n3_ := aM (hb); have n4_ := aM (hi); clear BK1486; clear BK1496; clear HK; clear HB; clear HI0; have BK1486 := n0_; have BK1496 := n1_; have HK := n2_; have HB := n3_; have HI0 := n4_; clear n0_ n1_ n2_ n3_ n4_; (try clear hb); have hnb17 := NB1496_1486.out; have hnc17 := NB1486_1496.out; have hnb18 := NB1496_0.out; have hnc18 := NB0_1496.out; have hcz19_0 : w16.cell? ⟨gb1496, 0, none⟩ = some (.int .i64 t1490) := (blk_cell BK1496.out 0).trans rfl; have hcz19_1 : w16.cell? ⟨gb1496, 1, none⟩ = some (.int .i64 t1491) := (blk_cell BK1496.out 1).trans rfl; have hcz19_2 : w16.cell? ⟨gb1496, 2, none⟩ = some (.int .i64 t1492) := (blk_cell BK1496.out 2).trans rfl; have hcz19_3 : w16.cell? ⟨gb1496, 3, none⟩ = some (.int .i64 t1493) := (blk_cell BK1496.out 3).trans rfl; have hfz19_0 := blk_frozen BK1496.out 0; have hfz19_1 := blk_frozen BK1496.out 1; have hfz19_2 := blk_frozen BK1496.out 2; have hfz19_3 := blk_frozen BK1496.out 3))
   go_meet
   case rel => exact ⟨_, (t1504), (t1505), (t1500), (t1501), (t1502), (t1503), H', ⟨by first | omega | exact Nat.le_refl _⟩, ⟨by (repeat (first|(with_reducible first|apply kN|apply kD|apply kA)|refine blk_far ?_ NB1486_1496.out _)); exact BK1486.out⟩, ⟨by (with_reducible repeat (first|apply kN|apply kD|apply kA)); refine blk_put (cs := #[.int .i64 t1500, .int .i64 t1501, .int .i64 t1502, .int .i64 t1493]) ?_ 3 _ rfl; (with_reducible repeat (first|apply kN|apply kD|apply kA)); refine blk_put (cs := #[.int .i64 t1500, .int .i64 t1501, .int .i64 t1492, .int .i64 t1493]) ?_ 2 _ rfl; (with_reducible repeat (first|apply kN|apply kD|apply kA)); refine blk_put (cs := #[.int .i64 t1500, .int .i64 t1491, .int .i64 t1492, .int .i64 t1493]) ?_ 1 _ rfl; (with_reducible repeat (first|apply kN|apply kD|apply kA)); refine blk_put (cs := #[.int .i64 t1490, .int .i64 t1491, .int .i64 t1492, .int .i64 t1493]) ?_ 0 _ rfl; (with_reducible repeat (first|apply kN|apply kD|apply kA)); exact BK1496.out⟩, ⟨by repeat (first | (with_reducible first | exact HI0.out | apply sA|apply sN|apply sD|apply s1|apply s2 | refine IsS174.far ?_ NB0_1486.out _ | refine IsS174.far ?_ NB0_1496.out _) | exact HI0.out)⟩, ⟨by repeat (first | (with_reducible first | exact HK.out | apply eS|apply eN|apply eD|apply eA | refine keep_far ?_ GW1486.out _ | refine keep_far ?_ GW1496.out _) | exact HK.out)⟩, ⟨by repeat (first | (with_reducible first | exact HB.out | apply bA|apply bN|apply b1 | refine below_set ?_ (IsS174.ge HI0.out) | refine below_set ?_ (Aside0.out (by assumption))) | exact HB.out)⟩⟩
  ·rw [if_neg c14] at H
   have c14b0 : (t1497 == 0) = false := beq_eq_false_iff_ne.mpr c14
   have c14b1 : (t1497 != 0) = true := bne_iff_ne.mpr c14
   (first | rw [c14b0] | (simp only [i64_w, i32_w]; rw [c14b0]) | skip)
   by_cases c20 : t1497 = 1
   ·rw [if_pos c20] at H
    have c20b0 : (t1497 == 1) = true := beq_iff_eq.mpr c20
    have c20b1 : (t1497 != 1) = false := bne_eq_false_iff_eq.mpr c20
    clear c20
    replace H := Option.bind_eq_some_iff.mp H
    obtain ⟨⟨t1506, t1507, t1508, t1509⟩, A210, H⟩ := H
    try dsimp only at H
    have A21 := aM A210
    clear A210
    have H' := aM H
    clear H
    go_wp2_with (first | ((with_reducible refine gate_callee (f := 162) rfl ?_); refine goesL_ (some 16) rfl rfl Try.func162 (by kernel_rfl) rfl #[] rfl (by first|rfl|(simp only [List.map_toArray, List.map_cons, List.map_nil]; try rfl)) ?_; (with_reducible refine (spec_l02Unit.calls  t1506 t1507 t1508 t1509 _ A21.out).mono ?_); rintro e w22 ⟨rfl, hb⟩; refine ⟨_, rfl, ?_⟩; have n0_ := aM (IsS174.below (by repeat (first | (with_reducible first | exact HI0.out | apply sA|apply sN|apply sD|apply s1|apply s2 | refine IsS174.far ?_ NB0_1486.out _ | refine IsS174.far ?_ NB0_1496.out _) | exact HI0.out)) hb); have n1_ := aM (blk_below (g := gb1486) (o := .cells #[.int .i64 0, .int .i64 0, .int .i64 0, .int .i64 0, .int .i64 0, .int .i64 0] 84 (0, 0)) (by (with_reducible repeat (first|apply kN|apply kD|apply kA)); exact BK1486.out) hb); have n2_ := aM (blk_below (g := gb1496) (o := .cells #[.int .i64 t1490, .int .i64 t1491, .int .i64 t1492, .int .i64 t1493] 51 (0, 0)) (by (with_reducible repeat (first|apply kN|apply kD|apply kA)); exact BK1496.out) hb); have n3_ := aM (KeepBut.trans (by repeat (first | (with_reducible first | exact HK.out | apply eS|apply eN|apply eD|apply eA | refine keep_far ?_ GW1486.out _ | refine keep_far ?_ GW1496.out _) | exact HK.out)) (KeepBut.of_below hb g none) (.inl rfl)); have n4_ := aM (below_step (by repeat (first | (with_reducible first | exact HB.out | apply bA|apply bN|apply b1 | refine below_set ?_ (IsS174.ge HI0.out) | refine below_set ?_ (Aside0.out (by assumption))) | exact HB.out)) hb); clear HI0; clear BK1486; clear BK1496; clear HK; clear HB; have HI0 := n0_; have BK1486 := n1_; have BK1496 := n2_; have HK := n3_; have HB := n4_; clear n0_ n1_ n2_ n3_ n4_; (try clear hb); have hnb23 := NB1496_1486.out; have hnc23 := NB1486_1496.out; have hnb24 := NB1496_0.out; have hnc24 := NB0_1496.out; have hcz25_0 : w22.cell? ⟨gb1496, 0, none⟩ = some (.int .i64 t1490) := (blk_cell BK1496.out 0).trans rfl; have hcz25_1 : w22.cell? ⟨gb1496, 1, none⟩ = some (.int .i64 t1491) := (blk_cell BK1496.out 1).trans rfl; have hcz25_2 : w22.cell? ⟨gb1496, 2, none⟩ = some (.int .i64 t1492) := (blk_cell BK1496.out 2).trans rfl; have hcz25_3 : w22.cell? ⟨gb1496, 3, none⟩ = some (.int .i64 t1493) := (blk_cell BK1496.out 3).trans rfl; have hfz25_0 := blk_frozen BK1496.out 0; have hfz25_1 := blk_frozen BK1496.out 1; have hfz25_2 := blk_frozen BK1496.out 2; have hfz25_3 := blk_frozen BK1496.out 3))
    go_meet
    case rel => exact ⟨_, (t1498), (t1499), (t1506), (t1507), (t1508), (t1509), H', ⟨by first | omega | exact Nat.le_refl _⟩, ⟨by (repeat (first|(with_reducible first|apply kN|apply kD|apply kA)|refine blk_far ?_ NB1486_1496.out _)); exact BK1486.out⟩, ⟨by (with_reducible repeat (first|apply kN|apply kD|apply kA)); refine blk_put (cs := #[.int .i64 t1506, .int .i64 t1507, .int .i64 t1508, .int .i64 t1493]) ?_ 3 _ rfl; (with_reducible repeat (first|apply kN|apply kD|apply kA)); refine blk_put (cs := #[.int .i64 t1506, .int .i64 t1507, .int .i64 t1492, .int .i64 t1493]) ?_ 2 _ rfl; (with_reducible repeat (first|apply kN|apply kD|apply kA)); refine blk_put (cs := #[.int .i64 t1506, .int .i64 t1491, .int .i64 t1492, .int .i64 t1493]) ?_ 1 _ rfl; (with_reducible repeat (first|apply kN|apply kD|apply kA)); refine blk_put (cs := #[.int .i64 t1490, .int .i64 t1491, .int .i64 t1492, .int .i64 t1493]) ?_ 0 _ rfl; (with_reducible repeat (first|apply kN|apply kD|apply kA)); exact BK1496.out⟩, ⟨by repeat (first | (with_reducible first | exact HI0.out | apply sA|apply sN|apply sD|apply s1|apply s2 | refine IsS174.far ?_ NB0_1486.out _ | refine IsS174.far ?_ NB0_1496.out _) | exact HI0.out)⟩, ⟨by repeat (first | (with_reducible first | exact HK.out | apply eS|apply eN|apply eD|apply eA | refine keep_far ?_ GW1486.out _ | refine keep_far ?_ GW1496.out _) | exact HK.out)⟩, ⟨by repeat (first | (with_reducible first | exact HB.out | apply bA|apply bN|apply b1 | refine below_set ?_ (IsS174.ge HI0.out) | refine below_set ?_ (Aside0.out (by assumption))) | exact HB.out)⟩⟩
   ·rw [if_neg c20] at H
    have c20b0 : (t1497 == 1) = false := beq_eq_false_iff_ne.mpr c20
    have c20b1 : (t1497 != 1) = true := bne_iff_ne.mpr c20
    by_cases c26 : t1497 = 2
    ·rw [if_pos c26] at H
     have c26b0 : (t1497 == 2) = true := beq_iff_eq.mpr c26
     have c26b1 : (t1497 != 2) = false := bne_eq_false_iff_eq.mpr c26
     clear c26
     replace H := Option.bind_eq_some_iff.mp H
     obtain ⟨⟨t1510, t1511, t1512, t1513, t1514, t1515⟩, A270, H⟩ := H
     try dsimp only at H
     have A27 := aM A270
     clear A270
     have H' := aM H
     clear H
     go_wp2_with (first | ((with_reducible refine gate_callee (f := 211) rfl ?_); refine goesL_ (some 20) rfl rfl Try.func211 (by kernel_rfl) rfl #[.pointer (some ⟨g, 0, none⟩)] rfl (by first|rfl|(simp only [List.map_toArray, List.map_cons, List.map_nil]; try rfl)) ?_; (with_reducible refine (spec_l02DrawFinite.calls k g s0_0 t1498 t1499 t1510 t1511 t1512 t1513 t1514 t1515 w0 _ ?side1 ?side2 A27.out).mono ?_); (case side1 => repeat (first | (with_reducible first | exact HI0.out | apply sA|apply sN|apply sD|apply s1|apply s2 | refine IsS174.far ?_ NB0_1486.out _ | refine IsS174.far ?_ NB0_1496.out _) | exact HI0.out)); (case side2 => repeat (first | (with_reducible first | exact HB.out | apply bA|apply bN|apply b1 | refine below_set ?_ (IsS174.ge HI0.out) | refine below_set ?_ (Aside0.out (by assumption))) | exact HB.out)); rintro e w28 ⟨rfl, hi, hb, hk⟩; refine ⟨_, rfl, ?_⟩; have n0_ := aM (KeepBut.blk hk (g' := gb1486) (o := .cells #[.int .i64 0, .int .i64 0, .int .i64 0, .int .i64 0, .int .i64 0, .int .i64 0] 84 (0, 0)) (by (with_reducible repeat (first|apply kN|apply kD|apply kA)); exact BK1486.out) NB1486_0.out (by simp)); have n1_ := aM (KeepBut.blk hk (g' := gb1496) (o := .cells #[.int .i64 t1490, .int .i64 t1491, .int .i64 t1492, .int .i64 t1493] 51 (0, 0)) (by (with_reducible repeat (first|apply kN|apply kD|apply kA)); exact BK1496.out) NB1496_0.out (by simp)); have n2_ := aM (KeepBut.trans (by repeat (first | (with_reducible first | exact HK.out | apply eS|apply eN|apply eD|apply eA | refine keep_far ?_ GW1486.out _ | refine keep_far ?_ GW1496.out _) | exact HK.out)) hk (.inl rfl)); have n3_ := aM (hb); have n4_ := aM (hi); clear BK1486; clear BK1496; clear HK; clear HB; clear HI0; have BK1486 := n0_; have BK1496 := n1_; have HK := n2_; have HB := n3_; have HI0 := n4_; clear n0_ n1_ n2_ n3_ n4_; (try clear hb); have hnb29 := NB1496_1486.out; have hnc29 := NB1486_1496.out; have hnb30 := NB1496_0.out; have hnc30 := NB0_1496.out; have hcz31_0 : w28.cell? ⟨gb1496, 0, none⟩ = some (.int .i64 t1490) := (blk_cell BK1496.out 0).trans rfl; have hcz31_1 : w28.cell? ⟨gb1496, 1, none⟩ = some (.int .i64 t1491) := (blk_cell BK1496.out 1).trans rfl; have hcz31_2 : w28.cell? ⟨gb1496, 2, none⟩ = some (.int .i64 t1492) := (blk_cell BK1496.out 2).trans rfl; have hcz31_3 : w28.cell? ⟨gb1496, 3, none⟩ = some (.int .i64 t1493) := (blk_cell BK1496.out 3).trans rfl; have hfz31_0 := blk_frozen BK1496.out 0; have hfz31_1 := blk_frozen BK1496.out 1; have hfz31_2 := blk_frozen BK1496.out 2; have hfz31_3 := blk_frozen BK1496.out 3))
     go_meet
     case rel => exact ⟨_, (t1514), (t1515), (t1510), (t1511), (t1512), (t1513), H', ⟨by first | omega | exact Nat.le_refl _⟩, ⟨by (repeat (first|(with_reducible first|apply kN|apply kD|apply kA)|refine blk_far ?_ NB1486_1496.out _)); exact BK1486.out⟩, ⟨by (with_reducible repeat (first|apply kN|apply kD|apply kA)); refine blk_put (cs := #[.int .i64 t1510, .int .i64 t1511, .int .i64 t1512, .int .i64 t1493]) ?_ 3 _ rfl; (with_reducible repeat (first|apply kN|apply kD|apply kA)); refine blk_put (cs := #[.int .i64 t1510, .int .i64 t1511, .int .i64 t1492, .int .i64 t1493]) ?_ 2 _ rfl; (with_reducible repeat (first|apply kN|apply kD|apply kA)); refine blk_put (cs := #[.int .i64 t1510, .int .i64 t1491, .int .i64 t1492, .int .i64 t1493]) ?_ 1 _ rfl; (with_reducible repeat (first|apply kN|apply kD|apply kA)); refine blk_put (cs := #[.int .i64 t1490, .int .i64 t1491, .int .i64 t1492, .int .i64 t1493]) ?_ 0 _ rfl; (with_reducible repeat (first|apply kN|apply kD|apply kA)); exact BK1496.out⟩, ⟨by repeat (first | (with_reducible first | exact HI0.out | apply sA|apply sN|apply sD|apply s1|apply s2 | refine IsS174.far ?_ NB0_1486.out _ | refine IsS174.far ?_ NB0_1496.out _) | exact HI0.out)⟩, ⟨by repeat (first | (with_reducible first | exact HK.out | apply eS|apply eN|apply eD|apply eA | refine keep_far ?_ GW1486.out _ | refine keep_far ?_ GW1496.out _) | exact HK.out)⟩, ⟨by repeat (first | (with_reducible first | exact HB.out | apply bA|apply bN|apply b1 | refine below_set ?_ (IsS174.ge HI0.out) | refine below_set ?_ (Aside0.out (by assumption))) | exact HB.out)⟩⟩
    ·rw [if_neg c26] at H
     have c26b0 : (t1497 == 2) = false := beq_eq_false_iff_ne.mpr c26
     have c26b1 : (t1497 != 2) = true := bne_iff_ne.mpr c26
     have H' := aM H
     clear H
     go_wp2
     go_meet
     case rel => exact ⟨_, (t1498), (t1499), (t1490), (t1491), (t1492), (t1493), H', ⟨by first | omega | exact Nat.le_refl _⟩, ⟨by (with_reducible repeat (first|apply kN|apply kD|apply kA)); exact BK1486.out⟩, ⟨by (with_reducible repeat (first|apply kN|apply kD|apply kA)); exact BK1496.out⟩, ⟨by repeat (first | (with_reducible first | exact HI0.out | apply sA|apply sN|apply sD|apply s1|apply s2 | refine IsS174.far ?_ NB0_1486.out _ | refine IsS174.far ?_ NB0_1496.out _) | exact HI0.out)⟩, ⟨by repeat (first | (with_reducible first | exact HK.out | apply eS|apply eN|apply eD|apply eA | refine keep_far ?_ GW1486.out _ | refine keep_far ?_ GW1496.out _) | exact HK.out)⟩, ⟨by repeat (first | (with_reducible first | exact HB.out | apply bA|apply bN|apply b1 | refine below_set ?_ (IsS174.ge HI0.out) | refine below_set ?_ (Aside0.out (by assumption))) | exact HB.out)⟩⟩
 case rest =>
  clear HC5
  try clear c1
  try clear c2
  try clear p2
  try clear c3
  try clear c10
  try clear c11
  try clear c12
  try clear c14
  try clear c14b0
  try clear c14b1
  try clear c16
  try clear c17
  try clear c18
  try clear c20
  try clear c20b0
  try clear c20b1
  try clear c21
  try clear c23
  try clear c24
  try clear c26
  try clear c26b0
  try clear c26b1
  try clear c29
  try clear c30
  try clear hcz12_0
  try clear hcz12_1
  try clear hcz12_2
  try clear hcz12_3
  try clear hcz19_0
  try clear hcz19_1
  try clear hcz19_2
  try clear hcz19_3
  try clear hcz25_0
  try clear hcz25_1
  try clear hcz25_2
  try clear hcz25_3
  try clear hcz31_0
  try clear hcz31_1
  try clear hcz31_2
  try clear hcz31_3
  try clear hfz12_0
  try clear hfz12_1
  try clear hfz12_2
  try clear hfz12_3
  try clear hfz19_0
  try clear hfz19_1
  try clear hfz19_2
  try clear hfz19_3
  try clear hfz25_0
  try clear hfz25_1
  try clear hfz25_2
  try clear hfz25_3
  try clear hfz31_0
  try clear hfz31_1
  try clear hfz31_2
  try clear hfz31_3
  obtain ⟨kq, x1001_4, x1002_4, x1497000_4, x1497001_4, x1497002_4, x1497003_4, HA, HJ4, BK1486, BK1496, HI0, HK, HB⟩ := hcut
  cases kq with
  | zero => exact absurd HA.out (by simp [spec_l05Draw.j0])
  | succ kj4 =>
   have H := HA.out
   clear HA
   simp only [spec_l05Draw.j0] at H
   replace H := Option.bind_eq_some_iff.mp H
   obtain ⟨⟨t1516, t1517, t1518⟩, A320, H⟩ := H
   try dsimp only at H
   have A32 := aM A320
   clear A320
   by_cases c33 : t1516 = 0
   ·rw [if_pos c33] at H
    have c33b0 : (t1516 == 0) = true := beq_iff_eq.mpr c33
    have c33b1 : (t1516 != 0) = false := bne_eq_false_iff_eq.mpr c33
    clear c33
    simp only [Option.some.injEq, Prod.mk.injEq] at H
    obtain ⟨rfl, rfl, rfl, rfl, rfl, rfl, rfl, rfl⟩ := H
    go_wp2_with (first | ((with_reducible refine gate_callee (f := 123) rfl ?_); refine goesL_ (some 22) rfl rfl Try.func123 (by kernel_rfl) rfl #[.pointer (some ⟨g, 0, none⟩), .int .i64 5] rfl (by first|rfl|(simp only [List.map_toArray, List.map_cons, List.map_nil]; try rfl)) ?_; (with_reducible refine (spec_l01Next.calls g s0_0 x1001_4 x1002_4 5 t1516 t1517 t1518 w0 _ ?side1 ?side2 A32.out).mono ?_); (case side1 => repeat (first | (with_reducible first | exact HI0.out | apply sA|apply sN|apply sD|apply s1|apply s2 | refine IsS174.far ?_ NB0_1486.out _ | refine IsS174.far ?_ NB0_1496.out _) | exact HI0.out)); (case side2 => repeat (first | (with_reducible first | exact HB.out | apply bA|apply bN|apply b1 | refine below_set ?_ (IsS174.ge HI0.out) | refine below_set ?_ (Aside0.out (by assumption))) | exact HB.out)); rintro e w34 ⟨rfl, hi, hb, hk⟩; refine ⟨_, rfl, ?_⟩; have n0_ := aM (KeepBut.blk hk (g' := gb1486) (o := .cells #[.int .i64 0, .int .i64 0, .int .i64 0, .int .i64 0, .int .i64 0, .int .i64 0] 84 (0, 0)) (by (with_reducible repeat (first|apply kN|apply kD|apply kA)); exact BK1486.out) NB1486_0.out (by simp)); have n1_ := aM (KeepBut.blk hk (g' := gb1496) (o := .cells #[.int .i64 x1497000_4, .int .i64 x1497001_4, .int .i64 x1497002_4, .int .i64 x1497003_4] 51 (0, 0)) (by (with_reducible repeat (first|apply kN|apply kD|apply kA)); exact BK1496.out) NB1496_0.out (by simp)); have n2_ := aM (KeepBut.trans (by repeat (first | (with_reducible first | exact HK.out | apply eS|apply eN|apply eD|apply eA | refine keep_far ?_ GW1486.out _ | refine keep_far ?_ GW1496.out _) | exact HK.out)) hk (.inl rfl)); have n3_ := aM (hb); have n4_ := aM (hi); clear BK1486; clear BK1496; clear HK; clear HB; clear HI0; have BK1486 := n0_; have BK1496 := n1_; have HK := n2_; have HB := n3_; have HI0 := n4_; clear n0_ n1_ n2_ n3_ n4_; (try clear hb); have hnb35 := NB1496_1486.out; have hnc35 := NB1486_1496.out; have hnb36 := NB1496_0.out; have hnc36 := NB0_1496.out; have hcz37_0 : w34.cell? ⟨gb1496, 0, none⟩ = some (.int .i64 x1497000_4) := (blk_cell BK1496.out 0).trans rfl; have hcz37_1 : w34.cell? ⟨gb1496, 1, none⟩ = some (.int .i64 x1497001_4) := (blk_cell BK1496.out 1).trans rfl; have hcz37_2 : w34.cell? ⟨gb1496, 2, none⟩ = some (.int .i64 x1497002_4) := (blk_cell BK1496.out 2).trans rfl; have hcz37_3 : w34.cell? ⟨gb1496, 3, none⟩ = some (.int .i64 x1497003_4) := (blk_cell BK1496.out 3).trans rfl; have hfz37_0 := blk_frozen BK1496.out 0; have hfz37_1 := blk_frozen BK1496.out 1; have hfz37_2 := blk_frozen BK1496.out 2; have hfz37_3 := blk_frozen BK1496.out 3; have hnb38 := NB1486_0.out; have hnc38 := NB0_1486.out; have hcz39_0 : w34.cell? ⟨gb1486, 0, none⟩ = some (.int .i64 0) := (blk_cell BK1486.out 0).trans rfl; have hcz39_1 : w34.cell? ⟨gb1486, 1, none⟩ = some (.int .i64 0) := (blk_cell BK1486.out 1).trans rfl; have hcz39_2 : w34.cell? ⟨gb1486, 2, none⟩ = some (.int .i64 0) := (blk_cell BK1486.out 2).trans rfl; have hcz39_3 : w34.cell? ⟨gb1486, 3, none⟩ = some (.int .i64 0) := (blk_cell BK1486.out 3).trans rfl; have hcz39_4 : w34.cell? ⟨gb1486, 4, none⟩ = some (.int .i64 0) := (blk_cell BK1486.out 4).trans rfl; have hcz39_5 : w34.cell? ⟨gb1486, 5, none⟩ = some (.int .i64 0) := (blk_cell BK1486.out 5).trans rfl; have hfz39_0 := blk_frozen BK1486.out 0; have hfz39_1 := blk_frozen BK1486.out 1; have hfz39_2 := blk_frozen BK1486.out 2; have hfz39_3 := blk_frozen BK1486.out 3; have hfz39_4 := blk_frozen BK1486.out 4; have hfz39_5 := blk_frozen BK1486.out 5))
    refine bodyPost_ret (results_cell_row rfl _ _ gb1486 84 #[.int .i64 x1497000_4, .int .i64 x1497001_4, .int .i64 x1497002_4, .int .i64 x1497003_4, .int .i64 0, .int .i64 0] (0, 0) _ rfl (by (with_reducible repeat (first|apply kN|apply kD|apply kA)); refine blk_put (cs := #[.int .i64 x1497000_4, .int .i64 x1497001_4, .int .i64 x1497002_4, .int .i64 x1497003_4, .int .i64 0, .int .i64 0]) ?_ 5 _ rfl; (with_reducible repeat (first|apply kN|apply kD|apply kA)); refine blk_put (cs := #[.int .i64 x1497000_4, .int .i64 x1497001_4, .int .i64 x1497002_4, .int .i64 x1497003_4, .int .i64 0, .int .i64 0]) ?_ 4 _ rfl; (with_reducible repeat (first|apply kN|apply kD|apply kA)); refine blk_put (cs := #[.int .i64 x1497000_4, .int .i64 x1497001_4, .int .i64 x1497002_4, .int .i64 0, .int .i64 0, .int .i64 0]) ?_ 3 _ rfl; (with_reducible repeat (first|apply kN|apply kD|apply kA)); refine blk_put (cs := #[.int .i64 x1497000_4, .int .i64 x1497001_4, .int .i64 0, .int .i64 0, .int .i64 0, .int .i64 0]) ?_ 2 _ rfl; (with_reducible repeat (first|apply kN|apply kD|apply kA)); refine blk_put (cs := #[.int .i64 x1497000_4, .int .i64 0, .int .i64 0, .int .i64 0, .int .i64 0, .int .i64 0]) ?_ 1 _ rfl; (with_reducible repeat (first|apply kN|apply kD|apply kA)); refine blk_put (cs := #[.int .i64 0, .int .i64 0, .int .i64 0, .int .i64 0, .int .i64 0, .int .i64 0]) ?_ 0 _ rfl; (with_reducible repeat (first|apply kN|apply kD|apply kA)); exact BK1486.out) Try.underlying84 rfl (by kernel_rfl)) rfl ?_
    exact ⟨by first|rfl|(simp [*, errW_none, errW_some] <;> rfl), by repeat (first | (with_reducible first | exact HI0.out | apply sA|apply sN|apply sD|apply s1|apply s2 | refine IsS174.far ?_ NB0_1486.out _ | refine IsS174.far ?_ NB0_1496.out _) | exact HI0.out), by repeat (first | (with_reducible first | exact HB.out | apply bA|apply bN|apply b1 | refine below_set ?_ (IsS174.ge HI0.out) | refine below_set ?_ (Aside0.out (by assumption))) | exact HB.out), by repeat (first | (with_reducible first | exact HK.out | apply eS|apply eN|apply eD|apply eA | refine keep_far ?_ GW1486.out _ | refine keep_far ?_ GW1496.out _) | exact HK.out)⟩
   ·rw [if_neg c33] at H
    have c33b0 : (t1516 == 0) = false := beq_eq_false_iff_ne.mpr c33
    have c33b1 : (t1516 != 0) = true := bne_iff_ne.mpr c33
    replace H := Option.bind_eq_some_iff.mp H
    obtain ⟨⟨t1519, t1520, t1521, t1522⟩, A400, H⟩ := H
    try dsimp only at H
    have A40 := aM A400
    clear A400
    simp only [Option.some.injEq, Prod.mk.injEq] at H
    obtain ⟨rfl, rfl, rfl, rfl, rfl, rfl, rfl, rfl⟩ := H
    try go_wp2_with (first | ((with_reducible refine gate_callee (f := 123) rfl ?_); refine goesL_ (some 22) rfl rfl Try.func123 (by kernel_rfl) rfl #[.pointer (some ⟨g, 0, none⟩), .int .i64 5] rfl (by first|rfl|(simp only [List.map_toArray, List.map_cons, List.map_nil]; try rfl)) ?_; (with_reducible refine (spec_l01Next.calls g s0_0 x1001_4 x1002_4 5 t1516 t1517 t1518 w0 _ ?side1 ?side2 A32.out).mono ?_); (case side1 => repeat (first | (with_reducible first | exact HI0.out | apply sA|apply sN|apply sD|apply s1|apply s2 | refine IsS174.far ?_ NB0_1486.out _ | refine IsS174.far ?_ NB0_1496.out _) | exact HI0.out)); (case side2 => repeat (first | (with_reducible first | exact HB.out | apply bA|apply bN|apply b1 | refine below_set ?_ (IsS174.ge HI0.out) | refine below_set ?_ (Aside0.out (by assumption))) | exact HB.out)); rintro e w41 ⟨rfl, hi, hb, hk⟩; refine ⟨_, rfl, ?_⟩; have n0_ := aM (KeepBut.blk hk (g' := gb1486) (o := .cells #[.int .i64 0, .int .i64 0, .int .i64 0, .int .i64 0, .int .i64 0, .int .i64 0] 84 (0, 0)) (by (with_reducible repeat (first|apply kN|apply kD|apply kA)); exact BK1486.out) NB1486_0.out (by simp)); have n1_ := aM (KeepBut.blk hk (g' := gb1496) (o := .cells #[.int .i64 x1497000_4, .int .i64 x1497001_4, .int .i64 x1497002_4, .int .i64 x1497003_4] 51 (0, 0)) (by (with_reducible repeat (first|apply kN|apply kD|apply kA)); exact BK1496.out) NB1496_0.out (by simp)); have n2_ := aM (KeepBut.trans (by repeat (first | (with_reducible first | exact HK.out | apply eS|apply eN|apply eD|apply eA | refine keep_far ?_ GW1486.out _ | refine keep_far ?_ GW1496.out _) | exact HK.out)) hk (.inl rfl)); have n3_ := aM (hb); have n4_ := aM (hi); clear BK1486; clear BK1496; clear HK; clear HB; clear HI0; have BK1486 := n0_; have BK1496 := n1_; have HK := n2_; have HB := n3_; have HI0 := n4_; clear n0_ n1_ n2_ n3_ n4_; (try clear hb)))
    have n0_ := aM (blk_drew BK1486.out)
    have n1_ := aM (blk_drew BK1496.out)
    have n2_ := aM (IsS174.drew HI0.out)
    have n3_ := aM (keep_drew HK.out)
    have n4_ := aM (below_drew1 HB.out)
    clear BK1486
    clear BK1496
    clear HI0
    clear HK
    clear HB
    have BK1486 := n0_
    have BK1496 := n1_
    have HI0 := n2_
    have HK := n3_
    have HB := n4_
    clear n0_ n1_ n2_ n3_ n4_
    refine start_ (n := 5) (S := fun w' => w'.cell? ⟨gb1496, 0, none⟩ = some (.int .i64 x1497000_4) ∧ w'.cell? ⟨gb1496, 1, none⟩ = some (.int .i64 x1497001_4) ∧ w'.cell? ⟨gb1496, 2, none⟩ = some (.int .i64 x1497002_4) ∧ w'.cell? ⟨gb1496, 3, none⟩ = some (.int .i64 x1497003_4)) (ds := []) #[false, false, false, false, false] (by kernel_rfl) rfl rfl ⟨(blk_cell BK1496.out 0).trans rfl, (blk_cell BK1496.out 1).trans rfl, (blk_cell BK1496.out 2).trans rfl, (blk_cell BK1496.out 3).trans rfl⟩ (fun hHeld => ?_)
    generalize w41.drew = w42 at BK1486 BK1496 HI0 HK HB hHeld ⊢
    refine pure_ (i := 1) (N := some 27) (v := ?_) (a' := ?_) #[false, true, false, false, false] rfl rfl (by kernel_rfl) (fun _ _ _ h => h) (Or.inl ⟨by rfl, ?_⟩) ?_ ?_
    rotate_left
    ·intro w'
     go_simp
     with_reducible rfl
    rotate_left
    ·simp only [Act.put, List.setIfInBounds_toArray, List.set_cons_zero, List.set_cons_succ, i64_w, i32_w]
     rfl
    refine take_ (i := 0) (N := some 26) (v := ?_) (a' := ?_) #[true, true, false, false, false] rfl rfl (by kernel_rfl) (fun _ _ _ h => h) (Or.inl ⟨by rfl, ?_⟩) hHeld ?_ ?_
    rotate_left
    ·rintro w' ⟨s0, s1, s2, s3⟩
     go_simp
     with_reducible rfl
    rotate_left
    ·simp only [Act.put, List.setIfInBounds_toArray, List.set_cons_zero, List.set_cons_succ, i64_w, i32_w]
     rfl
    refine one_ (i := 2) (N := some 28) #[true, true, true, false, false] rfl rfl (by kernel_rfl) (by decide) (fun K hK => ?_)
    refine goes_ Try.func124 (by kernel_rfl) rfl #[.pointer (some ⟨g, 0, none⟩)] (by rfl) rfl rfl (by first|rfl|(simp only [List.map_toArray, List.map_cons, List.map_nil]; try rfl)) ?_
    with_reducible refine (spec_l01Draw.calls g s0_0 t1517 t1518 t1519 t1520 t1521 t1522 w0 _ ?side1 ?side2 A40.out).mono ?_
    (case side1 => repeat (first | (with_reducible first | exact HI0.out | apply sA|apply sN|apply sD|apply s1|apply s2 | refine IsS174.far ?_ NB0_1486.out _ | refine IsS174.far ?_ NB0_1496.out _) | exact HI0.out))
    (case side2 => repeat (first | (with_reducible first | exact HB.out | apply bA|apply bN|apply b1 | refine below_set ?_ (IsS174.ge HI0.out) | refine below_set ?_ (Aside0.out (by assumption))) | exact HB.out))
    rintro e w43 ⟨rfl, hi, hb, hk⟩
    refine ⟨_, rfl, ?_⟩
    have n0_ := aM (KeepBut.blk hk (g' := gb1486) (o := .cells #[.int .i64 0, .int .i64 0, .int .i64 0, .int .i64 0, .int .i64 0, .int .i64 0] 84 (0, 0)) (by (with_reducible repeat (first|apply kN|apply kD|apply kA)); exact BK1486.out) NB1486_0.out (by simp))
    have n1_ := aM (KeepBut.blk hk (g' := gb1496) (o := .cells #[.int .i64 x1497000_4, .int .i64 x1497001_4, .int .i64 x1497002_4, .int .i64 x1497003_4] 51 (0, 0)) (by (with_reducible repeat (first|apply kN|apply kD|apply kA)); exact BK1496.out) NB1496_0.out (by simp))
    have n2_ := aM (KeepBut.trans (by repeat (first | (with_reducible first | exact HK.out | apply eS|apply eN|apply eD|apply eA | refine keep_far ?_ GW1486.out _ | refine keep_far ?_ GW1496.out _) | exact HK.out)) hk (.inl rfl))
    have n3_ := aM (hb)
    have n4_ := aM (hi)
    clear BK1486
    clear BK1496
    clear HK
    clear HB
    clear HI0
    have BK1486 := n0_
    have BK1496 := n1_
    have HK := n2_
    have HB := n3_
    have HI0 := n4_
    clear n0_ n1_ n2_ n3_ n4_
    (try clear hb)
    (try clear hb2)
    (try clear hk)
    (try clear hi)
    refine hK.out _ _ ⟨(blk_cell BK1496.out 0).trans rfl, (blk_cell BK1496.out 1).trans rfl, (blk_cell BK1496.out 2).trans rfl, (blk_cell BK1496.out 3).trans rfl⟩ (fun hHeld => ?_)
    clear hK K
    refine norm_ (a' := ?_) ?_ ?_
    rotate_left
    ·show Act.put _ (some 28) _ = _
     simp only [Act.put, List.setIfInBounds_toArray, List.set_cons_zero, List.set_cons_succ, i64_w, i32_w]
     rfl
    refine pure_ (i := 3) (N := some 29) (v := ?_) (a' := ?_) #[true, true, true, true, false] rfl rfl (by kernel_rfl) (fun _ _ _ h => h) (Or.inl ⟨by rfl, ?_⟩) ?_ ?_
    rotate_left
    ·intro w'
     go_simp
     with_reducible rfl
    rotate_left
    ·simp only [Act.put, List.setIfInBounds_toArray, List.set_cons_zero, List.set_cons_succ, i64_w, i32_w]
     rfl
    refine one_ (i := 4) (N := none) #[true, true, true, true, true] rfl rfl (by kernel_rfl) (by decide) (fun K hK => ?_)
    have hs44 : w43.cell? ⟨gb1486, 0, none⟩ = some (.int .i64 0) := (blk_cell BK1486.out 0).trans rfl
    have hfs44 := blk_frozen BK1486.out 0
    have hns44_1 := NB1496_1486.out
    have hms44_1 := NB1486_1496.out
    have hs45 : w43.cell? ⟨gb1486, 1, none⟩ = some (.int .i64 0) := (blk_cell BK1486.out 1).trans rfl
    have hfs45 := blk_frozen BK1486.out 1
    have hns45_1 := NB1496_1486.out
    have hms45_1 := NB1486_1496.out
    have hs46 : w43.cell? ⟨gb1486, 2, none⟩ = some (.int .i64 0) := (blk_cell BK1486.out 2).trans rfl
    have hfs46 := blk_frozen BK1486.out 2
    have hns46_1 := NB1496_1486.out
    have hms46_1 := NB1486_1496.out
    have hs47 : w43.cell? ⟨gb1486, 3, none⟩ = some (.int .i64 0) := (blk_cell BK1486.out 3).trans rfl
    have hfs47 := blk_frozen BK1486.out 3
    have hns47_1 := NB1496_1486.out
    have hms47_1 := NB1486_1496.out
    have hs48 : w43.cell? ⟨gb1486, 4, none⟩ = some (.int .i64 0) := (blk_cell BK1486.out 4).trans rfl
    have hfs48 := blk_frozen BK1486.out 4
    have hns48_1 := NB1496_1486.out
    have hms48_1 := NB1486_1496.out
    have hs49 : w43.cell? ⟨gb1486, 5, none⟩ = some (.int .i64 0) := (blk_cell BK1486.out 5).trans rfl
    have hfs49 := blk_frozen BK1486.out 5
    have hns49_1 := NB1496_1486.out
    have hms49_1 := NB1486_1496.out
    refine skip_ (w1 := ?_) (by rfl) rfl ?_ ?_
    rotate_left
    ·go_simp
     rfl
    refine hK.out _ _ ⟨((cell_far (p := ⟨gb1486, _, none⟩) NB1496_1486.out _).trans (((cell_far (p := ⟨gb1486, _, none⟩) NB1496_1486.out _).trans (((cell_far (p := ⟨gb1486, _, none⟩) NB1496_1486.out _).trans (((cell_far (p := ⟨gb1486, _, none⟩) NB1496_1486.out _).trans (((cell_far (p := ⟨gb1486, _, none⟩) NB1496_1486.out _).trans (((cell_far (p := ⟨gb1486, _, none⟩) NB1496_1486.out _).trans (hHeld.1)))))))))))), ((cell_far (p := ⟨gb1486, _, none⟩) NB1496_1486.out _).trans (((cell_far (p := ⟨gb1486, _, none⟩) NB1496_1486.out _).trans (((cell_far (p := ⟨gb1486, _, none⟩) NB1496_1486.out _).trans (((cell_far (p := ⟨gb1486, _, none⟩) NB1496_1486.out _).trans (((cell_far (p := ⟨gb1486, _, none⟩) NB1496_1486.out _).trans (((cell_far (p := ⟨gb1486, _, none⟩) NB1496_1486.out _).trans (hHeld.2.1)))))))))))), ((cell_far (p := ⟨gb1486, _, none⟩) NB1496_1486.out _).trans (((cell_far (p := ⟨gb1486, _, none⟩) NB1496_1486.out _).trans (((cell_far (p := ⟨gb1486, _, none⟩) NB1496_1486.out _).trans (((cell_far (p := ⟨gb1486, _, none⟩) NB1496_1486.out _).trans (((cell_far (p := ⟨gb1486, _, none⟩) NB1496_1486.out _).trans (((cell_far (p := ⟨gb1486, _, none⟩) NB1496_1486.out _).trans (hHeld.2.2.1)))))))))))), ((cell_far (p := ⟨gb1486, _, none⟩) NB1496_1486.out _).trans (((cell_far (p := ⟨gb1486, _, none⟩) NB1496_1486.out _).trans (((cell_far (p := ⟨gb1486, _, none⟩) NB1496_1486.out _).trans (((cell_far (p := ⟨gb1486, _, none⟩) NB1496_1486.out _).trans (((cell_far (p := ⟨gb1486, _, none⟩) NB1496_1486.out _).trans (((cell_far (p := ⟨gb1486, _, none⟩) NB1496_1486.out _).trans (hHeld.2.2.2))))))))))))⟩ (fun hHeld => ?_)
    clear hK K
    refine done_ (by kernel_rfl) ?_
    try go_wp2
    refine bodyPost_ret (results_cell_row rfl _ _ gb1486 84 #[.int .i64 x1497000_4, .int .i64 x1497001_4, .int .i64 x1497002_4, .int .i64 x1497003_4, .int .i64 t1519, .int .i64 t1520] (0, 0) _ rfl (by (with_reducible repeat (first|apply kN|apply kD|apply kA)); refine blk_put (cs := #[.int .i64 x1497000_4, .int .i64 x1497001_4, .int .i64 x1497002_4, .int .i64 x1497003_4, .int .i64 t1519, .int .i64 0]) ?_ 5 _ rfl; (with_reducible repeat (first|apply kN|apply kD|apply kA)); refine blk_put (cs := #[.int .i64 x1497000_4, .int .i64 x1497001_4, .int .i64 x1497002_4, .int .i64 x1497003_4, .int .i64 0, .int .i64 0]) ?_ 4 _ rfl; (with_reducible repeat (first|apply kN|apply kD|apply kA)); refine blk_put (cs := #[.int .i64 x1497000_4, .int .i64 x1497001_4, .int .i64 x1497002_4, .int .i64 0, .int .i64 0, .int .i64 0]) ?_ 3 _ rfl; (with_reducible repeat (first|apply kN|apply kD|apply kA)); refine blk_put (cs := #[.int .i64 x1497000_4, .int .i64 x1497001_4, .int .i64 0, .int .i64 0, .int .i64 0, .int .i64 0]) ?_ 2 _ rfl; (with_reducible repeat (first|apply kN|apply kD|apply kA)); refine blk_put (cs := #[.int .i64 x1497000_4, .int .i64 0, .int .i64 0, .int .i64 0, .int .i64 0, .int .i64 0]) ?_ 1 _ rfl; (with_reducible repeat (first|apply kN|apply kD|apply kA)); refine blk_put (cs := #[.int .i64 0, .int .i64 0, .int .i64 0, .int .i64 0, .int .i64 0, .int .i64 0]) ?_ 0 _ rfl; (with_reducible repeat (first|apply kN|apply kD|apply kA)); exact BK1486.out) Try.underlying84 rfl (by kernel_rfl)) rfl ?_
    exact ⟨by first|rfl|(simp [*, errW_none, errW_some] <;> rfl), by repeat (first | (with_reducible first | exact HI0.out | apply sA|apply sN|apply sD|apply s1|apply s2 | refine IsS174.far ?_ NB0_1486.out _ | refine IsS174.far ?_ NB0_1496.out _) | exact HI0.out), by repeat (first | (with_reducible first | exact HB.out | apply bA|apply bN|apply b1 | refine below_set ?_ (IsS174.ge HI0.out) | refine below_set ?_ (Aside0.out (by assumption))) | exact HB.out), by repeat (first | (with_reducible first | exact HK.out | apply eS|apply eN|apply eD|apply eA | refine keep_far ?_ GW1486.out _ | refine keep_far ?_ GW1496.out _) | exact HK.out)⟩

def impl_Mat_isTurn.f (k : Nat) (a0_0 : Int) (a0_1 : Int) (a0_2 : Int) (a0_3 : Int) : Option (Bool) := (impl_Mat_isRotation.f k a0_0 a0_1 a0_2 a0_3).bind fun t1572 => (if t1572 = true then (some true) else ((impl_Mat_isReflection.f k a0_0 a0_1 a0_2 a0_3).bind fun t1573 => (some t1573)))
set_option maxHeartbeats 40000000 in
set_option maxRecDepth 100000 in
theorem impl_Mat_isTurn.calls (k : Nat) (a0_0 : Int) (a0_1 : Int) (a0_2 : Int) (a0_3 : Int) (r : Bool) (w : World) (h : impl_Mat_isTurn.f k a0_0 a0_1 a0_2 a0_3 = some r) :
  Calls Try.prog 185 #[.agg #[.int .i64 a0_0, .int .i64 a0_1, .int .i64 a0_2, .int .i64 a0_3]] w fun e w' => e = .returned (.bool r) ∧ Below w.heap.size w w' := by
 have hu51 := Try.underlying51
 have HB := aM (Below.refl w.heap.size w)
 have H : ((impl_Mat_isRotation.f k a0_0 a0_1 a0_2 a0_3).bind fun t1572 => (if t1572 = true then (some true) else ((impl_Mat_isReflection.f k a0_0 a0_1 a0_2 a0_3).bind fun t1573 => (some t1573)))) = some r := h
 clear h
 replace H := Option.bind_eq_some_iff.mp H
 obtain ⟨t1572, A20, H⟩ := H
 try dsimp only at H
 have A2 := aM A20
 clear A20
 by_cases c3 : t1572 = true
 ·subst c3
  have H1 : (some true) = some r := by rw [if_pos rfl] at H; exact H
  clear H
  have H := H1
  clear H1
  obtain rfl := Option.some.inj H
  go_enter Try.func185, Try.ntmps185
  go_wp2_with (first | ((with_reducible refine gate_dst (N := 1) rfl ?_); refine box_event ?hg (N := 1) ?hd (cs := #[.int .i64 a0_0, .int .i64 a0_1, .int .i64 a0_2, .int .i64 a0_3]) (t := 51) ?hr ?_; (case hd => rfl); (case hg => rfl); (case hr => first | (go_simp; done) | (go_simp; rfl)); intro gb1571 hg w4 hbox hb; have n0_ := aM (below_step (by repeat (first | (with_reducible first | exact HB.out | apply bA|apply bN|apply b1) | exact HB.out)) hb); have n1_ := aM (hbox); have n2_ := aM ((by rw [hg]; exact (below_size (by repeat (first | (with_reducible first | exact HB.out | apply bA|apply bN|apply b1) | exact HB.out))) : w.heap.size ≤ gb1571)); have n3_ := aM ((by rw [hg]; exact (below_size (by repeat (first | (with_reducible first | exact HB.out | apply bA|apply bN|apply b1) | exact HB.out))) : w.heap.size ≤ gb1571)); clear HB; have HB := n0_; have BK1571 := n1_; have GW1571 := n2_; have GE1571 := n3_; clear n0_ n1_ n2_ n3_; clear hb hbox hg; have hcz5_0 : w4.cell? ⟨gb1571, 0, none⟩ = some (.int .i64 a0_0) := (blk_cell BK1571.out 0).trans rfl; have hcz5_1 : w4.cell? ⟨gb1571, 1, none⟩ = some (.int .i64 a0_1) := (blk_cell BK1571.out 1).trans rfl; have hcz5_2 : w4.cell? ⟨gb1571, 2, none⟩ = some (.int .i64 a0_2) := (blk_cell BK1571.out 2).trans rfl; have hcz5_3 : w4.cell? ⟨gb1571, 3, none⟩ = some (.int .i64 a0_3) := (blk_cell BK1571.out 3).trans rfl; have hfz5_0 := blk_frozen BK1571.out 0; have hfz5_1 := blk_frozen BK1571.out 1; have hfz5_2 := blk_frozen BK1571.out 2; have hfz5_3 := blk_frozen BK1571.out 3) | ((with_reducible refine gate_callee (f := 164) rfl ?_); refine goesL_ (some 4) rfl rfl Try.func164 (by kernel_rfl) rfl #[.agg #[.int .i64 a0_0, .int .i64 a0_1, .int .i64 a0_2, .int .i64 a0_3]] rfl (by first|rfl|(simp only [List.map_toArray, List.map_cons, List.map_nil]; try rfl)) ?_; (with_reducible refine (impl_Mat_isRotation.calls k a0_0 a0_1 a0_2 a0_3 true _ A2.out).mono ?_); rintro e w6 ⟨rfl, hb⟩; refine ⟨_, rfl, ?_⟩; have n0_ := aM (blk_below (g := gb1571) (o := .cells #[.int .i64 a0_0, .int .i64 a0_1, .int .i64 a0_2, .int .i64 a0_3] 51 (0, 0)) (by (with_reducible repeat (first|apply kN|apply kD|apply kA)); exact BK1571.out) hb); have n1_ := aM (below_step (by repeat (first | (with_reducible first | exact HB.out | apply bA|apply bN|apply b1 | refine below_set ?_ GE1571.out) | exact HB.out)) hb); clear BK1571; clear HB; have BK1571 := n0_; have HB := n1_; clear n0_ n1_; (try clear hb)))
  go_ret
  exact ⟨by first|rfl|(simp [*, errW_none, errW_some] <;> rfl), by repeat (first | (with_reducible first | exact HB.out | apply bA|apply bN|apply b1 | refine below_set ?_ GE1571.out) | exact HB.out)⟩
 ·replace c3 := Bool.eq_false_iff.mpr c3
  subst c3
  have H1 : ((impl_Mat_isReflection.f k a0_0 a0_1 a0_2 a0_3).bind fun t1573 => (some t1573)) = some r := by rw [if_neg (show ¬ (false = true) by decide)] at H; exact H
  clear H
  have H := H1
  clear H1
  replace H := Option.bind_eq_some_iff.mp H
  obtain ⟨t1573, A70, H⟩ := H
  try dsimp only at H
  have A7 := aM A70
  clear A70
  obtain rfl := Option.some.inj H
  go_enter Try.func185, Try.ntmps185
  go_wp2_with (first | ((with_reducible refine gate_dst (N := 1) rfl ?_); refine box_event ?hg (N := 1) ?hd (cs := #[.int .i64 a0_0, .int .i64 a0_1, .int .i64 a0_2, .int .i64 a0_3]) (t := 51) ?hr ?_; (case hd => rfl); (case hg => rfl); (case hr => first | (go_simp; done) | (go_simp; rfl)); intro gb1571 hg w8 hbox hb; have n0_ := aM (below_step (by repeat (first | (with_reducible first | exact HB.out | apply bA|apply bN|apply b1) | exact HB.out)) hb); have n1_ := aM (hbox); have n2_ := aM ((by rw [hg]; exact (below_size (by repeat (first | (with_reducible first | exact HB.out | apply bA|apply bN|apply b1) | exact HB.out))) : w.heap.size ≤ gb1571)); have n3_ := aM ((by rw [hg]; exact (below_size (by repeat (first | (with_reducible first | exact HB.out | apply bA|apply bN|apply b1) | exact HB.out))) : w.heap.size ≤ gb1571)); clear HB; have HB := n0_; have BK1571 := n1_; have GW1571 := n2_; have GE1571 := n3_; clear n0_ n1_ n2_ n3_; clear hb hbox hg; have hcz9_0 : w8.cell? ⟨gb1571, 0, none⟩ = some (.int .i64 a0_0) := (blk_cell BK1571.out 0).trans rfl; have hcz9_1 : w8.cell? ⟨gb1571, 1, none⟩ = some (.int .i64 a0_1) := (blk_cell BK1571.out 1).trans rfl; have hcz9_2 : w8.cell? ⟨gb1571, 2, none⟩ = some (.int .i64 a0_2) := (blk_cell BK1571.out 2).trans rfl; have hcz9_3 : w8.cell? ⟨gb1571, 3, none⟩ = some (.int .i64 a0_3) := (blk_cell BK1571.out 3).trans rfl; have hfz9_0 := blk_frozen BK1571.out 0; have hfz9_1 := blk_frozen BK1571.out 1; have hfz9_2 := blk_frozen BK1571.out 2; have hfz9_3 := blk_frozen BK1571.out 3) | ((with_reducible refine gate_callee (f := 164) rfl ?_); refine goesL_ (some 4) rfl rfl Try.func164 (by kernel_rfl) rfl #[.agg #[.int .i64 a0_0, .int .i64 a0_1, .int .i64 a0_2, .int .i64 a0_3]] rfl (by first|rfl|(simp only [List.map_toArray, List.map_cons, List.map_nil]; try rfl)) ?_; (with_reducible refine (impl_Mat_isRotation.calls k a0_0 a0_1 a0_2 a0_3 false _ A2.out).mono ?_); rintro e w10 ⟨rfl, hb⟩; refine ⟨_, rfl, ?_⟩; have n0_ := aM (blk_below (g := gb1571) (o := .cells #[.int .i64 a0_0, .int .i64 a0_1, .int .i64 a0_2, .int .i64 a0_3] 51 (0, 0)) (by (with_reducible repeat (first|apply kN|apply kD|apply kA)); exact BK1571.out) hb); have n1_ := aM (below_step (by repeat (first | (with_reducible first | exact HB.out | apply bA|apply bN|apply b1 | refine below_set ?_ GE1571.out) | exact HB.out)) hb); clear BK1571; clear HB; have BK1571 := n0_; have HB := n1_; clear n0_ n1_; (try clear hb); have hcz11_0 : w10.cell? ⟨gb1571, 0, none⟩ = some (.int .i64 a0_0) := (blk_cell BK1571.out 0).trans rfl; have hcz11_1 : w10.cell? ⟨gb1571, 1, none⟩ = some (.int .i64 a0_1) := (blk_cell BK1571.out 1).trans rfl; have hcz11_2 : w10.cell? ⟨gb1571, 2, none⟩ = some (.int .i64 a0_2) := (blk_cell BK1571.out 2).trans rfl; have hcz11_3 : w10.cell? ⟨gb1571, 3, none⟩ = some (.int .i64 a0_3) := (blk_cell BK1571.out 3).trans rfl; have hfz11_0 := blk_frozen BK1571.out 0; have hfz11_1 := blk_frozen BK1571.out 1; have hfz11_2 := blk_frozen BK1571.out 2; have hfz11_3 := blk_frozen BK1571.out 3) | (go_at_call 163; (with_reducible refine (impl_Mat_isReflection.calls k a0_0 a0_1 a0_2 a0_3 t1573 _ A7.out).mono ?_); rintro e w12 ⟨rfl, hb⟩; have n0_ := aM (blk_below (g := gb1571) (o := .cells #[.int .i64 a0_0, .int .i64 a0_1, .int .i64 a0_2, .int .i64 a0_3] 51 (0, 0)) (by (with_reducible repeat (first|apply kN|apply kD|apply kA)); exact BK1571.out) hb); have n1_ := aM (below_step (by repeat (first | (with_reducible first | exact HB.out | apply bA|apply bN|apply b1 | refine below_set ?_ GE1571.out) | exact HB.out)) hb); clear BK1571; clear HB; have BK1571 := n0_; have HB := n1_; clear n0_ n1_; (try clear hb)))
  go_ret
  exact ⟨by first|rfl|(simp [*, errW_none, errW_some] <;> rfl), by repeat (first | (with_reducible first | exact HB.out | apply bA|apply bN|apply b1 | refine below_set ?_ GE1571.out) | exact HB.out)⟩

def impl_IsMotion.f (k : Nat) (a0_0 : Int) (a0_1 : Int) (a0_2 : Int) (a0_3 : Int) (a0_4 : Int) (a0_5 : Int) : Option (Bool) := (impl_IsMat.f a0_0 a0_1 a0_2 a0_3).bind fun t1575 => (if t1575 = true then ((impl_Mat_isTurn.f k a0_0 a0_1 a0_2 a0_3).bind fun t1576 => (if t1576 = true then ((impl_IsVec.f a0_4 a0_5).bind fun t1577 => (some t1577)) else (some false))) else (some false))
set_option maxHeartbeats 40000000 in
set_option maxRecDepth 100000 in
theorem impl_IsMotion.calls (k : Nat) (a0_0 : Int) (a0_1 : Int) (a0_2 : Int) (a0_3 : Int) (a0_4 : Int) (a0_5 : Int) (r : Bool) (w : World) (h : impl_IsMotion.f k a0_0 a0_1 a0_2 a0_3 a0_4 a0_5 = some r) :
  Calls Try.prog 91 #[.agg #[.int .i64 a0_0, .int .i64 a0_1, .int .i64 a0_2, .int .i64 a0_3, .int .i64 a0_4, .int .i64 a0_5]] w fun e w' => e = .returned (.bool r) ∧ Below w.heap.size w w' := by
 have hu84 := Try.underlying84
 have hu51 := Try.underlying51
 have hu25 := Try.underlying25
 have HB := aM (Below.refl w.heap.size w)
 have H : ((impl_IsMat.f a0_0 a0_1 a0_2 a0_3).bind fun t1575 => (if t1575 = true then ((impl_Mat_isTurn.f k a0_0 a0_1 a0_2 a0_3).bind fun t1576 => (if t1576 = true then ((impl_IsVec.f a0_4 a0_5).bind fun t1577 => (some t1577)) else (some false))) else (some false))) = some r := h
 clear h
 replace H := Option.bind_eq_some_iff.mp H
 obtain ⟨t1575, A20, H⟩ := H
 try dsimp only at H
 have A2 := aM A20
 clear A20
 by_cases c3 : t1575 = true
 ·subst c3
  have H1 : ((impl_Mat_isTurn.f k a0_0 a0_1 a0_2 a0_3).bind fun t1576 => (if t1576 = true then ((impl_IsVec.f a0_4 a0_5).bind fun t1577 => (some t1577)) else (some false))) = some r := by rw [if_pos rfl] at H; exact H
  clear H
  have H := H1
  clear H1
  replace H := Option.bind_eq_some_iff.mp H
  obtain ⟨t1576, A40, H⟩ := H
  try dsimp only at H
  have A4 := aM A40
  clear A40
  by_cases c5 : t1576 = true
  ·subst c5
   have H1 : ((impl_IsVec.f a0_4 a0_5).bind fun t1577 => (some t1577)) = some r := by rw [if_pos rfl] at H; exact H
   clear H
   have H := H1
   clear H1
   replace H := Option.bind_eq_some_iff.mp H
   obtain ⟨t1577, A60, H⟩ := H
   try dsimp only at H
   have A6 := aM A60
   clear A60
   obtain rfl := Option.some.inj H
   go_enter Try.func91, Try.ntmps91
   go_wp2_with (first | ((with_reducible refine gate_dst (N := 1) rfl ?_); refine box_event ?hg (N := 1) ?hd (cs := #[.int .i64 a0_0, .int .i64 a0_1, .int .i64 a0_2, .int .i64 a0_3, .int .i64 a0_4, .int .i64 a0_5]) (t := 84) ?hr ?_; (case hd => rfl); (case hg => rfl); (case hr => first | (go_simp; done) | (go_simp; rfl)); intro gb1574 hg w7 hbox hb; have n0_ := aM (below_step (by repeat (first | (with_reducible first | exact HB.out | apply bA|apply bN|apply b1) | exact HB.out)) hb); have n1_ := aM (hbox); have n2_ := aM ((by rw [hg]; exact (below_size (by repeat (first | (with_reducible first | exact HB.out | apply bA|apply bN|apply b1) | exact HB.out))) : w.heap.size ≤ gb1574)); have n3_ := aM ((by rw [hg]; exact (below_size (by repeat (first | (with_reducible first | exact HB.out | apply bA|apply bN|apply b1) | exact HB.out))) : w.heap.size ≤ gb1574)); clear HB; have HB := n0_; have BK1574 := n1_; have GW1574 := n2_; have GE1574 := n3_; clear n0_ n1_ n2_ n3_; clear hb hbox hg; have hcz8_0 : w7.cell? ⟨gb1574, 0, none⟩ = some (.int .i64 a0_0) := (blk_cell BK1574.out 0).trans rfl; have hcz8_1 : w7.cell? ⟨gb1574, 1, none⟩ = some (.int .i64 a0_1) := (blk_cell BK1574.out 1).trans rfl; have hcz8_2 : w7.cell? ⟨gb1574, 2, none⟩ = some (.int .i64 a0_2) := (blk_cell BK1574.out 2).trans rfl; have hcz8_3 : w7.cell? ⟨gb1574, 3, none⟩ = some (.int .i64 a0_3) := (blk_cell BK1574.out 3).trans rfl; have hcz8_4 : w7.cell? ⟨gb1574, 4, none⟩ = some (.int .i64 a0_4) := (blk_cell BK1574.out 4).trans rfl; have hcz8_5 : w7.cell? ⟨gb1574, 5, none⟩ = some (.int .i64 a0_5) := (blk_cell BK1574.out 5).trans rfl; have hfz8_0 := blk_frozen BK1574.out 0; have hfz8_1 := blk_frozen BK1574.out 1; have hfz8_2 := blk_frozen BK1574.out 2; have hfz8_3 := blk_frozen BK1574.out 3; have hfz8_4 := blk_frozen BK1574.out 4; have hfz8_5 := blk_frozen BK1574.out 5) | ((with_reducible refine gate_callee (f := 51) rfl ?_); refine goesL_ (some 5) rfl rfl Try.func51 (by kernel_rfl) rfl #[.agg #[.int .i64 a0_0, .int .i64 a0_1, .int .i64 a0_2, .int .i64 a0_3]] rfl (by first|rfl|(simp only [List.map_toArray, List.map_cons, List.map_nil]; try rfl)) ?_; (with_reducible refine (impl_IsMat.calls a0_0 a0_1 a0_2 a0_3 true _ A2.out).mono ?_); rintro e w9 ⟨rfl, hb⟩; refine ⟨_, rfl, ?_⟩; have n0_ := aM (blk_below (g := gb1574) (o := .cells #[.int .i64 a0_0, .int .i64 a0_1, .int .i64 a0_2, .int .i64 a0_3, .int .i64 a0_4, .int .i64 a0_5] 84 (0, 0)) (by (with_reducible repeat (first|apply kN|apply kD|apply kA)); exact BK1574.out) hb); have n1_ := aM (below_step (by repeat (first | (with_reducible first | exact HB.out | apply bA|apply bN|apply b1 | refine below_set ?_ GE1574.out) | exact HB.out)) hb); clear BK1574; clear HB; have BK1574 := n0_; have HB := n1_; clear n0_ n1_; (try clear hb); have hcz10_0 : w9.cell? ⟨gb1574, 0, none⟩ = some (.int .i64 a0_0) := (blk_cell BK1574.out 0).trans rfl; have hcz10_1 : w9.cell? ⟨gb1574, 1, none⟩ = some (.int .i64 a0_1) := (blk_cell BK1574.out 1).trans rfl; have hcz10_2 : w9.cell? ⟨gb1574, 2, none⟩ = some (.int .i64 a0_2) := (blk_cell BK1574.out 2).trans rfl; have hcz10_3 : w9.cell? ⟨gb1574, 3, none⟩ = some (.int .i64 a0_3) := (blk_cell BK1574.out 3).trans rfl; have hcz10_4 : w9.cell? ⟨gb1574, 4, none⟩ = some (.int .i64 a0_4) := (blk_cell BK1574.out 4).trans rfl; have hcz10_5 : w9.cell? ⟨gb1574, 5, none⟩ = some (.int .i64 a0_5) := (blk_cell BK1574.out 5).trans rfl; have hfz10_0 := blk_frozen BK1574.out 0; have hfz10_1 := blk_frozen BK1574.out 1; have hfz10_2 := blk_frozen BK1574.out 2; have hfz10_3 := blk_frozen BK1574.out 3; have hfz10_4 := blk_frozen BK1574.out 4; have hfz10_5 := blk_frozen BK1574.out 5) | (go_at_call 185; (with_reducible refine (impl_Mat_isTurn.calls k a0_0 a0_1 a0_2 a0_3 true _ A4.out).mono ?_); rintro e w11 ⟨rfl, hb⟩; have n0_ := aM (blk_below (g := gb1574) (o := .cells #[.int .i64 a0_0, .int .i64 a0_1, .int .i64 a0_2, .int .i64 a0_3, .int .i64 a0_4, .int .i64 a0_5] 84 (0, 0)) (by (with_reducible repeat (first|apply kN|apply kD|apply kA)); exact BK1574.out) hb); have n1_ := aM (below_step (by repeat (first | (with_reducible first | exact HB.out | apply bA|apply bN|apply b1 | refine below_set ?_ GE1574.out) | exact HB.out)) hb); clear BK1574; clear HB; have BK1574 := n0_; have HB := n1_; clear n0_ n1_; (try clear hb); have hcz12_0 : w11.cell? ⟨gb1574, 0, none⟩ = some (.int .i64 a0_0) := (blk_cell BK1574.out 0).trans rfl; have hcz12_1 : w11.cell? ⟨gb1574, 1, none⟩ = some (.int .i64 a0_1) := (blk_cell BK1574.out 1).trans rfl; have hcz12_2 : w11.cell? ⟨gb1574, 2, none⟩ = some (.int .i64 a0_2) := (blk_cell BK1574.out 2).trans rfl; have hcz12_3 : w11.cell? ⟨gb1574, 3, none⟩ = some (.int .i64 a0_3) := (blk_cell BK1574.out 3).trans rfl; have hcz12_4 : w11.cell? ⟨gb1574, 4, none⟩ = some (.int .i64 a0_4) := (blk_cell BK1574.out 4).trans rfl; have hcz12_5 : w11.cell? ⟨gb1574, 5, none⟩ = some (.int .i64 a0_5) := (blk_cell BK1574.out 5).trans rfl; have hfz12_0 := blk_frozen BK1574.out 0; have hfz12_1 := blk_frozen BK1574.out 1; have hfz12_2 := blk_frozen BK1574.out 2; have hfz12_3 := blk_frozen BK1574.out 3; have hfz12_4 := blk_frozen BK1574.out 4; have hfz12_5 := blk_frozen BK1574.out 5) | (go_at_call 32; (with_reducible refine (impl_IsVec.calls a0_4 a0_5 t1577 _ A6.out).mono ?_); rintro e w13 ⟨rfl, hb⟩; have n0_ := aM (blk_below (g := gb1574) (o := .cells #[.int .i64 a0_0, .int .i64 a0_1, .int .i64 a0_2, .int .i64 a0_3, .int .i64 a0_4, .int .i64 a0_5] 84 (0, 0)) (by (with_reducible repeat (first|apply kN|apply kD|apply kA)); exact BK1574.out) hb); have n1_ := aM (below_step (by repeat (first | (with_reducible first | exact HB.out | apply bA|apply bN|apply b1 | refine below_set ?_ GE1574.out) | exact HB.out)) hb); clear BK1574; clear HB; have BK1574 := n0_; have HB := n1_; clear n0_ n1_; (try clear hb)))
   go_ret
   exact ⟨by first|rfl|(simp [*, errW_none, errW_some] <;> rfl), by repeat (first | (with_reducible first | exact HB.out | apply bA|apply bN|apply b1 | refine below_set ?_ GE1574.out) | exact HB.out)⟩
  ·replace c5 := Bool.eq_false_iff.mpr c5
   subst c5
   have H1 : (some false) = some r := by rw [if_neg (show ¬ (false = true) by decide)] at H; exact H
   clear H
   have H := H1
   clear H1
   obtain rfl := Option.some.inj H
   go_enter Try.func91, Try.ntmps91
   go_wp2_with (first | ((with_reducible refine gate_dst (N := 1) rfl ?_); refine box_event ?hg (N := 1) ?hd (cs := #[.int .i64 a0_0, .int .i64 a0_1, .int .i64 a0_2, .int .i64 a0_3, .int .i64 a0_4, .int .i64 a0_5]) (t := 84) ?hr ?_; (case hd => rfl); (case hg => rfl); (case hr => first | (go_simp; done) | (go_simp; rfl)); intro gb1574 hg w14 hbox hb; have n0_ := aM (below_step (by repeat (first | (with_reducible first | exact HB.out | apply bA|apply bN|apply b1) | exact HB.out)) hb); have n1_ := aM (hbox); have n2_ := aM ((by rw [hg]; exact (below_size (by repeat (first | (with_reducible first | exact HB.out | apply bA|apply bN|apply b1) | exact HB.out))) : w.heap.size ≤ gb1574)); have n3_ := aM ((by rw [hg]; exact (below_size (by repeat (first | (with_reducible first | exact HB.out | apply bA|apply bN|apply b1) | exact HB.out))) : w.heap.size ≤ gb1574)); clear HB; have HB := n0_; have BK1574 := n1_; have GW1574 := n2_; have GE1574 := n3_; clear n0_ n1_ n2_ n3_; clear hb hbox hg; have hcz15_0 : w14.cell? ⟨gb1574, 0, none⟩ = some (.int .i64 a0_0) := (blk_cell BK1574.out 0).trans rfl; have hcz15_1 : w14.cell? ⟨gb1574, 1, none⟩ = some (.int .i64 a0_1) := (blk_cell BK1574.out 1).trans rfl; have hcz15_2 : w14.cell? ⟨gb1574, 2, none⟩ = some (.int .i64 a0_2) := (blk_cell BK1574.out 2).trans rfl; have hcz15_3 : w14.cell? ⟨gb1574, 3, none⟩ = some (.int .i64 a0_3) := (blk_cell BK1574.out 3).trans rfl; have hcz15_4 : w14.cell? ⟨gb1574, 4, none⟩ = some (.int .i64 a0_4) := (blk_cell BK1574.out 4).trans rfl; have hcz15_5 : w14.cell? ⟨gb1574, 5, none⟩ = some (.int .i64 a0_5) := (blk_cell BK1574.out 5).trans rfl; have hfz15_0 := blk_frozen BK1574.out 0; have hfz15_1 := blk_frozen BK1574.out 1; have hfz15_2 := blk_frozen BK1574.out 2; have hfz15_3 := blk_frozen BK1574.out 3; have hfz15_4 := blk_frozen BK1574.out 4; have hfz15_5 := blk_frozen BK1574.out 5) | ((with_reducible refine gate_callee (f := 51) rfl ?_); refine goesL_ (some 5) rfl rfl Try.func51 (by kernel_rfl) rfl #[.agg #[.int .i64 a0_0, .int .i64 a0_1, .int .i64 a0_2, .int .i64 a0_3]] rfl (by first|rfl|(simp only [List.map_toArray, List.map_cons, List.map_nil]; try rfl)) ?_; (with_reducible refine (impl_IsMat.calls a0_0 a0_1 a0_2 a0_3 true _ A2.out).mono ?_); rintro e w16 ⟨rfl, hb⟩; refine ⟨_, rfl, ?_⟩; have n0_ := aM (blk_below (g := gb1574) (o := .cells #[.int .i64 a0_0, .int .i64 a0_1, .int .i64 a0_2, .int .i64 a0_3, .int .i64 a0_4, .int .i64 a0_5] 84 (0, 0)) (by (with_reducible repeat (first|apply kN|apply kD|apply kA)); exact BK1574.out) hb); have n1_ := aM (below_step (by repeat (first | (with_reducible first | exact HB.out | apply bA|apply bN|apply b1 | refine below_set ?_ GE1574.out) | exact HB.out)) hb); clear BK1574; clear HB; have BK1574 := n0_; have HB := n1_; clear n0_ n1_; (try clear hb); have hcz17_0 : w16.cell? ⟨gb1574, 0, none⟩ = some (.int .i64 a0_0) := (blk_cell BK1574.out 0).trans rfl; have hcz17_1 : w16.cell? ⟨gb1574, 1, none⟩ = some (.int .i64 a0_1) := (blk_cell BK1574.out 1).trans rfl; have hcz17_2 : w16.cell? ⟨gb1574, 2, none⟩ = some (.int .i64 a0_2) := (blk_cell BK1574.out 2).trans rfl; have hcz17_3 : w16.cell? ⟨gb1574, 3, none⟩ = some (.int .i64 a0_3) := (blk_cell BK1574.out 3).trans rfl; have hcz17_4 : w16.cell? ⟨gb1574, 4, none⟩ = some (.int .i64 a0_4) := (blk_cell BK1574.out 4).trans rfl; have hcz17_5 : w16.cell? ⟨gb1574, 5, none⟩ = some (.int .i64 a0_5) := (blk_cell BK1574.out 5).trans rfl; have hfz17_0 := blk_frozen BK1574.out 0; have hfz17_1 := blk_frozen BK1574.out 1; have hfz17_2 := blk_frozen BK1574.out 2; have hfz17_3 := blk_frozen BK1574.out 3; have hfz17_4 := blk_frozen BK1574.out 4; have hfz17_5 := blk_frozen BK1574.out 5) | (go_at_call 185; (with_reducible refine (impl_Mat_isTurn.calls k a0_0 a0_1 a0_2 a0_3 false _ A4.out).mono ?_); rintro e w18 ⟨rfl, hb⟩; have n0_ := aM (blk_below (g := gb1574) (o := .cells #[.int .i64 a0_0, .int .i64 a0_1, .int .i64 a0_2, .int .i64 a0_3, .int .i64 a0_4, .int .i64 a0_5] 84 (0, 0)) (by (with_reducible repeat (first|apply kN|apply kD|apply kA)); exact BK1574.out) hb); have n1_ := aM (below_step (by repeat (first | (with_reducible first | exact HB.out | apply bA|apply bN|apply b1 | refine below_set ?_ GE1574.out) | exact HB.out)) hb); clear BK1574; clear HB; have BK1574 := n0_; have HB := n1_; clear n0_ n1_; (try clear hb)))
   go_ret
   exact ⟨by first|rfl|(simp [*, errW_none, errW_some] <;> rfl), by repeat (first | (with_reducible first | exact HB.out | apply bA|apply bN|apply b1 | refine below_set ?_ GE1574.out) | exact HB.out)⟩
 ·replace c3 := Bool.eq_false_iff.mpr c3
  subst c3
  have H1 : (some false) = some r := by rw [if_neg (show ¬ (false = true) by decide)] at H; exact H
  clear H
  have H := H1
  clear H1
  obtain rfl := Option.some.inj H
  go_enter Try.func91, Try.ntmps91
  go_wp2_with (first | ((with_reducible refine gate_dst (N := 1) rfl ?_); refine box_event ?hg (N := 1) ?hd (cs := #[.int .i64 a0_0, .int .i64 a0_1, .int .i64 a0_2, .int .i64 a0_3, .int .i64 a0_4, .int .i64 a0_5]) (t := 84) ?hr ?_; (case hd => rfl); (case hg => rfl); (case hr => first | (go_simp; done) | (go_simp; rfl)); intro gb1574 hg w19 hbox hb; have n0_ := aM (below_step (by repeat (first | (with_reducible first | exact HB.out | apply bA|apply bN|apply b1) | exact HB.out)) hb); have n1_ := aM (hbox); have n2_ := aM ((by rw [hg]; exact (below_size (by repeat (first | (with_reducible first | exact HB.out | apply bA|apply bN|apply b1) | exact HB.out))) : w.heap.size ≤ gb1574)); have n3_ := aM ((by rw [hg]; exact (below_size (by repeat (first | (with_reducible first | exact HB.out | apply bA|apply bN|apply b1) | exact HB.out))) : w.heap.size ≤ gb1574)); clear HB; have HB := n0_; have BK1574 := n1_; have GW1574 := n2_; have GE1574 := n3_; clear n0_ n1_ n2_ n3_; clear hb hbox hg; have hcz20_0 : w19.cell? ⟨gb1574, 0, none⟩ = some (.int .i64 a0_0) := (blk_cell BK1574.out 0).trans rfl; have hcz20_1 : w19.cell? ⟨gb1574, 1, none⟩ = some (.int .i64 a0_1) := (blk_cell BK1574.out 1).trans rfl; have hcz20_2 : w19.cell? ⟨gb1574, 2, none⟩ = some (.int .i64 a0_2) := (blk_cell BK1574.out 2).trans rfl; have hcz20_3 : w19.cell? ⟨gb1574, 3, none⟩ = some (.int .i64 a0_3) := (blk_cell BK1574.out 3).trans rfl; have hcz20_4 : w19.cell? ⟨gb1574, 4, none⟩ = some (.int .i64 a0_4) := (blk_cell BK1574.out 4).trans rfl; have hcz20_5 : w19.cell? ⟨gb1574, 5, none⟩ = some (.int .i64 a0_5) := (blk_cell BK1574.out 5).trans rfl; have hfz20_0 := blk_frozen BK1574.out 0; have hfz20_1 := blk_frozen BK1574.out 1; have hfz20_2 := blk_frozen BK1574.out 2; have hfz20_3 := blk_frozen BK1574.out 3; have hfz20_4 := blk_frozen BK1574.out 4; have hfz20_5 := blk_frozen BK1574.out 5) | ((with_reducible refine gate_callee (f := 51) rfl ?_); refine goesL_ (some 5) rfl rfl Try.func51 (by kernel_rfl) rfl #[.agg #[.int .i64 a0_0, .int .i64 a0_1, .int .i64 a0_2, .int .i64 a0_3]] rfl (by first|rfl|(simp only [List.map_toArray, List.map_cons, List.map_nil]; try rfl)) ?_; (with_reducible refine (impl_IsMat.calls a0_0 a0_1 a0_2 a0_3 false _ A2.out).mono ?_); rintro e w21 ⟨rfl, hb⟩; refine ⟨_, rfl, ?_⟩; have n0_ := aM (blk_below (g := gb1574) (o := .cells #[.int .i64 a0_0, .int .i64 a0_1, .int .i64 a0_2, .int .i64 a0_3, .int .i64 a0_4, .int .i64 a0_5] 84 (0, 0)) (by (with_reducible repeat (first|apply kN|apply kD|apply kA)); exact BK1574.out) hb); have n1_ := aM (below_step (by repeat (first | (with_reducible first | exact HB.out | apply bA|apply bN|apply b1 | refine below_set ?_ GE1574.out) | exact HB.out)) hb); clear BK1574; clear HB; have BK1574 := n0_; have HB := n1_; clear n0_ n1_; (try clear hb)))
  go_ret
  exact ⟨by first|rfl|(simp [*, errW_none, errW_some] <;> rfl), by repeat (first | (with_reducible first | exact HB.out | apply bA|apply bN|apply b1 | refine below_set ?_ GE1574.out) | exact HB.out)⟩

end Go.Proofs.Ytjjbjaagfjljnaa.F

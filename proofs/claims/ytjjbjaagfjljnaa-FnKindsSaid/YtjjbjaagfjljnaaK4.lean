import Derived.Test.YtjjbjaagfjljnaaK0
import Derived.Test.YtjjbjaagfjljnaaK1
import Derived.Test.YtjjbjaagfjljnaaK2
import Derived.Test.YtjjbjaagfjljnaaK3
namespace Go.Proofs.Ytjjbjaagfjljnaa.F
open Go.RowKit Go.Proofs.YtjjbjaagfjljnaaW.PrintWords Go.Proofs.YtjjbjaagfjljnaaW.PrintLast Go.Proofs.YtjjbjaagfjljnaaW.PrintMore
attribute [local go_sem] max2_int min2_int max_two min_two max_three min_three max_four min_four   -- for this text's walks alone
set_option linter.unusedVariables false
set_option linter.unusedSimpArgs false

def spec_l02Draw.l0 : Nat → Int → List Int → Int → Int → Int → Int → Int → Int → Option (Int × Int × Int × Int × Int × Int)
 | 0, _, _, _, _, _, _, _, _ => none
 | k + 1, x4, x1000, x1001, x1002, x573000, x573001, x573002, x573003 => if x4 > 0 then ((some (([(⟨1, 1, 0, 1⟩ : S51), (⟨1, 0, 1, 1⟩ : S51), (⟨1, (-2), 0, 1⟩ : S51), (⟨0, 1, 1, 0⟩ : S51), (⟨(-1), 0, 0, 1⟩ : S51)] : List (S51)) : List (S51))).bind fun y576 => ((spec_l01Next.f x1000 x1001 x1002 5).bind fun bt579 => (if 0 ≤ bt579.1 then (if bt579.1 < (y576.length : Int) then ((spec_l02Multiply.f x573000 x573001 x573002 x573003 ((rd_T51 y576 bt579.1).f0) ((rd_T51 y576 bt579.1).f1) ((rd_T51 y576 bt579.1).f2) ((rd_T51 y576 bt579.1).f3)).bind fun bt583 => (spec_l02Draw.l0 k (wrap64 (x4 - 1)) x1000 bt579.2.1 bt579.2.2 bt583.1 bt583.2.1 bt583.2.2.1 bt583.2.2.2)) else (none)) else (none)))) else ((spec_l01Next.f x1000 x1001 x1002 20).bind fun bt587 => (if bt587.1 = 0 then (some (wrap64 (x573000 + 1), x573001, x573002, x573003, bt587.2.1, bt587.2.2)) else (if bt587.1 = 1 then ((spec_l01Pick.f x1000 bt587.2.1 bt587.2.2 (([999, 1000, 1001] : List Int))).bind fun bt593 => (some (1, bt593.1, 0, 1, bt593.2.1, bt593.2.2))) else (some (x573000, x573001, x573002, x573003, bt587.2.1, bt587.2.2)))))
def spec_l02Draw.f (k : Nat) (s0_0 : List Int) (s0_1 : Int) (s0_2 : Int) : Option (Int × Int × Int × Int × Int × Int) := (spec_l01Next.f s0_0 s0_1 s0_2 3).bind fun bt559 => (if bt559.1 > 0 then ((spec_l02DrawFinite.f k s0_0 bt559.2.1 bt559.2.2).bind fun bt562 => (some (bt562.1, bt562.2.1, bt562.2.2.1, bt562.2.2.2.1, bt562.2.2.2.2.1, bt562.2.2.2.2.2))) else ((spec_l02Unit.f).bind fun bt568 => ((spec_l01Next.f s0_0 bt559.2.1 bt559.2.2 5).bind fun bt573 => (spec_l02Draw.l0 k bt573.1 s0_0 bt573.2.1 bt573.2.2 bt568.1 bt568.2.1 bt568.2.2.1 bt568.2.2.2))))
def spec_l02Draw.T7 : Bool × List (List Nat × List Nat) := (true, [([], []), ([], []), ([], []), ([], []), ([], []), ([], []), ([1, 2, 3, 4, 5], [1, 2, 3, 4, 5]), ([], []), ([7], [7]), ([6, 8], [6, 8]), ([9], [9]), ([0, 10, 8], [0, 10]), ([11, 11, 0, 1, 2, 3, 4, 5, 6, 7, 8, 9, 10, 11], [11])])
def spec_l02Draw.B7 : List Nat := [0, 0, 0, 0, 0, 0, 62, 0, 128, 510, 1022, 2047, 4095]
theorem spec_l02Draw.tab7 : rtab .any (opsOf Try.f147 7) = spec_l02Draw.T7 := by kernel_rfl
theorem spec_l02Draw.bits7 : waitsOk spec_l02Draw.T7.2 spec_l02Draw.B7 = true := by kernel_rfl
set_option maxHeartbeats 40000000 in
set_option maxRecDepth 100000 in
theorem spec_l02Draw.calls (k : Nat) (g : Nat) (s0_0 : List Int) (s0_1 : Int) (s0_2 : Int) (r1 : Int) (r2 : Int) (r3 : Int) (r4 : Int) (r5 : Int) (r6 : Int) (w0 w : World) (hI : IsS174 w0 w g s0_0 s0_1 s0_2) (hB : Below w0.heap.size w0 w) (h : spec_l02Draw.f k s0_0 s0_1 s0_2 = some (r1, r2, r3, r4, r5, r6)) :
  Calls Try.prog 147 #[.pointer (some ⟨g, 0, none⟩)] w fun e w' => e = .returned (.agg #[.int .i64 r1, .int .i64 r2, .int .i64 r3, .int .i64 r4]) ∧ IsS174 w0 w' g s0_0 r5 r6 ∧ Below w0.heap.size w0 w' ∧ KeepBut w w' g none := by
 have hu51 := Try.underlying51
 have HI0 := aM hI
 have HK := aM (KeepBut.refl w g none)
 have HL := aM hB.size
 clear hI
 have HW0 := aM hB.size
 have HB := aM hB
 clear hB
 have H : ((spec_l01Next.f s0_0 s0_1 s0_2 3).bind fun bt559 => (if bt559.1 > 0 then ((spec_l02DrawFinite.f k s0_0 bt559.2.1 bt559.2.2).bind fun bt562 => (some (bt562.1, bt562.2.1, bt562.2.2.1, bt562.2.2.2.1, bt562.2.2.2.2.1, bt562.2.2.2.2.2))) else ((spec_l02Unit.f).bind fun bt568 => ((spec_l01Next.f s0_0 bt559.2.1 bt559.2.2 5).bind fun bt573 => (spec_l02Draw.l0 k bt573.1 s0_0 bt573.2.1 bt573.2.2 bt568.1 bt568.2.1 bt568.2.2.1 bt568.2.2.2))))) = some (r1, r2, r3, r4, r5, r6) := h
 clear h
 replace H := Option.bind_eq_some_iff.mp H
 obtain ⟨⟨t559, t560, t561⟩, A20, H⟩ := H
 try dsimp only at H
 have A2 := aM A20
 clear A20
 by_cases c3 : t559 > 0
 ·rw [if_pos c3] at H
  have c3b0 : decide (0 < t559) = true := decide_eq_true c3
  clear c3
  replace H := Option.bind_eq_some_iff.mp H
  obtain ⟨⟨t562, t563, t564, t565, t566, t567⟩, A40, H⟩ := H
  try dsimp only at H
  have A4 := aM A40
  clear A40
  simp only [Option.some.injEq, Prod.mk.injEq] at H
  obtain ⟨rfl, rfl, rfl, rfl, rfl, rfl⟩ := H
  go_enter Try.func147, Try.ntmps147
  go_wp2_with (first | ((with_reducible refine gate_dst (N := 2) rfl ?_); refine box_event ?hg (N := 2) ?hd (cs := #[.int .i64 0, .int .i64 0, .int .i64 0, .int .i64 0]) (t := 51) ?hr ?_; (case hd => rfl); (case hg => rfl); (case hr => first | (go_simp; done) | (go_simp; rfl)); intro gb558 hg w5 hbox hb; have n0_ := aM (IsS174.below (by repeat (first | (with_reducible first | exact HI0.out | apply sA|apply sN|apply sD|apply s1|apply s2) | exact HI0.out)) hb); have n1_ := aM (KeepBut.trans (by repeat (first | (with_reducible first | exact HK.out | apply eS|apply eN|apply eD|apply eA) | exact HK.out)) (KeepBut.of_below hb g none) (.inl rfl)); have n2_ := aM (below_step (by repeat (first | (with_reducible first | exact HB.out | apply bA|apply bN|apply b1 | refine below_set ?_ (IsS174.ge HI0.out)) | exact HB.out)) hb); have n3_ := aM (hbox); have n4_ := aM ((by rw [hg]; exact (keep_size (w := w) (g := g) (row := none) (by repeat (first | (with_reducible first | exact HK.out | apply eS|apply eN|apply eD|apply eA) | exact HK.out))) : w.heap.size ≤ gb558)); have n5_ := aM ((Nat.le_trans HW0.out (by rw [hg]; exact (keep_size (w := w) (g := g) (row := none) (by repeat (first | (with_reducible first | exact HK.out | apply eS|apply eN|apply eD|apply eA) | exact HK.out))) : w.heap.size ≤ gb558) : w0.heap.size ≤ gb558)); have n6_ := aM ((by rw [hg]; exact Nat.ne_of_lt (IsS174.lt (show IsS174 w0 _ g s0_0 s0_1 s0_2 from by repeat (first | (with_reducible first | exact HI0.out | apply sA|apply sN|apply sD|apply s1|apply s2) | exact HI0.out))) : g ≠ gb558)); have n7_ := aM ((by rw [hg]; exact Nat.ne_of_gt (IsS174.lt (show IsS174 w0 _ g s0_0 s0_1 s0_2 from by repeat (first | (with_reducible first | exact HI0.out | apply sA|apply sN|apply sD|apply s1|apply s2) | exact HI0.out))) : gb558 ≠ g)); clear HI0; clear HK; clear HB; have HI0 := n0_; have HK := n1_; have HB := n2_; have BK558 := n3_; have GW558 := n4_; have GE558 := n5_; have NB0_558 := n6_; have NB558_0 := n7_; clear n0_ n1_ n2_ n3_ n4_ n5_ n6_ n7_; clear hb hbox hg) | ((with_reducible refine gate_callee (f := 123) rfl ?_); refine goesL_ (some 6) rfl rfl Try.func123 (by kernel_rfl) rfl #[.pointer (some ⟨g, 0, none⟩), .int .i64 3] rfl (by first|rfl|(simp only [List.map_toArray, List.map_cons, List.map_nil]; try rfl)) ?_; (with_reducible refine (spec_l01Next.calls g s0_0 s0_1 s0_2 3 t559 t560 t561 w0 _ ?side1 ?side2 A2.out).mono ?_); (case side1 => repeat (first | (with_reducible first | exact HI0.out | apply sA|apply sN|apply sD|apply s1|apply s2 | refine IsS174.far ?_ NB0_558.out _) | exact HI0.out)); (case side2 => repeat (first | (with_reducible first | exact HB.out | apply bA|apply bN|apply b1 | refine below_set ?_ (IsS174.ge HI0.out) | refine below_set ?_ GE558.out) | exact HB.out)); rintro e w6 ⟨rfl, hi, hb, hk⟩; refine ⟨_, rfl, ?_⟩; have n0_ := aM (KeepBut.blk hk (g' := gb558) (o := .cells #[.int .i64 0, .int .i64 0, .int .i64 0, .int .i64 0] 51 (0, 0)) (by (with_reducible repeat (first|apply kN|apply kD|apply kA)); exact BK558.out) NB558_0.out (by simp)); have n1_ := aM (KeepBut.trans (by repeat (first | (with_reducible first | exact HK.out | apply eS|apply eN|apply eD|apply eA | refine keep_far ?_ GW558.out _) | exact HK.out)) hk (.inl rfl)); have n2_ := aM (hb); have n3_ := aM (hi); clear BK558; clear HK; clear HB; clear HI0; have BK558 := n0_; have HK := n1_; have HB := n2_; have HI0 := n3_; clear n0_ n1_ n2_ n3_; (try clear hb)) | ((with_reducible refine gate_callee (f := 211) rfl ?_); refine goesL_ (some 9) rfl rfl Try.func211 (by kernel_rfl) rfl #[.pointer (some ⟨g, 0, none⟩)] rfl (by first|rfl|(simp only [List.map_toArray, List.map_cons, List.map_nil]; try rfl)) ?_; (with_reducible refine (spec_l02DrawFinite.calls k g s0_0 t560 t561 t562 t563 t564 t565 t566 t567 w0 _ ?side1 ?side2 A4.out).mono ?_); (case side1 => repeat (first | (with_reducible first | exact HI0.out | apply sA|apply sN|apply sD|apply s1|apply s2 | refine IsS174.far ?_ NB0_558.out _) | exact HI0.out)); (case side2 => repeat (first | (with_reducible first | exact HB.out | apply bA|apply bN|apply b1 | refine below_set ?_ (IsS174.ge HI0.out) | refine below_set ?_ GE558.out) | exact HB.out)); rintro e w7 ⟨rfl, hi, hb, hk⟩; refine ⟨_, rfl, ?_⟩; have n0_ := aM (KeepBut.blk hk (g' := gb558) (o := .cells #[.int .i64 0, .int .i64 0, .int .i64 0, .int .i64 0] 51 (0, 0)) (by (with_reducible repeat (first|apply kN|apply kD|apply kA)); exact BK558.out) NB558_0.out (by simp)); have n1_ := aM (KeepBut.trans (by repeat (first | (with_reducible first | exact HK.out | apply eS|apply eN|apply eD|apply eA | refine keep_far ?_ GW558.out _) | exact HK.out)) hk (.inl rfl)); have n2_ := aM (hb); have n3_ := aM (hi); clear BK558; clear HK; clear HB; clear HI0; have BK558 := n0_; have HK := n1_; have HB := n2_; have HI0 := n3_; clear n0_ n1_ n2_ n3_; (try clear hb); have hnb8 := NB558_0.out; have hnc8 := NB0_558.out; have hcz9_0 : w7.cell? ⟨gb558, 0, none⟩ = some (.int .i64 0) := (blk_cell BK558.out 0).trans rfl; have hcz9_1 : w7.cell? ⟨gb558, 1, none⟩ = some (.int .i64 0) := (blk_cell BK558.out 1).trans rfl; have hcz9_2 : w7.cell? ⟨gb558, 2, none⟩ = some (.int .i64 0) := (blk_cell BK558.out 2).trans rfl; have hcz9_3 : w7.cell? ⟨gb558, 3, none⟩ = some (.int .i64 0) := (blk_cell BK558.out 3).trans rfl; have hfz9_0 := blk_frozen BK558.out 0; have hfz9_1 := blk_frozen BK558.out 1; have hfz9_2 := blk_frozen BK558.out 2; have hfz9_3 := blk_frozen BK558.out 3))
  refine bodyPost_ret (results_cell_row rfl _ _ gb558 51 #[.int .i64 t562, .int .i64 t563, .int .i64 t564, .int .i64 t565] (0, 0) _ rfl (by (with_reducible repeat (first|apply kN|apply kD|apply kA)); refine blk_put (cs := #[.int .i64 t562, .int .i64 t563, .int .i64 t564, .int .i64 0]) ?_ 3 _ rfl; (with_reducible repeat (first|apply kN|apply kD|apply kA)); refine blk_put (cs := #[.int .i64 t562, .int .i64 t563, .int .i64 0, .int .i64 0]) ?_ 2 _ rfl; (with_reducible repeat (first|apply kN|apply kD|apply kA)); refine blk_put (cs := #[.int .i64 t562, .int .i64 0, .int .i64 0, .int .i64 0]) ?_ 1 _ rfl; (with_reducible repeat (first|apply kN|apply kD|apply kA)); refine blk_put (cs := #[.int .i64 0, .int .i64 0, .int .i64 0, .int .i64 0]) ?_ 0 _ rfl; (with_reducible repeat (first|apply kN|apply kD|apply kA)); exact BK558.out) Try.underlying51 rfl (by kernel_rfl)) rfl ?_
  exact ⟨by first|rfl|(simp [*, errW_none, errW_some] <;> rfl), by repeat (first | (with_reducible first | exact HI0.out | apply sA|apply sN|apply sD|apply s1|apply s2 | refine IsS174.far ?_ NB0_558.out _) | exact HI0.out), by repeat (first | (with_reducible first | exact HB.out | apply bA|apply bN|apply b1 | refine below_set ?_ (IsS174.ge HI0.out) | refine below_set ?_ GE558.out) | exact HB.out), by repeat (first | (with_reducible first | exact HK.out | apply eS|apply eN|apply eD|apply eA | refine keep_far ?_ GW558.out _) | exact HK.out)⟩
 ·rw [if_neg c3] at H
  have c3b0 : decide (0 < t559) = false := decide_eq_false c3
  clear c3
  replace H := Option.bind_eq_some_iff.mp H
  obtain ⟨⟨t568, t569, t570, t571⟩, A100, H⟩ := H
  try dsimp only at H
  have A10 := aM A100
  clear A100
  replace H := Option.bind_eq_some_iff.mp H
  obtain ⟨⟨t573, t574, t575⟩, A110, H⟩ := H
  try dsimp only at H
  have A11 := aM A110
  clear A110
  have H' := aM H
  clear H
  go_enter Try.func147, Try.ntmps147
  go_wp2_with (first | ((with_reducible refine gate_dst (N := 2) rfl ?_); refine box_event ?hg (N := 2) ?hd (cs := #[.int .i64 0, .int .i64 0, .int .i64 0, .int .i64 0]) (t := 51) ?hr ?_; (case hd => rfl); (case hg => rfl); (case hr => first | (go_simp; done) | (go_simp; rfl)); intro gb558 hg w12 hbox hb; have n0_ := aM (IsS174.below (by repeat (first | (with_reducible first | exact HI0.out | apply sA|apply sN|apply sD|apply s1|apply s2) | exact HI0.out)) hb); have n1_ := aM (KeepBut.trans (by repeat (first | (with_reducible first | exact HK.out | apply eS|apply eN|apply eD|apply eA) | exact HK.out)) (KeepBut.of_below hb g none) (.inl rfl)); have n2_ := aM (below_step (by repeat (first | (with_reducible first | exact HB.out | apply bA|apply bN|apply b1 | refine below_set ?_ (IsS174.ge HI0.out)) | exact HB.out)) hb); have n3_ := aM (hbox); have n4_ := aM ((by rw [hg]; exact (keep_size (w := w) (g := g) (row := none) (by repeat (first | (with_reducible first | exact HK.out | apply eS|apply eN|apply eD|apply eA) | exact HK.out))) : w.heap.size ≤ gb558)); have n5_ := aM ((Nat.le_trans HW0.out (by rw [hg]; exact (keep_size (w := w) (g := g) (row := none) (by repeat (first | (with_reducible first | exact HK.out | apply eS|apply eN|apply eD|apply eA) | exact HK.out))) : w.heap.size ≤ gb558) : w0.heap.size ≤ gb558)); have n6_ := aM ((by rw [hg]; exact Nat.ne_of_lt (IsS174.lt (show IsS174 w0 _ g s0_0 s0_1 s0_2 from by repeat (first | (with_reducible first | exact HI0.out | apply sA|apply sN|apply sD|apply s1|apply s2) | exact HI0.out))) : g ≠ gb558)); have n7_ := aM ((by rw [hg]; exact Nat.ne_of_gt (IsS174.lt (show IsS174 w0 _ g s0_0 s0_1 s0_2 from by repeat (first | (with_reducible first | exact HI0.out | apply sA|apply sN|apply sD|apply s1|apply s2) | exact HI0.out))) : gb558 ≠ g)); clear HI0; clear HK; clear HB; have HI0 := n0_; have HK := n1_; have HB := n2_; have BK558 := n3_; have GW558 := n4_; have GE558 := n5_; have NB0_558 := n6_; have NB558_0 := n7_; clear n0_ n1_ n2_ n3_ n4_ n5_ n6_ n7_; clear hb hbox hg) | ((with_reducible refine gate_callee (f := 123) rfl ?_); refine goesL_ (some 6) rfl rfl Try.func123 (by kernel_rfl) rfl #[.pointer (some ⟨g, 0, none⟩), .int .i64 3] rfl (by first|rfl|(simp only [List.map_toArray, List.map_cons, List.map_nil]; try rfl)) ?_; (with_reducible refine (spec_l01Next.calls g s0_0 s0_1 s0_2 3 t559 t560 t561 w0 _ ?side1 ?side2 A2.out).mono ?_); (case side1 => repeat (first | (with_reducible first | exact HI0.out | apply sA|apply sN|apply sD|apply s1|apply s2 | refine IsS174.far ?_ NB0_558.out _) | exact HI0.out)); (case side2 => repeat (first | (with_reducible first | exact HB.out | apply bA|apply bN|apply b1 | refine below_set ?_ (IsS174.ge HI0.out) | refine below_set ?_ GE558.out) | exact HB.out)); rintro e w13 ⟨rfl, hi, hb, hk⟩; refine ⟨_, rfl, ?_⟩; have n0_ := aM (KeepBut.blk hk (g' := gb558) (o := .cells #[.int .i64 0, .int .i64 0, .int .i64 0, .int .i64 0] 51 (0, 0)) (by (with_reducible repeat (first|apply kN|apply kD|apply kA)); exact BK558.out) NB558_0.out (by simp)); have n1_ := aM (KeepBut.trans (by repeat (first | (with_reducible first | exact HK.out | apply eS|apply eN|apply eD|apply eA | refine keep_far ?_ GW558.out _) | exact HK.out)) hk (.inl rfl)); have n2_ := aM (hb); have n3_ := aM (hi); clear BK558; clear HK; clear HB; clear HI0; have BK558 := n0_; have HK := n1_; have HB := n2_; have HI0 := n3_; clear n0_ n1_ n2_ n3_; (try clear hb)) | ((with_reducible refine gate_callee (f := 162) rfl ?_); refine goesL_ (some 10) rfl rfl Try.func162 (by kernel_rfl) rfl #[] rfl (by first|rfl|(simp only [List.map_toArray, List.map_cons, List.map_nil]; try rfl)) ?_; (with_reducible refine (spec_l02Unit.calls  t568 t569 t570 t571 _ A10.out).mono ?_); rintro e w14 ⟨rfl, hb⟩; refine ⟨_, rfl, ?_⟩; have n0_ := aM (IsS174.below (by repeat (first | (with_reducible first | exact HI0.out | apply sA|apply sN|apply sD|apply s1|apply s2 | refine IsS174.far ?_ NB0_558.out _) | exact HI0.out)) hb); have n1_ := aM (blk_below (g := gb558) (o := .cells #[.int .i64 0, .int .i64 0, .int .i64 0, .int .i64 0] 51 (0, 0)) (by (with_reducible repeat (first|apply kN|apply kD|apply kA)); exact BK558.out) hb); have n2_ := aM (KeepBut.trans (by repeat (first | (with_reducible first | exact HK.out | apply eS|apply eN|apply eD|apply eA | refine keep_far ?_ GW558.out _) | exact HK.out)) (KeepBut.of_below hb g none) (.inl rfl)); have n3_ := aM (below_step (by repeat (first | (with_reducible first | exact HB.out | apply bA|apply bN|apply b1 | refine below_set ?_ (IsS174.ge HI0.out) | refine below_set ?_ GE558.out) | exact HB.out)) hb); clear HI0; clear BK558; clear HK; clear HB; have HI0 := n0_; have BK558 := n1_; have HK := n2_; have HB := n3_; clear n0_ n1_ n2_ n3_; (try clear hb)) | ((with_reducible refine gate_dst (N := 3) rfl ?_); refine box_event ?hg (N := 3) ?hd (cs := #[.int .i64 0, .int .i64 0, .int .i64 0, .int .i64 0]) (t := 51) ?hr ?_; (case hd => rfl); (case hg => rfl); (case hr => first | (go_simp; done) | (go_simp; rfl)); intro gb572 hg w15 hbox hb; have n0_ := aM (IsS174.below (by repeat (first | (with_reducible first | exact HI0.out | apply sA|apply sN|apply sD|apply s1|apply s2 | refine IsS174.far ?_ NB0_558.out _) | exact HI0.out)) hb); have n1_ := aM (blk_below (g := gb558) (o := .cells #[.int .i64 0, .int .i64 0, .int .i64 0, .int .i64 0] 51 (0, 0)) (by (with_reducible repeat (first|apply kN|apply kD|apply kA)); exact BK558.out) hb); have n2_ := aM (KeepBut.trans (by repeat (first | (with_reducible first | exact HK.out | apply eS|apply eN|apply eD|apply eA | refine keep_far ?_ GW558.out _) | exact HK.out)) (KeepBut.of_below hb g none) (.inl rfl)); have n3_ := aM (below_step (by repeat (first | (with_reducible first | exact HB.out | apply bA|apply bN|apply b1 | refine below_set ?_ (IsS174.ge HI0.out) | refine below_set ?_ GE558.out) | exact HB.out)) hb); have n4_ := aM (hbox); have n5_ := aM ((by rw [hg]; exact (keep_size (w := w) (g := g) (row := none) (by repeat (first | (with_reducible first | exact HK.out | apply eS|apply eN|apply eD|apply eA | refine keep_far ?_ GW558.out _) | exact HK.out))) : w.heap.size ≤ gb572)); have n6_ := aM ((Nat.le_trans HW0.out (by rw [hg]; exact (keep_size (w := w) (g := g) (row := none) (by repeat (first | (with_reducible first | exact HK.out | apply eS|apply eN|apply eD|apply eA | refine keep_far ?_ GW558.out _) | exact HK.out))) : w.heap.size ≤ gb572) : w0.heap.size ≤ gb572)); have n7_ := aM ((by rw [hg]; exact Nat.ne_of_lt (blk_lt (g := gb558) (o := .cells #[.int .i64 0, .int .i64 0, .int .i64 0, .int .i64 0] 51 (0, 0)) (by (with_reducible repeat (first|apply kN|apply kD|apply kA)); exact BK558.out)) : gb558 ≠ gb572)); have n8_ := aM ((by rw [hg]; exact Nat.ne_of_gt (blk_lt (g := gb558) (o := .cells #[.int .i64 0, .int .i64 0, .int .i64 0, .int .i64 0] 51 (0, 0)) (by (with_reducible repeat (first|apply kN|apply kD|apply kA)); exact BK558.out)) : gb572 ≠ gb558)); have n9_ := aM ((by rw [hg]; exact Nat.ne_of_lt (IsS174.lt (show IsS174 w0 _ g s0_0 t560 t561 from by repeat (first | (with_reducible first | exact HI0.out | apply sA|apply sN|apply sD|apply s1|apply s2 | refine IsS174.far ?_ NB0_558.out _) | exact HI0.out))) : g ≠ gb572)); have n10_ := aM ((by rw [hg]; exact Nat.ne_of_gt (IsS174.lt (show IsS174 w0 _ g s0_0 t560 t561 from by repeat (first | (with_reducible first | exact HI0.out | apply sA|apply sN|apply sD|apply s1|apply s2 | refine IsS174.far ?_ NB0_558.out _) | exact HI0.out))) : gb572 ≠ g)); clear HI0; clear BK558; clear HK; clear HB; have HI0 := n0_; have BK558 := n1_; have HK := n2_; have HB := n3_; have BK572 := n4_; have GW572 := n5_; have GE572 := n6_; have NB558_572 := n7_; have NB572_558 := n8_; have NB0_572 := n9_; have NB572_0 := n10_; clear n0_ n1_ n2_ n3_ n4_ n5_ n6_ n7_ n8_ n9_ n10_; clear hb hbox hg; have hnb16 := NB572_558.out; have hnc16 := NB558_572.out; have hnb17 := NB572_0.out; have hnc17 := NB0_572.out; have hcz18_0 : w15.cell? ⟨gb572, 0, none⟩ = some (.int .i64 0) := (blk_cell BK572.out 0).trans rfl; have hcz18_1 : w15.cell? ⟨gb572, 1, none⟩ = some (.int .i64 0) := (blk_cell BK572.out 1).trans rfl; have hcz18_2 : w15.cell? ⟨gb572, 2, none⟩ = some (.int .i64 0) := (blk_cell BK572.out 2).trans rfl; have hcz18_3 : w15.cell? ⟨gb572, 3, none⟩ = some (.int .i64 0) := (blk_cell BK572.out 3).trans rfl; have hfz18_0 := blk_frozen BK572.out 0; have hfz18_1 := blk_frozen BK572.out 1; have hfz18_2 := blk_frozen BK572.out 2; have hfz18_3 := blk_frozen BK572.out 3) | ((with_reducible refine gate_callee (f := 123) rfl ?_); refine goesL_ (some 12) rfl rfl Try.func123 (by kernel_rfl) rfl #[.pointer (some ⟨g, 0, none⟩), .int .i64 5] rfl (by first|rfl|(simp only [List.map_toArray, List.map_cons, List.map_nil]; try rfl)) ?_; (with_reducible refine (spec_l01Next.calls g s0_0 t560 t561 5 t573 t574 t575 w0 _ ?side1 ?side2 A11.out).mono ?_); (case side1 => repeat (first | (with_reducible first | exact HI0.out | apply sA|apply sN|apply sD|apply s1|apply s2 | refine IsS174.far ?_ NB0_558.out _ | refine IsS174.far ?_ NB0_572.out _) | exact HI0.out)); (case side2 => repeat (first | (with_reducible first | exact HB.out | apply bA|apply bN|apply b1 | refine below_set ?_ (IsS174.ge HI0.out) | refine below_set ?_ (Aside0.out (by assumption))) | exact HB.out)); rintro e w19 ⟨rfl, hi, hb, hk⟩; refine ⟨_, rfl, ?_⟩; have n0_ := aM (KeepBut.blk hk (g' := gb558) (o := .cells #[.int .i64 0, .int .i64 0, .int .i64 0, .int .i64 0] 51 (0, 0)) (by (repeat (first|(with_reducible first|apply kN|apply kD|apply kA)|refine blk_far ?_ NB558_572.out _)); exact BK558.out) NB558_0.out (by simp)); have n1_ := aM (KeepBut.blk hk (g' := gb572) (o := .cells #[.int .i64 t568, .int .i64 t569, .int .i64 t570, .int .i64 t571] 51 (0, 0)) (by (with_reducible repeat (first|apply kN|apply kD|apply kA)); refine blk_put (cs := #[.int .i64 t568, .int .i64 t569, .int .i64 t570, .int .i64 0]) ?_ 3 _ rfl; (with_reducible repeat (first|apply kN|apply kD|apply kA)); refine blk_put (cs := #[.int .i64 t568, .int .i64 t569, .int .i64 0, .int .i64 0]) ?_ 2 _ rfl; (with_reducible repeat (first|apply kN|apply kD|apply kA)); refine blk_put (cs := #[.int .i64 t568, .int .i64 0, .int .i64 0, .int .i64 0]) ?_ 1 _ rfl; (with_reducible repeat (first|apply kN|apply kD|apply kA)); refine blk_put (cs := #[.int .i64 0, .int .i64 0, .int .i64 0, .int .i64 0]) ?_ 0 _ rfl; (with_reducible repeat (first|apply kN|apply kD|apply kA)); exact BK572.out) NB572_0.out (by simp)); have n2_ := aM (KeepBut.trans (by repeat (first | (with_reducible first | exact HK.out | apply eS|apply eN|apply eD|apply eA | refine keep_far ?_ GW558.out _ | refine keep_far ?_ GW572.out _) | exact HK.out)) hk (.inl rfl)); have n3_ := aM (hb); have n4_ := aM (hi); clear BK558; clear BK572; clear HK; clear HB; clear HI0; have BK558 := n0_; have BK572 := n1_; have HK := n2_; have HB := n3_; have HI0 := n4_; clear n0_ n1_ n2_ n3_ n4_; (try clear hb)))
  go_loopg [4] k (fun kq v4 w' => ∃ (x4_1 : Int) (x1001_1 : Int) (x1002_1 : Int) (x573000_1 : Int) (x573001_1 : Int) (x573002_1 : Int) (x573003_1 : Int), v4 = .int .i64 x4_1 ∧ Aside0 (spec_l02Draw.l0 kq x4_1 s0_0 x1001_1 x1002_1 x573000_1 x573001_1 x573002_1 x573003_1 = some (r1, r2, r3, r4, r5, r6)) ∧ Aside0 (kq ≤ k) ∧ Aside0 (w'.heap[gb558]? = some (.cells #[.int .i64 0, .int .i64 0, .int .i64 0, .int .i64 0] 51 (0, 0))) ∧ Aside0 (w'.heap[gb572]? = some (.cells #[.int .i64 x573000_1, .int .i64 x573001_1, .int .i64 x573002_1, .int .i64 x573003_1] 51 (0, 0))) ∧ Aside0 (IsS174 w0 w' g s0_0 x1001_1 x1002_1) ∧ Aside0 (KeepBut w w' g none) ∧ Aside0 (Below w0.heap.size w0 w'))
  case atStart => exact ⟨(t573), (t574), (t575), (t568), (t569), (t570), (t571), (by first | rfl | (simp; done) | (simp [*]; done)), H', ⟨Nat.le_refl _⟩, ⟨by (with_reducible repeat (first|apply kN|apply kD|apply kA)); exact BK558.out⟩, ⟨by (with_reducible repeat (first|apply kN|apply kD|apply kA)); exact BK572.out⟩, ⟨by repeat (first | (with_reducible first | exact HI0.out | apply sA|apply sN|apply sD|apply s1|apply s2 | refine IsS174.far ?_ NB0_558.out _ | refine IsS174.far ?_ NB0_572.out _) | exact HI0.out)⟩, ⟨by repeat (first | (with_reducible first | exact HK.out | apply eS|apply eN|apply eD|apply eA | refine keep_far ?_ GW558.out _ | refine keep_far ?_ GW572.out _) | exact HK.out)⟩, ⟨by repeat (first | (with_reducible first | exact HB.out | apply bA|apply bN|apply b1 | refine below_set ?_ (IsS174.ge HI0.out) | refine below_set ?_ (Aside0.out (by assumption))) | exact HB.out)⟩⟩
  case round =>
   clear H'
   try clear c1
   try clear c2
   try clear p2
   try clear c3
   try clear c3b0
   try clear c8
   try clear c12
   try clear c14
   try clear c16
   try clear c17
   try clear hcz18_0
   try clear hcz18_1
   try clear hcz18_2
   try clear hcz18_3
   try clear hcz9_0
   try clear hcz9_1
   try clear hcz9_2
   try clear hcz9_3
   try clear hfz18_0
   try clear hfz18_1
   try clear hfz18_2
   try clear hfz18_3
   try clear hfz9_0
   try clear hfz9_1
   try clear hfz9_2
   try clear hfz9_3
   obtain ⟨x4_1, x1001_1, x1002_1, x573000_1, x573001_1, x573002_1, x573003_1, rfl, HA, HK1, BK558, BK572, HI0, HK, HB⟩ := hrel
   cases gk with
   | zero => exact absurd HA.out (by simp [spec_l02Draw.l0])
   | succ k1 =>
    have H := HA.out
    clear HA
    simp only [spec_l02Draw.l0] at H
    by_cases c20 : x4_1 > 0
    ·rw [if_pos c20] at H
     have c20b0 : decide (0 < x4_1) = true := decide_eq_true c20
     clear c20
     obtain ⟨y576, hy576⟩ : ∃ y_ : List (S51), y_ = (([(⟨1, 1, 0, 1⟩ : S51), (⟨1, 0, 1, 1⟩ : S51), (⟨1, (-2), 0, 1⟩ : S51), (⟨0, 1, 1, 0⟩ : S51), (⟨(-1), 0, 0, 1⟩ : S51)] : List (S51))) := ⟨_, rfl⟩
     replace H : ((spec_l01Next.f s0_0 x1001_1 x1002_1 5).bind fun bt579 => (if 0 ≤ bt579.1 then (if bt579.1 < (y576.length : Int) then ((spec_l02Multiply.f x573000_1 x573001_1 x573002_1 x573003_1 ((rd_T51 y576 bt579.1).f0) ((rd_T51 y576 bt579.1).f1) ((rd_T51 y576 bt579.1).f2) ((rd_T51 y576 bt579.1).f3)).bind fun bt583 => (spec_l02Draw.l0 k1 (wrap64 (x4_1 - 1)) s0_0 bt579.2.1 bt579.2.2 bt583.1 bt583.2.1 bt583.2.2.1 bt583.2.2.2)) else (none)) else (none))) = some (r1, r2, r3, r4, r5, r6) := by first | (rw [hy576]; with_reducible exact H) | (have H2_ := (Option.bind_some _ _).symm.trans H; rw [hy576]; with_reducible exact H2_) | (have H2_ := (Option.bind_some _ _).symm.trans H; with_reducible exact H2_) | with_reducible exact H | (rw [hy576]; exact H) | exact H
     have Ny576 := aM hy576
     clear hy576
     replace H := Option.bind_eq_some_iff.mp H
     obtain ⟨⟨t579, t580, t581⟩, A210, H⟩ := H
     try dsimp only at H
     have A21 := aM A210
     clear A210
     by_cases c22 : 0 ≤ t579
     ·rw [if_pos c22] at H
      have c22b0 : decide (0 ≤ t579) = true := decide_eq_true c22
      clear c22
      by_cases c23 : t579 < (y576.length : Int)
      ·rw [if_pos c23] at H
       have c23b0 : decide (t579 < (y576.length : Int)) = true := decide_eq_true c23
       clear c23
       replace H := Option.bind_eq_some_iff.mp H
       obtain ⟨⟨t583, t584, t585, t586⟩, A240, H⟩ := H
       try dsimp only at H
       have A24 := aM A240
       clear A240
       have H' := aM H
       clear H
       try go_wp2
       have pi582 : (0 ≤ (t579 : Int)) = True := eq_true (of_decide_eq_true (by first | (with_reducible assumption) | assumption))
       have qi582 : (t579 < (y576.length : Int)) = True := eq_true (of_decide_eq_true (by first | (with_reducible assumption) | assumption))
       have n0_ := aM (blk_drew BK558.out)
       have n1_ := aM (blk_drew BK572.out)
       have n2_ := aM (IsS174.drew HI0.out)
       have n3_ := aM (keep_drew HK.out)
       have n4_ := aM (below_drew1 HB.out)
       clear BK558
       clear BK572
       clear HI0
       clear HK
       clear HB
       have BK558 := n0_
       have BK572 := n1_
       have HI0 := n2_
       have HK := n3_
       have HB := n4_
       clear n0_ n1_ n2_ n3_ n4_
       refine start_ (n := 13) (S := fun w' => w'.cell? ⟨gb572, 0, none⟩ = some (.int .i64 x573000_1) ∧ w'.cell? ⟨gb572, 1, none⟩ = some (.int .i64 x573001_1) ∧ w'.cell? ⟨gb572, 2, none⟩ = some (.int .i64 x573002_1) ∧ w'.cell? ⟨gb572, 3, none⟩ = some (.int .i64 x573003_1)) (ds := [12]) #[false, false, false, false, false, false, false, false, false, false, false, false, false] (by kernel_rfl) rfl rfl ⟨(blk_cell BK572.out 0).trans rfl, (blk_cell BK572.out 1).trans rfl, (blk_cell BK572.out 2).trans rfl, (blk_cell BK572.out 3).trans rfl⟩ (fun hHeld => ?_); refine with_tabW spec_l02Draw.tab7 spec_l02Draw.bits7 (fun HT_ HW_ => ?_)
       generalize wr.drew = w25 at BK558 BK572 HI0 HK HB hHeld ⊢
       refine pure_ (i := 1) (N := some 18) (v := ?_) (a' := ?_) #[false, true, false, false, false, false, false, false, false, false, false, false, false] rfl rfl (any_of HT_.out (by kernel_rfl)) (fun _ _ _ h => h) (Or.inl ⟨by rfl, ?_⟩) ?_ ?_
       rotate_left
       ·intro w'
        go_simp
        with_reducible rfl
       rotate_left
       ·simp only [Act.put, List.setIfInBounds_toArray, List.set_cons_zero, List.set_cons_succ, i64_w, i32_w]
        rfl
       refine pure_ (i := 2) (N := some 19) (v := ?_) (a' := ?_) #[false, true, true, false, false, false, false, false, false, false, false, false, false] rfl rfl (any_of HT_.out (by kernel_rfl)) (fun _ _ _ h => h) (Or.inl ⟨by rfl, ?_⟩) ?_ ?_
       rotate_left
       ·intro w'
        go_simp
        with_reducible rfl
       rotate_left
       ·simp only [Act.put, List.setIfInBounds_toArray, List.set_cons_zero, List.set_cons_succ, i64_w, i32_w]
        rfl
       refine pure_ (i := 3) (N := some 20) (v := ?_) (a' := ?_) #[false, true, true, true, false, false, false, false, false, false, false, false, false] rfl rfl (any_of HT_.out (by kernel_rfl)) (fun _ _ _ h => h) (Or.inl ⟨by rfl, ?_⟩) ?_ ?_
       rotate_left
       ·intro w'
        go_simp
        with_reducible rfl
       rotate_left
       ·simp only [Act.put, List.setIfInBounds_toArray, List.set_cons_zero, List.set_cons_succ, i64_w, i32_w]
        rfl
       refine pure_ (i := 4) (N := some 21) (v := ?_) (a' := ?_) #[false, true, true, true, true, false, false, false, false, false, false, false, false] rfl rfl (any_of HT_.out (by kernel_rfl)) (fun _ _ _ h => h) (Or.inl ⟨by rfl, ?_⟩) ?_ ?_
       rotate_left
       ·intro w'
        go_simp
        with_reducible rfl
       rotate_left
       ·simp only [Act.put, List.setIfInBounds_toArray, List.set_cons_zero, List.set_cons_succ, i64_w, i32_w]
        rfl
       refine pure_ (i := 5) (N := some 22) (v := ?_) (a' := ?_) #[false, true, true, true, true, true, false, false, false, false, false, false, false] rfl rfl (any_of HT_.out (by kernel_rfl)) (fun _ _ _ h => h) (Or.inl ⟨by rfl, ?_⟩) ?_ ?_
       rotate_left
       ·intro w'
        go_simp
        with_reducible rfl
       rotate_left
       ·simp only [Act.put, List.setIfInBounds_toArray, List.set_cons_zero, List.set_cons_succ, i64_w, i32_w]
        rfl
       refine pure_ (i := 7) (N := some 24) (v := ?_) (a' := ?_) #[false, true, true, true, true, true, false, true, false, false, false, false, false] rfl rfl (any_of HT_.out (by kernel_rfl)) (fun _ _ _ h => h) (Or.inl ⟨by rfl, ?_⟩) ?_ ?_
       rotate_left
       ·intro w'
        go_simp
        with_reducible rfl
       rotate_left
       ·simp only [Act.put, List.setIfInBounds_toArray, List.set_cons_zero, List.set_cons_succ, i64_w, i32_w]
        rfl
       refine take_ (i := 0) (N := some 17) (v := ?_) (a' := ?_) #[true, true, true, true, true, true, false, true, false, false, false, false, false] rfl rfl (take_ofW HT_.out HW_.out (by kernel_rfl)) (fun _ _ _ h => h) (Or.inl ⟨by rfl, ?_⟩) hHeld ?_ ?_
       rotate_left
       ·rintro w' ⟨s0, s1, s2, s3⟩
        go_simp
        with_reducible rfl
       rotate_left
       ·simp only [Act.put, List.setIfInBounds_toArray, List.set_cons_zero, List.set_cons_succ, i64_w, i32_w]
        rfl
       refine join_ (σ := Value × Addr) 4 #[true, true, true, true, true, true, true, true, true, false, false, false, false] (fun s_ => [(23, s_.1), (25, .int .i64 t579)]) (fun s_ w' => (w'.cell? ⟨gb572, 0, none⟩ = some (.int .i64 x573000_1) ∧ w'.cell? ⟨gb572, 1, none⟩ = some (.int .i64 x573001_1) ∧ w'.cell? ⟨gb572, 2, none⟩ = some (.int .i64 x573002_1) ∧ w'.cell? ⟨gb572, 3, none⟩ = some (.int .i64 x573003_1)) ∧ (Kd.R k51 51 w' w.heap.size (fun k_ => k_ ≠ gb558 ∧ k_ ≠ gb572) s_.1 y576) ∧ (∃ c_, (s_.1 : Value) = .slice (some s_.2) y576.length c_) ∧ (w'.heap[gb558]? = some (.cells #[.int .i64 0, .int .i64 0, .int .i64 0, .int .i64 0] 51 (0, 0))) ∧ (w'.heap[gb572]? = some (.cells #[.int .i64 x573000_1, .int .i64 x573001_1, .int .i64 x573002_1, .int .i64 x573003_1] 51 (0, 0))) ∧ (IsS174 w0 w' g s0_0 t580 t581) ∧ (KeepBut w w' g none) ∧ (Below w0.heap.size w0 w')) ?_ ?_
       rotate_left
       ·intro hCont
        refine two_ (i := 6) (j := 8) (Ni := some 23) (Nj := some 25) #[true, true, true, true, true, true, true, true, false, false, false, false, false] #[true, true, true, true, true, true, false, true, true, false, false, false, false] rfl rfl rfl rfl (two_of HT_.out (by kernel_rfl)) (by decide) (by decide) (fun K hK => ?_) (fun K hK => ?_)
        ·skip
         refine Kd.R_lit_step k51 _ 51 ?hg (N := 23) ?hd (xs := ([(⟨1, 1, 0, 1⟩ : S51), (⟨1, 0, 1, 1⟩ : S51), (⟨1, (-2), 0, 1⟩ : S51), (⟨0, 1, 1, 0⟩ : S51), (⟨(-1), 0, 0, 1⟩ : S51)] : List (S51))) (inner := [.int .i64 1, .int .i64 1, .int .i64 0, .int .i64 1, .int .i64 1, .int .i64 0, .int .i64 1, .int .i64 1, .int .i64 1, .int .i64 (-2), .int .i64 0, .int .i64 1, .int .i64 0, .int .i64 1, .int .i64 1, .int .i64 0, .int .i64 (-1), .int .i64 0, .int .i64 0, .int .i64 1]) (ok := fun _ => True) (okp := fun _ => True) ?hr ?hp (fun _ hk => hk) trivial (Below.refl _ _) (Nat.le_refl _) (by simp) ?_; (case hd => rfl); (case hg => rfl); (case hr => first | (go_simp; done) | (go_simp; rfl)); (case hp => exact (Reps.c4 (show Kd.M k51 _ _ _ (⟨1, 1, 0, 1⟩ : S51) [.int .i64 1, .int .i64 1, .int .i64 0, .int .i64 1] from (k51_mkM _ _ _ (⟨1, 1, 0, 1⟩ : S51) )) (Reps.c4 (show Kd.M k51 _ _ _ (⟨1, 0, 1, 1⟩ : S51) [.int .i64 1, .int .i64 0, .int .i64 1, .int .i64 1] from (k51_mkM _ _ _ (⟨1, 0, 1, 1⟩ : S51) )) (Reps.c4 (show Kd.M k51 _ _ _ (⟨1, (-2), 0, 1⟩ : S51) [.int .i64 1, .int .i64 (-2), .int .i64 0, .int .i64 1] from (k51_mkM _ _ _ (⟨1, (-2), 0, 1⟩ : S51) )) (Reps.c4 (show Kd.M k51 _ _ _ (⟨0, 1, 1, 0⟩ : S51) [.int .i64 0, .int .i64 1, .int .i64 1, .int .i64 0] from (k51_mkM _ _ _ (⟨0, 1, 1, 0⟩ : S51) )) (Reps.c4 (show Kd.M k51 _ _ _ (⟨(-1), 0, 0, 1⟩ : S51) [.int .i64 (-1), .int .i64 0, .int .i64 0, .int .i64 1] from (k51_mkM _ _ _ (⟨(-1), 0, 0, 1⟩ : S51) )) (Reps.none _ _)))))))
         intro v577 w26 ho27 hb hg_ hnew_
         clear hg_ hnew_
         (first | rw [← Ny576.out] at ho27 | (simp only [Int.reduceToNat] at ho27; rw [← Ny576.out] at ho27))
         have n0_ := aM (Kd.R_lower (Kd.R_newB (Kd.R_newB ho27 (g := gb558) (o := .cells #[.int .i64 0, .int .i64 0, .int .i64 0, .int .i64 0] 51 (0, 0)) (by (with_reducible repeat (first|apply kN|apply kD|apply kA)); exact BK558.out)) (g := gb572) (o := .cells #[.int .i64 x573000_1, .int .i64 x573001_1, .int .i64 x573002_1, .int .i64 x573003_1] 51 (0, 0)) (by (with_reducible repeat (first|apply kN|apply kD|apply kA)); exact BK572.out)) (keep_size (w := w) (g := g) (row := none) (by repeat (first | (with_reducible first | exact HK.out | apply eS|apply eN|apply eD|apply eA | refine keep_far ?_ GW558.out _ | refine keep_far ?_ GW572.out _) | exact HK.out))))
         have n1_ := aM (blk_below (g := gb558) (o := .cells #[.int .i64 0, .int .i64 0, .int .i64 0, .int .i64 0] 51 (0, 0)) (by (with_reducible repeat (first|apply kN|apply kD|apply kA)); exact BK558.out) hb)
         have n2_ := aM (blk_below (g := gb572) (o := .cells #[.int .i64 x573000_1, .int .i64 x573001_1, .int .i64 x573002_1, .int .i64 x573003_1] 51 (0, 0)) (by (with_reducible repeat (first|apply kN|apply kD|apply kA)); exact BK572.out) hb)
         have n3_ := aM (IsS174.below (by repeat (first | (with_reducible first | exact HI0.out | apply sA|apply sN|apply sD|apply s1|apply s2 | refine IsS174.far ?_ NB0_558.out _ | refine IsS174.far ?_ NB0_572.out _) | exact HI0.out)) hb)
         have n4_ := aM (KeepBut.trans (by repeat (first | (with_reducible first | exact HK.out | apply eS|apply eN|apply eD|apply eA | refine keep_far ?_ GW558.out _ | refine keep_far ?_ GW572.out _) | exact HK.out)) (KeepBut.of_below hb g none) (.inl rfl))
         have n5_ := aM (below_step (by repeat (first | (with_reducible first | exact HB.out | apply bA|apply bN|apply b1 | refine below_set ?_ (IsS174.ge HI0.out) | refine below_set ?_ (Aside0.out (by assumption))) | exact HB.out)) hb)
         clear BK558
         clear BK572
         clear HI0
         clear HK
         clear HB
         have HO578 := n0_
         have BK558 := n1_
         have BK572 := n2_
         have HI0 := n3_
         have HK := n4_
         have HB := n5_
         clear n0_ n1_ n2_ n3_ n4_ n5_
         clear hb ho27
         obtain ⟨Ao28, co28, eo28⟩ := Kd.R_slice HO578.out
         subst eo28
         obtain ⟨ado28, fo28, _⟩ := at_T51 (Kd.R_reads' HO578.out).2.2 0 (by decide) (by rw [Ny576.out]; simp)
         cases fo28
         refine hK.out _ _ ⟨(blk_cell BK572.out 0).trans rfl, (blk_cell BK572.out 1).trans rfl, (blk_cell BK572.out 2).trans rfl, (blk_cell BK572.out 3).trans rfl⟩ (fun hHeld => ?_)
         clear hK K
         refine norm_ (a' := ?_) ?_ ?_
         rotate_left
         ·show Act.put _ (some 23) _ = _
          simp only [Act.put, List.setIfInBounds_toArray, List.set_cons_zero, List.set_cons_succ, i64_w, i32_w]
          rfl
         refine one_ (i := 8) (N := some 25) #[true, true, true, true, true, true, true, true, true, false, false, false, false] rfl rfl (one_of HT_.out (by kernel_rfl)) (by decide) (fun K hK => ?_)
         refine goes_ Try.func123 (by kernel_rfl) rfl #[.pointer (some ⟨g, 0, none⟩), .int .i64 5] (by rfl) rfl rfl (by first|rfl|(simp only [List.map_toArray, List.map_cons, List.map_nil]; try rfl)) ?_
         with_reducible refine (spec_l01Next.calls g s0_0 x1001_1 x1002_1 5 t579 t580 t581 w0 _ ?side1 ?side2 A21.out).mono ?_
         (case side1 => repeat (first | (with_reducible first | exact HI0.out | apply sA|apply sN|apply sD|apply s1|apply s2 | refine IsS174.far ?_ NB0_558.out _ | refine IsS174.far ?_ NB0_572.out _) | exact HI0.out))
         (case side2 => repeat (first | (with_reducible first | exact HB.out | apply bA|apply bN|apply b1 | refine below_set ?_ (IsS174.ge HI0.out) | refine below_set ?_ (Aside0.out (by assumption))) | exact HB.out))
         rintro e w29 ⟨rfl, hi, hb, hk⟩
         refine ⟨_, rfl, ?_⟩
         have n0_ := aM (KeepBut.blk hk (g' := gb558) (o := .cells #[.int .i64 0, .int .i64 0, .int .i64 0, .int .i64 0] 51 (0, 0)) (by (with_reducible repeat (first|apply kN|apply kD|apply kA)); exact BK558.out) NB558_0.out (by simp))
         have n1_ := aM (KeepBut.blk hk (g' := gb572) (o := .cells #[.int .i64 x573000_1, .int .i64 x573001_1, .int .i64 x573002_1, .int .i64 x573003_1] 51 (0, 0)) (by (with_reducible repeat (first|apply kN|apply kD|apply kA)); exact BK572.out) NB572_0.out (by simp))
         have n2_ := aM (Kd.R_mono (Kd.R_keep (IsS174.apart (show IsS174 w0 _ g s0_0 x1001_1 x1002_1 from by repeat (first | (with_reducible first | exact HI0.out | apply sA|apply sN|apply sD|apply s1|apply s2 | refine IsS174.far ?_ NB0_558.out _ | refine IsS174.far ?_ NB0_572.out _) | exact HI0.out)) (by (with_reducible repeat (first | apply Kd.R_alloc | apply Kd.R_drewN | apply Kd.R_drew)); exact HO578.out) (by decide)) hk (fun _ h => h.2)) (fun _ h => h.1))
         have n3_ := aM (KeepBut.trans (by repeat (first | (with_reducible first | exact HK.out | apply eS|apply eN|apply eD|apply eA | refine keep_far ?_ GW558.out _ | refine keep_far ?_ GW572.out _) | exact HK.out)) hk (.inl rfl))
         have n4_ := aM (hb)
         have n5_ := aM (hi)
         clear BK558
         clear BK572
         clear HO578
         clear HK
         clear HB
         clear HI0
         have BK558 := n0_
         have BK572 := n1_
         have HO578 := n2_
         have HK := n3_
         have HB := n4_
         have HI0 := n5_
         clear n0_ n1_ n2_ n3_ n4_ n5_
         (try clear hb)
         (try clear hb2)
         (try clear hk)
         (try clear hi)
         refine hK.out _ _ ⟨(blk_cell BK572.out 0).trans rfl, (blk_cell BK572.out 1).trans rfl, (blk_cell BK572.out 2).trans rfl, (blk_cell BK572.out 3).trans rfl⟩ (fun hHeld => ?_)
         clear hK K
         refine norm_ (a' := ?_) ?_ ?_
         rotate_left
         ·show Act.put _ (some 25) _ = _
          simp only [Act.put, List.setIfInBounds_toArray, List.set_cons_zero, List.set_cons_succ, i64_w, i32_w]
          rfl
         exact norm_ (by simp only [putAll, Act.put, List.setIfInBounds_toArray, List.set_cons_zero, List.set_cons_succ]) (hCont (.slice (some ado28) y576.length co28, ado28) _ ⟨hHeld, (by (with_reducible repeat (first | apply Kd.R_alloc | apply Kd.R_drewN | apply Kd.R_drew)); exact Kd.R_mono HO578.out (fun _ hk => ⟨hk.1.2, hk.2⟩)), ⟨_, rfl⟩, (by (with_reducible repeat (first|apply kN|apply kD|apply kA)); exact BK558.out), (by (with_reducible repeat (first|apply kN|apply kD|apply kA)); exact BK572.out), (by repeat (first | (with_reducible first | exact HI0.out | apply sA|apply sN|apply sD|apply s1|apply s2 | refine IsS174.far ?_ NB0_558.out _ | refine IsS174.far ?_ NB0_572.out _) | exact HI0.out)), (by repeat (first | (with_reducible first | exact HK.out | apply eS|apply eN|apply eD|apply eA | refine keep_far ?_ GW558.out _ | refine keep_far ?_ GW572.out _) | exact HK.out)), (by repeat (first | (with_reducible first | exact HB.out | apply bA|apply bN|apply b1 | refine below_set ?_ (IsS174.ge HI0.out) | refine below_set ?_ (Aside0.out (by assumption))) | exact HB.out))⟩)
        ·skip
         refine goes_ Try.func123 (by kernel_rfl) rfl #[.pointer (some ⟨g, 0, none⟩), .int .i64 5] (by rfl) rfl rfl (by first|rfl|(simp only [List.map_toArray, List.map_cons, List.map_nil]; try rfl)) ?_
         with_reducible refine (spec_l01Next.calls g s0_0 x1001_1 x1002_1 5 t579 t580 t581 w0 _ ?side1 ?side2 A21.out).mono ?_
         (case side1 => repeat (first | (with_reducible first | exact HI0.out | apply sA|apply sN|apply sD|apply s1|apply s2 | refine IsS174.far ?_ NB0_558.out _ | refine IsS174.far ?_ NB0_572.out _) | exact HI0.out))
         (case side2 => repeat (first | (with_reducible first | exact HB.out | apply bA|apply bN|apply b1 | refine below_set ?_ (IsS174.ge HI0.out) | refine below_set ?_ (Aside0.out (by assumption))) | exact HB.out))
         rintro e w26 ⟨rfl, hi, hb, hk⟩
         refine ⟨_, rfl, ?_⟩
         have n0_ := aM (KeepBut.blk hk (g' := gb558) (o := .cells #[.int .i64 0, .int .i64 0, .int .i64 0, .int .i64 0] 51 (0, 0)) (by (with_reducible repeat (first|apply kN|apply kD|apply kA)); exact BK558.out) NB558_0.out (by simp))
         have n1_ := aM (KeepBut.blk hk (g' := gb572) (o := .cells #[.int .i64 x573000_1, .int .i64 x573001_1, .int .i64 x573002_1, .int .i64 x573003_1] 51 (0, 0)) (by (with_reducible repeat (first|apply kN|apply kD|apply kA)); exact BK572.out) NB572_0.out (by simp))
         have n2_ := aM (KeepBut.trans (by repeat (first | (with_reducible first | exact HK.out | apply eS|apply eN|apply eD|apply eA | refine keep_far ?_ GW558.out _ | refine keep_far ?_ GW572.out _) | exact HK.out)) hk (.inl rfl))
         have n3_ := aM (hb)
         have n4_ := aM (hi)
         clear BK558
         clear BK572
         clear HK
         clear HB
         clear HI0
         have BK558 := n0_
         have BK572 := n1_
         have HK := n2_
         have HB := n3_
         have HI0 := n4_
         clear n0_ n1_ n2_ n3_ n4_
         (try clear hb)
         (try clear hb2)
         (try clear hk)
         (try clear hi)
         refine hK.out _ _ ⟨(blk_cell BK572.out 0).trans rfl, (blk_cell BK572.out 1).trans rfl, (blk_cell BK572.out 2).trans rfl, (blk_cell BK572.out 3).trans rfl⟩ (fun hHeld => ?_)
         clear hK K
         refine norm_ (a' := ?_) ?_ ?_
         rotate_left
         ·show Act.put _ (some 25) _ = _
          simp only [Act.put, List.setIfInBounds_toArray, List.set_cons_zero, List.set_cons_succ, i64_w, i32_w]
          rfl
         refine one_ (i := 6) (N := some 23) #[true, true, true, true, true, true, true, true, true, false, false, false, false] rfl rfl (one_of HT_.out (by kernel_rfl)) (by decide) (fun K hK => ?_)
         refine Kd.R_lit_step k51 _ 51 ?hg (N := 23) ?hd (xs := ([(⟨1, 1, 0, 1⟩ : S51), (⟨1, 0, 1, 1⟩ : S51), (⟨1, (-2), 0, 1⟩ : S51), (⟨0, 1, 1, 0⟩ : S51), (⟨(-1), 0, 0, 1⟩ : S51)] : List (S51))) (inner := [.int .i64 1, .int .i64 1, .int .i64 0, .int .i64 1, .int .i64 1, .int .i64 0, .int .i64 1, .int .i64 1, .int .i64 1, .int .i64 (-2), .int .i64 0, .int .i64 1, .int .i64 0, .int .i64 1, .int .i64 1, .int .i64 0, .int .i64 (-1), .int .i64 0, .int .i64 0, .int .i64 1]) (ok := fun _ => True) (okp := fun _ => True) ?hr ?hp (fun _ hk => hk) trivial (Below.refl _ _) (Nat.le_refl _) (by simp) ?_; (case hd => rfl); (case hg => rfl); (case hr => first | (go_simp; done) | (go_simp; rfl)); (case hp => exact (Reps.c4 (show Kd.M k51 _ _ _ (⟨1, 1, 0, 1⟩ : S51) [.int .i64 1, .int .i64 1, .int .i64 0, .int .i64 1] from (k51_mkM _ _ _ (⟨1, 1, 0, 1⟩ : S51) )) (Reps.c4 (show Kd.M k51 _ _ _ (⟨1, 0, 1, 1⟩ : S51) [.int .i64 1, .int .i64 0, .int .i64 1, .int .i64 1] from (k51_mkM _ _ _ (⟨1, 0, 1, 1⟩ : S51) )) (Reps.c4 (show Kd.M k51 _ _ _ (⟨1, (-2), 0, 1⟩ : S51) [.int .i64 1, .int .i64 (-2), .int .i64 0, .int .i64 1] from (k51_mkM _ _ _ (⟨1, (-2), 0, 1⟩ : S51) )) (Reps.c4 (show Kd.M k51 _ _ _ (⟨0, 1, 1, 0⟩ : S51) [.int .i64 0, .int .i64 1, .int .i64 1, .int .i64 0] from (k51_mkM _ _ _ (⟨0, 1, 1, 0⟩ : S51) )) (Reps.c4 (show Kd.M k51 _ _ _ (⟨(-1), 0, 0, 1⟩ : S51) [.int .i64 (-1), .int .i64 0, .int .i64 0, .int .i64 1] from (k51_mkM _ _ _ (⟨(-1), 0, 0, 1⟩ : S51) )) (Reps.none _ _)))))))
         intro v577 w27 ho28 hb hg_ hnew_
         clear hg_ hnew_
         (first | rw [← Ny576.out] at ho28 | (simp only [Int.reduceToNat] at ho28; rw [← Ny576.out] at ho28))
         have n0_ := aM (Kd.R_lower (Kd.R_newB (Kd.R_newB ho28 (g := gb558) (o := .cells #[.int .i64 0, .int .i64 0, .int .i64 0, .int .i64 0] 51 (0, 0)) (by (with_reducible repeat (first|apply kN|apply kD|apply kA)); exact BK558.out)) (g := gb572) (o := .cells #[.int .i64 x573000_1, .int .i64 x573001_1, .int .i64 x573002_1, .int .i64 x573003_1] 51 (0, 0)) (by (with_reducible repeat (first|apply kN|apply kD|apply kA)); exact BK572.out)) (keep_size (w := w) (g := g) (row := none) (by repeat (first | (with_reducible first | exact HK.out | apply eS|apply eN|apply eD|apply eA | refine keep_far ?_ GW558.out _ | refine keep_far ?_ GW572.out _) | exact HK.out))))
         have n1_ := aM (blk_below (g := gb558) (o := .cells #[.int .i64 0, .int .i64 0, .int .i64 0, .int .i64 0] 51 (0, 0)) (by (with_reducible repeat (first|apply kN|apply kD|apply kA)); exact BK558.out) hb)
         have n2_ := aM (blk_below (g := gb572) (o := .cells #[.int .i64 x573000_1, .int .i64 x573001_1, .int .i64 x573002_1, .int .i64 x573003_1] 51 (0, 0)) (by (with_reducible repeat (first|apply kN|apply kD|apply kA)); exact BK572.out) hb)
         have n3_ := aM (IsS174.below (by repeat (first | (with_reducible first | exact HI0.out | apply sA|apply sN|apply sD|apply s1|apply s2 | refine IsS174.far ?_ NB0_558.out _ | refine IsS174.far ?_ NB0_572.out _) | exact HI0.out)) hb)
         have n4_ := aM (KeepBut.trans (by repeat (first | (with_reducible first | exact HK.out | apply eS|apply eN|apply eD|apply eA | refine keep_far ?_ GW558.out _ | refine keep_far ?_ GW572.out _) | exact HK.out)) (KeepBut.of_below hb g none) (.inl rfl))
         have n5_ := aM (below_step (by repeat (first | (with_reducible first | exact HB.out | apply bA|apply bN|apply b1 | refine below_set ?_ (IsS174.ge HI0.out) | refine below_set ?_ (Aside0.out (by assumption))) | exact HB.out)) hb)
         clear BK558
         clear BK572
         clear HI0
         clear HK
         clear HB
         have HO578 := n0_
         have BK558 := n1_
         have BK572 := n2_
         have HI0 := n3_
         have HK := n4_
         have HB := n5_
         clear n0_ n1_ n2_ n3_ n4_ n5_
         clear hb ho28
         obtain ⟨Ao29, co29, eo29⟩ := Kd.R_slice HO578.out
         subst eo29
         obtain ⟨ado29, fo29, _⟩ := at_T51 (Kd.R_reads' HO578.out).2.2 0 (by decide) (by rw [Ny576.out]; simp)
         cases fo29
         refine hK.out _ _ ⟨(blk_cell BK572.out 0).trans rfl, (blk_cell BK572.out 1).trans rfl, (blk_cell BK572.out 2).trans rfl, (blk_cell BK572.out 3).trans rfl⟩ (fun hHeld => ?_)
         clear hK K
         refine norm_ (a' := ?_) ?_ ?_
         rotate_left
         ·show Act.put _ (some 23) _ = _
          simp only [Act.put, List.setIfInBounds_toArray, List.set_cons_zero, List.set_cons_succ, i64_w, i32_w]
          rfl
         exact norm_ (by simp only [putAll, Act.put, List.setIfInBounds_toArray, List.set_cons_zero, List.set_cons_succ]) (hCont (.slice (some ado29) y576.length co29, ado29) _ ⟨hHeld, (by (with_reducible repeat (first | apply Kd.R_alloc | apply Kd.R_drewN | apply Kd.R_drew)); exact Kd.R_mono HO578.out (fun _ hk => ⟨hk.1.2, hk.2⟩)), ⟨_, rfl⟩, (by (with_reducible repeat (first|apply kN|apply kD|apply kA)); exact BK558.out), (by (with_reducible repeat (first|apply kN|apply kD|apply kA)); exact BK572.out), (by repeat (first | (with_reducible first | exact HI0.out | apply sA|apply sN|apply sD|apply s1|apply s2 | refine IsS174.far ?_ NB0_558.out _ | refine IsS174.far ?_ NB0_572.out _) | exact HI0.out)), (by repeat (first | (with_reducible first | exact HK.out | apply eS|apply eN|apply eD|apply eA | refine keep_far ?_ GW558.out _ | refine keep_far ?_ GW572.out _) | exact HK.out)), (by repeat (first | (with_reducible first | exact HB.out | apply bA|apply bN|apply b1 | refine below_set ?_ (IsS174.ge HI0.out) | refine below_set ?_ (Aside0.out (by assumption))) | exact HB.out))⟩)
       rintro ⟨v577, adz_v577⟩ w30 ⟨hS_, h0_, h1_, h2_, h3_, h4_, h5_, h6_⟩
       have n0_ : Aside0 (Kd.R k51 51 w30 w.heap.size (fun k_ => k_ ≠ gb558 ∧ k_ ≠ gb572) v577 y576) := ⟨h0_⟩
       have n1_ : Aside0 (∃ c_, (v577 : Value) = .slice (some adz_v577) y576.length c_) := ⟨h1_⟩
       have n2_ : Aside0 (w30.heap[gb558]? = some (.cells #[.int .i64 0, .int .i64 0, .int .i64 0, .int .i64 0] 51 (0, 0))) := ⟨h2_⟩
       have n3_ : Aside0 (w30.heap[gb572]? = some (.cells #[.int .i64 x573000_1, .int .i64 x573001_1, .int .i64 x573002_1, .int .i64 x573003_1] 51 (0, 0))) := ⟨h3_⟩
       have n4_ : Aside0 (IsS174 w0 w30 g s0_0 t580 t581) := ⟨h4_⟩
       have n5_ : Aside0 (KeepBut w w30 g none) := ⟨h5_⟩
       have n6_ : Aside0 (Below w0.heap.size w0 w30) := ⟨h6_⟩
       clear BK558
       clear BK572
       clear HI0
       clear HK
       clear HB
       clear h0_ h1_ h2_ h3_ h4_ h5_ h6_
       have HO578 := n0_
       have HA_HO578 := n1_
       have BK558 := n2_
       have BK572 := n3_
       have HI0 := n4_
       have HK := n5_
       have HB := n6_
       clear n0_ n1_ n2_ n3_ n4_ n5_ n6_
       have hHeld : w30.cell? ⟨gb572, 0, none⟩ = some (.int .i64 x573000_1) ∧ w30.cell? ⟨gb572, 1, none⟩ = some (.int .i64 x573001_1) ∧ w30.cell? ⟨gb572, 2, none⟩ = some (.int .i64 x573002_1) ∧ w30.cell? ⟨gb572, 3, none⟩ = some (.int .i64 x573003_1) := hS_
       obtain ⟨co31, eo31⟩ := HA_HO578.out
       clear HA_HO578
       subst eo31
       refine norm_ (a' := ?_) ?_ ?_
       rotate_left
       ·simp only [putAll, Act.put, List.setIfInBounds_toArray, List.set_cons_zero, List.set_cons_succ]
        rfl
       refine pure_ (i := 9) (N := some 26) (v := ?_) (a' := ?_) #[true, true, true, true, true, true, true, true, true, true, false, false, false] rfl rfl (any_of HT_.out (by kernel_rfl)) (fun _ _ _ h => h) (Or.inl ⟨by rfl, ?_⟩) ?_ ?_
       rotate_left
       ·intro w'
        go_simp
        with_reducible rfl
       rotate_left
       ·simp only [Act.put, List.setIfInBounds_toArray, List.set_cons_zero, List.set_cons_succ, i64_w, i32_w]
        rfl
       refine one_ (i := 10) (N := some 27) #[true, true, true, true, true, true, true, true, true, true, true, false, false] rfl rfl (one_of HT_.out (by kernel_rfl)) (by decide) (fun K hK => ?_)
       (have p582 : 0 ≤ (t579 : Int) := of_decide_eq_true (by first | (with_reducible assumption) | assumption); have q582 : t579 < (y576.length : Int) := of_decide_eq_true (by first | (with_reducible assumption) | assumption); obtain ⟨ad582, e582, hx582_0, hx582_1, hx582_2, hx582_3⟩ := at_T51 (Kd.R_reads' HO578.out).2.2 t579 p582 q582; obtain rfl : adz_v577 = ad582 := (by injection e582))
       refine value_ (w1 := ?_) (v := ?_) (by rfl) rfl ?_ ?_
       rotate_left 2
       ·go_simp
        constructor
        ·rfl
        ·rfl
       clear hx582_0 hx582_1 hx582_2 hx582_3
       refine hK.out _ _ ⟨(blk_cell BK572.out 0).trans rfl, (blk_cell BK572.out 1).trans rfl, (blk_cell BK572.out 2).trans rfl, (blk_cell BK572.out 3).trans rfl⟩ (fun hHeld => ?_)
       clear hK K
       refine norm_ (a' := ?_) ?_ ?_
       rotate_left
       ·show Act.put _ (some 27) _ = _
        simp only [Act.put, List.setIfInBounds_toArray, List.set_cons_zero, List.set_cons_succ, i64_w, i32_w]
        rfl
       refine one_ (i := 11) (N := some 28) #[true, true, true, true, true, true, true, true, true, true, true, true, false] rfl rfl (one_of HT_.out (by kernel_rfl)) (by decide) (fun K hK => ?_)
       refine goes_ Try.func151 (by kernel_rfl) rfl #[.agg #[.int .i64 x573000_1, .int .i64 x573001_1, .int .i64 x573002_1, .int .i64 x573003_1], .agg #[.int .i64 ((rd_T51 y576 t579).f0), .int .i64 ((rd_T51 y576 t579).f1), .int .i64 ((rd_T51 y576 t579).f2), .int .i64 ((rd_T51 y576 t579).f3)]] (by rfl) rfl rfl (by first|rfl|(simp only [List.map_toArray, List.map_cons, List.map_nil]; try rfl)) ?_
       with_reducible refine (spec_l02Multiply.calls x573000_1 x573001_1 x573002_1 x573003_1 ((rd_T51 y576 t579).f0) ((rd_T51 y576 t579).f1) ((rd_T51 y576 t579).f2) ((rd_T51 y576 t579).f3) t583 t584 t585 t586 _ A24.out).mono ?_
       rintro e w32 ⟨rfl, hb⟩
       refine ⟨_, rfl, ?_⟩
       have n0_ := aM (Kd.R_below (by (with_reducible repeat (first | apply Kd.R_alloc | apply Kd.R_drewN | apply Kd.R_drew)); exact HO578.out) hb)
       have n1_ := aM (blk_below (g := gb558) (o := .cells #[.int .i64 0, .int .i64 0, .int .i64 0, .int .i64 0] 51 (0, 0)) (by (with_reducible repeat (first|apply kN|apply kD|apply kA)); exact BK558.out) hb)
       have n2_ := aM (blk_below (g := gb572) (o := .cells #[.int .i64 x573000_1, .int .i64 x573001_1, .int .i64 x573002_1, .int .i64 x573003_1] 51 (0, 0)) (by (with_reducible repeat (first|apply kN|apply kD|apply kA)); exact BK572.out) hb)
       have n3_ := aM (IsS174.below (by repeat (first | (with_reducible first | exact HI0.out | apply sA|apply sN|apply sD|apply s1|apply s2 | refine IsS174.far ?_ NB0_558.out _ | refine IsS174.far ?_ NB0_572.out _) | exact HI0.out)) hb)
       have n4_ := aM (KeepBut.trans (by repeat (first | (with_reducible first | exact HK.out | apply eS|apply eN|apply eD|apply eA | refine keep_far ?_ GW558.out _ | refine keep_far ?_ GW572.out _) | exact HK.out)) (KeepBut.of_below hb g none) (.inl rfl))
       have n5_ := aM (below_step (by repeat (first | (with_reducible first | exact HB.out | apply bA|apply bN|apply b1 | refine below_set ?_ (IsS174.ge HI0.out) | refine below_set ?_ (Aside0.out (by assumption))) | exact HB.out)) hb)
       clear HO578
       clear BK558
       clear BK572
       clear HI0
       clear HK
       clear HB
       have HO578 := n0_
       have BK558 := n1_
       have BK572 := n2_
       have HI0 := n3_
       have HK := n4_
       have HB := n5_
       clear n0_ n1_ n2_ n3_ n4_ n5_
       (try clear hb)
       (try clear hb2)
       (try clear hk)
       (try clear hi)
       refine hK.out _ _ ⟨(blk_cell BK572.out 0).trans rfl, (blk_cell BK572.out 1).trans rfl, (blk_cell BK572.out 2).trans rfl, (blk_cell BK572.out 3).trans rfl⟩ (fun hHeld => ?_)
       clear hK K
       refine norm_ (a' := ?_) ?_ ?_
       rotate_left
       ·show Act.put _ (some 28) _ = _
        simp only [Act.put, List.setIfInBounds_toArray, List.set_cons_zero, List.set_cons_succ, i64_w, i32_w]
        rfl
       refine last_ (i := 12) (N := none) #[true, true, true, true, true, true, true, true, true, true, true, true, true] rfl rfl (one_of HT_.out (by kernel_rfl)) (by decide) (fun K hK => ?_)
       have hs33 : w32.cell? ⟨gb572, 0, none⟩ = some (.int .i64 x573000_1) := (blk_cell BK572.out 0).trans rfl
       have hfs33 := blk_frozen BK572.out 0
       have hns33_0 := NB558_572.out
       have hms33_0 := NB572_558.out
       have hs34 : w32.cell? ⟨gb572, 1, none⟩ = some (.int .i64 x573001_1) := (blk_cell BK572.out 1).trans rfl
       have hfs34 := blk_frozen BK572.out 1
       have hns34_0 := NB558_572.out
       have hms34_0 := NB572_558.out
       have hs35 : w32.cell? ⟨gb572, 2, none⟩ = some (.int .i64 x573002_1) := (blk_cell BK572.out 2).trans rfl
       have hfs35 := blk_frozen BK572.out 2
       have hns35_0 := NB558_572.out
       have hms35_0 := NB572_558.out
       have hs36 : w32.cell? ⟨gb572, 3, none⟩ = some (.int .i64 x573003_1) := (blk_cell BK572.out 3).trans rfl
       have hfs36 := blk_frozen BK572.out 3
       have hns36_0 := NB558_572.out
       have hms36_0 := NB572_558.out
       refine skip_ (w1 := ?_) (by rfl) rfl ?_ ?_
       rotate_left
       ·go_simp
        rfl
       refine hK.out _ _ ?_
       clear hK K
       refine done_ (done_of HT_.out (by kernel_rfl)) ?_
       try go_wp2
       go_roundg k1
       case measure => have := HK1.out; omega
       case rel => exact ⟨(wrap64 (x4_1 - 1)), (t580), (t581), (t583), (t584), (t585), (t586), (by first | rfl | (simp; done) | (simp [*]; done)), H', ⟨by have := HK1.out; omega⟩, ⟨by (repeat (first|(with_reducible first|apply kN|apply kD|apply kA)|refine blk_far ?_ NB558_572.out _)); exact BK558.out⟩, ⟨by (with_reducible repeat (first|apply kN|apply kD|apply kA)); refine blk_put (cs := #[.int .i64 t583, .int .i64 t584, .int .i64 t585, .int .i64 x573003_1]) ?_ 3 _ rfl; (with_reducible repeat (first|apply kN|apply kD|apply kA)); refine blk_put (cs := #[.int .i64 t583, .int .i64 t584, .int .i64 x573002_1, .int .i64 x573003_1]) ?_ 2 _ rfl; (with_reducible repeat (first|apply kN|apply kD|apply kA)); refine blk_put (cs := #[.int .i64 t583, .int .i64 x573001_1, .int .i64 x573002_1, .int .i64 x573003_1]) ?_ 1 _ rfl; (with_reducible repeat (first|apply kN|apply kD|apply kA)); refine blk_put (cs := #[.int .i64 x573000_1, .int .i64 x573001_1, .int .i64 x573002_1, .int .i64 x573003_1]) ?_ 0 _ rfl; (with_reducible repeat (first|apply kN|apply kD|apply kA)); exact BK572.out⟩, ⟨by repeat (first | (with_reducible first | exact HI0.out | apply sA|apply sN|apply sD|apply s1|apply s2 | refine IsS174.far ?_ NB0_558.out _ | refine IsS174.far ?_ NB0_572.out _) | exact HI0.out)⟩, ⟨by repeat (first | (with_reducible first | exact HK.out | apply eS|apply eN|apply eD|apply eA | refine keep_far ?_ GW558.out _ | refine keep_far ?_ GW572.out _) | exact HK.out)⟩, ⟨by repeat (first | (with_reducible first | exact HB.out | apply bA|apply bN|apply b1 | refine below_set ?_ (IsS174.ge HI0.out) | refine below_set ?_ (Aside0.out (by assumption))) | exact HB.out)⟩⟩
      ·rw [if_neg c23] at H
       exact absurd H (by simp)
     ·rw [if_neg c22] at H
      exact absurd H (by simp)
    ·rw [if_neg c20] at H
     have c20b0 : decide (0 < x4_1) = false := decide_eq_false c20
     clear c20
     replace H := Option.bind_eq_some_iff.mp H
     obtain ⟨⟨t587, t588, t589⟩, A370, H⟩ := H
     try dsimp only at H
     have A37 := aM A370
     clear A370
     by_cases c38 : t587 = 0
     ·rw [if_pos c38] at H
      have c38b0 : (t587 == 0) = true := beq_iff_eq.mpr c38
      have c38b1 : (t587 != 0) = false := bne_eq_false_iff_eq.mpr c38
      clear c38
      simp only [Option.some.injEq, Prod.mk.injEq] at H
      obtain ⟨rfl, rfl, rfl, rfl, rfl, rfl⟩ := H
      go_wp2_with (first | ((with_reducible refine gate_callee (f := 123) rfl ?_); refine goesL_ (some 30) rfl rfl Try.func123 (by kernel_rfl) rfl #[.pointer (some ⟨g, 0, none⟩), .int .i64 20] rfl (by first|rfl|(simp only [List.map_toArray, List.map_cons, List.map_nil]; try rfl)) ?_; (with_reducible refine (spec_l01Next.calls g s0_0 x1001_1 x1002_1 20 t587 t588 t589 w0 _ ?side1 ?side2 A37.out).mono ?_); (case side1 => repeat (first | (with_reducible first | exact HI0.out | apply sA|apply sN|apply sD|apply s1|apply s2 | refine IsS174.far ?_ NB0_558.out _ | refine IsS174.far ?_ NB0_572.out _) | exact HI0.out)); (case side2 => repeat (first | (with_reducible first | exact HB.out | apply bA|apply bN|apply b1 | refine below_set ?_ (IsS174.ge HI0.out) | refine below_set ?_ (Aside0.out (by assumption))) | exact HB.out)); rintro e w39 ⟨rfl, hi, hb, hk⟩; refine ⟨_, rfl, ?_⟩; have n0_ := aM (KeepBut.blk hk (g' := gb558) (o := .cells #[.int .i64 0, .int .i64 0, .int .i64 0, .int .i64 0] 51 (0, 0)) (by (with_reducible repeat (first|apply kN|apply kD|apply kA)); exact BK558.out) NB558_0.out (by simp)); have n1_ := aM (KeepBut.blk hk (g' := gb572) (o := .cells #[.int .i64 x573000_1, .int .i64 x573001_1, .int .i64 x573002_1, .int .i64 x573003_1] 51 (0, 0)) (by (with_reducible repeat (first|apply kN|apply kD|apply kA)); exact BK572.out) NB572_0.out (by simp)); have n2_ := aM (KeepBut.trans (by repeat (first | (with_reducible first | exact HK.out | apply eS|apply eN|apply eD|apply eA | refine keep_far ?_ GW558.out _ | refine keep_far ?_ GW572.out _) | exact HK.out)) hk (.inl rfl)); have n3_ := aM (hb); have n4_ := aM (hi); clear BK558; clear BK572; clear HK; clear HB; clear HI0; have BK558 := n0_; have BK572 := n1_; have HK := n2_; have HB := n3_; have HI0 := n4_; clear n0_ n1_ n2_ n3_ n4_; (try clear hb); have hnb40 := NB572_558.out; have hnc40 := NB558_572.out; have hnb41 := NB572_0.out; have hnc41 := NB0_572.out; have hcz42_0 : w39.cell? ⟨gb572, 0, none⟩ = some (.int .i64 x573000_1) := (blk_cell BK572.out 0).trans rfl; have hcz42_1 : w39.cell? ⟨gb572, 1, none⟩ = some (.int .i64 x573001_1) := (blk_cell BK572.out 1).trans rfl; have hcz42_2 : w39.cell? ⟨gb572, 2, none⟩ = some (.int .i64 x573002_1) := (blk_cell BK572.out 2).trans rfl; have hcz42_3 : w39.cell? ⟨gb572, 3, none⟩ = some (.int .i64 x573003_1) := (blk_cell BK572.out 3).trans rfl; have hfz42_0 := blk_frozen BK572.out 0; have hfz42_1 := blk_frozen BK572.out 1; have hfz42_2 := blk_frozen BK572.out 2; have hfz42_3 := blk_frozen BK572.out 3; have hnb43 := NB558_0.out; have hnc43 := NB0_558.out; have hcz44_0 : w39.cell? ⟨gb558, 0, none⟩ = some (.int .i64 0) := (blk_cell BK558.out 0).trans rfl; have hcz44_1 : w39.cell? ⟨gb558, 1, none⟩ = some (.int .i64 0) := (blk_cell BK558.out 1).trans rfl; have hcz44_2 : w39.cell? ⟨gb558, 2, none⟩ = some (.int .i64 0) := (blk_cell BK558.out 2).trans rfl; have hcz44_3 : w39.cell? ⟨gb558, 3, none⟩ = some (.int .i64 0) := (blk_cell BK558.out 3).trans rfl; have hfz44_0 := blk_frozen BK558.out 0; have hfz44_1 := blk_frozen BK558.out 1; have hfz44_2 := blk_frozen BK558.out 2; have hfz44_3 := blk_frozen BK558.out 3))
      refine bodyPost_ret (results_cell_row rfl _ _ gb558 51 #[.int .i64 (wrap64 (x573000_1 + 1)), .int .i64 x573001_1, .int .i64 x573002_1, .int .i64 x573003_1] (0, 0) _ rfl (by (with_reducible repeat (first|apply kN|apply kD|apply kA)); refine blk_put (cs := #[.int .i64 (wrap64 (x573000_1 + 1)), .int .i64 x573001_1, .int .i64 x573002_1, .int .i64 0]) ?_ 3 _ rfl; (with_reducible repeat (first|apply kN|apply kD|apply kA)); refine blk_put (cs := #[.int .i64 (wrap64 (x573000_1 + 1)), .int .i64 x573001_1, .int .i64 0, .int .i64 0]) ?_ 2 _ rfl; (with_reducible repeat (first|apply kN|apply kD|apply kA)); refine blk_put (cs := #[.int .i64 (wrap64 (x573000_1 + 1)), .int .i64 0, .int .i64 0, .int .i64 0]) ?_ 1 _ rfl; (with_reducible repeat (first|apply kN|apply kD|apply kA)); refine blk_put (cs := #[.int .i64 0, .int .i64 0, .int .i64 0, .int .i64 0]) ?_ 0 _ rfl; (repeat (first|(with_reducible first|apply kN|apply kD|apply kA)|refine blk_far ?_ NB558_572.out _)); exact BK558.out) Try.underlying51 rfl (by kernel_rfl)) rfl ?_
      exact ⟨by first|rfl|(simp [*, errW_none, errW_some] <;> rfl), by repeat (first | (with_reducible first | exact HI0.out | apply sA|apply sN|apply sD|apply s1|apply s2 | refine IsS174.far ?_ NB0_558.out _ | refine IsS174.far ?_ NB0_572.out _) | exact HI0.out), by repeat (first | (with_reducible first | exact HB.out | apply bA|apply bN|apply b1 | refine below_set ?_ (IsS174.ge HI0.out) | refine below_set ?_ (Aside0.out (by assumption))) | exact HB.out), by repeat (first | (with_reducible first | exact HK.out | apply eS|apply eN|apply eD|apply eA | refine keep_far ?_ GW558.out _ | refine keep_far ?_ GW572.out _) | exact HK.out)⟩
     ·rw [if_neg c38] at H
      have c38b0 : (t587 == 0) = false := beq_eq_false_iff_ne.mpr c38
      have c38b1 : (t587 != 0) = true := bne_iff_ne.mpr c38
      by_cases c45 : t587 = 1
      ·rw [if_pos c45] at H
       have c45b0 : (t587 == 1) = true := beq_iff_eq.mpr c45
       have c45b1 : (t587 != 1) = false := bne_eq_false_iff_eq.mpr c45
       clear c45
       obtain ⟨y590, hy590⟩ : ∃ y_ : List Int, y_ = (([999, 1000, 1001] : List Int)) := ⟨_, rfl⟩
       replace H : ((spec_l01Pick.f s0_0 t588 t589 y590).bind fun bt593 => (some (1, bt593.1, 0, 1, bt593.2.1, bt593.2.2))) = some (r1, r2, r3, r4, r5, r6) := by first | (rw [hy590]; with_reducible exact H) | (have H2_ := (Option.bind_some _ _).symm.trans H; rw [hy590]; with_reducible exact H2_) | (have H2_ := (Option.bind_some _ _).symm.trans H; with_reducible exact H2_) | with_reducible exact H | (rw [hy590]; exact H) | exact H
       have Ny590 := aM hy590
       clear hy590
       replace H := Option.bind_eq_some_iff.mp H
       obtain ⟨⟨t593, t594, t595⟩, A460, H⟩ := H
       try dsimp only at H
       have A46 := aM A460
       clear A460
       simp only [Option.some.injEq, Prod.mk.injEq] at H
       obtain ⟨rfl, rfl, rfl, rfl, rfl, rfl⟩ := H
       go_wp2_with (first | ((with_reducible refine gate_callee (f := 123) rfl ?_); refine goesL_ (some 30) rfl rfl Try.func123 (by kernel_rfl) rfl #[.pointer (some ⟨g, 0, none⟩), .int .i64 20] rfl (by first|rfl|(simp only [List.map_toArray, List.map_cons, List.map_nil]; try rfl)) ?_; (with_reducible refine (spec_l01Next.calls g s0_0 x1001_1 x1002_1 20 t587 t588 t589 w0 _ ?side1 ?side2 A37.out).mono ?_); (case side1 => repeat (first | (with_reducible first | exact HI0.out | apply sA|apply sN|apply sD|apply s1|apply s2 | refine IsS174.far ?_ NB0_558.out _ | refine IsS174.far ?_ NB0_572.out _) | exact HI0.out)); (case side2 => repeat (first | (with_reducible first | exact HB.out | apply bA|apply bN|apply b1 | refine below_set ?_ (IsS174.ge HI0.out) | refine below_set ?_ (Aside0.out (by assumption))) | exact HB.out)); rintro e w47 ⟨rfl, hi, hb, hk⟩; refine ⟨_, rfl, ?_⟩; have n0_ := aM (KeepBut.blk hk (g' := gb558) (o := .cells #[.int .i64 0, .int .i64 0, .int .i64 0, .int .i64 0] 51 (0, 0)) (by (with_reducible repeat (first|apply kN|apply kD|apply kA)); exact BK558.out) NB558_0.out (by simp)); have n1_ := aM (KeepBut.blk hk (g' := gb572) (o := .cells #[.int .i64 x573000_1, .int .i64 x573001_1, .int .i64 x573002_1, .int .i64 x573003_1] 51 (0, 0)) (by (with_reducible repeat (first|apply kN|apply kD|apply kA)); exact BK572.out) NB572_0.out (by simp)); have n2_ := aM (KeepBut.trans (by repeat (first | (with_reducible first | exact HK.out | apply eS|apply eN|apply eD|apply eA | refine keep_far ?_ GW558.out _ | refine keep_far ?_ GW572.out _) | exact HK.out)) hk (.inl rfl)); have n3_ := aM (hb); have n4_ := aM (hi); clear BK558; clear BK572; clear HK; clear HB; clear HI0; have BK558 := n0_; have BK572 := n1_; have HK := n2_; have HB := n3_; have HI0 := n4_; clear n0_ n1_ n2_ n3_ n4_; (try clear hb)) | ((with_reducible refine gate_dst (N := 40) rfl ?_); refine Kd.R_lit (Kd.int .i64) _ 2 ?hg (N := 40) ?hd (xs := ([999, 1000, 1001] : List Int)) (inner := [.int .i64 999, .int .i64 1000, .int .i64 1001]) (ok := fun _ => True) (okp := fun _ => True) ?hr ?hp (fun _ hk => hk) trivial (Below.refl _ _) (Nat.le_refl _) (by simp) ?_; (case hd => rfl); (case hg => rfl); (case hr => first | (go_simp; done) | (go_simp; rfl)); (case hp => exact (Reps.one (show Kd.M (Kd.int .i64) _ _ _ 999 [.int .i64 999] from rfl) (Reps.one (show Kd.M (Kd.int .i64) _ _ _ 1000 [.int .i64 1000] from rfl) (Reps.one (show Kd.M (Kd.int .i64) _ _ _ 1001 [.int .i64 1001] from rfl) (Reps.none _ _))))); intro v591 w48 ho49 hb hg_ hnew_; clear hg_ hnew_; (first | rw [← Ny590.out] at ho49 | (simp only [Int.reduceToNat] at ho49; rw [← Ny590.out] at ho49)); have n0_ := aM (Kd.R_lower ho49 (keep_size (w := w) (g := g) (row := none) (by repeat (first | (with_reducible first | exact HK.out | apply eS|apply eN|apply eD|apply eA | refine keep_far ?_ GW558.out _ | refine keep_far ?_ GW572.out _) | exact HK.out)))); have n1_ := aM (blk_below (g := gb558) (o := .cells #[.int .i64 0, .int .i64 0, .int .i64 0, .int .i64 0] 51 (0, 0)) (by (with_reducible repeat (first|apply kN|apply kD|apply kA)); exact BK558.out) hb); have n2_ := aM (blk_below (g := gb572) (o := .cells #[.int .i64 x573000_1, .int .i64 x573001_1, .int .i64 x573002_1, .int .i64 x573003_1] 51 (0, 0)) (by (with_reducible repeat (first|apply kN|apply kD|apply kA)); exact BK572.out) hb); have n3_ := aM (IsS174.below (by repeat (first | (with_reducible first | exact HI0.out | apply sA|apply sN|apply sD|apply s1|apply s2 | refine IsS174.far ?_ NB0_558.out _ | refine IsS174.far ?_ NB0_572.out _) | exact HI0.out)) hb); have n4_ := aM (KeepBut.trans (by repeat (first | (with_reducible first | exact HK.out | apply eS|apply eN|apply eD|apply eA | refine keep_far ?_ GW558.out _ | refine keep_far ?_ GW572.out _) | exact HK.out)) (KeepBut.of_below hb g none) (.inl rfl)); have n5_ := aM (below_step (by repeat (first | (with_reducible first | exact HB.out | apply bA|apply bN|apply b1 | refine below_set ?_ (IsS174.ge HI0.out) | refine below_set ?_ (Aside0.out (by assumption))) | exact HB.out)) hb); clear BK558; clear BK572; clear HI0; clear HK; clear HB; have HO592 := n0_; have BK558 := n1_; have BK572 := n2_; have HI0 := n3_; have HK := n4_; have HB := n5_; clear n0_ n1_ n2_ n3_ n4_ n5_; clear hb ho49; obtain ⟨Ao50, co50, eo50⟩ := Kd.R_slice HO592.out; subst eo50) | ((with_reducible refine gate_callee (f := 127) rfl ?_); refine goesL_ (some 41) rfl rfl Try.func127 (by kernel_rfl) rfl #[.pointer (some ⟨g, 0, none⟩), .slice Ao50 y590.length co50] rfl (by first|rfl|(simp only [List.map_toArray, List.map_cons, List.map_nil]; try rfl)) ?_; (with_reducible refine (spec_l01Pick.calls g s0_0 t588 t589 _ _ y590 t593 t594 t595 w0 _ ?side1 ?side2 ?side3 ?side4 ?side5 A46.out).mono ?_); (case side1 => repeat (first | (with_reducible first | exact HI0.out | apply sA|apply sN|apply sD|apply s1|apply s2 | refine IsS174.far ?_ NB0_558.out _ | refine IsS174.far ?_ NB0_572.out _) | exact HI0.out)); (case side2 => repeat (first | (with_reducible first | exact HB.out | apply bA|apply bN|apply b1 | refine below_set ?_ (IsS174.ge HI0.out) | refine below_set ?_ (Aside0.out (by assumption))) | exact HB.out)); (case side3 => repeat (first | exact (Kd.R_reads' HO592.out).2.2 | (with_reducible refine Kd.C_alloc ?_ _) | (with_reducible refine Kd.C_drewN ?_ _) | (with_reducible refine Kd.C_drew ?_))); (case side4 => exact (Kd.R_reads' HO592.out).2.1); (case side5 => exact far_slice (IsS174.own_ne HI0.out HO592.out (by decide))); rintro e w51 ⟨rfl, hi, hb, hk⟩; refine ⟨_, rfl, ?_⟩; have n0_ := aM (KeepBut.blk hk (g' := gb558) (o := .cells #[.int .i64 0, .int .i64 0, .int .i64 0, .int .i64 0] 51 (0, 0)) (by (with_reducible repeat (first|apply kN|apply kD|apply kA)); exact BK558.out) NB558_0.out (by simp)); have n1_ := aM (KeepBut.blk hk (g' := gb572) (o := .cells #[.int .i64 x573000_1, .int .i64 x573001_1, .int .i64 x573002_1, .int .i64 x573003_1] 51 (0, 0)) (by (with_reducible repeat (first|apply kN|apply kD|apply kA)); exact BK572.out) NB572_0.out (by simp)); have n2_ := aM (Kd.R_mono (Kd.R_keep (IsS174.apart (show IsS174 w0 _ g s0_0 t588 t589 from by repeat (first | (with_reducible first | exact HI0.out | apply sA|apply sN|apply sD|apply s1|apply s2 | refine IsS174.far ?_ NB0_558.out _ | refine IsS174.far ?_ NB0_572.out _) | exact HI0.out)) (by (with_reducible repeat (first | apply Kd.R_alloc | apply Kd.R_drewN | apply Kd.R_drew)); exact HO592.out) (by decide)) hk (fun _ h => h.2)) (fun _ h => h.1)); have n3_ := aM (KeepBut.trans (by repeat (first | (with_reducible first | exact HK.out | apply eS|apply eN|apply eD|apply eA | refine keep_far ?_ GW558.out _ | refine keep_far ?_ GW572.out _) | exact HK.out)) hk (.inl rfl)); have n4_ := aM (hb); have n5_ := aM (hi); clear BK558; clear BK572; clear HO592; clear HK; clear HB; clear HI0; have BK558 := n0_; have BK572 := n1_; have HO592 := n2_; have HK := n3_; have HB := n4_; have HI0 := n5_; clear n0_ n1_ n2_ n3_ n4_ n5_; (try clear hb); have hnb52 := NB572_558.out; have hnc52 := NB558_572.out; have hnb53 := NB572_0.out; have hnc53 := NB0_572.out; have hcz54_0 : w51.cell? ⟨gb572, 0, none⟩ = some (.int .i64 x573000_1) := (blk_cell BK572.out 0).trans rfl; have hcz54_1 : w51.cell? ⟨gb572, 1, none⟩ = some (.int .i64 x573001_1) := (blk_cell BK572.out 1).trans rfl; have hcz54_2 : w51.cell? ⟨gb572, 2, none⟩ = some (.int .i64 x573002_1) := (blk_cell BK572.out 2).trans rfl; have hcz54_3 : w51.cell? ⟨gb572, 3, none⟩ = some (.int .i64 x573003_1) := (blk_cell BK572.out 3).trans rfl; have hfz54_0 := blk_frozen BK572.out 0; have hfz54_1 := blk_frozen BK572.out 1; have hfz54_2 := blk_frozen BK572.out 2; have hfz54_3 := blk_frozen BK572.out 3; have hnb55 := NB558_0.out; have hnc55 := NB0_558.out; have hcz56_0 : w51.cell? ⟨gb558, 0, none⟩ = some (.int .i64 0) := (blk_cell BK558.out 0).trans rfl; have hcz56_1 : w51.cell? ⟨gb558, 1, none⟩ = some (.int .i64 0) := (blk_cell BK558.out 1).trans rfl; have hcz56_2 : w51.cell? ⟨gb558, 2, none⟩ = some (.int .i64 0) := (blk_cell BK558.out 2).trans rfl; have hcz56_3 : w51.cell? ⟨gb558, 3, none⟩ = some (.int .i64 0) := (blk_cell BK558.out 3).trans rfl; have hfz56_0 := blk_frozen BK558.out 0; have hfz56_1 := blk_frozen BK558.out 1; have hfz56_2 := blk_frozen BK558.out 2; have hfz56_3 := blk_frozen BK558.out 3))
       refine bodyPost_ret (results_cell_row rfl _ _ gb558 51 #[.int .i64 1, .int .i64 t593, .int .i64 0, .int .i64 1] (0, 0) _ rfl (by (with_reducible repeat (first|apply kN|apply kD|apply kA)); refine blk_put (cs := #[.int .i64 1, .int .i64 t593, .int .i64 0, .int .i64 0]) ?_ 3 _ rfl; (with_reducible repeat (first|apply kN|apply kD|apply kA)); refine blk_put (cs := #[.int .i64 1, .int .i64 t593, .int .i64 0, .int .i64 0]) ?_ 2 _ rfl; (with_reducible repeat (first|apply kN|apply kD|apply kA)); refine blk_put (cs := #[.int .i64 1, .int .i64 0, .int .i64 0, .int .i64 0]) ?_ 1 _ rfl; (with_reducible repeat (first|apply kN|apply kD|apply kA)); refine blk_put (cs := #[.int .i64 0, .int .i64 0, .int .i64 0, .int .i64 0]) ?_ 0 _ rfl; (repeat (first|(with_reducible first|apply kN|apply kD|apply kA)|refine blk_far ?_ NB558_572.out _)); exact BK558.out) Try.underlying51 rfl (by kernel_rfl)) rfl ?_
       exact ⟨by first|rfl|(simp [*, errW_none, errW_some] <;> rfl), by repeat (first | (with_reducible first | exact HI0.out | apply sA|apply sN|apply sD|apply s1|apply s2 | refine IsS174.far ?_ NB0_558.out _ | refine IsS174.far ?_ NB0_572.out _) | exact HI0.out), by repeat (first | (with_reducible first | exact HB.out | apply bA|apply bN|apply b1 | refine below_set ?_ (IsS174.ge HI0.out) | refine below_set ?_ (Aside0.out (by assumption))) | exact HB.out), by repeat (first | (with_reducible first | exact HK.out | apply eS|apply eN|apply eD|apply eA | refine keep_far ?_ GW558.out _ | refine keep_far ?_ GW572.out _) | exact HK.out)⟩
      ·rw [if_neg c45] at H
       have c45b0 : (t587 == 1) = false := beq_eq_false_iff_ne.mpr c45
       have c45b1 : (t587 != 1) = true := bne_iff_ne.mpr c45
       simp only [Option.some.injEq, Prod.mk.injEq] at H
       obtain ⟨rfl, rfl, rfl, rfl, rfl, rfl⟩ := H
       go_wp2_with (first | ((with_reducible refine gate_callee (f := 123) rfl ?_); refine goesL_ (some 30) rfl rfl Try.func123 (by kernel_rfl) rfl #[.pointer (some ⟨g, 0, none⟩), .int .i64 20] rfl (by first|rfl|(simp only [List.map_toArray, List.map_cons, List.map_nil]; try rfl)) ?_; (with_reducible refine (spec_l01Next.calls g s0_0 x1001_1 x1002_1 20 t587 t588 t589 w0 _ ?side1 ?side2 A37.out).mono ?_); (case side1 => repeat (first | (with_reducible first | exact HI0.out | apply sA|apply sN|apply sD|apply s1|apply s2 | refine IsS174.far ?_ NB0_558.out _ | refine IsS174.far ?_ NB0_572.out _) | exact HI0.out)); (case side2 => repeat (first | (with_reducible first | exact HB.out | apply bA|apply bN|apply b1 | refine below_set ?_ (IsS174.ge HI0.out) | refine below_set ?_ (Aside0.out (by assumption))) | exact HB.out)); rintro e w57 ⟨rfl, hi, hb, hk⟩; refine ⟨_, rfl, ?_⟩; have n0_ := aM (KeepBut.blk hk (g' := gb558) (o := .cells #[.int .i64 0, .int .i64 0, .int .i64 0, .int .i64 0] 51 (0, 0)) (by (with_reducible repeat (first|apply kN|apply kD|apply kA)); exact BK558.out) NB558_0.out (by simp)); have n1_ := aM (KeepBut.blk hk (g' := gb572) (o := .cells #[.int .i64 x573000_1, .int .i64 x573001_1, .int .i64 x573002_1, .int .i64 x573003_1] 51 (0, 0)) (by (with_reducible repeat (first|apply kN|apply kD|apply kA)); exact BK572.out) NB572_0.out (by simp)); have n2_ := aM (KeepBut.trans (by repeat (first | (with_reducible first | exact HK.out | apply eS|apply eN|apply eD|apply eA | refine keep_far ?_ GW558.out _ | refine keep_far ?_ GW572.out _) | exact HK.out)) hk (.inl rfl)); have n3_ := aM (hb); have n4_ := aM (hi); clear BK558; clear BK572; clear HK; clear HB; clear HI0; have BK558 := n0_; have BK572 := n1_; have HK := n2_; have HB := n3_; have HI0 := n4_; clear n0_ n1_ n2_ n3_ n4_; (try clear hb); have hnb58 := NB572_558.out; have hnc58 := NB558_572.out; have hnb59 := NB572_0.out; have hnc59 := NB0_572.out; have hcz60_0 : w57.cell? ⟨gb572, 0, none⟩ = some (.int .i64 x573000_1) := (blk_cell BK572.out 0).trans rfl; have hcz60_1 : w57.cell? ⟨gb572, 1, none⟩ = some (.int .i64 x573001_1) := (blk_cell BK572.out 1).trans rfl; have hcz60_2 : w57.cell? ⟨gb572, 2, none⟩ = some (.int .i64 x573002_1) := (blk_cell BK572.out 2).trans rfl; have hcz60_3 : w57.cell? ⟨gb572, 3, none⟩ = some (.int .i64 x573003_1) := (blk_cell BK572.out 3).trans rfl; have hfz60_0 := blk_frozen BK572.out 0; have hfz60_1 := blk_frozen BK572.out 1; have hfz60_2 := blk_frozen BK572.out 2; have hfz60_3 := blk_frozen BK572.out 3; have hnb61 := NB558_0.out; have hnc61 := NB0_558.out; have hcz62_0 : w57.cell? ⟨gb558, 0, none⟩ = some (.int .i64 0) := (blk_cell BK558.out 0).trans rfl; have hcz62_1 : w57.cell? ⟨gb558, 1, none⟩ = some (.int .i64 0) := (blk_cell BK558.out 1).trans rfl; have hcz62_2 : w57.cell? ⟨gb558, 2, none⟩ = some (.int .i64 0) := (blk_cell BK558.out 2).trans rfl; have hcz62_3 : w57.cell? ⟨gb558, 3, none⟩ = some (.int .i64 0) := (blk_cell BK558.out 3).trans rfl; have hfz62_0 := blk_frozen BK558.out 0; have hfz62_1 := blk_frozen BK558.out 1; have hfz62_2 := blk_frozen BK558.out 2; have hfz62_3 := blk_frozen BK558.out 3))
       refine bodyPost_ret (results_cell_row rfl _ _ gb558 51 #[.int .i64 x573000_1, .int .i64 x573001_1, .int .i64 x573002_1, .int .i64 x573003_1] (0, 0) _ rfl (by (with_reducible repeat (first|apply kN|apply kD|apply kA)); refine blk_put (cs := #[.int .i64 x573000_1, .int .i64 x573001_1, .int .i64 x573002_1, .int .i64 0]) ?_ 3 _ rfl; (with_reducible repeat (first|apply kN|apply kD|apply kA)); refine blk_put (cs := #[.int .i64 x573000_1, .int .i64 x573001_1, .int .i64 0, .int .i64 0]) ?_ 2 _ rfl; (with_reducible repeat (first|apply kN|apply kD|apply kA)); refine blk_put (cs := #[.int .i64 x573000_1, .int .i64 0, .int .i64 0, .int .i64 0]) ?_ 1 _ rfl; (with_reducible repeat (first|apply kN|apply kD|apply kA)); refine blk_put (cs := #[.int .i64 0, .int .i64 0, .int .i64 0, .int .i64 0]) ?_ 0 _ rfl; (with_reducible repeat (first|apply kN|apply kD|apply kA)); exact BK558.out) Try.underlying51 rfl (by kernel_rfl)) rfl ?_
       exact ⟨by first|rfl|(simp [*, errW_none, errW_some] <;> rfl), by repeat (first | (with_reducible first | exact HI0.out | apply sA|apply sN|apply sD|apply s1|apply s2 | refine IsS174.far ?_ NB0_558.out _ | refine IsS174.far ?_ NB0_572.out _) | exact HI0.out), by repeat (first | (with_reducible first | exact HB.out | apply bA|apply bN|apply b1 | refine below_set ?_ (IsS174.ge HI0.out) | refine below_set ?_ (Aside0.out (by assumption))) | exact HB.out), by repeat (first | (with_reducible first | exact HK.out | apply eS|apply eN|apply eD|apply eA | refine keep_far ?_ GW558.out _ | refine keep_far ?_ GW572.out _) | exact HK.out)⟩

end Go.Proofs.Ytjjbjaagfjljnaa.F

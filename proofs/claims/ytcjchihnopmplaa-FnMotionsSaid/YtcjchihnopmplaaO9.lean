import Derived.Test.YtcjchihnopmplaaO0
import Derived.Test.YtcjchihnopmplaaO3
import Derived.Test.YtcjchihnopmplaaO5
import Derived.Test.YtcjchihnopmplaaO6
import Derived.Test.YtcjchihnopmplaaO8
namespace Go.Proofs.Ytcjchihnopmplaa.F
open Go.RowKit Go.Proofs.YtcjchihnopmplaaW.PrintWords Go.Proofs.YtcjchihnopmplaaW.PrintLast Go.Proofs.YtcjchihnopmplaaW.PrintMore
attribute [local go_sem] max2_int min2_int max_two min_two max_three min_three max_four min_four   -- for this text's walks alone
set_option linter.unusedVariables false
set_option linter.unusedSimpArgs false

def spec_l05Draw.j0 : Nat → List Int → Int → Int → Int → Int → Int → Int → Option (Int × Int × Int × Int × Int × Int × Int × Int)
 | 0, _, _, _, _, _, _, _ => none
 | k + 1, x1000, x1001, x1002, x781000, x781001, x781002, x781003 => (spec_l01Next.f x1000 x1001 x1002 5).bind fun bt800 => (if bt800.1 = 0 then (some (x781000, x781001, x781002, x781003, 0, 0, bt800.2.1, bt800.2.2)) else ((spec_l01Draw.f x1000 bt800.2.1 bt800.2.2).bind fun bt803 => (some (x781000, x781001, x781002, x781003, bt803.1, bt803.2.1, bt803.2.2.1, bt803.2.2.2))))
def spec_l05Draw.f (k : Nat) (s0_0 : List Int) (s0_1 : Int) (s0_2 : Int) : Option (Int × Int × Int × Int × Int × Int × Int × Int) := (spec_l01Next.f s0_0 s0_1 s0_2 2).bind fun bt771 => ((spec_l04DrawMat.f k s0_0 bt771.2.1 bt771.2.2 bt771.1).bind fun bt774 => ((spec_l01Next.f s0_0 bt774.2.2.2.2.1 bt774.2.2.2.2.2 12).bind fun bt781 => (if bt781.1 = 0 then ((spec_l02Draw.f k s0_0 bt781.2.1 bt781.2.2).bind fun bt784 => (spec_l05Draw.j0 k s0_0 bt784.2.2.2.2.1 bt784.2.2.2.2.2 bt784.1 bt784.2.1 bt784.2.2.1 bt784.2.2.2.1)) else (if bt781.1 = 1 then ((spec_l02Unit.f).bind fun bt790 => (spec_l05Draw.j0 k s0_0 bt781.2.1 bt781.2.2 bt790.1 bt790.2.1 bt790.2.2.1 bt790.2.2.2)) else (if bt781.1 = 2 then ((spec_l02DrawFinite.f k s0_0 bt781.2.1 bt781.2.2).bind fun bt794 => (spec_l05Draw.j0 k s0_0 bt794.2.2.2.2.1 bt794.2.2.2.2.2 bt794.1 bt794.2.1 bt794.2.2.1 bt794.2.2.2.1)) else (spec_l05Draw.j0 k s0_0 bt781.2.1 bt781.2.2 bt774.1 bt774.2.1 bt774.2.2.1 bt774.2.2.2.1))))))
set_option maxHeartbeats 8000000 in
set_option maxRecDepth 100000 in
theorem spec_l05Draw.calls (k : Nat) (g : Nat) (s0_0 : List Int) (s0_1 : Int) (s0_2 : Int) (r1 : Int) (r2 : Int) (r3 : Int) (r4 : Int) (r5 : Int) (r6 : Int) (r7 : Int) (r8 : Int) (w0 w : World) (hI : IsS144 w0 w g s0_0 s0_1 s0_2) (hB : Below w0.heap.size w0 w) (h : spec_l05Draw.f k s0_0 s0_1 s0_2 = some (r1, r2, r3, r4, r5, r6, r7, r8)) :
  Calls Try.prog 104 #[.pointer (some ⟨g, 0, none⟩)] w fun e w' => e = .returned (.agg #[.int .i64 r1, .int .i64 r2, .int .i64 r3, .int .i64 r4, .int .i64 r5, .int .i64 r6]) ∧ IsS144 w0 w' g s0_0 r7 r8 ∧ Below w0.heap.size w0 w' ∧ KeepBut w w' g none := by
 have hu64 := Try.underlying64
 have hu51 := Try.underlying51
 have HI0 := aM hI
 have HK := aM (KeepBut.refl w g none)
 have HL := aM hB.size
 clear hI
 have HW0 := aM hB.size
 have HB := aM hB
 clear hB
 have H : ((spec_l01Next.f s0_0 s0_1 s0_2 2).bind fun bt771 => ((spec_l04DrawMat.f k s0_0 bt771.2.1 bt771.2.2 bt771.1).bind fun bt774 => ((spec_l01Next.f s0_0 bt774.2.2.2.2.1 bt774.2.2.2.2.2 12).bind fun bt781 => (if bt781.1 = 0 then ((spec_l02Draw.f k s0_0 bt781.2.1 bt781.2.2).bind fun bt784 => (spec_l05Draw.j0 k s0_0 bt784.2.2.2.2.1 bt784.2.2.2.2.2 bt784.1 bt784.2.1 bt784.2.2.1 bt784.2.2.2.1)) else (if bt781.1 = 1 then ((spec_l02Unit.f).bind fun bt790 => (spec_l05Draw.j0 k s0_0 bt781.2.1 bt781.2.2 bt790.1 bt790.2.1 bt790.2.2.1 bt790.2.2.2)) else (if bt781.1 = 2 then ((spec_l02DrawFinite.f k s0_0 bt781.2.1 bt781.2.2).bind fun bt794 => (spec_l05Draw.j0 k s0_0 bt794.2.2.2.2.1 bt794.2.2.2.2.2 bt794.1 bt794.2.1 bt794.2.2.1 bt794.2.2.2.1)) else (spec_l05Draw.j0 k s0_0 bt781.2.1 bt781.2.2 bt774.1 bt774.2.1 bt774.2.2.1 bt774.2.2.2.1))))))) = some (r1, r2, r3, r4, r5, r6, r7, r8) := h
 clear h
 replace H := Option.bind_eq_some_iff.mp H
 obtain ⟨⟨t771, t772, t773⟩, A20, H⟩ := H
 try dsimp only at H
 have A2 := aM A20
 clear A20
 replace H := Option.bind_eq_some_iff.mp H
 obtain ⟨⟨t774, t775, t776, t777, t778, t779⟩, A30, H⟩ := H
 try dsimp only at H
 have A3 := aM A30
 clear A30
 replace H := Option.bind_eq_some_iff.mp H
 obtain ⟨⟨t781, t782, t783⟩, A40, H⟩ := H
 try dsimp only at H
 have A4 := aM A40
 clear A40
 have HC5 := aM H
 clear H
 go_enter Try.func104, Try.ntmps104
 go_upto_block 0 with (first | ((with_reducible refine gate_dst (N := 2) rfl ?_); refine box_event ?hg (N := 2) ?hd (cs := #[.int .i64 0, .int .i64 0, .int .i64 0, .int .i64 0, .int .i64 0, .int .i64 0]) (t := 64) ?hr ?_; (case hd => rfl); (case hg => rfl); (case hr => first | (go_simp; done) | (go_simp; rfl)); intro gb770 hg w6 hbox hb; have n0_ := aM (IsS144.below (by repeat (first | (with_reducible first | exact HI0.out | apply sA|apply sN|apply sD|apply s1|apply s2) | exact HI0.out)) hb); have n1_ := aM (KeepBut.trans (by repeat (first | (with_reducible first | exact HK.out | apply eS|apply eN|apply eD|apply eA) | exact HK.out)) (KeepBut.of_below hb g none) (.inl rfl)); have n2_ := aM (below_step (by repeat (first | (with_reducible first | exact HB.out | apply bA|apply bN|apply b1 | refine below_set ?_ (IsS144.ge HI0.out)) | exact HB.out)) hb); have n3_ := aM (hbox); have n4_ := aM ((by rw [hg]; exact (keep_size (w := w) (g := g) (row := none) (by repeat (first | (with_reducible first | exact HK.out | apply eS|apply eN|apply eD|apply eA) | exact HK.out))) : w.heap.size ≤ gb770)); have n5_ := aM ((Nat.le_trans HW0.out (by rw [hg]; exact (keep_size (w := w) (g := g) (row := none) (by repeat (first | (with_reducible first | exact HK.out | apply eS|apply eN|apply eD|apply eA) | exact HK.out))) : w.heap.size ≤ gb770) : w0.heap.size ≤ gb770)); have n6_ := aM ((by rw [hg]; exact Nat.ne_of_lt (IsS144.lt (show IsS144 w0 _ g s0_0 s0_1 s0_2 from by repeat (first | (with_reducible first | exact HI0.out | apply sA|apply sN|apply sD|apply s1|apply s2) | exact HI0.out))) : g ≠ gb770)); have n7_ := aM ((by rw [hg]; exact Nat.ne_of_gt (IsS144.lt (show IsS144 w0 _ g s0_0 s0_1 s0_2 from by repeat (first | (with_reducible first | exact HI0.out | apply sA|apply sN|apply sD|apply s1|apply s2) | exact HI0.out))) : gb770 ≠ g)); clear HI0; clear HK; clear HB; have HI0 := n0_; have HK := n1_; have HB := n2_; have BK770 := n3_; have GW770 := n4_; have GE770 := n5_; have NB0_770 := n6_; have NB770_0 := n7_; clear n0_ n1_ n2_ n3_ n4_ n5_ n6_ n7_; clear hb hbox hg) | ((with_reducible refine gate_callee (f := 84) rfl ?_); refine goesL_ (some 6) rfl rfl Try.func84 (by kernel_rfl) rfl #[.pointer (some ⟨g, 0, none⟩), .int .i64 2] rfl (by first|rfl|(simp only [List.map_toArray, List.map_cons, List.map_nil]; try rfl)) ?_; (with_reducible refine (spec_l01Next.calls g s0_0 s0_1 s0_2 2 t771 t772 t773 w0 _ ?side1 ?side2 A2.out).mono ?_); (case side1 => repeat (first | (with_reducible first | exact HI0.out | apply sA|apply sN|apply sD|apply s1|apply s2 | refine IsS144.far ?_ NB0_770.out _) | exact HI0.out)); (case side2 => repeat (first | (with_reducible first | exact HB.out | apply bA|apply bN|apply b1 | refine below_set ?_ (IsS144.ge HI0.out) | refine below_set ?_ GE770.out) | exact HB.out)); rintro e w7 ⟨rfl, hi, hb, hk⟩; refine ⟨_, rfl, ?_⟩; have n0_ := aM (KeepBut.blk hk (g' := gb770) (o := .cells #[.int .i64 0, .int .i64 0, .int .i64 0, .int .i64 0, .int .i64 0, .int .i64 0] 64 (0, 0)) (by (with_reducible repeat (first|apply kN|apply kD|apply kA)); exact BK770.out) NB770_0.out (by simp)); have n1_ := aM (KeepBut.trans (by repeat (first | (with_reducible first | exact HK.out | apply eS|apply eN|apply eD|apply eA | refine keep_far ?_ GW770.out _) | exact HK.out)) hk (.inl rfl)); have n2_ := aM (hb); have n3_ := aM (hi); clear BK770; clear HK; clear HB; clear HI0; have BK770 := n0_; have HK := n1_; have HB := n2_; have HI0 := n3_; clear n0_ n1_ n2_ n3_; (try clear hb)) | ((with_reducible refine gate_callee (f := 105) rfl ?_); refine goesL_ (some 7) rfl rfl Try.func105 (by kernel_rfl) rfl #[.pointer (some ⟨g, 0, none⟩), .int .i64 t771] rfl (by first|rfl|(simp only [List.map_toArray, List.map_cons, List.map_nil]; try rfl)) ?_; (with_reducible refine (spec_l04DrawMat.calls k g s0_0 t772 t773 t771 t774 t775 t776 t777 t778 t779 w0 _ ?side1 ?side2 A3.out).mono ?_); (case side1 => repeat (first | (with_reducible first | exact HI0.out | apply sA|apply sN|apply sD|apply s1|apply s2 | refine IsS144.far ?_ NB0_770.out _) | exact HI0.out)); (case side2 => repeat (first | (with_reducible first | exact HB.out | apply bA|apply bN|apply b1 | refine below_set ?_ (IsS144.ge HI0.out) | refine below_set ?_ GE770.out) | exact HB.out)); rintro e w8 ⟨rfl, hi, hb, hk⟩; refine ⟨_, rfl, ?_⟩; have n0_ := aM (KeepBut.blk hk (g' := gb770) (o := .cells #[.int .i64 0, .int .i64 0, .int .i64 0, .int .i64 0, .int .i64 0, .int .i64 0] 64 (0, 0)) (by (with_reducible repeat (first|apply kN|apply kD|apply kA)); exact BK770.out) NB770_0.out (by simp)); have n1_ := aM (KeepBut.trans (by repeat (first | (with_reducible first | exact HK.out | apply eS|apply eN|apply eD|apply eA | refine keep_far ?_ GW770.out _) | exact HK.out)) hk (.inl rfl)); have n2_ := aM (hb); have n3_ := aM (hi); clear BK770; clear HK; clear HB; clear HI0; have BK770 := n0_; have HK := n1_; have HB := n2_; have HI0 := n3_; clear n0_ n1_ n2_ n3_; (try clear hb)) | ((with_reducible refine gate_dst (N := 3) rfl ?_); refine box_event ?hg (N := 3) ?hd (cs := #[.int .i64 0, .int .i64 0, .int .i64 0, .int .i64 0]) (t := 51) ?hr ?_; (case hd => rfl); (case hg => rfl); (case hr => first | (go_simp; done) | (go_simp; rfl)); intro gb780 hg w9 hbox hb; have n0_ := aM (IsS144.below (by repeat (first | (with_reducible first | exact HI0.out | apply sA|apply sN|apply sD|apply s1|apply s2 | refine IsS144.far ?_ NB0_770.out _) | exact HI0.out)) hb); have n1_ := bB BK770 hb; have n2_ := aM (KeepBut.trans (by repeat (first | (with_reducible first | exact HK.out | apply eS|apply eN|apply eD|apply eA | refine keep_far ?_ GW770.out _) | exact HK.out)) (KeepBut.of_below hb g none) (.inl rfl)); have n3_ := aM (below_step (by repeat (first | (with_reducible first | exact HB.out | apply bA|apply bN|apply b1 | refine below_set ?_ (IsS144.ge HI0.out) | refine below_set ?_ GE770.out) | exact HB.out)) hb); have n4_ := aM (hbox); have n5_ := aM ((by rw [hg]; exact (keep_size (w := w) (g := g) (row := none) (by repeat (first | (with_reducible first | exact HK.out | apply eS|apply eN|apply eD|apply eA | refine keep_far ?_ GW770.out _) | exact HK.out))) : w.heap.size ≤ gb780)); have n6_ := aM ((Nat.le_trans HW0.out (by rw [hg]; exact (keep_size (w := w) (g := g) (row := none) (by repeat (first | (with_reducible first | exact HK.out | apply eS|apply eN|apply eD|apply eA | refine keep_far ?_ GW770.out _) | exact HK.out))) : w.heap.size ≤ gb780) : w0.heap.size ≤ gb780)); have n7_ := nL hg BK770; have n8_ := nG hg BK770; have n9_ := aM ((by rw [hg]; exact Nat.ne_of_lt (IsS144.lt (show IsS144 w0 _ g s0_0 t778 t779 from by repeat (first | (with_reducible first | exact HI0.out | apply sA|apply sN|apply sD|apply s1|apply s2 | refine IsS144.far ?_ NB0_770.out _) | exact HI0.out))) : g ≠ gb780)); have n10_ := aM ((by rw [hg]; exact Nat.ne_of_gt (IsS144.lt (show IsS144 w0 _ g s0_0 t778 t779 from by repeat (first | (with_reducible first | exact HI0.out | apply sA|apply sN|apply sD|apply s1|apply s2 | refine IsS144.far ?_ NB0_770.out _) | exact HI0.out))) : gb780 ≠ g)); clear HI0; clear BK770; clear HK; clear HB; have HI0 := n0_; have BK770 := n1_; have HK := n2_; have HB := n3_; have BK780 := n4_; have GW780 := n5_; have GE780 := n6_; have NB770_780 := n7_; have NB780_770 := n8_; have NB0_780 := n9_; have NB780_0 := n10_; clear n0_ n1_ n2_ n3_ n4_ n5_ n6_ n7_ n8_ n9_ n10_; clear hb hbox hg; have hnb10 := NB780_770.out; have hnc10 := NB770_780.out; have hnb11 := NB780_0.out; have hnc11 := NB0_780.out; obtain ⟨hcz12_0, hcz12_1, hcz12_2, hcz12_3⟩ := z4 BK780; obtain ⟨hfz12_0, hfz12_1, hfz12_2, hfz12_3⟩ := y4 BK780) | ((with_reducible refine gate_callee (f := 84) rfl ?_); refine goesL_ (some 9) rfl rfl Try.func84 (by kernel_rfl) rfl #[.pointer (some ⟨g, 0, none⟩), .int .i64 12] rfl (by first|rfl|(simp only [List.map_toArray, List.map_cons, List.map_nil]; try rfl)) ?_; (with_reducible refine (spec_l01Next.calls g s0_0 t778 t779 12 t781 t782 t783 w0 _ ?side1 ?side2 A4.out).mono ?_); (case side1 => repeat (first | (with_reducible first | exact HI0.out | apply sA|apply sN|apply sD|apply s1|apply s2 | refine IsS144.far ?_ NB0_770.out _ | refine IsS144.far ?_ NB0_780.out _) | exact HI0.out)); (case side2 => repeat (first | (with_reducible first | exact HB.out | apply bA|apply bN|apply b1 | refine below_set ?_ (IsS144.ge HI0.out) | refine below_set ?_ (Aside0.out (by assumption))) | exact HB.out)); rintro e w13 ⟨rfl, hi, hb, hk⟩; refine ⟨_, rfl, ?_⟩; have n0_ := aM (KeepBut.blk hk (g' := gb770) (o := .cells #[.int .i64 0, .int .i64 0, .int .i64 0, .int .i64 0, .int .i64 0, .int .i64 0] 64 (0, 0)) (by (repeat (first|(with_reducible first|apply kN|apply kD|apply kA)|refine blk_far ?_ NB770_780.out _)); exact BK770.out) NB770_0.out (by simp)); have n1_ := aM (KeepBut.blk hk (g' := gb780) (o := .cells #[.int .i64 t774, .int .i64 t775, .int .i64 t776, .int .i64 t777] 51 (0, 0)) (by (with_reducible repeat (first|apply kN|apply kD|apply kA)); refine blk_put (cs := #[.int .i64 t774, .int .i64 t775, .int .i64 t776, .int .i64 0]) ?_ 3 _ rfl; (with_reducible repeat (first|apply kN|apply kD|apply kA)); refine blk_put (cs := #[.int .i64 t774, .int .i64 t775, .int .i64 0, .int .i64 0]) ?_ 2 _ rfl; (with_reducible repeat (first|apply kN|apply kD|apply kA)); refine blk_put (cs := #[.int .i64 t774, .int .i64 0, .int .i64 0, .int .i64 0]) ?_ 1 _ rfl; (with_reducible repeat (first|apply kN|apply kD|apply kA)); refine blk_put (cs := #[.int .i64 0, .int .i64 0, .int .i64 0, .int .i64 0]) ?_ 0 _ rfl; (with_reducible repeat (first|apply kN|apply kD|apply kA)); exact BK780.out) NB780_0.out (by simp)); have n2_ := aM (KeepBut.trans (by repeat (first | (with_reducible first | exact HK.out | apply eS|apply eN|apply eD|apply eA | refine keep_far ?_ GW770.out _ | refine keep_far ?_ GW780.out _) | exact HK.out)) hk (.inl rfl)); have n3_ := aM (hb); have n4_ := aM (hi); clear BK770; clear BK780; clear HK; clear HB; clear HI0; have BK770 := n0_; have BK780 := n1_; have HK := n2_; have HB := n3_; have HI0 := n4_; clear n0_ n1_ n2_ n3_ n4_; (try clear hb)))
 (try simp only [Act.put, List.setIfInBounds_toArray, List.set_cons_zero, List.set_cons_succ])
 go_cut [] (fun wc => ∃ (kq : Nat) (x1001_4 : Int) (x1002_4 : Int) (x781000_4 : Int) (x781001_4 : Int) (x781002_4 : Int) (x781003_4 : Int), Aside0 (spec_l05Draw.j0 kq s0_0 x1001_4 x1002_4 x781000_4 x781001_4 x781002_4 x781003_4 = some (r1, r2, r3, r4, r5, r6, r7, r8)) ∧ Aside0 (kq ≤ k) ∧ Aside0 (wc.heap[gb770]? = some (.cells #[.int .i64 0, .int .i64 0, .int .i64 0, .int .i64 0, .int .i64 0, .int .i64 0] 64 (0, 0))) ∧ Aside0 (wc.heap[gb780]? = some (.cells #[.int .i64 x781000_4, .int .i64 x781001_4, .int .i64 x781002_4, .int .i64 x781003_4] 51 (0, 0))) ∧ Aside0 (IsS144 w0 wc g s0_0 x1001_4 x1002_4) ∧ Aside0 (KeepBut w wc g none) ∧ Aside0 (Below w0.heap.size w0 wc))
 case first =>
  have H := HC5.out
  clear HC5
  by_cases c14 : t781 = 0
  ·rw [if_pos c14] at H
   have c14b0 : (t781 == 0) = true := beq_iff_eq.mpr c14
   have c14b1 : (t781 != 0) = false := bne_eq_false_iff_eq.mpr c14
   clear c14
   (first | rw [c14b0] | (simp only [i64_w, i32_w]; rw [c14b0]) | skip)
   replace H := Option.bind_eq_some_iff.mp H
   obtain ⟨⟨t784, t785, t786, t787, t788, t789⟩, A150, H⟩ := H
   try dsimp only at H
   have A15 := aM A150
   clear A150
   have H' := aM H
   clear H
   go_wp2_with (first | ((with_reducible refine gate_callee (f := 88) rfl ?_); refine goesL_ (some 13) rfl rfl Try.func88 (by kernel_rfl) rfl #[.pointer (some ⟨g, 0, none⟩)] rfl (by first|rfl|(simp only [List.map_toArray, List.map_cons, List.map_nil]; try rfl)) ?_; (with_reducible refine (spec_l02Draw.calls k g s0_0 t782 t783 t784 t785 t786 t787 t788 t789 w0 _ ?side1 ?side2 A15.out).mono ?_); (case side1 => repeat (first | (with_reducible first | exact HI0.out | apply sA|apply sN|apply sD|apply s1|apply s2 | refine IsS144.far ?_ NB0_770.out _ | refine IsS144.far ?_ NB0_780.out _) | exact HI0.out)); (case side2 => repeat (first | (with_reducible first | exact HB.out | apply bA|apply bN|apply b1 | refine below_set ?_ (IsS144.ge HI0.out) | refine below_set ?_ (Aside0.out (by assumption))) | exact HB.out)); rintro e w16 ⟨rfl, hi, hb, hk⟩; refine ⟨_, rfl, ?_⟩; have n0_ := aM (KeepBut.blk hk (g' := gb770) (o := .cells #[.int .i64 0, .int .i64 0, .int .i64 0, .int .i64 0, .int .i64 0, .int .i64 0] 64 (0, 0)) (by (with_reducible repeat (first|apply kN|apply kD|apply kA)); exact BK770.out) NB770_0.out (by simp)); have n1_ := aM (KeepBut.blk hk (g' := gb780) (o := .cells #[.int .i64 t774, .int .i64 t775, .int .i64 t776, .int .i64 t777] 51 (0, 0)) (by (with_reducible repeat (first|apply kN|apply kD|apply kA)); exact BK780.out) NB780_0.out (by simp)); have n2_ := aM (KeepBut.trans (by repeat (first | (with_reducible first | exact HK.out | apply eS|apply eN|apply eD|apply eA | refine keep_far ?_ GW770.out _ | refine keep_far ?_ GW780.out _) | exact HK.out)) hk (.inl rfl)); have n3_ := aM (hb); have n4_ := aM (hi); clear BK770; clear BK780; clear HK; clear HB; clear HI0; have BK770 := n0_; have BK780 := n1_; have HK := n2_; have HB := n3_; have HI0 := n4_; clear n0_ n1_ n2_ n3_ n4_; (try clear hb); have hnb17 := NB780_770.out; have hnc17 := NB770_780.out; have hnb18 := NB780_0.out; have hnc18 := NB0_780.out; obtain ⟨hcz19_0, hcz19_1, hcz19_2, hcz19_3⟩ := z4 BK780; obtain ⟨hfz19_0, hfz19_1, hfz19_2, hfz19_3⟩ := y4 BK780))
   go_meet
   case rel => exact ⟨_, (t788), (t789), (t784), (t785), (t786), (t787), H', ⟨by first | omega | exact Nat.le_refl _⟩, ⟨by (repeat (first|(with_reducible first|apply kN|apply kD|apply kA)|refine blk_far ?_ NB770_780.out _)); exact BK770.out⟩, ⟨by (with_reducible repeat (first|apply kN|apply kD|apply kA)); refine blk_put (cs := #[.int .i64 t784, .int .i64 t785, .int .i64 t786, .int .i64 t777]) ?_ 3 _ rfl; (with_reducible repeat (first|apply kN|apply kD|apply kA)); refine blk_put (cs := #[.int .i64 t784, .int .i64 t785, .int .i64 t776, .int .i64 t777]) ?_ 2 _ rfl; (with_reducible repeat (first|apply kN|apply kD|apply kA)); refine blk_put (cs := #[.int .i64 t784, .int .i64 t775, .int .i64 t776, .int .i64 t777]) ?_ 1 _ rfl; (with_reducible repeat (first|apply kN|apply kD|apply kA)); refine blk_put (cs := #[.int .i64 t774, .int .i64 t775, .int .i64 t776, .int .i64 t777]) ?_ 0 _ rfl; (with_reducible repeat (first|apply kN|apply kD|apply kA)); exact BK780.out⟩, ⟨by repeat (first | (with_reducible first | exact HI0.out | apply sA|apply sN|apply sD|apply s1|apply s2 | refine IsS144.far ?_ NB0_770.out _ | refine IsS144.far ?_ NB0_780.out _) | exact HI0.out)⟩, ⟨by repeat (first | (with_reducible first | exact HK.out | apply eS|apply eN|apply eD|apply eA | refine keep_far ?_ GW770.out _ | refine keep_far ?_ GW780.out _) | exact HK.out)⟩, ⟨by repeat (first | (with_reducible first | exact HB.out | apply bA|apply bN|apply b1 | refine below_set ?_ (IsS144.ge HI0.out) | refine below_set ?_ (Aside0.out (by assumption))) | exact HB.out)⟩⟩
  ·rw [if_neg c14] at H
   have c14b0 : (t781 == 0) = false := beq_eq_false_iff_ne.mpr c14
   have c14b1 : (t781 != 0) = true := bne_iff_ne.mpr c14
   (first | rw [c14b0] | (simp only [i64_w, i32_w]; rw [c14b0]) | skip)
   by_cases c20 : t781 = 1
   ·rw [if_pos c20] at H
    have c20b0 : (t781 == 1) = true := beq_iff_eq.mpr c20
    have c20b1 : (t781 != 1) = false := bne_eq_false_iff_eq.mpr c20
    clear c20
    replace H := Option.bind_eq_some_iff.mp H
    obtain ⟨⟨t790, t791, t792, t793⟩, A210, H⟩ := H
    try dsimp only at H
    have A21 := aM A210
    clear A210
    have H' := aM H
    clear H
    go_wp2_with (first | ((with_reducible refine gate_callee (f := 139) rfl ?_); refine goesL_ (some 16) rfl rfl Try.func139 (by kernel_rfl) rfl #[] rfl (by first|rfl|(simp only [List.map_toArray, List.map_cons, List.map_nil]; try rfl)) ?_; (with_reducible refine (spec_l02Unit.calls  t790 t791 t792 t793 _ A21.out).mono ?_); rintro e w22 ⟨rfl, hb⟩; refine ⟨_, rfl, ?_⟩; have n0_ := aM (IsS144.below (by repeat (first | (with_reducible first | exact HI0.out | apply sA|apply sN|apply sD|apply s1|apply s2 | refine IsS144.far ?_ NB0_770.out _ | refine IsS144.far ?_ NB0_780.out _) | exact HI0.out)) hb); have n1_ := bB BK770 hb; have n2_ := bB BK780 hb; have n3_ := aM (KeepBut.trans (by repeat (first | (with_reducible first | exact HK.out | apply eS|apply eN|apply eD|apply eA | refine keep_far ?_ GW770.out _ | refine keep_far ?_ GW780.out _) | exact HK.out)) (KeepBut.of_below hb g none) (.inl rfl)); have n4_ := aM (below_step (by repeat (first | (with_reducible first | exact HB.out | apply bA|apply bN|apply b1 | refine below_set ?_ (IsS144.ge HI0.out) | refine below_set ?_ (Aside0.out (by assumption))) | exact HB.out)) hb); clear HI0; clear BK770; clear BK780; clear HK; clear HB; have HI0 := n0_; have BK770 := n1_; have BK780 := n2_; have HK := n3_; have HB := n4_; clear n0_ n1_ n2_ n3_ n4_; (try clear hb); have hnb23 := NB780_770.out; have hnc23 := NB770_780.out; have hnb24 := NB780_0.out; have hnc24 := NB0_780.out; obtain ⟨hcz25_0, hcz25_1, hcz25_2, hcz25_3⟩ := z4 BK780; obtain ⟨hfz25_0, hfz25_1, hfz25_2, hfz25_3⟩ := y4 BK780))
    go_meet
    case rel => exact ⟨_, (t782), (t783), (t790), (t791), (t792), (t793), H', ⟨by first | omega | exact Nat.le_refl _⟩, ⟨by (repeat (first|(with_reducible first|apply kN|apply kD|apply kA)|refine blk_far ?_ NB770_780.out _)); exact BK770.out⟩, ⟨by (with_reducible repeat (first|apply kN|apply kD|apply kA)); refine blk_put (cs := #[.int .i64 t790, .int .i64 t791, .int .i64 t792, .int .i64 t777]) ?_ 3 _ rfl; (with_reducible repeat (first|apply kN|apply kD|apply kA)); refine blk_put (cs := #[.int .i64 t790, .int .i64 t791, .int .i64 t776, .int .i64 t777]) ?_ 2 _ rfl; (with_reducible repeat (first|apply kN|apply kD|apply kA)); refine blk_put (cs := #[.int .i64 t790, .int .i64 t775, .int .i64 t776, .int .i64 t777]) ?_ 1 _ rfl; (with_reducible repeat (first|apply kN|apply kD|apply kA)); refine blk_put (cs := #[.int .i64 t774, .int .i64 t775, .int .i64 t776, .int .i64 t777]) ?_ 0 _ rfl; (with_reducible repeat (first|apply kN|apply kD|apply kA)); exact BK780.out⟩, ⟨by repeat (first | (with_reducible first | exact HI0.out | apply sA|apply sN|apply sD|apply s1|apply s2 | refine IsS144.far ?_ NB0_770.out _ | refine IsS144.far ?_ NB0_780.out _) | exact HI0.out)⟩, ⟨by repeat (first | (with_reducible first | exact HK.out | apply eS|apply eN|apply eD|apply eA | refine keep_far ?_ GW770.out _ | refine keep_far ?_ GW780.out _) | exact HK.out)⟩, ⟨by repeat (first | (with_reducible first | exact HB.out | apply bA|apply bN|apply b1 | refine below_set ?_ (IsS144.ge HI0.out) | refine below_set ?_ (Aside0.out (by assumption))) | exact HB.out)⟩⟩
   ·rw [if_neg c20] at H
    have c20b0 : (t781 == 1) = false := beq_eq_false_iff_ne.mpr c20
    have c20b1 : (t781 != 1) = true := bne_iff_ne.mpr c20
    by_cases c26 : t781 = 2
    ·rw [if_pos c26] at H
     have c26b0 : (t781 == 2) = true := beq_iff_eq.mpr c26
     have c26b1 : (t781 != 2) = false := bne_eq_false_iff_eq.mpr c26
     clear c26
     replace H := Option.bind_eq_some_iff.mp H
     obtain ⟨⟨t794, t795, t796, t797, t798, t799⟩, A270, H⟩ := H
     try dsimp only at H
     have A27 := aM A270
     clear A270
     have H' := aM H
     clear H
     go_wp2_with (first | ((with_reducible refine gate_callee (f := 138) rfl ?_); refine goesL_ (some 20) rfl rfl Try.func138 (by kernel_rfl) rfl #[.pointer (some ⟨g, 0, none⟩)] rfl (by first|rfl|(simp only [List.map_toArray, List.map_cons, List.map_nil]; try rfl)) ?_; (with_reducible refine (spec_l02DrawFinite.calls k g s0_0 t782 t783 t794 t795 t796 t797 t798 t799 w0 _ ?side1 ?side2 A27.out).mono ?_); (case side1 => repeat (first | (with_reducible first | exact HI0.out | apply sA|apply sN|apply sD|apply s1|apply s2 | refine IsS144.far ?_ NB0_770.out _ | refine IsS144.far ?_ NB0_780.out _) | exact HI0.out)); (case side2 => repeat (first | (with_reducible first | exact HB.out | apply bA|apply bN|apply b1 | refine below_set ?_ (IsS144.ge HI0.out) | refine below_set ?_ (Aside0.out (by assumption))) | exact HB.out)); rintro e w28 ⟨rfl, hi, hb, hk⟩; refine ⟨_, rfl, ?_⟩; have n0_ := aM (KeepBut.blk hk (g' := gb770) (o := .cells #[.int .i64 0, .int .i64 0, .int .i64 0, .int .i64 0, .int .i64 0, .int .i64 0] 64 (0, 0)) (by (with_reducible repeat (first|apply kN|apply kD|apply kA)); exact BK770.out) NB770_0.out (by simp)); have n1_ := aM (KeepBut.blk hk (g' := gb780) (o := .cells #[.int .i64 t774, .int .i64 t775, .int .i64 t776, .int .i64 t777] 51 (0, 0)) (by (with_reducible repeat (first|apply kN|apply kD|apply kA)); exact BK780.out) NB780_0.out (by simp)); have n2_ := aM (KeepBut.trans (by repeat (first | (with_reducible first | exact HK.out | apply eS|apply eN|apply eD|apply eA | refine keep_far ?_ GW770.out _ | refine keep_far ?_ GW780.out _) | exact HK.out)) hk (.inl rfl)); have n3_ := aM (hb); have n4_ := aM (hi); clear BK770; clear BK780; clear HK; clear HB; clear HI0; have BK770 := n0_; have BK780 := n1_; have HK := n2_; have HB := n3_; have HI0 := n4_; clear n0_ n1_ n2_ n3_ n4_; (try clear hb); have hnb29 := NB780_770.out; have hnc29 := NB770_780.out; have hnb30 := NB780_0.out; have hnc30 := NB0_780.out; obtain ⟨hcz31_0, hcz31_1, hcz31_2, hcz31_3⟩ := z4 BK780; obtain ⟨hfz31_0, hfz31_1, hfz31_2, hfz31_3⟩ := y4 BK780))
     go_meet
     case rel => exact ⟨_, (t798), (t799), (t794), (t795), (t796), (t797), H', ⟨by first | omega | exact Nat.le_refl _⟩, ⟨by (repeat (first|(with_reducible first|apply kN|apply kD|apply kA)|refine blk_far ?_ NB770_780.out _)); exact BK770.out⟩, ⟨by (with_reducible repeat (first|apply kN|apply kD|apply kA)); refine blk_put (cs := #[.int .i64 t794, .int .i64 t795, .int .i64 t796, .int .i64 t777]) ?_ 3 _ rfl; (with_reducible repeat (first|apply kN|apply kD|apply kA)); refine blk_put (cs := #[.int .i64 t794, .int .i64 t795, .int .i64 t776, .int .i64 t777]) ?_ 2 _ rfl; (with_reducible repeat (first|apply kN|apply kD|apply kA)); refine blk_put (cs := #[.int .i64 t794, .int .i64 t775, .int .i64 t776, .int .i64 t777]) ?_ 1 _ rfl; (with_reducible repeat (first|apply kN|apply kD|apply kA)); refine blk_put (cs := #[.int .i64 t774, .int .i64 t775, .int .i64 t776, .int .i64 t777]) ?_ 0 _ rfl; (with_reducible repeat (first|apply kN|apply kD|apply kA)); exact BK780.out⟩, ⟨by repeat (first | (with_reducible first | exact HI0.out | apply sA|apply sN|apply sD|apply s1|apply s2 | refine IsS144.far ?_ NB0_770.out _ | refine IsS144.far ?_ NB0_780.out _) | exact HI0.out)⟩, ⟨by repeat (first | (with_reducible first | exact HK.out | apply eS|apply eN|apply eD|apply eA | refine keep_far ?_ GW770.out _ | refine keep_far ?_ GW780.out _) | exact HK.out)⟩, ⟨by repeat (first | (with_reducible first | exact HB.out | apply bA|apply bN|apply b1 | refine below_set ?_ (IsS144.ge HI0.out) | refine below_set ?_ (Aside0.out (by assumption))) | exact HB.out)⟩⟩
    ·rw [if_neg c26] at H
     have c26b0 : (t781 == 2) = false := beq_eq_false_iff_ne.mpr c26
     have c26b1 : (t781 != 2) = true := bne_iff_ne.mpr c26
     have H' := aM H
     clear H
     go_wp2
     go_meet
     case rel => exact ⟨_, (t782), (t783), (t774), (t775), (t776), (t777), H', ⟨by first | omega | exact Nat.le_refl _⟩, ⟨by (with_reducible repeat (first|apply kN|apply kD|apply kA)); exact BK770.out⟩, ⟨by (with_reducible repeat (first|apply kN|apply kD|apply kA)); exact BK780.out⟩, ⟨by repeat (first | (with_reducible first | exact HI0.out | apply sA|apply sN|apply sD|apply s1|apply s2 | refine IsS144.far ?_ NB0_770.out _ | refine IsS144.far ?_ NB0_780.out _) | exact HI0.out)⟩, ⟨by repeat (first | (with_reducible first | exact HK.out | apply eS|apply eN|apply eD|apply eA | refine keep_far ?_ GW770.out _ | refine keep_far ?_ GW780.out _) | exact HK.out)⟩, ⟨by repeat (first | (with_reducible first | exact HB.out | apply bA|apply bN|apply b1 | refine below_set ?_ (IsS144.ge HI0.out) | refine below_set ?_ (Aside0.out (by assumption))) | exact HB.out)⟩⟩
 case rest =>
  clear HC5
  try clear c1
  try clear c2
  try clear p2
  try clear c3
  try clear c8
  try clear c10
  try clear c11
  try clear c13
  try clear c14
  try clear c14b0
  try clear c14b1
  try clear c17
  try clear c18
  try clear c20
  try clear c20b0
  try clear c20b1
  try clear c23
  try clear c24
  try clear c26
  try clear c26b0
  try clear c26b1
  try clear c29
  try clear c30
  try clear hcz12_0
  try clear hcz12_1
  try clear hcz12_2
  try clear hcz12_3
  try clear hcz19_0
  try clear hcz19_1
  try clear hcz19_2
  try clear hcz19_3
  try clear hcz25_0
  try clear hcz25_1
  try clear hcz25_2
  try clear hcz25_3
  try clear hcz31_0
  try clear hcz31_1
  try clear hcz31_2
  try clear hcz31_3
  try clear hfz12_0
  try clear hfz12_1
  try clear hfz12_2
  try clear hfz12_3
  try clear hfz19_0
  try clear hfz19_1
  try clear hfz19_2
  try clear hfz19_3
  try clear hfz25_0
  try clear hfz25_1
  try clear hfz25_2
  try clear hfz25_3
  try clear hfz31_0
  try clear hfz31_1
  try clear hfz31_2
  try clear hfz31_3
  obtain ⟨kq, x1001_4, x1002_4, x781000_4, x781001_4, x781002_4, x781003_4, HA, HJ4, BK770, BK780, HI0, HK, HB⟩ := hcut
  cases kq with
  | zero => exact absurd HA.out (by simp [spec_l05Draw.j0])
  | succ kj4 =>
   have H := HA.out
   clear HA
   simp only [spec_l05Draw.j0] at H
   replace H := Option.bind_eq_some_iff.mp H
   obtain ⟨⟨t800, t801, t802⟩, A320, H⟩ := H
   try dsimp only at H
   have A32 := aM A320
   clear A320
   by_cases c33 : t800 = 0
   ·rw [if_pos c33] at H
    have c33b0 : (t800 == 0) = true := beq_iff_eq.mpr c33
    have c33b1 : (t800 != 0) = false := bne_eq_false_iff_eq.mpr c33
    clear c33
    simp only [Option.some.injEq, Prod.mk.injEq] at H
    obtain ⟨rfl, rfl, rfl, rfl, rfl, rfl, rfl, rfl⟩ := H
    go_wp2_with (first | ((with_reducible refine gate_callee (f := 84) rfl ?_); refine goesL_ (some 22) rfl rfl Try.func84 (by kernel_rfl) rfl #[.pointer (some ⟨g, 0, none⟩), .int .i64 5] rfl (by first|rfl|(simp only [List.map_toArray, List.map_cons, List.map_nil]; try rfl)) ?_; (with_reducible refine (spec_l01Next.calls g s0_0 x1001_4 x1002_4 5 t800 t801 t802 w0 _ ?side1 ?side2 A32.out).mono ?_); (case side1 => repeat (first | (with_reducible first | exact HI0.out | apply sA|apply sN|apply sD|apply s1|apply s2 | refine IsS144.far ?_ NB0_770.out _ | refine IsS144.far ?_ NB0_780.out _) | exact HI0.out)); (case side2 => repeat (first | (with_reducible first | exact HB.out | apply bA|apply bN|apply b1 | refine below_set ?_ (IsS144.ge HI0.out) | refine below_set ?_ (Aside0.out (by assumption))) | exact HB.out)); rintro e w34 ⟨rfl, hi, hb, hk⟩; refine ⟨_, rfl, ?_⟩; have n0_ := aM (KeepBut.blk hk (g' := gb770) (o := .cells #[.int .i64 0, .int .i64 0, .int .i64 0, .int .i64 0, .int .i64 0, .int .i64 0] 64 (0, 0)) (by (with_reducible repeat (first|apply kN|apply kD|apply kA)); exact BK770.out) NB770_0.out (by simp)); have n1_ := aM (KeepBut.blk hk (g' := gb780) (o := .cells #[.int .i64 x781000_4, .int .i64 x781001_4, .int .i64 x781002_4, .int .i64 x781003_4] 51 (0, 0)) (by (with_reducible repeat (first|apply kN|apply kD|apply kA)); exact BK780.out) NB780_0.out (by simp)); have n2_ := aM (KeepBut.trans (by repeat (first | (with_reducible first | exact HK.out | apply eS|apply eN|apply eD|apply eA | refine keep_far ?_ GW770.out _ | refine keep_far ?_ GW780.out _) | exact HK.out)) hk (.inl rfl)); have n3_ := aM (hb); have n4_ := aM (hi); clear BK770; clear BK780; clear HK; clear HB; clear HI0; have BK770 := n0_; have BK780 := n1_; have HK := n2_; have HB := n3_; have HI0 := n4_; clear n0_ n1_ n2_ n3_ n4_; (try clear hb); have hnb35 := NB780_770.out; have hnc35 := NB770_780.out; have hnb36 := NB780_0.out; have hnc36 := NB0_780.out; obtain ⟨hcz37_0, hcz37_1, hcz37_2, hcz37_3⟩ := z4 BK780; obtain ⟨hfz37_0, hfz37_1, hfz37_2, hfz37_3⟩ := y4 BK780; have hnb38 := NB770_0.out; have hnc38 := NB0_770.out; obtain ⟨hcz39_0, hcz39_1, hcz39_2, hcz39_3, hcz39_4, hcz39_5⟩ := z6 BK770; obtain ⟨hfz39_0, hfz39_1, hfz39_2, hfz39_3, hfz39_4, hfz39_5⟩ := y6 BK770))
    refine bodyPost_ret (results_cell_row rfl _ _ gb770 64 #[.int .i64 x781000_4, .int .i64 x781001_4, .int .i64 x781002_4, .int .i64 x781003_4, .int .i64 0, .int .i64 0] (0, 0) _ rfl (by (with_reducible repeat (first|apply kN|apply kD|apply kA)); refine blk_put (cs := #[.int .i64 x781000_4, .int .i64 x781001_4, .int .i64 x781002_4, .int .i64 x781003_4, .int .i64 0, .int .i64 0]) ?_ 5 _ rfl; (with_reducible repeat (first|apply kN|apply kD|apply kA)); refine blk_put (cs := #[.int .i64 x781000_4, .int .i64 x781001_4, .int .i64 x781002_4, .int .i64 x781003_4, .int .i64 0, .int .i64 0]) ?_ 4 _ rfl; (with_reducible repeat (first|apply kN|apply kD|apply kA)); refine blk_put (cs := #[.int .i64 x781000_4, .int .i64 x781001_4, .int .i64 x781002_4, .int .i64 0, .int .i64 0, .int .i64 0]) ?_ 3 _ rfl; (with_reducible repeat (first|apply kN|apply kD|apply kA)); refine blk_put (cs := #[.int .i64 x781000_4, .int .i64 x781001_4, .int .i64 0, .int .i64 0, .int .i64 0, .int .i64 0]) ?_ 2 _ rfl; (with_reducible repeat (first|apply kN|apply kD|apply kA)); refine blk_put (cs := #[.int .i64 x781000_4, .int .i64 0, .int .i64 0, .int .i64 0, .int .i64 0, .int .i64 0]) ?_ 1 _ rfl; (with_reducible repeat (first|apply kN|apply kD|apply kA)); refine blk_put (cs := #[.int .i64 0, .int .i64 0, .int .i64 0, .int .i64 0, .int .i64 0, .int .i64 0]) ?_ 0 _ rfl; (with_reducible repeat (first|apply kN|apply kD|apply kA)); exact BK770.out) Try.underlying64 rfl (by kernel_rfl)) rfl ?_
    exact ⟨by first|rfl|(simp [*, errW_none, errW_some] <;> rfl), by repeat (first | (with_reducible first | exact HI0.out | apply sA|apply sN|apply sD|apply s1|apply s2 | refine IsS144.far ?_ NB0_770.out _ | refine IsS144.far ?_ NB0_780.out _) | exact HI0.out), by repeat (first | (with_reducible first | exact HB.out | apply bA|apply bN|apply b1 | refine below_set ?_ (IsS144.ge HI0.out) | refine below_set ?_ (Aside0.out (by assumption))) | exact HB.out), by repeat (first | (with_reducible first | exact HK.out | apply eS|apply eN|apply eD|apply eA | refine keep_far ?_ GW770.out _ | refine keep_far ?_ GW780.out _) | exact HK.out)⟩
   ·rw [if_neg c33] at H
    have c33b0 : (t800 == 0) = false := beq_eq_false_iff_ne.mpr c33
    have c33b1 : (t800 != 0) = true := bne_iff_ne.mpr c33
    replace H := Option.bind_eq_some_iff.mp H
    obtain ⟨⟨t803, t804, t805, t806⟩, A400, H⟩ := H
    try dsimp only at H
    have A40 := aM A400
    clear A400
    simp only [Option.some.injEq, Prod.mk.injEq] at H
    obtain ⟨rfl, rfl, rfl, rfl, rfl, rfl, rfl, rfl⟩ := H
    try go_wp2_with (first | ((with_reducible refine gate_callee (f := 84) rfl ?_); refine goesL_ (some 22) rfl rfl Try.func84 (by kernel_rfl) rfl #[.pointer (some ⟨g, 0, none⟩), .int .i64 5] rfl (by first|rfl|(simp only [List.map_toArray, List.map_cons, List.map_nil]; try rfl)) ?_; (with_reducible refine (spec_l01Next.calls g s0_0 x1001_4 x1002_4 5 t800 t801 t802 w0 _ ?side1 ?side2 A32.out).mono ?_); (case side1 => repeat (first | (with_reducible first | exact HI0.out | apply sA|apply sN|apply sD|apply s1|apply s2 | refine IsS144.far ?_ NB0_770.out _ | refine IsS144.far ?_ NB0_780.out _) | exact HI0.out)); (case side2 => repeat (first | (with_reducible first | exact HB.out | apply bA|apply bN|apply b1 | refine below_set ?_ (IsS144.ge HI0.out) | refine below_set ?_ (Aside0.out (by assumption))) | exact HB.out)); rintro e w41 ⟨rfl, hi, hb, hk⟩; refine ⟨_, rfl, ?_⟩; have n0_ := aM (KeepBut.blk hk (g' := gb770) (o := .cells #[.int .i64 0, .int .i64 0, .int .i64 0, .int .i64 0, .int .i64 0, .int .i64 0] 64 (0, 0)) (by (with_reducible repeat (first|apply kN|apply kD|apply kA)); exact BK770.out) NB770_0.out (by simp)); have n1_ := aM (KeepBut.blk hk (g' := gb780) (o := .cells #[.int .i64 x781000_4, .int .i64 x781001_4, .int .i64 x781002_4, .int .i64 x781003_4] 51 (0, 0)) (by (with_reducible repeat (first|apply kN|apply kD|apply kA)); exact BK780.out) NB780_0.out (by simp)); have n2_ := aM (KeepBut.trans (by repeat (first | (with_reducible first | exact HK.out | apply eS|apply eN|apply eD|apply eA | refine keep_far ?_ GW770.out _ | refine keep_far ?_ GW780.out _) | exact HK.out)) hk (.inl rfl)); have n3_ := aM (hb); have n4_ := aM (hi); clear BK770; clear BK780; clear HK; clear HB; clear HI0; have BK770 := n0_; have BK780 := n1_; have HK := n2_; have HB := n3_; have HI0 := n4_; clear n0_ n1_ n2_ n3_ n4_; (try clear hb)))
    have n0_ := aM (blk_drew BK770.out)
    have n1_ := aM (blk_drew BK780.out)
    have n2_ := aM (IsS144.drew HI0.out)
    have n3_ := aM (keep_drew HK.out)
    have n4_ := aM (below_drew1 HB.out)
    clear BK770
    clear BK780
    clear HI0
    clear HK
    clear HB
    have BK770 := n0_
    have BK780 := n1_
    have HI0 := n2_
    have HK := n3_
    have HB := n4_
    clear n0_ n1_ n2_ n3_ n4_
    refine start_ (n := 5) (S := fun w' => w'.cell? ⟨gb780, 0, none⟩ = some (.int .i64 x781000_4) ∧ w'.cell? ⟨gb780, 1, none⟩ = some (.int .i64 x781001_4) ∧ w'.cell? ⟨gb780, 2, none⟩ = some (.int .i64 x781002_4) ∧ w'.cell? ⟨gb780, 3, none⟩ = some (.int .i64 x781003_4)) (ds := []) #[false, false, false, false, false] (by kernel_rfl) rfl rfl ⟨(blk_cell BK780.out 0).trans rfl, (blk_cell BK780.out 1).trans rfl, (blk_cell BK780.out 2).trans rfl, (blk_cell BK780.out 3).trans rfl⟩ (fun hHeld => ?_)
    generalize w41.drew = w42 at BK770 BK780 HI0 HK HB hHeld ⊢
    refine pure_ (i := 1) (N := some 27) (v := ?_) (a' := ?_) #[false, true, false, false, false] rfl rfl (by kernel_rfl) (fun _ _ _ h => h) (Or.inl ⟨by rfl, ?_⟩) ?_ ?_
    rotate_left
    ·intro w'
     go_simp
     with_reducible rfl
    rotate_left
    ·simp only [Act.put, List.setIfInBounds_toArray, List.set_cons_zero, List.set_cons_succ, i64_w, i32_w]
     rfl
    refine take_ (i := 0) (N := some 26) (v := ?_) (a' := ?_) #[true, true, false, false, false] rfl rfl (by kernel_rfl) (fun _ _ _ h => h) (Or.inl ⟨by rfl, ?_⟩) hHeld ?_ ?_
    rotate_left
    ·rintro w' ⟨s0, s1, s2, s3⟩
     go_simp
     with_reducible rfl
    rotate_left
    ·simp only [Act.put, List.setIfInBounds_toArray, List.set_cons_zero, List.set_cons_succ, i64_w, i32_w]
     rfl
    refine one_ (i := 2) (N := some 28) #[true, true, true, false, false] rfl rfl (by kernel_rfl) (by decide) (fun K hK => ?_)
    refine goes_ Try.func95 (by kernel_rfl) rfl #[.pointer (some ⟨g, 0, none⟩)] (by rfl) rfl rfl (by first|rfl|(simp only [List.map_toArray, List.map_cons, List.map_nil]; try rfl)) ?_
    with_reducible refine (spec_l01Draw.calls g s0_0 t801 t802 t803 t804 t805 t806 w0 _ ?side1 ?side2 A40.out).mono ?_
    (case side1 => repeat (first | (with_reducible first | exact HI0.out | apply sA|apply sN|apply sD|apply s1|apply s2 | refine IsS144.far ?_ NB0_770.out _ | refine IsS144.far ?_ NB0_780.out _) | exact HI0.out))
    (case side2 => repeat (first | (with_reducible first | exact HB.out | apply bA|apply bN|apply b1 | refine below_set ?_ (IsS144.ge HI0.out) | refine below_set ?_ (Aside0.out (by assumption))) | exact HB.out))
    rintro e w43 ⟨rfl, hi, hb, hk⟩
    refine ⟨_, rfl, ?_⟩
    have n0_ := aM (KeepBut.blk hk (g' := gb770) (o := .cells #[.int .i64 0, .int .i64 0, .int .i64 0, .int .i64 0, .int .i64 0, .int .i64 0] 64 (0, 0)) (by (with_reducible repeat (first|apply kN|apply kD|apply kA)); exact BK770.out) NB770_0.out (by simp))
    have n1_ := aM (KeepBut.blk hk (g' := gb780) (o := .cells #[.int .i64 x781000_4, .int .i64 x781001_4, .int .i64 x781002_4, .int .i64 x781003_4] 51 (0, 0)) (by (with_reducible repeat (first|apply kN|apply kD|apply kA)); exact BK780.out) NB780_0.out (by simp))
    have n2_ := aM (KeepBut.trans (by repeat (first | (with_reducible first | exact HK.out | apply eS|apply eN|apply eD|apply eA | refine keep_far ?_ GW770.out _ | refine keep_far ?_ GW780.out _) | exact HK.out)) hk (.inl rfl))
    have n3_ := aM (hb)
    have n4_ := aM (hi)
    clear BK770
    clear BK780
    clear HK
    clear HB
    clear HI0
    have BK770 := n0_
    have BK780 := n1_
    have HK := n2_
    have HB := n3_
    have HI0 := n4_
    clear n0_ n1_ n2_ n3_ n4_
    (try clear hb)
    (try clear hb2)
    (try clear hk)
    (try clear hi)
    refine hK.out _ _ ⟨(blk_cell BK780.out 0).trans rfl, (blk_cell BK780.out 1).trans rfl, (blk_cell BK780.out 2).trans rfl, (blk_cell BK780.out 3).trans rfl⟩ (fun hHeld => ?_)
    clear hK K
    refine norm_ (a' := ?_) ?_ ?_
    rotate_left
    ·show Act.put _ (some 28) _ = _
     simp only [Act.put, List.setIfInBounds_toArray, List.set_cons_zero, List.set_cons_succ, i64_w, i32_w]
     rfl
    refine pure_ (i := 3) (N := some 29) (v := ?_) (a' := ?_) #[true, true, true, true, false] rfl rfl (by kernel_rfl) (fun _ _ _ h => h) (Or.inl ⟨by rfl, ?_⟩) ?_ ?_
    rotate_left
    ·intro w'
     go_simp
     with_reducible rfl
    rotate_left
    ·simp only [Act.put, List.setIfInBounds_toArray, List.set_cons_zero, List.set_cons_succ, i64_w, i32_w]
     rfl
    refine one_ (i := 4) (N := none) #[true, true, true, true, true] rfl rfl (by kernel_rfl) (by decide) (fun K hK => ?_)
    have hs44 : w43.cell? ⟨gb770, 0, none⟩ = some (.int .i64 0) := (blk_cell BK770.out 0).trans rfl
    have hfs44 := blk_frozen BK770.out 0
    have hns44_1 := NB780_770.out
    have hms44_1 := NB770_780.out
    have hs45 : w43.cell? ⟨gb770, 1, none⟩ = some (.int .i64 0) := (blk_cell BK770.out 1).trans rfl
    have hfs45 := blk_frozen BK770.out 1
    have hns45_1 := NB780_770.out
    have hms45_1 := NB770_780.out
    have hs46 : w43.cell? ⟨gb770, 2, none⟩ = some (.int .i64 0) := (blk_cell BK770.out 2).trans rfl
    have hfs46 := blk_frozen BK770.out 2
    have hns46_1 := NB780_770.out
    have hms46_1 := NB770_780.out
    have hs47 : w43.cell? ⟨gb770, 3, none⟩ = some (.int .i64 0) := (blk_cell BK770.out 3).trans rfl
    have hfs47 := blk_frozen BK770.out 3
    have hns47_1 := NB780_770.out
    have hms47_1 := NB770_780.out
    have hs48 : w43.cell? ⟨gb770, 4, none⟩ = some (.int .i64 0) := (blk_cell BK770.out 4).trans rfl
    have hfs48 := blk_frozen BK770.out 4
    have hns48_1 := NB780_770.out
    have hms48_1 := NB770_780.out
    have hs49 : w43.cell? ⟨gb770, 5, none⟩ = some (.int .i64 0) := (blk_cell BK770.out 5).trans rfl
    have hfs49 := blk_frozen BK770.out 5
    have hns49_1 := NB780_770.out
    have hms49_1 := NB770_780.out
    refine skip_ (w1 := ?_) (by rfl) rfl ?_ ?_
    rotate_left
    ·go_simp
     rfl
    refine hK.out _ _ ⟨((cell_far (p := ⟨gb770, _, none⟩) NB780_770.out _).trans (((cell_far (p := ⟨gb770, _, none⟩) NB780_770.out _).trans (((cell_far (p := ⟨gb770, _, none⟩) NB780_770.out _).trans (((cell_far (p := ⟨gb770, _, none⟩) NB780_770.out _).trans (((cell_far (p := ⟨gb770, _, none⟩) NB780_770.out _).trans (((cell_far (p := ⟨gb770, _, none⟩) NB780_770.out _).trans (hHeld.1)))))))))))), ((cell_far (p := ⟨gb770, _, none⟩) NB780_770.out _).trans (((cell_far (p := ⟨gb770, _, none⟩) NB780_770.out _).trans (((cell_far (p := ⟨gb770, _, none⟩) NB780_770.out _).trans (((cell_far (p := ⟨gb770, _, none⟩) NB780_770.out _).trans (((cell_far (p := ⟨gb770, _, none⟩) NB780_770.out _).trans (((cell_far (p := ⟨gb770, _, none⟩) NB780_770.out _).trans (hHeld.2.1)))))))))))), ((cell_far (p := ⟨gb770, _, none⟩) NB780_770.out _).trans (((cell_far (p := ⟨gb770, _, none⟩) NB780_770.out _).trans (((cell_far (p := ⟨gb770, _, none⟩) NB780_770.out _).trans (((cell_far (p := ⟨gb770, _, none⟩) NB780_770.out _).trans (((cell_far (p := ⟨gb770, _, none⟩) NB780_770.out _).trans (((cell_far (p := ⟨gb770, _, none⟩) NB780_770.out _).trans (hHeld.2.2.1)))))))))))), ((cell_far (p := ⟨gb770, _, none⟩) NB780_770.out _).trans (((cell_far (p := ⟨gb770, _, none⟩) NB780_770.out _).trans (((cell_far (p := ⟨gb770, _, none⟩) NB780_770.out _).trans (((cell_far (p := ⟨gb770, _, none⟩) NB780_770.out _).trans (((cell_far (p := ⟨gb770, _, none⟩) NB780_770.out _).trans (((cell_far (p := ⟨gb770, _, none⟩) NB780_770.out _).trans (hHeld.2.2.2))))))))))))⟩ (fun hHeld => ?_)
    clear hK K
    refine done_ (by kernel_rfl) ?_
    try go_wp2
    refine bodyPost_ret (results_cell_row rfl _ _ gb770 64 #[.int .i64 x781000_4, .int .i64 x781001_4, .int .i64 x781002_4, .int .i64 x781003_4, .int .i64 t803, .int .i64 t804] (0, 0) _ rfl (by (with_reducible repeat (first|apply kN|apply kD|apply kA)); refine blk_put (cs := #[.int .i64 x781000_4, .int .i64 x781001_4, .int .i64 x781002_4, .int .i64 x781003_4, .int .i64 t803, .int .i64 0]) ?_ 5 _ rfl; (with_reducible repeat (first|apply kN|apply kD|apply kA)); refine blk_put (cs := #[.int .i64 x781000_4, .int .i64 x781001_4, .int .i64 x781002_4, .int .i64 x781003_4, .int .i64 0, .int .i64 0]) ?_ 4 _ rfl; (with_reducible repeat (first|apply kN|apply kD|apply kA)); refine blk_put (cs := #[.int .i64 x781000_4, .int .i64 x781001_4, .int .i64 x781002_4, .int .i64 0, .int .i64 0, .int .i64 0]) ?_ 3 _ rfl; (with_reducible repeat (first|apply kN|apply kD|apply kA)); refine blk_put (cs := #[.int .i64 x781000_4, .int .i64 x781001_4, .int .i64 0, .int .i64 0, .int .i64 0, .int .i64 0]) ?_ 2 _ rfl; (with_reducible repeat (first|apply kN|apply kD|apply kA)); refine blk_put (cs := #[.int .i64 x781000_4, .int .i64 0, .int .i64 0, .int .i64 0, .int .i64 0, .int .i64 0]) ?_ 1 _ rfl; (with_reducible repeat (first|apply kN|apply kD|apply kA)); refine blk_put (cs := #[.int .i64 0, .int .i64 0, .int .i64 0, .int .i64 0, .int .i64 0, .int .i64 0]) ?_ 0 _ rfl; (with_reducible repeat (first|apply kN|apply kD|apply kA)); exact BK770.out) Try.underlying64 rfl (by kernel_rfl)) rfl ?_
    exact ⟨by first|rfl|(simp [*, errW_none, errW_some] <;> rfl), by repeat (first | (with_reducible first | exact HI0.out | apply sA|apply sN|apply sD|apply s1|apply s2 | refine IsS144.far ?_ NB0_770.out _ | refine IsS144.far ?_ NB0_780.out _) | exact HI0.out), by repeat (first | (with_reducible first | exact HB.out | apply bA|apply bN|apply b1 | refine below_set ?_ (IsS144.ge HI0.out) | refine below_set ?_ (Aside0.out (by assumption))) | exact HB.out), by repeat (first | (with_reducible first | exact HK.out | apply eS|apply eN|apply eD|apply eA | refine keep_far ?_ GW770.out _ | refine keep_far ?_ GW780.out _) | exact HK.out)⟩

end Go.Proofs.Ytcjchihnopmplaa.F

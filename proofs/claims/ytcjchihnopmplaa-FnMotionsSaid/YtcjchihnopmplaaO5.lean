import Derived.Test.YtcjchihnopmplaaO0
import Derived.Test.YtcjchihnopmplaaO3
import Derived.Test.YtcjchihnopmplaaO4
namespace Go.Proofs.Ytcjchihnopmplaa.F
open Go.RowKit Go.Proofs.YtcjchihnopmplaaW.PrintWords Go.Proofs.YtcjchihnopmplaaW.PrintLast Go.Proofs.YtcjchihnopmplaaW.PrintMore
attribute [local go_sem] max2_int min2_int max_two min_two max_three min_three max_four min_four   -- for this text's walks alone
set_option linter.unusedVariables false
set_option linter.unusedSimpArgs false

def spec_l02DrawFinite.l0 : Nat → Int → List Int → Int → Int → Int → Int → Int → Int → Option (Int × Int × Int × Int × Int × Int)
 | 0, _, _, _, _, _, _, _, _ => none
 | k + 1, x4, x1000, x1001, x1002, x437000, x437001, x437002, x437003 => if x4 > 0 then ((spec_l01Next.f x1000 x1001 x1002 5).bind fun bt440 => ((spec_l01Next.f x1000 bt440.2.1 bt440.2.2 2).bind fun bt444 => (if bt444.1 = 0 then ((spec_l01Next.f x1000 bt444.2.1 bt444.2.2 5).bind fun bt447 => ((spec_l02Multiply.f 1 0 (wrap64 (bt447.1 - 2)) 1 x437000 x437001 x437002 x437003).bind fun bt450 => ((spec_l02Inverse.f 1 0 (wrap64 (bt447.1 - 2)) 1).bind fun bt454 => ((spec_l02Multiply.f bt450.1 bt450.2.1 bt450.2.2.1 bt450.2.2.2 bt454.1 bt454.2.1 bt454.2.2.1 bt454.2.2.2).bind fun bt458 => (spec_l02DrawFinite.l0 k (wrap64 (x4 - 1)) x1000 bt447.2.1 bt447.2.2 bt458.1 bt458.2.1 bt458.2.2.1 bt458.2.2.2))))) else ((spec_l02Multiply.f 1 (wrap64 (bt440.1 - 2)) 0 1 x437000 x437001 x437002 x437003).bind fun bt462 => ((spec_l02Inverse.f 1 (wrap64 (bt440.1 - 2)) 0 1).bind fun bt466 => ((spec_l02Multiply.f bt462.1 bt462.2.1 bt462.2.2.1 bt462.2.2.2 bt466.1 bt466.2.1 bt466.2.2.1 bt466.2.2.2).bind fun bt470 => (spec_l02DrawFinite.l0 k (wrap64 (x4 - 1)) x1000 bt444.2.1 bt444.2.2 bt470.1 bt470.2.1 bt470.2.2.1 bt470.2.2.2))))))) else (some (x437000, x437001, x437002, x437003, x1001, x1002))
def spec_l02DrawFinite.f (k : Nat) (s0_0 : List Int) (s0_1 : Int) (s0_2 : Int) : Option (Int × Int × Int × Int × Int × Int) := (some (([(⟨1, 0, 0, 1⟩ : S51), (⟨(-1), 0, 0, (-1)⟩ : S51), (⟨0, (-1), 1, 0⟩ : S51), (⟨0, (-1), 1, 1⟩ : S51), (⟨(-1), (-1), 1, 0⟩ : S51), (⟨1, 0, 0, (-1)⟩ : S51), (⟨0, 1, 1, 0⟩ : S51), (⟨1, 1, 0, (-1)⟩ : S51)] : List (S51)) : List (S51))).bind fun y429 => ((spec_l01Next.f s0_0 s0_1 s0_2 8).bind fun bt432 => (if 0 ≤ bt432.1 then (if bt432.1 < (y429.length : Int) then ((spec_l01Next.f s0_0 bt432.2.1 bt432.2.2 3).bind fun bt437 => (spec_l02DrawFinite.l0 k bt437.1 s0_0 bt437.2.1 bt437.2.2 ((rd_T51 y429 bt432.1).f0) ((rd_T51 y429 bt432.1).f1) ((rd_T51 y429 bt432.1).f2) ((rd_T51 y429 bt432.1).f3))) else (none)) else (none)))
set_option maxHeartbeats 8000000 in
set_option maxRecDepth 100000 in
theorem spec_l02DrawFinite.calls (k : Nat) (g : Nat) (s0_0 : List Int) (s0_1 : Int) (s0_2 : Int) (r1 : Int) (r2 : Int) (r3 : Int) (r4 : Int) (r5 : Int) (r6 : Int) (w0 w : World) (hI : IsS144 w0 w g s0_0 s0_1 s0_2) (hB : Below w0.heap.size w0 w) (h : spec_l02DrawFinite.f k s0_0 s0_1 s0_2 = some (r1, r2, r3, r4, r5, r6)) :
  Calls Try.prog 138 #[.pointer (some ⟨g, 0, none⟩)] w fun e w' => e = .returned (.agg #[.int .i64 r1, .int .i64 r2, .int .i64 r3, .int .i64 r4]) ∧ IsS144 w0 w' g s0_0 r5 r6 ∧ Below w0.heap.size w0 w' ∧ KeepBut w w' g none := by
 have hu51 := Try.underlying51
 have HI0 := aM hI
 have HK := aM (KeepBut.refl w g none)
 have HL := aM hB.size
 clear hI
 have HW0 := aM hB.size
 have HB := aM hB
 clear hB
 have H : ((some (([(⟨1, 0, 0, 1⟩ : S51), (⟨(-1), 0, 0, (-1)⟩ : S51), (⟨0, (-1), 1, 0⟩ : S51), (⟨0, (-1), 1, 1⟩ : S51), (⟨(-1), (-1), 1, 0⟩ : S51), (⟨1, 0, 0, (-1)⟩ : S51), (⟨0, 1, 1, 0⟩ : S51), (⟨1, 1, 0, (-1)⟩ : S51)] : List (S51)) : List (S51))).bind fun y429 => ((spec_l01Next.f s0_0 s0_1 s0_2 8).bind fun bt432 => (if 0 ≤ bt432.1 then (if bt432.1 < (y429.length : Int) then ((spec_l01Next.f s0_0 bt432.2.1 bt432.2.2 3).bind fun bt437 => (spec_l02DrawFinite.l0 k bt437.1 s0_0 bt437.2.1 bt437.2.2 ((rd_T51 y429 bt432.1).f0) ((rd_T51 y429 bt432.1).f1) ((rd_T51 y429 bt432.1).f2) ((rd_T51 y429 bt432.1).f3))) else (none)) else (none)))) = some (r1, r2, r3, r4, r5, r6) := h
 clear h
 obtain ⟨y429, hy429⟩ : ∃ y_ : List (S51), y_ = (([(⟨1, 0, 0, 1⟩ : S51), (⟨(-1), 0, 0, (-1)⟩ : S51), (⟨0, (-1), 1, 0⟩ : S51), (⟨0, (-1), 1, 1⟩ : S51), (⟨(-1), (-1), 1, 0⟩ : S51), (⟨1, 0, 0, (-1)⟩ : S51), (⟨0, 1, 1, 0⟩ : S51), (⟨1, 1, 0, (-1)⟩ : S51)] : List (S51))) := ⟨_, rfl⟩
 replace H : ((spec_l01Next.f s0_0 s0_1 s0_2 8).bind fun bt432 => (if 0 ≤ bt432.1 then (if bt432.1 < (y429.length : Int) then ((spec_l01Next.f s0_0 bt432.2.1 bt432.2.2 3).bind fun bt437 => (spec_l02DrawFinite.l0 k bt437.1 s0_0 bt437.2.1 bt437.2.2 ((rd_T51 y429 bt432.1).f0) ((rd_T51 y429 bt432.1).f1) ((rd_T51 y429 bt432.1).f2) ((rd_T51 y429 bt432.1).f3))) else (none)) else (none))) = some (r1, r2, r3, r4, r5, r6) := by first | (rw [hy429]; with_reducible exact H) | (have H2_ := (Option.bind_some _ _).symm.trans H; rw [hy429]; with_reducible exact H2_) | (have H2_ := (Option.bind_some _ _).symm.trans H; with_reducible exact H2_) | with_reducible exact H | (rw [hy429]; exact H) | exact H
 have Ny429 := aM hy429
 clear hy429
 replace H := Option.bind_eq_some_iff.mp H
 obtain ⟨⟨t432, t433, t434⟩, A20, H⟩ := H
 try dsimp only at H
 have A2 := aM A20
 clear A20
 by_cases c3 : 0 ≤ t432
 ·rw [if_pos c3] at H
  have c3b0 : decide (0 ≤ t432) = true := decide_eq_true c3
  clear c3
  by_cases c4 : t432 < (y429.length : Int)
  ·rw [if_pos c4] at H
   have c4b0 : decide (t432 < (y429.length : Int)) = true := decide_eq_true c4
   clear c4
   replace H := Option.bind_eq_some_iff.mp H
   obtain ⟨⟨t437, t438, t439⟩, A50, H⟩ := H
   try dsimp only at H
   have A5 := aM A50
   clear A50
   have H' := aM H
   clear H
   go_enter Try.func138, Try.ntmps138
   go_wp2_with (first | ((with_reducible refine gate_dst (N := 2) rfl ?_); refine box_event ?hg (N := 2) ?hd (cs := #[.int .i64 0, .int .i64 0, .int .i64 0, .int .i64 0]) (t := 51) ?hr ?_; (case hd => rfl); (case hg => rfl); (case hr => first | (go_simp; done) | (go_simp; rfl)); intro gb428 hg w6 hbox hb; have n0_ := aM (IsS144.below (by repeat (first | (with_reducible first | exact HI0.out | apply sA|apply sN|apply sD|apply s1|apply s2) | exact HI0.out)) hb); have n1_ := aM (KeepBut.trans (by repeat (first | (with_reducible first | exact HK.out | apply eS|apply eN|apply eD|apply eA) | exact HK.out)) (KeepBut.of_below hb g none) (.inl rfl)); have n2_ := aM (below_step (by repeat (first | (with_reducible first | exact HB.out | apply bA|apply bN|apply b1 | refine below_set ?_ (IsS144.ge HI0.out)) | exact HB.out)) hb); have n3_ := aM (hbox); have n4_ := aM ((by rw [hg]; exact (keep_size (w := w) (g := g) (row := none) (by repeat (first | (with_reducible first | exact HK.out | apply eS|apply eN|apply eD|apply eA) | exact HK.out))) : w.heap.size ≤ gb428)); have n5_ := aM ((Nat.le_trans HW0.out (by rw [hg]; exact (keep_size (w := w) (g := g) (row := none) (by repeat (first | (with_reducible first | exact HK.out | apply eS|apply eN|apply eD|apply eA) | exact HK.out))) : w.heap.size ≤ gb428) : w0.heap.size ≤ gb428)); have n6_ := aM ((by rw [hg]; exact Nat.ne_of_lt (IsS144.lt (show IsS144 w0 _ g s0_0 s0_1 s0_2 from by repeat (first | (with_reducible first | exact HI0.out | apply sA|apply sN|apply sD|apply s1|apply s2) | exact HI0.out))) : g ≠ gb428)); have n7_ := aM ((by rw [hg]; exact Nat.ne_of_gt (IsS144.lt (show IsS144 w0 _ g s0_0 s0_1 s0_2 from by repeat (first | (with_reducible first | exact HI0.out | apply sA|apply sN|apply sD|apply s1|apply s2) | exact HI0.out))) : gb428 ≠ g)); clear HI0; clear HK; clear HB; have HI0 := n0_; have HK := n1_; have HB := n2_; have BK428 := n3_; have GW428 := n4_; have GE428 := n5_; have NB0_428 := n6_; have NB428_0 := n7_; clear n0_ n1_ n2_ n3_ n4_ n5_ n6_ n7_; clear hb hbox hg) | ((with_reducible refine gate_dst (N := 14) rfl ?_); refine Kd.R_lit k51 _ 51 ?hg (N := 14) ?hd (xs := ([(⟨1, 0, 0, 1⟩ : S51), (⟨(-1), 0, 0, (-1)⟩ : S51), (⟨0, (-1), 1, 0⟩ : S51), (⟨0, (-1), 1, 1⟩ : S51), (⟨(-1), (-1), 1, 0⟩ : S51), (⟨1, 0, 0, (-1)⟩ : S51), (⟨0, 1, 1, 0⟩ : S51), (⟨1, 1, 0, (-1)⟩ : S51)] : List (S51))) (inner := [.int .i64 1, .int .i64 0, .int .i64 0, .int .i64 1, .int .i64 (-1), .int .i64 0, .int .i64 0, .int .i64 (-1), .int .i64 0, .int .i64 (-1), .int .i64 1, .int .i64 0, .int .i64 0, .int .i64 (-1), .int .i64 1, .int .i64 1, .int .i64 (-1), .int .i64 (-1), .int .i64 1, .int .i64 0, .int .i64 1, .int .i64 0, .int .i64 0, .int .i64 (-1), .int .i64 0, .int .i64 1, .int .i64 1, .int .i64 0, .int .i64 1, .int .i64 1, .int .i64 0, .int .i64 (-1)]) (ok := fun _ => True) (okp := fun _ => True) ?hr ?hp (fun _ hk => hk) trivial (Below.refl _ _) (Nat.le_refl _) (by simp) ?_; (case hd => rfl); (case hg => rfl); (case hr => first | (go_simp; done) | (go_simp; rfl)); (case hp => exact (Reps.c4 (show Kd.M k51 _ _ _ (⟨1, 0, 0, 1⟩ : S51) [.int .i64 1, .int .i64 0, .int .i64 0, .int .i64 1] from (k51_mkM _ _ _ (⟨1, 0, 0, 1⟩ : S51) )) (Reps.c4 (show Kd.M k51 _ _ _ (⟨(-1), 0, 0, (-1)⟩ : S51) [.int .i64 (-1), .int .i64 0, .int .i64 0, .int .i64 (-1)] from (k51_mkM _ _ _ (⟨(-1), 0, 0, (-1)⟩ : S51) )) (Reps.c4 (show Kd.M k51 _ _ _ (⟨0, (-1), 1, 0⟩ : S51) [.int .i64 0, .int .i64 (-1), .int .i64 1, .int .i64 0] from (k51_mkM _ _ _ (⟨0, (-1), 1, 0⟩ : S51) )) (Reps.c4 (show Kd.M k51 _ _ _ (⟨0, (-1), 1, 1⟩ : S51) [.int .i64 0, .int .i64 (-1), .int .i64 1, .int .i64 1] from (k51_mkM _ _ _ (⟨0, (-1), 1, 1⟩ : S51) )) (Reps.c4 (show Kd.M k51 _ _ _ (⟨(-1), (-1), 1, 0⟩ : S51) [.int .i64 (-1), .int .i64 (-1), .int .i64 1, .int .i64 0] from (k51_mkM _ _ _ (⟨(-1), (-1), 1, 0⟩ : S51) )) (Reps.c4 (show Kd.M k51 _ _ _ (⟨1, 0, 0, (-1)⟩ : S51) [.int .i64 1, .int .i64 0, .int .i64 0, .int .i64 (-1)] from (k51_mkM _ _ _ (⟨1, 0, 0, (-1)⟩ : S51) )) (Reps.c4 (show Kd.M k51 _ _ _ (⟨0, 1, 1, 0⟩ : S51) [.int .i64 0, .int .i64 1, .int .i64 1, .int .i64 0] from (k51_mkM _ _ _ (⟨0, 1, 1, 0⟩ : S51) )) (Reps.c4 (show Kd.M k51 _ _ _ (⟨1, 1, 0, (-1)⟩ : S51) [.int .i64 1, .int .i64 1, .int .i64 0, .int .i64 (-1)] from (k51_mkM _ _ _ (⟨1, 1, 0, (-1)⟩ : S51) )) (Reps.none _ _)))))))))); intro v430 w7 ho8 hb hg_ hnew_; clear hg_ hnew_; (first | rw [← Ny429.out] at ho8 | (simp only [Int.reduceToNat] at ho8; rw [← Ny429.out] at ho8)); have n0_ := aM (Kd.R_lower (Kd.R_newB ho8 (g := gb428) (o := .cells #[.int .i64 0, .int .i64 0, .int .i64 0, .int .i64 0] 51 (0, 0)) (by (with_reducible repeat (first|apply kN|apply kD|apply kA)); exact BK428.out)) (keep_size (w := w) (g := g) (row := none) (by repeat (first | (with_reducible first | exact HK.out | apply eS|apply eN|apply eD|apply eA | refine keep_far ?_ GW428.out _) | exact HK.out)))); have n1_ := aM (IsS144.below (by repeat (first | (with_reducible first | exact HI0.out | apply sA|apply sN|apply sD|apply s1|apply s2 | refine IsS144.far ?_ NB0_428.out _) | exact HI0.out)) hb); have n2_ := bB BK428 hb; have n3_ := aM (KeepBut.trans (by repeat (first | (with_reducible first | exact HK.out | apply eS|apply eN|apply eD|apply eA | refine keep_far ?_ GW428.out _) | exact HK.out)) (KeepBut.of_below hb g none) (.inl rfl)); have n4_ := aM (below_step (by repeat (first | (with_reducible first | exact HB.out | apply bA|apply bN|apply b1 | refine below_set ?_ (IsS144.ge HI0.out) | refine below_set ?_ GE428.out) | exact HB.out)) hb); clear HI0; clear BK428; clear HK; clear HB; have HO431 := n0_; have HI0 := n1_; have BK428 := n2_; have HK := n3_; have HB := n4_; clear n0_ n1_ n2_ n3_ n4_; clear hb ho8) | ((with_reducible refine gate_callee (f := 84) rfl ?_); refine goesL_ (some 16) rfl rfl Try.func84 (by kernel_rfl) rfl #[.pointer (some ⟨g, 0, none⟩), .int .i64 8] rfl (by first|rfl|(simp only [List.map_toArray, List.map_cons, List.map_nil]; try rfl)) ?_; (with_reducible refine (spec_l01Next.calls g s0_0 s0_1 s0_2 8 t432 t433 t434 w0 _ ?side1 ?side2 A2.out).mono ?_); (case side1 => repeat (first | (with_reducible first | exact HI0.out | apply sA|apply sN|apply sD|apply s1|apply s2 | refine IsS144.far ?_ NB0_428.out _) | exact HI0.out)); (case side2 => repeat (first | (with_reducible first | exact HB.out | apply bA|apply bN|apply b1 | refine below_set ?_ (IsS144.ge HI0.out) | refine below_set ?_ GE428.out) | exact HB.out)); rintro e w9 ⟨rfl, hi, hb, hk⟩; refine ⟨_, rfl, ?_⟩; have n0_ := aM (KeepBut.blk hk (g' := gb428) (o := .cells #[.int .i64 0, .int .i64 0, .int .i64 0, .int .i64 0] 51 (0, 0)) (by (with_reducible repeat (first|apply kN|apply kD|apply kA)); exact BK428.out) NB428_0.out (by simp)); have n1_ := aM (Kd.R_mono (Kd.R_keep (IsS144.apart (show IsS144 w0 _ g s0_0 s0_1 s0_2 from by repeat (first | (with_reducible first | exact HI0.out | apply sA|apply sN|apply sD|apply s1|apply s2 | refine IsS144.far ?_ NB0_428.out _) | exact HI0.out)) (by (with_reducible repeat (first | apply Kd.R_alloc | apply Kd.R_drewN | apply Kd.R_drew)); exact HO431.out) (by decide)) hk (fun _ h => h.2)) (fun _ h => h.1)); have n2_ := aM (KeepBut.trans (by repeat (first | (with_reducible first | exact HK.out | apply eS|apply eN|apply eD|apply eA | refine keep_far ?_ GW428.out _) | exact HK.out)) hk (.inl rfl)); have n3_ := aM (hb); have n4_ := aM (hi); clear BK428; clear HO431; clear HK; clear HB; clear HI0; have BK428 := n0_; have HO431 := n1_; have HK := n2_; have HB := n3_; have HI0 := n4_; clear n0_ n1_ n2_ n3_ n4_; (try clear hb); obtain ⟨Ao10, co10, eo10⟩ := Kd.R_slice HO431.out; subst eo10; have p435 : 0 ≤ (t432 : Int) := of_decide_eq_true (by first | (with_reducible assumption) | assumption); have q435 : t432 < (y429.length : Int) := of_decide_eq_true (by first | (with_reducible assumption) | assumption); obtain ⟨ad435, e435, hx435_0, hx435_1, hx435_2, hx435_3⟩ := at_T51 (Kd.R_reads' HO431.out).2.2 t432 p435 q435; cases e435; replace p435 := eq_true p435; replace q435 := eq_true q435) | ((with_reducible refine gate_dst (N := 3) rfl ?_); refine box_event ?hg (N := 3) ?hd (cs := #[.int .i64 0, .int .i64 0, .int .i64 0, .int .i64 0]) (t := 51) ?hr ?_; (case hd => rfl); (case hg => rfl); (case hr => first | (go_simp; done) | (go_simp; rfl)); intro gb436 hg w11 hbox hb; have n0_ := aM (Kd.R_below (Kd.R_elderB (by (with_reducible repeat (first | apply Kd.R_alloc | apply Kd.R_drewN | apply Kd.R_drew)); exact HO431.out) gb436 (Nat.le_of_eq hg.symm)) hb); have n1_ := aM (IsS144.below (by repeat (first | (with_reducible first | exact HI0.out | apply sA|apply sN|apply sD|apply s1|apply s2 | refine IsS144.far ?_ NB0_428.out _) | exact HI0.out)) hb); have n2_ := bB BK428 hb; have n3_ := aM (KeepBut.trans (by repeat (first | (with_reducible first | exact HK.out | apply eS|apply eN|apply eD|apply eA | refine keep_far ?_ GW428.out _) | exact HK.out)) (KeepBut.of_below hb g none) (.inl rfl)); have n4_ := aM (below_step (by repeat (first | (with_reducible first | exact HB.out | apply bA|apply bN|apply b1 | refine below_set ?_ (IsS144.ge HI0.out) | refine below_set ?_ GE428.out) | exact HB.out)) hb); have n5_ := aM (hbox); have n6_ := aM ((by rw [hg]; exact (keep_size (w := w) (g := g) (row := none) (by repeat (first | (with_reducible first | exact HK.out | apply eS|apply eN|apply eD|apply eA | refine keep_far ?_ GW428.out _) | exact HK.out))) : w.heap.size ≤ gb436)); have n7_ := aM ((Nat.le_trans HW0.out (by rw [hg]; exact (keep_size (w := w) (g := g) (row := none) (by repeat (first | (with_reducible first | exact HK.out | apply eS|apply eN|apply eD|apply eA | refine keep_far ?_ GW428.out _) | exact HK.out))) : w.heap.size ≤ gb436) : w0.heap.size ≤ gb436)); have n8_ := nL hg BK428; have n9_ := nG hg BK428; have n10_ := aM ((by rw [hg]; exact Nat.ne_of_lt (IsS144.lt (show IsS144 w0 _ g s0_0 t433 t434 from by repeat (first | (with_reducible first | exact HI0.out | apply sA|apply sN|apply sD|apply s1|apply s2 | refine IsS144.far ?_ NB0_428.out _) | exact HI0.out))) : g ≠ gb436)); have n11_ := aM ((by rw [hg]; exact Nat.ne_of_gt (IsS144.lt (show IsS144 w0 _ g s0_0 t433 t434 from by repeat (first | (with_reducible first | exact HI0.out | apply sA|apply sN|apply sD|apply s1|apply s2 | refine IsS144.far ?_ NB0_428.out _) | exact HI0.out))) : gb436 ≠ g)); clear HO431; clear HI0; clear BK428; clear HK; clear HB; have HO431 := n0_; have HI0 := n1_; have BK428 := n2_; have HK := n3_; have HB := n4_; have BK436 := n5_; have GW436 := n6_; have GE436 := n7_; have NB428_436 := n8_; have NB436_428 := n9_; have NB0_436 := n10_; have NB436_0 := n11_; clear n0_ n1_ n2_ n3_ n4_ n5_ n6_ n7_ n8_ n9_ n10_ n11_; clear hb hbox hg; have hnb12 := NB436_428.out; have hnc12 := NB428_436.out; have hnb13 := NB436_0.out; have hnc13 := NB0_436.out; obtain ⟨hcz14_0, hcz14_1, hcz14_2, hcz14_3⟩ := z4 BK436; obtain ⟨hfz14_0, hfz14_1, hfz14_2, hfz14_3⟩ := y4 BK436) | ((with_reducible refine gate_callee (f := 84) rfl ?_); refine goesL_ (some 20) rfl rfl Try.func84 (by kernel_rfl) rfl #[.pointer (some ⟨g, 0, none⟩), .int .i64 3] rfl (by first|rfl|(simp only [List.map_toArray, List.map_cons, List.map_nil]; try rfl)) ?_; (with_reducible refine (spec_l01Next.calls g s0_0 t433 t434 3 t437 t438 t439 w0 _ ?side1 ?side2 A5.out).mono ?_); (case side1 => repeat (first | (with_reducible first | exact HI0.out | apply sA|apply sN|apply sD|apply s1|apply s2 | refine IsS144.far ?_ NB0_428.out _ | refine IsS144.far ?_ NB0_436.out _) | exact HI0.out)); (case side2 => repeat (first | (with_reducible first | exact HB.out | apply bA|apply bN|apply b1 | refine below_set ?_ (IsS144.ge HI0.out) | refine below_set ?_ (Aside0.out (by assumption))) | exact HB.out)); rintro e w15 ⟨rfl, hi, hb, hk⟩; refine ⟨_, rfl, ?_⟩; have n0_ := aM (KeepBut.blk hk (g' := gb428) (o := .cells #[.int .i64 0, .int .i64 0, .int .i64 0, .int .i64 0] 51 (0, 0)) (by (repeat (first|(with_reducible first|apply kN|apply kD|apply kA)|refine blk_far ?_ NB428_436.out _)); exact BK428.out) NB428_0.out (by simp)); have n1_ := aM (Kd.R_mono (Kd.R_keep (IsS144.apart (show IsS144 w0 _ g s0_0 t433 t434 from by repeat (first | (with_reducible first | exact HI0.out | apply sA|apply sN|apply sD|apply s1|apply s2 | refine IsS144.far ?_ NB0_428.out _ | refine IsS144.far ?_ NB0_436.out _) | exact HI0.out)) (by (with_reducible repeat (first | apply Kd.R_alloc | apply Kd.R_drewN | apply Kd.R_drew)); exact (Kd.R_mono (Kd.R_far (p := ⟨gb436, 3, none⟩) (Kd.R_far (p := ⟨gb436, 2, none⟩) (Kd.R_far (p := ⟨gb436, 1, none⟩) (Kd.R_far (p := ⟨gb436, 0, none⟩) (Kd.R_mono HO431.out (fun k_ hk => (⟨hk, hk.2⟩ : _ ∧ k_ ≠ gb436))) (fun _ hk => hk.2) (.int .i64 ((rd_T51 y429 t432).f0))) (fun _ hk => hk.2) (.int .i64 ((rd_T51 y429 t432).f1))) (fun _ hk => hk.2) (.int .i64 ((rd_T51 y429 t432).f2))) (fun _ hk => hk.2) (.int .i64 ((rd_T51 y429 t432).f3))) (fun _ h_ => h_.1))) (by decide)) hk (fun _ h => h.2)) (fun _ h => h.1)); have n2_ := aM (KeepBut.blk hk (g' := gb436) (o := .cells #[.int .i64 ((rd_T51 y429 t432).f0), .int .i64 ((rd_T51 y429 t432).f1), .int .i64 ((rd_T51 y429 t432).f2), .int .i64 ((rd_T51 y429 t432).f3)] 51 (0, 0)) (by (with_reducible repeat (first|apply kN|apply kD|apply kA)); refine blk_put (cs := #[.int .i64 ((rd_T51 y429 t432).f0), .int .i64 ((rd_T51 y429 t432).f1), .int .i64 ((rd_T51 y429 t432).f2), .int .i64 0]) ?_ 3 _ rfl; (with_reducible repeat (first|apply kN|apply kD|apply kA)); refine blk_put (cs := #[.int .i64 ((rd_T51 y429 t432).f0), .int .i64 ((rd_T51 y429 t432).f1), .int .i64 0, .int .i64 0]) ?_ 2 _ rfl; (with_reducible repeat (first|apply kN|apply kD|apply kA)); refine blk_put (cs := #[.int .i64 ((rd_T51 y429 t432).f0), .int .i64 0, .int .i64 0, .int .i64 0]) ?_ 1 _ rfl; (with_reducible repeat (first|apply kN|apply kD|apply kA)); refine blk_put (cs := #[.int .i64 0, .int .i64 0, .int .i64 0, .int .i64 0]) ?_ 0 _ rfl; (with_reducible repeat (first|apply kN|apply kD|apply kA)); exact BK436.out) NB436_0.out (by simp)); have n3_ := aM (KeepBut.trans (by repeat (first | (with_reducible first | exact HK.out | apply eS|apply eN|apply eD|apply eA | refine keep_far ?_ GW428.out _ | refine keep_far ?_ GW436.out _) | exact HK.out)) hk (.inl rfl)); have n4_ := aM (hb); have n5_ := aM (hi); clear BK428; clear HO431; clear BK436; clear HK; clear HB; clear HI0; have BK428 := n0_; have HO431 := n1_; have BK436 := n2_; have HK := n3_; have HB := n4_; have HI0 := n5_; clear n0_ n1_ n2_ n3_ n4_ n5_; (try clear hb)))
   go_loopg [4] k (fun kq v4 w' => ∃ (x4_1 : Int) (x1001_1 : Int) (x1002_1 : Int) (x437000_1 : Int) (x437001_1 : Int) (x437002_1 : Int) (x437003_1 : Int), v4 = .int .i64 x4_1 ∧ Aside0 (spec_l02DrawFinite.l0 kq x4_1 s0_0 x1001_1 x1002_1 x437000_1 x437001_1 x437002_1 x437003_1 = some (r1, r2, r3, r4, r5, r6)) ∧ Aside0 (kq ≤ k) ∧ Aside0 (w'.heap[gb428]? = some (.cells #[.int .i64 0, .int .i64 0, .int .i64 0, .int .i64 0] 51 (0, 0))) ∧ Aside0 (w'.heap[gb436]? = some (.cells #[.int .i64 x437000_1, .int .i64 x437001_1, .int .i64 x437002_1, .int .i64 x437003_1] 51 (0, 0))) ∧ Aside0 (IsS144 w0 w' g s0_0 x1001_1 x1002_1) ∧ Aside0 (KeepBut w w' g none) ∧ Aside0 (Below w0.heap.size w0 w'))
   case atStart => exact ⟨(t437), (t438), (t439), ((rd_T51 y429 t432).f0), ((rd_T51 y429 t432).f1), ((rd_T51 y429 t432).f2), ((rd_T51 y429 t432).f3), (by first | rfl | (simp; done) | (simp [*]; done)), H', ⟨Nat.le_refl _⟩, ⟨by (with_reducible repeat (first|apply kN|apply kD|apply kA)); exact BK428.out⟩, ⟨by (with_reducible repeat (first|apply kN|apply kD|apply kA)); exact BK436.out⟩, ⟨by repeat (first | (with_reducible first | exact HI0.out | apply sA|apply sN|apply sD|apply s1|apply s2 | refine IsS144.far ?_ NB0_428.out _ | refine IsS144.far ?_ NB0_436.out _) | exact HI0.out)⟩, ⟨by repeat (first | (with_reducible first | exact HK.out | apply eS|apply eN|apply eD|apply eA | refine keep_far ?_ GW428.out _ | refine keep_far ?_ GW436.out _) | exact HK.out)⟩, ⟨by repeat (first | (with_reducible first | exact HB.out | apply bA|apply bN|apply b1 | refine below_set ?_ (IsS144.ge HI0.out) | refine below_set ?_ (Aside0.out (by assumption))) | exact HB.out)⟩⟩
   case round =>
    clear H'
    try clear c1
    try clear p2
    try clear c3
    try clear c3b0
    try clear c4
    try clear c4b0
    try clear p4
    try clear q4
    try clear hx4
    try clear c8
    try clear c12
    try clear c13
    try clear hcz14_0
    try clear hcz14_1
    try clear hcz14_2
    try clear hcz14_3
    try clear hfz14_0
    try clear hfz14_1
    try clear hfz14_2
    try clear hfz14_3
    try clear hx435_0
    try clear hx435_1
    try clear hx435_2
    try clear hx435_3
    try clear p435
    try clear q435
    obtain ⟨x4_1, x1001_1, x1002_1, x437000_1, x437001_1, x437002_1, x437003_1, rfl, HA, HK1, BK428, BK436, HI0, HK, HB⟩ := hrel
    cases gk with
    | zero => exact absurd HA.out (by simp [spec_l02DrawFinite.l0])
    | succ k1 =>
     have H := HA.out
     clear HA
     simp only [spec_l02DrawFinite.l0] at H
     by_cases c16 : x4_1 > 0
     ·rw [if_pos c16] at H
      have c16b0 : decide (0 < x4_1) = true := decide_eq_true c16
      clear c16
      replace H := Option.bind_eq_some_iff.mp H
      obtain ⟨⟨t440, t441, t442⟩, A170, H⟩ := H
      try dsimp only at H
      have A17 := aM A170
      clear A170
      replace H := Option.bind_eq_some_iff.mp H
      obtain ⟨⟨t444, t445, t446⟩, A180, H⟩ := H
      try dsimp only at H
      have A18 := aM A180
      clear A180
      by_cases c19 : t444 = 0
      ·rw [if_pos c19] at H
       have c19b0 : (t444 == 0) = true := beq_iff_eq.mpr c19
       have c19b1 : (t444 != 0) = false := bne_eq_false_iff_eq.mpr c19
       clear c19
       replace H := Option.bind_eq_some_iff.mp H
       obtain ⟨⟨t447, t448, t449⟩, A200, H⟩ := H
       try dsimp only at H
       have A20 := aM A200
       clear A200
       replace H := Option.bind_eq_some_iff.mp H
       obtain ⟨⟨t450, t451, t452, t453⟩, A210, H⟩ := H
       try dsimp only at H
       have A21 := aM A210
       clear A210
       replace H := Option.bind_eq_some_iff.mp H
       obtain ⟨⟨t454, t455, t456, t457⟩, A220, H⟩ := H
       try dsimp only at H
       have A22 := aM A220
       clear A220
       replace H := Option.bind_eq_some_iff.mp H
       obtain ⟨⟨t458, t459, t460, t461⟩, A230, H⟩ := H
       try dsimp only at H
       have A23 := aM A230
       clear A230
       have H' := aM H
       clear H
       try go_wp2_with (first | ((with_reducible refine gate_callee (f := 84) rfl ?_); refine goesL_ (some 26) rfl rfl Try.func84 (by kernel_rfl) rfl #[.pointer (some ⟨g, 0, none⟩), .int .i64 5] rfl (by first|rfl|(simp only [List.map_toArray, List.map_cons, List.map_nil]; try rfl)) ?_; (with_reducible refine (spec_l01Next.calls g s0_0 x1001_1 x1002_1 5 t440 t441 t442 w0 _ ?side1 ?side2 A17.out).mono ?_); (case side1 => repeat (first | (with_reducible first | exact HI0.out | apply sA|apply sN|apply sD|apply s1|apply s2 | refine IsS144.far ?_ NB0_428.out _ | refine IsS144.far ?_ NB0_436.out _) | exact HI0.out)); (case side2 => repeat (first | (with_reducible first | exact HB.out | apply bA|apply bN|apply b1 | refine below_set ?_ (IsS144.ge HI0.out) | refine below_set ?_ (Aside0.out (by assumption))) | exact HB.out)); rintro e w24 ⟨rfl, hi, hb, hk⟩; refine ⟨_, rfl, ?_⟩; have n0_ := aM (KeepBut.blk hk (g' := gb428) (o := .cells #[.int .i64 0, .int .i64 0, .int .i64 0, .int .i64 0] 51 (0, 0)) (by (with_reducible repeat (first|apply kN|apply kD|apply kA)); exact BK428.out) NB428_0.out (by simp)); have n1_ := aM (KeepBut.blk hk (g' := gb436) (o := .cells #[.int .i64 x437000_1, .int .i64 x437001_1, .int .i64 x437002_1, .int .i64 x437003_1] 51 (0, 0)) (by (with_reducible repeat (first|apply kN|apply kD|apply kA)); exact BK436.out) NB436_0.out (by simp)); have n2_ := aM (KeepBut.trans (by repeat (first | (with_reducible first | exact HK.out | apply eS|apply eN|apply eD|apply eA | refine keep_far ?_ GW428.out _ | refine keep_far ?_ GW436.out _) | exact HK.out)) hk (.inl rfl)); have n3_ := aM (hb); have n4_ := aM (hi); clear BK428; clear BK436; clear HK; clear HB; clear HI0; have BK428 := n0_; have BK436 := n1_; have HK := n2_; have HB := n3_; have HI0 := n4_; clear n0_ n1_ n2_ n3_ n4_; (try clear hb)) | ((with_reducible refine gate_dst (N := 5) rfl ?_); refine box_event ?hg (N := 5) ?hd (cs := #[.int .i64 0, .int .i64 0, .int .i64 0, .int .i64 0]) (t := 51) ?hr ?_; (case hd => rfl); (case hg => rfl); (case hr => first | (go_simp; done) | (go_simp; rfl)); intro gb443 hg w25 hbox hb; have n0_ := bB BK428 hb; have n1_ := bB BK436 hb; have n2_ := aM (IsS144.below (by repeat (first | (with_reducible first | exact HI0.out | apply sA|apply sN|apply sD|apply s1|apply s2 | refine IsS144.far ?_ NB0_428.out _ | refine IsS144.far ?_ NB0_436.out _) | exact HI0.out)) hb); have n3_ := aM (KeepBut.trans (by repeat (first | (with_reducible first | exact HK.out | apply eS|apply eN|apply eD|apply eA | refine keep_far ?_ GW428.out _ | refine keep_far ?_ GW436.out _) | exact HK.out)) (KeepBut.of_below hb g none) (.inl rfl)); have n4_ := aM (below_step (by repeat (first | (with_reducible first | exact HB.out | apply bA|apply bN|apply b1 | refine below_set ?_ (IsS144.ge HI0.out) | refine below_set ?_ (Aside0.out (by assumption))) | exact HB.out)) hb); have n5_ := aM (hbox); have n6_ := aM ((by rw [hg]; exact (keep_size (w := w) (g := g) (row := none) (by repeat (first | (with_reducible first | exact HK.out | apply eS|apply eN|apply eD|apply eA | refine keep_far ?_ GW428.out _ | refine keep_far ?_ GW436.out _) | exact HK.out))) : w.heap.size ≤ gb443)); have n7_ := aM ((Nat.le_trans HW0.out (by rw [hg]; exact (keep_size (w := w) (g := g) (row := none) (by repeat (first | (with_reducible first | exact HK.out | apply eS|apply eN|apply eD|apply eA | refine keep_far ?_ GW428.out _ | refine keep_far ?_ GW436.out _) | exact HK.out))) : w.heap.size ≤ gb443) : w0.heap.size ≤ gb443)); have n8_ := nL hg BK428; have n9_ := nG hg BK428; have n10_ := nL hg BK436; have n11_ := nG hg BK436; have n12_ := aM ((by rw [hg]; exact Nat.ne_of_lt (IsS144.lt (show IsS144 w0 _ g s0_0 t441 t442 from by repeat (first | (with_reducible first | exact HI0.out | apply sA|apply sN|apply sD|apply s1|apply s2 | refine IsS144.far ?_ NB0_428.out _ | refine IsS144.far ?_ NB0_436.out _) | exact HI0.out))) : g ≠ gb443)); have n13_ := aM ((by rw [hg]; exact Nat.ne_of_gt (IsS144.lt (show IsS144 w0 _ g s0_0 t441 t442 from by repeat (first | (with_reducible first | exact HI0.out | apply sA|apply sN|apply sD|apply s1|apply s2 | refine IsS144.far ?_ NB0_428.out _ | refine IsS144.far ?_ NB0_436.out _) | exact HI0.out))) : gb443 ≠ g)); clear BK428; clear BK436; clear HI0; clear HK; clear HB; have BK428 := n0_; have BK436 := n1_; have HI0 := n2_; have HK := n3_; have HB := n4_; have BK443 := n5_; have GW443 := n6_; have GE443 := n7_; have NB428_443 := n8_; have NB443_428 := n9_; have NB436_443 := n10_; have NB443_436 := n11_; have NB0_443 := n12_; have NB443_0 := n13_; clear n0_ n1_ n2_ n3_ n4_ n5_ n6_ n7_ n8_ n9_ n10_ n11_ n12_ n13_; clear hb hbox hg; have hnb26 := NB443_428.out; have hnc26 := NB428_443.out; have hnb27 := NB443_436.out; have hnc27 := NB436_443.out; have hnb28 := NB443_0.out; have hnc28 := NB0_443.out; obtain ⟨hcz29_0, hcz29_1, hcz29_2, hcz29_3⟩ := z4 BK443; obtain ⟨hfz29_0, hfz29_1, hfz29_2, hfz29_3⟩ := y4 BK443) | ((with_reducible refine gate_callee (f := 84) rfl ?_); refine goesL_ (some 30) rfl rfl Try.func84 (by kernel_rfl) rfl #[.pointer (some ⟨g, 0, none⟩), .int .i64 2] rfl (by first|rfl|(simp only [List.map_toArray, List.map_cons, List.map_nil]; try rfl)) ?_; (with_reducible refine (spec_l01Next.calls g s0_0 t441 t442 2 t444 t445 t446 w0 _ ?side1 ?side2 A18.out).mono ?_); (case side1 => repeat (first | (with_reducible first | exact HI0.out | apply sA|apply sN|apply sD|apply s1|apply s2 | refine IsS144.far ?_ NB0_428.out _ | refine IsS144.far ?_ NB0_436.out _ | refine IsS144.far ?_ NB0_443.out _) | exact HI0.out)); (case side2 => repeat (first | (with_reducible first | exact HB.out | apply bA|apply bN|apply b1 | refine below_set ?_ (IsS144.ge HI0.out) | refine below_set ?_ (Aside0.out (by assumption))) | exact HB.out)); rintro e w30 ⟨rfl, hi, hb, hk⟩; refine ⟨_, rfl, ?_⟩; have n0_ := aM (KeepBut.blk hk (g' := gb428) (o := .cells #[.int .i64 0, .int .i64 0, .int .i64 0, .int .i64 0] 51 (0, 0)) (by (repeat (first|(with_reducible first|apply kN|apply kD|apply kA)|refine blk_far ?_ NB428_443.out _)); exact BK428.out) NB428_0.out (by simp)); have n1_ := aM (KeepBut.blk hk (g' := gb436) (o := .cells #[.int .i64 x437000_1, .int .i64 x437001_1, .int .i64 x437002_1, .int .i64 x437003_1] 51 (0, 0)) (by (repeat (first|(with_reducible first|apply kN|apply kD|apply kA)|refine blk_far ?_ NB436_443.out _)); exact BK436.out) NB436_0.out (by simp)); have n2_ := aM (KeepBut.blk hk (g' := gb443) (o := .cells #[.int .i64 1, .int .i64 (wrap64 (t440 - 2)), .int .i64 0, .int .i64 1] 51 (0, 0)) (by (with_reducible repeat (first|apply kN|apply kD|apply kA)); refine blk_put (cs := #[.int .i64 1, .int .i64 (wrap64 (t440 - 2)), .int .i64 0, .int .i64 0]) ?_ 3 _ rfl; (with_reducible repeat (first|apply kN|apply kD|apply kA)); refine blk_put (cs := #[.int .i64 1, .int .i64 (wrap64 (t440 - 2)), .int .i64 0, .int .i64 0]) ?_ 2 _ rfl; (with_reducible repeat (first|apply kN|apply kD|apply kA)); refine blk_put (cs := #[.int .i64 1, .int .i64 0, .int .i64 0, .int .i64 0]) ?_ 1 _ rfl; (with_reducible repeat (first|apply kN|apply kD|apply kA)); refine blk_put (cs := #[.int .i64 0, .int .i64 0, .int .i64 0, .int .i64 0]) ?_ 0 _ rfl; (with_reducible repeat (first|apply kN|apply kD|apply kA)); exact BK443.out) NB443_0.out (by simp)); have n3_ := aM (KeepBut.trans (by repeat (first | (with_reducible first | exact HK.out | apply eS|apply eN|apply eD|apply eA | refine keep_far ?_ GW428.out _ | refine keep_far ?_ GW436.out _ | refine keep_far ?_ GW443.out _) | exact HK.out)) hk (.inl rfl)); have n4_ := aM (hb); have n5_ := aM (hi); clear BK428; clear BK436; clear BK443; clear HK; clear HB; clear HI0; have BK428 := n0_; have BK436 := n1_; have BK443 := n2_; have HK := n3_; have HB := n4_; have HI0 := n5_; clear n0_ n1_ n2_ n3_ n4_ n5_; (try clear hb)) | ((with_reducible refine gate_callee (f := 84) rfl ?_); refine goesL_ (some 33) rfl rfl Try.func84 (by kernel_rfl) rfl #[.pointer (some ⟨g, 0, none⟩), .int .i64 5] rfl (by first|rfl|(simp only [List.map_toArray, List.map_cons, List.map_nil]; try rfl)) ?_; (with_reducible refine (spec_l01Next.calls g s0_0 t445 t446 5 t447 t448 t449 w0 _ ?side1 ?side2 A20.out).mono ?_); (case side1 => repeat (first | (with_reducible first | exact HI0.out | apply sA|apply sN|apply sD|apply s1|apply s2 | refine IsS144.far ?_ NB0_428.out _ | refine IsS144.far ?_ NB0_436.out _ | refine IsS144.far ?_ NB0_443.out _) | exact HI0.out)); (case side2 => repeat (first | (with_reducible first | exact HB.out | apply bA|apply bN|apply b1 | refine below_set ?_ (IsS144.ge HI0.out) | refine below_set ?_ (Aside0.out (by assumption))) | exact HB.out)); rintro e w31 ⟨rfl, hi, hb, hk⟩; refine ⟨_, rfl, ?_⟩; have n0_ := aM (KeepBut.blk hk (g' := gb428) (o := .cells #[.int .i64 0, .int .i64 0, .int .i64 0, .int .i64 0] 51 (0, 0)) (by (with_reducible repeat (first|apply kN|apply kD|apply kA)); exact BK428.out) NB428_0.out (by simp)); have n1_ := aM (KeepBut.blk hk (g' := gb436) (o := .cells #[.int .i64 x437000_1, .int .i64 x437001_1, .int .i64 x437002_1, .int .i64 x437003_1] 51 (0, 0)) (by (with_reducible repeat (first|apply kN|apply kD|apply kA)); exact BK436.out) NB436_0.out (by simp)); have n2_ := aM (KeepBut.blk hk (g' := gb443) (o := .cells #[.int .i64 1, .int .i64 (wrap64 (t440 - 2)), .int .i64 0, .int .i64 1] 51 (0, 0)) (by (with_reducible repeat (first|apply kN|apply kD|apply kA)); exact BK443.out) NB443_0.out (by simp)); have n3_ := aM (KeepBut.trans (by repeat (first | (with_reducible first | exact HK.out | apply eS|apply eN|apply eD|apply eA | refine keep_far ?_ GW428.out _ | refine keep_far ?_ GW436.out _ | refine keep_far ?_ GW443.out _) | exact HK.out)) hk (.inl rfl)); have n4_ := aM (hb); have n5_ := aM (hi); clear BK428; clear BK436; clear BK443; clear HK; clear HB; clear HI0; have BK428 := n0_; have BK436 := n1_; have BK443 := n2_; have HK := n3_; have HB := n4_; have HI0 := n5_; clear n0_ n1_ n2_ n3_ n4_ n5_; (try clear hb); obtain ⟨hcz32_0, hcz32_1, hcz32_2, hcz32_3⟩ := z4 BK443; obtain ⟨hfz32_0, hfz32_1, hfz32_2, hfz32_3⟩ := y4 BK443))
       have n0_ : Aside0 (((((w31.setCell ⟨gb443, 0, none⟩ (.int .i64 1)).setCell ⟨gb443, 1, none⟩ (.int .i64 0)).setCell ⟨gb443, 2, none⟩ (.int .i64 (wrap64 (t447 - 2)))).setCell ⟨gb443, 3, none⟩ (.int .i64 1)).heap[gb428]? = some (.cells #[.int .i64 0, .int .i64 0, .int .i64 0, .int .i64 0] 51 (0, 0))) := ⟨by (repeat (first|(with_reducible first|apply kN|apply kD|apply kA)|refine blk_far ?_ NB428_443.out _)); exact BK428.out⟩
       have n1_ : Aside0 (((((w31.setCell ⟨gb443, 0, none⟩ (.int .i64 1)).setCell ⟨gb443, 1, none⟩ (.int .i64 0)).setCell ⟨gb443, 2, none⟩ (.int .i64 (wrap64 (t447 - 2)))).setCell ⟨gb443, 3, none⟩ (.int .i64 1)).heap[gb436]? = some (.cells #[.int .i64 x437000_1, .int .i64 x437001_1, .int .i64 x437002_1, .int .i64 x437003_1] 51 (0, 0))) := ⟨by (repeat (first|(with_reducible first|apply kN|apply kD|apply kA)|refine blk_far ?_ NB436_443.out _)); exact BK436.out⟩
       have n2_ : Aside0 (((((w31.setCell ⟨gb443, 0, none⟩ (.int .i64 1)).setCell ⟨gb443, 1, none⟩ (.int .i64 0)).setCell ⟨gb443, 2, none⟩ (.int .i64 (wrap64 (t447 - 2)))).setCell ⟨gb443, 3, none⟩ (.int .i64 1)).heap[gb443]? = some (.cells #[.int .i64 1, .int .i64 0, .int .i64 (wrap64 (t447 - 2)), .int .i64 1] 51 (0, 0))) := ⟨by (with_reducible repeat (first|apply kN|apply kD|apply kA)); refine blk_put (cs := #[.int .i64 1, .int .i64 0, .int .i64 (wrap64 (t447 - 2)), .int .i64 1]) ?_ 3 _ rfl; (with_reducible repeat (first|apply kN|apply kD|apply kA)); refine blk_put (cs := #[.int .i64 1, .int .i64 0, .int .i64 0, .int .i64 1]) ?_ 2 _ rfl; (with_reducible repeat (first|apply kN|apply kD|apply kA)); refine blk_put (cs := #[.int .i64 1, .int .i64 (wrap64 (t440 - 2)), .int .i64 0, .int .i64 1]) ?_ 1 _ rfl; (with_reducible repeat (first|apply kN|apply kD|apply kA)); refine blk_put (cs := #[.int .i64 1, .int .i64 (wrap64 (t440 - 2)), .int .i64 0, .int .i64 1]) ?_ 0 _ rfl; (with_reducible repeat (first|apply kN|apply kD|apply kA)); exact BK443.out⟩
       have n3_ : Aside0 (IsS144 w0 ((((w31.setCell ⟨gb443, 0, none⟩ (.int .i64 1)).setCell ⟨gb443, 1, none⟩ (.int .i64 0)).setCell ⟨gb443, 2, none⟩ (.int .i64 (wrap64 (t447 - 2)))).setCell ⟨gb443, 3, none⟩ (.int .i64 1)) g s0_0 t448 t449) := ⟨by repeat (first | (with_reducible first | exact HI0.out | apply sA|apply sN|apply sD|apply s1|apply s2 | refine IsS144.far ?_ NB0_428.out _ | refine IsS144.far ?_ NB0_436.out _ | refine IsS144.far ?_ NB0_443.out _) | exact HI0.out)⟩
       have n4_ : Aside0 (KeepBut w ((((w31.setCell ⟨gb443, 0, none⟩ (.int .i64 1)).setCell ⟨gb443, 1, none⟩ (.int .i64 0)).setCell ⟨gb443, 2, none⟩ (.int .i64 (wrap64 (t447 - 2)))).setCell ⟨gb443, 3, none⟩ (.int .i64 1)) g none) := ⟨by repeat (first | (with_reducible first | exact HK.out | apply eS|apply eN|apply eD|apply eA | refine keep_far ?_ GW428.out _ | refine keep_far ?_ GW436.out _ | refine keep_far ?_ GW443.out _) | exact HK.out)⟩
       have n5_ : Aside0 (Below w0.heap.size w0 ((((w31.setCell ⟨gb443, 0, none⟩ (.int .i64 1)).setCell ⟨gb443, 1, none⟩ (.int .i64 0)).setCell ⟨gb443, 2, none⟩ (.int .i64 (wrap64 (t447 - 2)))).setCell ⟨gb443, 3, none⟩ (.int .i64 1))) := ⟨by repeat (first | (with_reducible first | exact HB.out | apply bA|apply bN|apply b1 | refine below_set ?_ (IsS144.ge HI0.out) | refine below_set ?_ (Aside0.out (by assumption))) | exact HB.out)⟩
       (try clear BK428)
       (try clear BK436)
       (try clear BK443)
       (try clear HI0)
       (try clear HK)
       (try clear HB)
       generalize ((((w31.setCell ⟨gb443, 0, none⟩ (.int .i64 1)).setCell ⟨gb443, 1, none⟩ (.int .i64 0)).setCell ⟨gb443, 2, none⟩ (.int .i64 (wrap64 (t447 - 2)))).setCell ⟨gb443, 3, none⟩ (.int .i64 1)) = w33 at n0_ n1_ n2_ n3_ n4_ n5_ ⊢
       have BK428 := n0_
       have BK436 := n1_
       have BK443 := n2_
       have HI0 := n3_
       have HK := n4_
       have HB := n5_
       clear n0_ n1_ n2_ n3_ n4_ n5_
       have n0_ := aM (blk_drew BK428.out)
       have n1_ := aM (blk_drew BK436.out)
       have n2_ := aM (blk_drew BK443.out)
       have n3_ := aM (IsS144.drew HI0.out)
       have n4_ := aM (keep_drew HK.out)
       have n5_ := aM (below_drew1 HB.out)
       clear BK428
       clear BK436
       clear BK443
       clear HI0
       clear HK
       clear HB
       have BK428 := n0_
       have BK436 := n1_
       have BK443 := n2_
       have HI0 := n3_
       have HK := n4_
       have HB := n5_
       clear n0_ n1_ n2_ n3_ n4_ n5_
       refine start_ (n := 7) (S := fun w' => w'.cell? ⟨gb443, 0, none⟩ = some (.int .i64 1) ∧ w'.cell? ⟨gb443, 1, none⟩ = some (.int .i64 0) ∧ w'.cell? ⟨gb443, 2, none⟩ = some (.int .i64 (wrap64 (t447 - 2))) ∧ w'.cell? ⟨gb443, 3, none⟩ = some (.int .i64 1) ∧ w'.cell? ⟨gb436, 0, none⟩ = some (.int .i64 x437000_1) ∧ w'.cell? ⟨gb436, 1, none⟩ = some (.int .i64 x437001_1) ∧ w'.cell? ⟨gb436, 2, none⟩ = some (.int .i64 x437002_1) ∧ w'.cell? ⟨gb436, 3, none⟩ = some (.int .i64 x437003_1)) (ds := [6]) #[false, false, false, false, false, false, false] (by kernel_rfl) rfl rfl ⟨(blk_cell BK443.out 0).trans rfl, (blk_cell BK443.out 1).trans rfl, (blk_cell BK443.out 2).trans rfl, (blk_cell BK443.out 3).trans rfl, (blk_cell BK436.out 0).trans rfl, (blk_cell BK436.out 1).trans rfl, (blk_cell BK436.out 2).trans rfl, (blk_cell BK436.out 3).trans rfl⟩ (fun hHeld => ?_)
       generalize w33.drew = w34 at BK428 BK436 BK443 HI0 HK HB hHeld ⊢
       refine take_ (i := 0) (N := some 36) (v := ?_) (a' := ?_) #[true, false, false, false, false, false, false] rfl rfl (by kernel_rfl) (fun _ _ _ h => h) (Or.inl ⟨by rfl, ?_⟩) hHeld ?_ ?_
       rotate_left
       ·rintro w' ⟨s0, s1, s2, s3, s4, s5, s6, s7⟩
        go_simp
        with_reducible rfl
       rotate_left
       ·simp only [Act.put, List.setIfInBounds_toArray, List.set_cons_zero, List.set_cons_succ, i64_w, i32_w]
        rfl
       refine take_ (i := 1) (N := some 37) (v := ?_) (a' := ?_) #[true, true, false, false, false, false, false] rfl rfl (by kernel_rfl) (fun _ _ _ h => h) (Or.inl ⟨by rfl, ?_⟩) hHeld ?_ ?_
       rotate_left
       ·rintro w' ⟨s0, s1, s2, s3, s4, s5, s6, s7⟩
        go_simp
        with_reducible rfl
       rotate_left
       ·simp only [Act.put, List.setIfInBounds_toArray, List.set_cons_zero, List.set_cons_succ, i64_w, i32_w]
        rfl
       refine take_ (i := 3) (N := some 39) (v := ?_) (a' := ?_) #[true, true, false, true, false, false, false] rfl rfl (by kernel_rfl) (fun _ _ _ h => h) (Or.inl ⟨by rfl, ?_⟩) hHeld ?_ ?_
       rotate_left
       ·rintro w' ⟨s0, s1, s2, s3, s4, s5, s6, s7⟩
        go_simp
        with_reducible rfl
       rotate_left
       ·simp only [Act.put, List.setIfInBounds_toArray, List.set_cons_zero, List.set_cons_succ, i64_w, i32_w]
        rfl
       refine one_ (i := 2) (N := some 38) #[true, true, true, true, false, false, false] rfl rfl (by kernel_rfl) (by decide) (fun K hK => ?_)
       refine goes_ Try.func92 (by kernel_rfl) rfl #[.agg #[.int .i64 1, .int .i64 0, .int .i64 (wrap64 (t447 - 2)), .int .i64 1], .agg #[.int .i64 x437000_1, .int .i64 x437001_1, .int .i64 x437002_1, .int .i64 x437003_1]] (by rfl) rfl rfl (by first|rfl|(simp only [List.map_toArray, List.map_cons, List.map_nil]; try rfl)) ?_
       with_reducible refine (spec_l02Multiply.calls 1 0 (wrap64 (t447 - 2)) 1 x437000_1 x437001_1 x437002_1 x437003_1 t450 t451 t452 t453 _ A21.out).mono ?_
       rintro e w35 ⟨rfl, hb⟩
       refine ⟨_, rfl, ?_⟩
       have n0_ := bB BK428 hb
       have n1_ := bB BK436 hb
       have n2_ := aM (IsS144.below (by repeat (first | (with_reducible first | exact HI0.out | apply sA|apply sN|apply sD|apply s1|apply s2 | refine IsS144.far ?_ NB0_428.out _ | refine IsS144.far ?_ NB0_436.out _ | refine IsS144.far ?_ NB0_443.out _) | exact HI0.out)) hb)
       have n3_ := bB BK443 hb
       have n4_ := aM (KeepBut.trans (by repeat (first | (with_reducible first | exact HK.out | apply eS|apply eN|apply eD|apply eA | refine keep_far ?_ GW428.out _ | refine keep_far ?_ GW436.out _ | refine keep_far ?_ GW443.out _) | exact HK.out)) (KeepBut.of_below hb g none) (.inl rfl))
       have n5_ := aM (below_step (by repeat (first | (with_reducible first | exact HB.out | apply bA|apply bN|apply b1 | refine below_set ?_ (IsS144.ge HI0.out) | refine below_set ?_ (Aside0.out (by assumption))) | exact HB.out)) hb)
       clear BK428
       clear BK436
       clear HI0
       clear BK443
       clear HK
       clear HB
       have BK428 := n0_
       have BK436 := n1_
       have HI0 := n2_
       have BK443 := n3_
       have HK := n4_
       have HB := n5_
       clear n0_ n1_ n2_ n3_ n4_ n5_
       (try clear hb)
       (try clear hb2)
       (try clear hk)
       (try clear hi)
       refine hK.out _ _ ⟨(blk_cell BK443.out 0).trans rfl, (blk_cell BK443.out 1).trans rfl, (blk_cell BK443.out 2).trans rfl, (blk_cell BK443.out 3).trans rfl, (blk_cell BK436.out 0).trans rfl, (blk_cell BK436.out 1).trans rfl, (blk_cell BK436.out 2).trans rfl, (blk_cell BK436.out 3).trans rfl⟩ (fun hHeld => ?_)
       clear hK K
       refine norm_ (a' := ?_) ?_ ?_
       rotate_left
       ·show Act.put _ (some 38) _ = _
        simp only [Act.put, List.setIfInBounds_toArray, List.set_cons_zero, List.set_cons_succ, i64_w, i32_w]
        rfl
       refine one_ (i := 4) (N := some 40) #[true, true, true, true, true, false, false] rfl rfl (by kernel_rfl) (by decide) (fun K hK => ?_)
       refine goes_ Try.func94 (by kernel_rfl) rfl #[.agg #[.int .i64 1, .int .i64 0, .int .i64 (wrap64 (t447 - 2)), .int .i64 1]] (by rfl) rfl rfl (by first|rfl|(simp only [List.map_toArray, List.map_cons, List.map_nil]; try rfl)) ?_
       with_reducible refine (spec_l02Inverse.calls 1 0 (wrap64 (t447 - 2)) 1 t454 t455 t456 t457 _ A22.out).mono ?_
       rintro e w36 ⟨rfl, hb⟩
       refine ⟨_, rfl, ?_⟩
       have n0_ := bB BK428 hb
       have n1_ := bB BK436 hb
       have n2_ := aM (IsS144.below (by repeat (first | (with_reducible first | exact HI0.out | apply sA|apply sN|apply sD|apply s1|apply s2 | refine IsS144.far ?_ NB0_428.out _ | refine IsS144.far ?_ NB0_436.out _ | refine IsS144.far ?_ NB0_443.out _) | exact HI0.out)) hb)
       have n3_ := bB BK443 hb
       have n4_ := aM (KeepBut.trans (by repeat (first | (with_reducible first | exact HK.out | apply eS|apply eN|apply eD|apply eA | refine keep_far ?_ GW428.out _ | refine keep_far ?_ GW436.out _ | refine keep_far ?_ GW443.out _) | exact HK.out)) (KeepBut.of_below hb g none) (.inl rfl))
       have n5_ := aM (below_step (by repeat (first | (with_reducible first | exact HB.out | apply bA|apply bN|apply b1 | refine below_set ?_ (IsS144.ge HI0.out) | refine below_set ?_ (Aside0.out (by assumption))) | exact HB.out)) hb)
       clear BK428
       clear BK436
       clear HI0
       clear BK443
       clear HK
       clear HB
       have BK428 := n0_
       have BK436 := n1_
       have HI0 := n2_
       have BK443 := n3_
       have HK := n4_
       have HB := n5_
       clear n0_ n1_ n2_ n3_ n4_ n5_
       (try clear hb)
       (try clear hb2)
       (try clear hk)
       (try clear hi)
       refine hK.out _ _ ⟨(blk_cell BK443.out 0).trans rfl, (blk_cell BK443.out 1).trans rfl, (blk_cell BK443.out 2).trans rfl, (blk_cell BK443.out 3).trans rfl, (blk_cell BK436.out 0).trans rfl, (blk_cell BK436.out 1).trans rfl, (blk_cell BK436.out 2).trans rfl, (blk_cell BK436.out 3).trans rfl⟩ (fun hHeld => ?_)
       clear hK K
       refine norm_ (a' := ?_) ?_ ?_
       rotate_left
       ·show Act.put _ (some 40) _ = _
        simp only [Act.put, List.setIfInBounds_toArray, List.set_cons_zero, List.set_cons_succ, i64_w, i32_w]
        rfl
       refine one_ (i := 5) (N := some 41) #[true, true, true, true, true, true, false] rfl rfl (by kernel_rfl) (by decide) (fun K hK => ?_)
       refine goes_ Try.func92 (by kernel_rfl) rfl #[.agg #[.int .i64 t450, .int .i64 t451, .int .i64 t452, .int .i64 t453], .agg #[.int .i64 t454, .int .i64 t455, .int .i64 t456, .int .i64 t457]] (by rfl) rfl rfl (by first|rfl|(simp only [List.map_toArray, List.map_cons, List.map_nil]; try rfl)) ?_
       with_reducible refine (spec_l02Multiply.calls t450 t451 t452 t453 t454 t455 t456 t457 t458 t459 t460 t461 _ A23.out).mono ?_
       rintro e w37 ⟨rfl, hb⟩
       refine ⟨_, rfl, ?_⟩
       have n0_ := bB BK428 hb
       have n1_ := bB BK436 hb
       have n2_ := aM (IsS144.below (by repeat (first | (with_reducible first | exact HI0.out | apply sA|apply sN|apply sD|apply s1|apply s2 | refine IsS144.far ?_ NB0_428.out _ | refine IsS144.far ?_ NB0_436.out _ | refine IsS144.far ?_ NB0_443.out _) | exact HI0.out)) hb)
       have n3_ := bB BK443 hb
       have n4_ := aM (KeepBut.trans (by repeat (first | (with_reducible first | exact HK.out | apply eS|apply eN|apply eD|apply eA | refine keep_far ?_ GW428.out _ | refine keep_far ?_ GW436.out _ | refine keep_far ?_ GW443.out _) | exact HK.out)) (KeepBut.of_below hb g none) (.inl rfl))
       have n5_ := aM (below_step (by repeat (first | (with_reducible first | exact HB.out | apply bA|apply bN|apply b1 | refine below_set ?_ (IsS144.ge HI0.out) | refine below_set ?_ (Aside0.out (by assumption))) | exact HB.out)) hb)
       clear BK428
       clear BK436
       clear HI0
       clear BK443
       clear HK
       clear HB
       have BK428 := n0_
       have BK436 := n1_
       have HI0 := n2_
       have BK443 := n3_
       have HK := n4_
       have HB := n5_
       clear n0_ n1_ n2_ n3_ n4_ n5_
       (try clear hb)
       (try clear hb2)
       (try clear hk)
       (try clear hi)
       refine hK.out _ _ ⟨(blk_cell BK443.out 0).trans rfl, (blk_cell BK443.out 1).trans rfl, (blk_cell BK443.out 2).trans rfl, (blk_cell BK443.out 3).trans rfl, (blk_cell BK436.out 0).trans rfl, (blk_cell BK436.out 1).trans rfl, (blk_cell BK436.out 2).trans rfl, (blk_cell BK436.out 3).trans rfl⟩ (fun hHeld => ?_)
       clear hK K
       refine norm_ (a' := ?_) ?_ ?_
       rotate_left
       ·show Act.put _ (some 41) _ = _
        simp only [Act.put, List.setIfInBounds_toArray, List.set_cons_zero, List.set_cons_succ, i64_w, i32_w]
        rfl
       refine last_ (i := 6) (N := none) #[true, true, true, true, true, true, true] rfl rfl (by kernel_rfl) (by decide) (fun K hK => ?_)
       have hs38 : w37.cell? ⟨gb436, 0, none⟩ = some (.int .i64 x437000_1) := (blk_cell BK436.out 0).trans rfl
       have hfs38 := blk_frozen BK436.out 0
       have hns38_0 := NB428_436.out
       have hns38_2 := NB443_436.out
       have hms38_0 := NB436_428.out
       have hms38_2 := NB436_443.out
       have hs39 : w37.cell? ⟨gb436, 1, none⟩ = some (.int .i64 x437001_1) := (blk_cell BK436.out 1).trans rfl
       have hfs39 := blk_frozen BK436.out 1
       have hns39_0 := NB428_436.out
       have hns39_2 := NB443_436.out
       have hms39_0 := NB436_428.out
       have hms39_2 := NB436_443.out
       have hs40 : w37.cell? ⟨gb436, 2, none⟩ = some (.int .i64 x437002_1) := (blk_cell BK436.out 2).trans rfl
       have hfs40 := blk_frozen BK436.out 2
       have hns40_0 := NB428_436.out
       have hns40_2 := NB443_436.out
       have hms40_0 := NB436_428.out
       have hms40_2 := NB436_443.out
       have hs41 : w37.cell? ⟨gb436, 3, none⟩ = some (.int .i64 x437003_1) := (blk_cell BK436.out 3).trans rfl
       have hfs41 := blk_frozen BK436.out 3
       have hns41_0 := NB428_436.out
       have hns41_2 := NB443_436.out
       have hms41_0 := NB436_428.out
       have hms41_2 := NB436_443.out
       refine skip_ (w1 := ?_) (by rfl) rfl ?_ ?_
       rotate_left
       ·go_simp
        rfl
       refine hK.out _ _ ?_
       clear hK K
       refine done_ (by kernel_rfl) ?_
       try go_wp2
       go_roundg k1
       case measure => have := HK1.out; omega
       case rel => exact ⟨(wrap64 (x4_1 - 1)), (t448), (t449), (t458), (t459), (t460), (t461), (by first | rfl | (simp; done) | (simp [*]; done)), H', ⟨by have := HK1.out; omega⟩, ⟨by (repeat (first|(with_reducible first|apply kN|apply kD|apply kA)|refine blk_far ?_ NB428_436.out _)); exact BK428.out⟩, ⟨by (with_reducible repeat (first|apply kN|apply kD|apply kA)); refine blk_put (cs := #[.int .i64 t458, .int .i64 t459, .int .i64 t460, .int .i64 x437003_1]) ?_ 3 _ rfl; (with_reducible repeat (first|apply kN|apply kD|apply kA)); refine blk_put (cs := #[.int .i64 t458, .int .i64 t459, .int .i64 x437002_1, .int .i64 x437003_1]) ?_ 2 _ rfl; (with_reducible repeat (first|apply kN|apply kD|apply kA)); refine blk_put (cs := #[.int .i64 t458, .int .i64 x437001_1, .int .i64 x437002_1, .int .i64 x437003_1]) ?_ 1 _ rfl; (with_reducible repeat (first|apply kN|apply kD|apply kA)); refine blk_put (cs := #[.int .i64 x437000_1, .int .i64 x437001_1, .int .i64 x437002_1, .int .i64 x437003_1]) ?_ 0 _ rfl; (with_reducible repeat (first|apply kN|apply kD|apply kA)); exact BK436.out⟩, ⟨by repeat (first | (with_reducible first | exact HI0.out | apply sA|apply sN|apply sD|apply s1|apply s2 | refine IsS144.far ?_ NB0_428.out _ | refine IsS144.far ?_ NB0_436.out _ | refine IsS144.far ?_ NB0_443.out _) | exact HI0.out)⟩, ⟨by repeat (first | (with_reducible first | exact HK.out | apply eS|apply eN|apply eD|apply eA | refine keep_far ?_ GW428.out _ | refine keep_far ?_ GW436.out _ | refine keep_far ?_ GW443.out _) | exact HK.out)⟩, ⟨by repeat (first | (with_reducible first | exact HB.out | apply bA|apply bN|apply b1 | refine below_set ?_ (IsS144.ge HI0.out) | refine below_set ?_ (Aside0.out (by assumption))) | exact HB.out)⟩⟩
      ·rw [if_neg c19] at H
       have c19b0 : (t444 == 0) = false := beq_eq_false_iff_ne.mpr c19
       have c19b1 : (t444 != 0) = true := bne_iff_ne.mpr c19
       replace H := Option.bind_eq_some_iff.mp H
       obtain ⟨⟨t462, t463, t464, t465⟩, A420, H⟩ := H
       try dsimp only at H
       have A42 := aM A420
       clear A420
       replace H := Option.bind_eq_some_iff.mp H
       obtain ⟨⟨t466, t467, t468, t469⟩, A430, H⟩ := H
       try dsimp only at H
       have A43 := aM A430
       clear A430
       replace H := Option.bind_eq_some_iff.mp H
       obtain ⟨⟨t470, t471, t472, t473⟩, A440, H⟩ := H
       try dsimp only at H
       have A44 := aM A440
       clear A440
       have H' := aM H
       clear H
       try go_wp2_with (first | ((with_reducible refine gate_callee (f := 84) rfl ?_); refine goesL_ (some 26) rfl rfl Try.func84 (by kernel_rfl) rfl #[.pointer (some ⟨g, 0, none⟩), .int .i64 5] rfl (by first|rfl|(simp only [List.map_toArray, List.map_cons, List.map_nil]; try rfl)) ?_; (with_reducible refine (spec_l01Next.calls g s0_0 x1001_1 x1002_1 5 t440 t441 t442 w0 _ ?side1 ?side2 A17.out).mono ?_); (case side1 => repeat (first | (with_reducible first | exact HI0.out | apply sA|apply sN|apply sD|apply s1|apply s2 | refine IsS144.far ?_ NB0_428.out _ | refine IsS144.far ?_ NB0_436.out _) | exact HI0.out)); (case side2 => repeat (first | (with_reducible first | exact HB.out | apply bA|apply bN|apply b1 | refine below_set ?_ (IsS144.ge HI0.out) | refine below_set ?_ (Aside0.out (by assumption))) | exact HB.out)); rintro e w45 ⟨rfl, hi, hb, hk⟩; refine ⟨_, rfl, ?_⟩; have n0_ := aM (KeepBut.blk hk (g' := gb428) (o := .cells #[.int .i64 0, .int .i64 0, .int .i64 0, .int .i64 0] 51 (0, 0)) (by (with_reducible repeat (first|apply kN|apply kD|apply kA)); exact BK428.out) NB428_0.out (by simp)); have n1_ := aM (KeepBut.blk hk (g' := gb436) (o := .cells #[.int .i64 x437000_1, .int .i64 x437001_1, .int .i64 x437002_1, .int .i64 x437003_1] 51 (0, 0)) (by (with_reducible repeat (first|apply kN|apply kD|apply kA)); exact BK436.out) NB436_0.out (by simp)); have n2_ := aM (KeepBut.trans (by repeat (first | (with_reducible first | exact HK.out | apply eS|apply eN|apply eD|apply eA | refine keep_far ?_ GW428.out _ | refine keep_far ?_ GW436.out _) | exact HK.out)) hk (.inl rfl)); have n3_ := aM (hb); have n4_ := aM (hi); clear BK428; clear BK436; clear HK; clear HB; clear HI0; have BK428 := n0_; have BK436 := n1_; have HK := n2_; have HB := n3_; have HI0 := n4_; clear n0_ n1_ n2_ n3_ n4_; (try clear hb)) | ((with_reducible refine gate_dst (N := 5) rfl ?_); refine box_event ?hg (N := 5) ?hd (cs := #[.int .i64 0, .int .i64 0, .int .i64 0, .int .i64 0]) (t := 51) ?hr ?_; (case hd => rfl); (case hg => rfl); (case hr => first | (go_simp; done) | (go_simp; rfl)); intro gb443 hg w46 hbox hb; have n0_ := bB BK428 hb; have n1_ := bB BK436 hb; have n2_ := aM (IsS144.below (by repeat (first | (with_reducible first | exact HI0.out | apply sA|apply sN|apply sD|apply s1|apply s2 | refine IsS144.far ?_ NB0_428.out _ | refine IsS144.far ?_ NB0_436.out _) | exact HI0.out)) hb); have n3_ := aM (KeepBut.trans (by repeat (first | (with_reducible first | exact HK.out | apply eS|apply eN|apply eD|apply eA | refine keep_far ?_ GW428.out _ | refine keep_far ?_ GW436.out _) | exact HK.out)) (KeepBut.of_below hb g none) (.inl rfl)); have n4_ := aM (below_step (by repeat (first | (with_reducible first | exact HB.out | apply bA|apply bN|apply b1 | refine below_set ?_ (IsS144.ge HI0.out) | refine below_set ?_ (Aside0.out (by assumption))) | exact HB.out)) hb); have n5_ := aM (hbox); have n6_ := aM ((by rw [hg]; exact (keep_size (w := w) (g := g) (row := none) (by repeat (first | (with_reducible first | exact HK.out | apply eS|apply eN|apply eD|apply eA | refine keep_far ?_ GW428.out _ | refine keep_far ?_ GW436.out _) | exact HK.out))) : w.heap.size ≤ gb443)); have n7_ := aM ((Nat.le_trans HW0.out (by rw [hg]; exact (keep_size (w := w) (g := g) (row := none) (by repeat (first | (with_reducible first | exact HK.out | apply eS|apply eN|apply eD|apply eA | refine keep_far ?_ GW428.out _ | refine keep_far ?_ GW436.out _) | exact HK.out))) : w.heap.size ≤ gb443) : w0.heap.size ≤ gb443)); have n8_ := nL hg BK428; have n9_ := nG hg BK428; have n10_ := nL hg BK436; have n11_ := nG hg BK436; have n12_ := aM ((by rw [hg]; exact Nat.ne_of_lt (IsS144.lt (show IsS144 w0 _ g s0_0 t441 t442 from by repeat (first | (with_reducible first | exact HI0.out | apply sA|apply sN|apply sD|apply s1|apply s2 | refine IsS144.far ?_ NB0_428.out _ | refine IsS144.far ?_ NB0_436.out _) | exact HI0.out))) : g ≠ gb443)); have n13_ := aM ((by rw [hg]; exact Nat.ne_of_gt (IsS144.lt (show IsS144 w0 _ g s0_0 t441 t442 from by repeat (first | (with_reducible first | exact HI0.out | apply sA|apply sN|apply sD|apply s1|apply s2 | refine IsS144.far ?_ NB0_428.out _ | refine IsS144.far ?_ NB0_436.out _) | exact HI0.out))) : gb443 ≠ g)); clear BK428; clear BK436; clear HI0; clear HK; clear HB; have BK428 := n0_; have BK436 := n1_; have HI0 := n2_; have HK := n3_; have HB := n4_; have BK443 := n5_; have GW443 := n6_; have GE443 := n7_; have NB428_443 := n8_; have NB443_428 := n9_; have NB436_443 := n10_; have NB443_436 := n11_; have NB0_443 := n12_; have NB443_0 := n13_; clear n0_ n1_ n2_ n3_ n4_ n5_ n6_ n7_ n8_ n9_ n10_ n11_ n12_ n13_; clear hb hbox hg; have hnb47 := NB443_428.out; have hnc47 := NB428_443.out; have hnb48 := NB443_436.out; have hnc48 := NB436_443.out; have hnb49 := NB443_0.out; have hnc49 := NB0_443.out; obtain ⟨hcz50_0, hcz50_1, hcz50_2, hcz50_3⟩ := z4 BK443; obtain ⟨hfz50_0, hfz50_1, hfz50_2, hfz50_3⟩ := y4 BK443) | ((with_reducible refine gate_callee (f := 84) rfl ?_); refine goesL_ (some 30) rfl rfl Try.func84 (by kernel_rfl) rfl #[.pointer (some ⟨g, 0, none⟩), .int .i64 2] rfl (by first|rfl|(simp only [List.map_toArray, List.map_cons, List.map_nil]; try rfl)) ?_; (with_reducible refine (spec_l01Next.calls g s0_0 t441 t442 2 t444 t445 t446 w0 _ ?side1 ?side2 A18.out).mono ?_); (case side1 => repeat (first | (with_reducible first | exact HI0.out | apply sA|apply sN|apply sD|apply s1|apply s2 | refine IsS144.far ?_ NB0_428.out _ | refine IsS144.far ?_ NB0_436.out _ | refine IsS144.far ?_ NB0_443.out _) | exact HI0.out)); (case side2 => repeat (first | (with_reducible first | exact HB.out | apply bA|apply bN|apply b1 | refine below_set ?_ (IsS144.ge HI0.out) | refine below_set ?_ (Aside0.out (by assumption))) | exact HB.out)); rintro e w51 ⟨rfl, hi, hb, hk⟩; refine ⟨_, rfl, ?_⟩; have n0_ := aM (KeepBut.blk hk (g' := gb428) (o := .cells #[.int .i64 0, .int .i64 0, .int .i64 0, .int .i64 0] 51 (0, 0)) (by (repeat (first|(with_reducible first|apply kN|apply kD|apply kA)|refine blk_far ?_ NB428_443.out _)); exact BK428.out) NB428_0.out (by simp)); have n1_ := aM (KeepBut.blk hk (g' := gb436) (o := .cells #[.int .i64 x437000_1, .int .i64 x437001_1, .int .i64 x437002_1, .int .i64 x437003_1] 51 (0, 0)) (by (repeat (first|(with_reducible first|apply kN|apply kD|apply kA)|refine blk_far ?_ NB436_443.out _)); exact BK436.out) NB436_0.out (by simp)); have n2_ := aM (KeepBut.blk hk (g' := gb443) (o := .cells #[.int .i64 1, .int .i64 (wrap64 (t440 - 2)), .int .i64 0, .int .i64 1] 51 (0, 0)) (by (with_reducible repeat (first|apply kN|apply kD|apply kA)); refine blk_put (cs := #[.int .i64 1, .int .i64 (wrap64 (t440 - 2)), .int .i64 0, .int .i64 0]) ?_ 3 _ rfl; (with_reducible repeat (first|apply kN|apply kD|apply kA)); refine blk_put (cs := #[.int .i64 1, .int .i64 (wrap64 (t440 - 2)), .int .i64 0, .int .i64 0]) ?_ 2 _ rfl; (with_reducible repeat (first|apply kN|apply kD|apply kA)); refine blk_put (cs := #[.int .i64 1, .int .i64 0, .int .i64 0, .int .i64 0]) ?_ 1 _ rfl; (with_reducible repeat (first|apply kN|apply kD|apply kA)); refine blk_put (cs := #[.int .i64 0, .int .i64 0, .int .i64 0, .int .i64 0]) ?_ 0 _ rfl; (with_reducible repeat (first|apply kN|apply kD|apply kA)); exact BK443.out) NB443_0.out (by simp)); have n3_ := aM (KeepBut.trans (by repeat (first | (with_reducible first | exact HK.out | apply eS|apply eN|apply eD|apply eA | refine keep_far ?_ GW428.out _ | refine keep_far ?_ GW436.out _ | refine keep_far ?_ GW443.out _) | exact HK.out)) hk (.inl rfl)); have n4_ := aM (hb); have n5_ := aM (hi); clear BK428; clear BK436; clear BK443; clear HK; clear HB; clear HI0; have BK428 := n0_; have BK436 := n1_; have BK443 := n2_; have HK := n3_; have HB := n4_; have HI0 := n5_; clear n0_ n1_ n2_ n3_ n4_ n5_; (try clear hb)))
       have n0_ := aM (blk_drew BK428.out)
       have n1_ := aM (blk_drew BK436.out)
       have n2_ := aM (blk_drew BK443.out)
       have n3_ := aM (IsS144.drew HI0.out)
       have n4_ := aM (keep_drew HK.out)
       have n5_ := aM (below_drew1 HB.out)
       clear BK428
       clear BK436
       clear BK443
       clear HI0
       clear HK
       clear HB
       have BK428 := n0_
       have BK436 := n1_
       have BK443 := n2_
       have HI0 := n3_
       have HK := n4_
       have HB := n5_
       clear n0_ n1_ n2_ n3_ n4_ n5_
       refine start_ (n := 7) (S := fun w' => w'.cell? ⟨gb443, 0, none⟩ = some (.int .i64 1) ∧ w'.cell? ⟨gb443, 1, none⟩ = some (.int .i64 (wrap64 (t440 - 2))) ∧ w'.cell? ⟨gb443, 2, none⟩ = some (.int .i64 0) ∧ w'.cell? ⟨gb443, 3, none⟩ = some (.int .i64 1) ∧ w'.cell? ⟨gb436, 0, none⟩ = some (.int .i64 x437000_1) ∧ w'.cell? ⟨gb436, 1, none⟩ = some (.int .i64 x437001_1) ∧ w'.cell? ⟨gb436, 2, none⟩ = some (.int .i64 x437002_1) ∧ w'.cell? ⟨gb436, 3, none⟩ = some (.int .i64 x437003_1)) (ds := [6]) #[false, false, false, false, false, false, false] (by kernel_rfl) rfl rfl ⟨(blk_cell BK443.out 0).trans rfl, (blk_cell BK443.out 1).trans rfl, (blk_cell BK443.out 2).trans rfl, (blk_cell BK443.out 3).trans rfl, (blk_cell BK436.out 0).trans rfl, (blk_cell BK436.out 1).trans rfl, (blk_cell BK436.out 2).trans rfl, (blk_cell BK436.out 3).trans rfl⟩ (fun hHeld => ?_)
       generalize w51.drew = w52 at BK428 BK436 BK443 HI0 HK HB hHeld ⊢
       refine take_ (i := 0) (N := some 36) (v := ?_) (a' := ?_) #[true, false, false, false, false, false, false] rfl rfl (by kernel_rfl) (fun _ _ _ h => h) (Or.inl ⟨by rfl, ?_⟩) hHeld ?_ ?_
       rotate_left
       ·rintro w' ⟨s0, s1, s2, s3, s4, s5, s6, s7⟩
        go_simp
        with_reducible rfl
       rotate_left
       ·simp only [Act.put, List.setIfInBounds_toArray, List.set_cons_zero, List.set_cons_succ, i64_w, i32_w]
        rfl
       refine take_ (i := 1) (N := some 37) (v := ?_) (a' := ?_) #[true, true, false, false, false, false, false] rfl rfl (by kernel_rfl) (fun _ _ _ h => h) (Or.inl ⟨by rfl, ?_⟩) hHeld ?_ ?_
       rotate_left
       ·rintro w' ⟨s0, s1, s2, s3, s4, s5, s6, s7⟩
        go_simp
        with_reducible rfl
       rotate_left
       ·simp only [Act.put, List.setIfInBounds_toArray, List.set_cons_zero, List.set_cons_succ, i64_w, i32_w]
        rfl
       refine take_ (i := 3) (N := some 39) (v := ?_) (a' := ?_) #[true, true, false, true, false, false, false] rfl rfl (by kernel_rfl) (fun _ _ _ h => h) (Or.inl ⟨by rfl, ?_⟩) hHeld ?_ ?_
       rotate_left
       ·rintro w' ⟨s0, s1, s2, s3, s4, s5, s6, s7⟩
        go_simp
        with_reducible rfl
       rotate_left
       ·simp only [Act.put, List.setIfInBounds_toArray, List.set_cons_zero, List.set_cons_succ, i64_w, i32_w]
        rfl
       refine one_ (i := 2) (N := some 38) #[true, true, true, true, false, false, false] rfl rfl (by kernel_rfl) (by decide) (fun K hK => ?_)
       refine goes_ Try.func92 (by kernel_rfl) rfl #[.agg #[.int .i64 1, .int .i64 (wrap64 (t440 - 2)), .int .i64 0, .int .i64 1], .agg #[.int .i64 x437000_1, .int .i64 x437001_1, .int .i64 x437002_1, .int .i64 x437003_1]] (by rfl) rfl rfl (by first|rfl|(simp only [List.map_toArray, List.map_cons, List.map_nil]; try rfl)) ?_
       with_reducible refine (spec_l02Multiply.calls 1 (wrap64 (t440 - 2)) 0 1 x437000_1 x437001_1 x437002_1 x437003_1 t462 t463 t464 t465 _ A42.out).mono ?_
       rintro e w53 ⟨rfl, hb⟩
       refine ⟨_, rfl, ?_⟩
       have n0_ := bB BK428 hb
       have n1_ := bB BK436 hb
       have n2_ := aM (IsS144.below (by repeat (first | (with_reducible first | exact HI0.out | apply sA|apply sN|apply sD|apply s1|apply s2 | refine IsS144.far ?_ NB0_428.out _ | refine IsS144.far ?_ NB0_436.out _ | refine IsS144.far ?_ NB0_443.out _) | exact HI0.out)) hb)
       have n3_ := bB BK443 hb
       have n4_ := aM (KeepBut.trans (by repeat (first | (with_reducible first | exact HK.out | apply eS|apply eN|apply eD|apply eA | refine keep_far ?_ GW428.out _ | refine keep_far ?_ GW436.out _ | refine keep_far ?_ GW443.out _) | exact HK.out)) (KeepBut.of_below hb g none) (.inl rfl))
       have n5_ := aM (below_step (by repeat (first | (with_reducible first | exact HB.out | apply bA|apply bN|apply b1 | refine below_set ?_ (IsS144.ge HI0.out) | refine below_set ?_ (Aside0.out (by assumption))) | exact HB.out)) hb)
       clear BK428
       clear BK436
       clear HI0
       clear BK443
       clear HK
       clear HB
       have BK428 := n0_
       have BK436 := n1_
       have HI0 := n2_
       have BK443 := n3_
       have HK := n4_
       have HB := n5_
       clear n0_ n1_ n2_ n3_ n4_ n5_
       (try clear hb)
       (try clear hb2)
       (try clear hk)
       (try clear hi)
       refine hK.out _ _ ⟨(blk_cell BK443.out 0).trans rfl, (blk_cell BK443.out 1).trans rfl, (blk_cell BK443.out 2).trans rfl, (blk_cell BK443.out 3).trans rfl, (blk_cell BK436.out 0).trans rfl, (blk_cell BK436.out 1).trans rfl, (blk_cell BK436.out 2).trans rfl, (blk_cell BK436.out 3).trans rfl⟩ (fun hHeld => ?_)
       clear hK K
       refine norm_ (a' := ?_) ?_ ?_
       rotate_left
       ·show Act.put _ (some 38) _ = _
        simp only [Act.put, List.setIfInBounds_toArray, List.set_cons_zero, List.set_cons_succ, i64_w, i32_w]
        rfl
       refine one_ (i := 4) (N := some 40) #[true, true, true, true, true, false, false] rfl rfl (by kernel_rfl) (by decide) (fun K hK => ?_)
       refine goes_ Try.func94 (by kernel_rfl) rfl #[.agg #[.int .i64 1, .int .i64 (wrap64 (t440 - 2)), .int .i64 0, .int .i64 1]] (by rfl) rfl rfl (by first|rfl|(simp only [List.map_toArray, List.map_cons, List.map_nil]; try rfl)) ?_
       with_reducible refine (spec_l02Inverse.calls 1 (wrap64 (t440 - 2)) 0 1 t466 t467 t468 t469 _ A43.out).mono ?_
       rintro e w54 ⟨rfl, hb⟩
       refine ⟨_, rfl, ?_⟩
       have n0_ := bB BK428 hb
       have n1_ := bB BK436 hb
       have n2_ := aM (IsS144.below (by repeat (first | (with_reducible first | exact HI0.out | apply sA|apply sN|apply sD|apply s1|apply s2 | refine IsS144.far ?_ NB0_428.out _ | refine IsS144.far ?_ NB0_436.out _ | refine IsS144.far ?_ NB0_443.out _) | exact HI0.out)) hb)
       have n3_ := bB BK443 hb
       have n4_ := aM (KeepBut.trans (by repeat (first | (with_reducible first | exact HK.out | apply eS|apply eN|apply eD|apply eA | refine keep_far ?_ GW428.out _ | refine keep_far ?_ GW436.out _ | refine keep_far ?_ GW443.out _) | exact HK.out)) (KeepBut.of_below hb g none) (.inl rfl))
       have n5_ := aM (below_step (by repeat (first | (with_reducible first | exact HB.out | apply bA|apply bN|apply b1 | refine below_set ?_ (IsS144.ge HI0.out) | refine below_set ?_ (Aside0.out (by assumption))) | exact HB.out)) hb)
       clear BK428
       clear BK436
       clear HI0
       clear BK443
       clear HK
       clear HB
       have BK428 := n0_
       have BK436 := n1_
       have HI0 := n2_
       have BK443 := n3_
       have HK := n4_
       have HB := n5_
       clear n0_ n1_ n2_ n3_ n4_ n5_
       (try clear hb)
       (try clear hb2)
       (try clear hk)
       (try clear hi)
       refine hK.out _ _ ⟨(blk_cell BK443.out 0).trans rfl, (blk_cell BK443.out 1).trans rfl, (blk_cell BK443.out 2).trans rfl, (blk_cell BK443.out 3).trans rfl, (blk_cell BK436.out 0).trans rfl, (blk_cell BK436.out 1).trans rfl, (blk_cell BK436.out 2).trans rfl, (blk_cell BK436.out 3).trans rfl⟩ (fun hHeld => ?_)
       clear hK K
       refine norm_ (a' := ?_) ?_ ?_
       rotate_left
       ·show Act.put _ (some 40) _ = _
        simp only [Act.put, List.setIfInBounds_toArray, List.set_cons_zero, List.set_cons_succ, i64_w, i32_w]
        rfl
       refine one_ (i := 5) (N := some 41) #[true, true, true, true, true, true, false] rfl rfl (by kernel_rfl) (by decide) (fun K hK => ?_)
       refine goes_ Try.func92 (by kernel_rfl) rfl #[.agg #[.int .i64 t462, .int .i64 t463, .int .i64 t464, .int .i64 t465], .agg #[.int .i64 t466, .int .i64 t467, .int .i64 t468, .int .i64 t469]] (by rfl) rfl rfl (by first|rfl|(simp only [List.map_toArray, List.map_cons, List.map_nil]; try rfl)) ?_
       with_reducible refine (spec_l02Multiply.calls t462 t463 t464 t465 t466 t467 t468 t469 t470 t471 t472 t473 _ A44.out).mono ?_
       rintro e w55 ⟨rfl, hb⟩
       refine ⟨_, rfl, ?_⟩
       have n0_ := bB BK428 hb
       have n1_ := bB BK436 hb
       have n2_ := aM (IsS144.below (by repeat (first | (with_reducible first | exact HI0.out | apply sA|apply sN|apply sD|apply s1|apply s2 | refine IsS144.far ?_ NB0_428.out _ | refine IsS144.far ?_ NB0_436.out _ | refine IsS144.far ?_ NB0_443.out _) | exact HI0.out)) hb)
       have n3_ := bB BK443 hb
       have n4_ := aM (KeepBut.trans (by repeat (first | (with_reducible first | exact HK.out | apply eS|apply eN|apply eD|apply eA | refine keep_far ?_ GW428.out _ | refine keep_far ?_ GW436.out _ | refine keep_far ?_ GW443.out _) | exact HK.out)) (KeepBut.of_below hb g none) (.inl rfl))
       have n5_ := aM (below_step (by repeat (first | (with_reducible first | exact HB.out | apply bA|apply bN|apply b1 | refine below_set ?_ (IsS144.ge HI0.out) | refine below_set ?_ (Aside0.out (by assumption))) | exact HB.out)) hb)
       clear BK428
       clear BK436
       clear HI0
       clear BK443
       clear HK
       clear HB
       have BK428 := n0_
       have BK436 := n1_
       have HI0 := n2_
       have BK443 := n3_
       have HK := n4_
       have HB := n5_
       clear n0_ n1_ n2_ n3_ n4_ n5_
       (try clear hb)
       (try clear hb2)
       (try clear hk)
       (try clear hi)
       refine hK.out _ _ ⟨(blk_cell BK443.out 0).trans rfl, (blk_cell BK443.out 1).trans rfl, (blk_cell BK443.out 2).trans rfl, (blk_cell BK443.out 3).trans rfl, (blk_cell BK436.out 0).trans rfl, (blk_cell BK436.out 1).trans rfl, (blk_cell BK436.out 2).trans rfl, (blk_cell BK436.out 3).trans rfl⟩ (fun hHeld => ?_)
       clear hK K
       refine norm_ (a' := ?_) ?_ ?_
       rotate_left
       ·show Act.put _ (some 41) _ = _
        simp only [Act.put, List.setIfInBounds_toArray, List.set_cons_zero, List.set_cons_succ, i64_w, i32_w]
        rfl
       refine last_ (i := 6) (N := none) #[true, true, true, true, true, true, true] rfl rfl (by kernel_rfl) (by decide) (fun K hK => ?_)
       have hs56 : w55.cell? ⟨gb436, 0, none⟩ = some (.int .i64 x437000_1) := (blk_cell BK436.out 0).trans rfl
       have hfs56 := blk_frozen BK436.out 0
       have hns56_0 := NB428_436.out
       have hns56_2 := NB443_436.out
       have hms56_0 := NB436_428.out
       have hms56_2 := NB436_443.out
       have hs57 : w55.cell? ⟨gb436, 1, none⟩ = some (.int .i64 x437001_1) := (blk_cell BK436.out 1).trans rfl
       have hfs57 := blk_frozen BK436.out 1
       have hns57_0 := NB428_436.out
       have hns57_2 := NB443_436.out
       have hms57_0 := NB436_428.out
       have hms57_2 := NB436_443.out
       have hs58 : w55.cell? ⟨gb436, 2, none⟩ = some (.int .i64 x437002_1) := (blk_cell BK436.out 2).trans rfl
       have hfs58 := blk_frozen BK436.out 2
       have hns58_0 := NB428_436.out
       have hns58_2 := NB443_436.out
       have hms58_0 := NB436_428.out
       have hms58_2 := NB436_443.out
       have hs59 : w55.cell? ⟨gb436, 3, none⟩ = some (.int .i64 x437003_1) := (blk_cell BK436.out 3).trans rfl
       have hfs59 := blk_frozen BK436.out 3
       have hns59_0 := NB428_436.out
       have hns59_2 := NB443_436.out
       have hms59_0 := NB436_428.out
       have hms59_2 := NB436_443.out
       refine skip_ (w1 := ?_) (by rfl) rfl ?_ ?_
       rotate_left
       ·go_simp
        rfl
       refine hK.out _ _ ?_
       clear hK K
       refine done_ (by kernel_rfl) ?_
       try go_wp2
       go_roundg k1
       case measure => have := HK1.out; omega
       case rel => exact ⟨(wrap64 (x4_1 - 1)), (t445), (t446), (t470), (t471), (t472), (t473), (by first | rfl | (simp; done) | (simp [*]; done)), H', ⟨by have := HK1.out; omega⟩, ⟨by (repeat (first|(with_reducible first|apply kN|apply kD|apply kA)|refine blk_far ?_ NB428_436.out _)); exact BK428.out⟩, ⟨by (with_reducible repeat (first|apply kN|apply kD|apply kA)); refine blk_put (cs := #[.int .i64 t470, .int .i64 t471, .int .i64 t472, .int .i64 x437003_1]) ?_ 3 _ rfl; (with_reducible repeat (first|apply kN|apply kD|apply kA)); refine blk_put (cs := #[.int .i64 t470, .int .i64 t471, .int .i64 x437002_1, .int .i64 x437003_1]) ?_ 2 _ rfl; (with_reducible repeat (first|apply kN|apply kD|apply kA)); refine blk_put (cs := #[.int .i64 t470, .int .i64 x437001_1, .int .i64 x437002_1, .int .i64 x437003_1]) ?_ 1 _ rfl; (with_reducible repeat (first|apply kN|apply kD|apply kA)); refine blk_put (cs := #[.int .i64 x437000_1, .int .i64 x437001_1, .int .i64 x437002_1, .int .i64 x437003_1]) ?_ 0 _ rfl; (with_reducible repeat (first|apply kN|apply kD|apply kA)); exact BK436.out⟩, ⟨by repeat (first | (with_reducible first | exact HI0.out | apply sA|apply sN|apply sD|apply s1|apply s2 | refine IsS144.far ?_ NB0_428.out _ | refine IsS144.far ?_ NB0_436.out _ | refine IsS144.far ?_ NB0_443.out _) | exact HI0.out)⟩, ⟨by repeat (first | (with_reducible first | exact HK.out | apply eS|apply eN|apply eD|apply eA | refine keep_far ?_ GW428.out _ | refine keep_far ?_ GW436.out _ | refine keep_far ?_ GW443.out _) | exact HK.out)⟩, ⟨by repeat (first | (with_reducible first | exact HB.out | apply bA|apply bN|apply b1 | refine below_set ?_ (IsS144.ge HI0.out) | refine below_set ?_ (Aside0.out (by assumption))) | exact HB.out)⟩⟩
     ·rw [if_neg c16] at H
      have c16b0 : decide (0 < x4_1) = false := decide_eq_false c16
      clear c16
      simp only [Option.some.injEq, Prod.mk.injEq] at H
      obtain ⟨rfl, rfl, rfl, rfl, rfl, rfl⟩ := H
      have hnb60 := NB436_428.out
      have hnc60 := NB428_436.out
      have hnb61 := NB436_0.out
      have hnc61 := NB0_436.out
      obtain ⟨hcz62_0, hcz62_1, hcz62_2, hcz62_3⟩ := z4 BK436
      obtain ⟨hfz62_0, hfz62_1, hfz62_2, hfz62_3⟩ := y4 BK436
      have hnb63 := NB428_0.out
      have hnc63 := NB0_428.out
      obtain ⟨hcz64_0, hcz64_1, hcz64_2, hcz64_3⟩ := z4 BK428
      obtain ⟨hfz64_0, hfz64_1, hfz64_2, hfz64_3⟩ := y4 BK428
      go_wp2
      refine bodyPost_ret (results_cell_row rfl _ _ gb428 51 #[.int .i64 x437000_1, .int .i64 x437001_1, .int .i64 x437002_1, .int .i64 x437003_1] (0, 0) _ rfl (by (with_reducible repeat (first|apply kN|apply kD|apply kA)); refine blk_put (cs := #[.int .i64 x437000_1, .int .i64 x437001_1, .int .i64 x437002_1, .int .i64 0]) ?_ 3 _ rfl; (with_reducible repeat (first|apply kN|apply kD|apply kA)); refine blk_put (cs := #[.int .i64 x437000_1, .int .i64 x437001_1, .int .i64 0, .int .i64 0]) ?_ 2 _ rfl; (with_reducible repeat (first|apply kN|apply kD|apply kA)); refine blk_put (cs := #[.int .i64 x437000_1, .int .i64 0, .int .i64 0, .int .i64 0]) ?_ 1 _ rfl; (with_reducible repeat (first|apply kN|apply kD|apply kA)); refine blk_put (cs := #[.int .i64 0, .int .i64 0, .int .i64 0, .int .i64 0]) ?_ 0 _ rfl; (with_reducible repeat (first|apply kN|apply kD|apply kA)); exact BK428.out) Try.underlying51 rfl (by kernel_rfl)) rfl ?_
      exact ⟨by first|rfl|(simp [*, errW_none, errW_some] <;> rfl), by repeat (first | (with_reducible first | exact HI0.out | apply sA|apply sN|apply sD|apply s1|apply s2 | refine IsS144.far ?_ NB0_428.out _ | refine IsS144.far ?_ NB0_436.out _) | exact HI0.out), by repeat (first | (with_reducible first | exact HB.out | apply bA|apply bN|apply b1 | refine below_set ?_ (IsS144.ge HI0.out) | refine below_set ?_ (Aside0.out (by assumption))) | exact HB.out), by repeat (first | (with_reducible first | exact HK.out | apply eS|apply eN|apply eD|apply eA | refine keep_far ?_ GW428.out _ | refine keep_far ?_ GW436.out _) | exact HK.out)⟩
  ·rw [if_neg c4] at H
   exact absurd H (by simp)
 ·rw [if_neg c3] at H
  exact absurd H (by simp)

end Go.Proofs.Ytcjchihnopmplaa.F

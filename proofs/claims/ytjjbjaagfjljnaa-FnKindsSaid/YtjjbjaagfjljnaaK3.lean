import Derived.Test.YtjjbjaagfjljnaaK0
import Derived.Test.YtjjbjaagfjljnaaK1
import Derived.Test.YtjjbjaagfjljnaaK2
namespace Go.Proofs.Ytjjbjaagfjljnaa.F
open Go.RowKit Go.Proofs.YtjjbjaagfjljnaaW.PrintWords Go.Proofs.YtjjbjaagfjljnaaW.PrintLast Go.Proofs.YtjjbjaagfjljnaaW.PrintMore
attribute [local go_sem] max2_int min2_int max_two min_two max_three min_three max_four min_four   -- for this text's walks alone
set_option linter.unusedVariables false
set_option linter.unusedSimpArgs false

def spec_l02DrawFinite.l0 : Nat → Int → List Int → Int → Int → Int → Int → Int → Int → Option (Int × Int × Int × Int × Int × Int)
 | 0, _, _, _, _, _, _, _, _ => none
 | k + 1, x4, x1000, x1001, x1002, x521000, x521001, x521002, x521003 => if x4 > 0 then ((spec_l01Next.f x1000 x1001 x1002 5).bind fun bt524 => ((spec_l01Next.f x1000 bt524.2.1 bt524.2.2 2).bind fun bt528 => (if bt528.1 = 0 then ((spec_l01Next.f x1000 bt528.2.1 bt528.2.2 5).bind fun bt531 => ((spec_l02Multiply.f 1 0 (wrap64 (bt531.1 - 2)) 1 x521000 x521001 x521002 x521003).bind fun bt534 => ((spec_l02Inverse.f 1 0 (wrap64 (bt531.1 - 2)) 1).bind fun bt538 => ((spec_l02Multiply.f bt534.1 bt534.2.1 bt534.2.2.1 bt534.2.2.2 bt538.1 bt538.2.1 bt538.2.2.1 bt538.2.2.2).bind fun bt542 => (spec_l02DrawFinite.l0 k (wrap64 (x4 - 1)) x1000 bt531.2.1 bt531.2.2 bt542.1 bt542.2.1 bt542.2.2.1 bt542.2.2.2))))) else ((spec_l02Multiply.f 1 (wrap64 (bt524.1 - 2)) 0 1 x521000 x521001 x521002 x521003).bind fun bt546 => ((spec_l02Inverse.f 1 (wrap64 (bt524.1 - 2)) 0 1).bind fun bt550 => ((spec_l02Multiply.f bt546.1 bt546.2.1 bt546.2.2.1 bt546.2.2.2 bt550.1 bt550.2.1 bt550.2.2.1 bt550.2.2.2).bind fun bt554 => (spec_l02DrawFinite.l0 k (wrap64 (x4 - 1)) x1000 bt528.2.1 bt528.2.2 bt554.1 bt554.2.1 bt554.2.2.1 bt554.2.2.2))))))) else (some (x521000, x521001, x521002, x521003, x1001, x1002))
def spec_l02DrawFinite.f (k : Nat) (s0_0 : List Int) (s0_1 : Int) (s0_2 : Int) : Option (Int × Int × Int × Int × Int × Int) := (some (([(⟨1, 0, 0, 1⟩ : S51), (⟨(-1), 0, 0, (-1)⟩ : S51), (⟨0, (-1), 1, 0⟩ : S51), (⟨0, (-1), 1, 1⟩ : S51), (⟨(-1), (-1), 1, 0⟩ : S51), (⟨1, 0, 0, (-1)⟩ : S51), (⟨0, 1, 1, 0⟩ : S51), (⟨1, 1, 0, (-1)⟩ : S51)] : List (S51)) : List (S51))).bind fun y513 => ((spec_l01Next.f s0_0 s0_1 s0_2 8).bind fun bt516 => (if 0 ≤ bt516.1 then (if bt516.1 < (y513.length : Int) then ((spec_l01Next.f s0_0 bt516.2.1 bt516.2.2 3).bind fun bt521 => (spec_l02DrawFinite.l0 k bt521.1 s0_0 bt521.2.1 bt521.2.2 ((rd_T51 y513 bt516.1).f0) ((rd_T51 y513 bt516.1).f1) ((rd_T51 y513 bt516.1).f2) ((rd_T51 y513 bt516.1).f3))) else (none)) else (none)))
set_option maxHeartbeats 40000000 in
set_option maxRecDepth 100000 in
theorem spec_l02DrawFinite.calls (k : Nat) (g : Nat) (s0_0 : List Int) (s0_1 : Int) (s0_2 : Int) (r1 : Int) (r2 : Int) (r3 : Int) (r4 : Int) (r5 : Int) (r6 : Int) (w0 w : World) (hI : IsS174 w0 w g s0_0 s0_1 s0_2) (hB : Below w0.heap.size w0 w) (h : spec_l02DrawFinite.f k s0_0 s0_1 s0_2 = some (r1, r2, r3, r4, r5, r6)) :
  Calls Try.prog 211 #[.pointer (some ⟨g, 0, none⟩)] w fun e w' => e = .returned (.agg #[.int .i64 r1, .int .i64 r2, .int .i64 r3, .int .i64 r4]) ∧ IsS174 w0 w' g s0_0 r5 r6 ∧ Below w0.heap.size w0 w' ∧ KeepBut w w' g none := by
 have hu51 := Try.underlying51
 have HI0 := aM hI
 have HK := aM (KeepBut.refl w g none)
 have HL := aM hB.size
 clear hI
 have HW0 := aM hB.size
 have HB := aM hB
 clear hB
 have H : ((some (([(⟨1, 0, 0, 1⟩ : S51), (⟨(-1), 0, 0, (-1)⟩ : S51), (⟨0, (-1), 1, 0⟩ : S51), (⟨0, (-1), 1, 1⟩ : S51), (⟨(-1), (-1), 1, 0⟩ : S51), (⟨1, 0, 0, (-1)⟩ : S51), (⟨0, 1, 1, 0⟩ : S51), (⟨1, 1, 0, (-1)⟩ : S51)] : List (S51)) : List (S51))).bind fun y513 => ((spec_l01Next.f s0_0 s0_1 s0_2 8).bind fun bt516 => (if 0 ≤ bt516.1 then (if bt516.1 < (y513.length : Int) then ((spec_l01Next.f s0_0 bt516.2.1 bt516.2.2 3).bind fun bt521 => (spec_l02DrawFinite.l0 k bt521.1 s0_0 bt521.2.1 bt521.2.2 ((rd_T51 y513 bt516.1).f0) ((rd_T51 y513 bt516.1).f1) ((rd_T51 y513 bt516.1).f2) ((rd_T51 y513 bt516.1).f3))) else (none)) else (none)))) = some (r1, r2, r3, r4, r5, r6) := h
 clear h
 obtain ⟨y513, hy513⟩ : ∃ y_ : List (S51), y_ = (([(⟨1, 0, 0, 1⟩ : S51), (⟨(-1), 0, 0, (-1)⟩ : S51), (⟨0, (-1), 1, 0⟩ : S51), (⟨0, (-1), 1, 1⟩ : S51), (⟨(-1), (-1), 1, 0⟩ : S51), (⟨1, 0, 0, (-1)⟩ : S51), (⟨0, 1, 1, 0⟩ : S51), (⟨1, 1, 0, (-1)⟩ : S51)] : List (S51))) := ⟨_, rfl⟩
 replace H : ((spec_l01Next.f s0_0 s0_1 s0_2 8).bind fun bt516 => (if 0 ≤ bt516.1 then (if bt516.1 < (y513.length : Int) then ((spec_l01Next.f s0_0 bt516.2.1 bt516.2.2 3).bind fun bt521 => (spec_l02DrawFinite.l0 k bt521.1 s0_0 bt521.2.1 bt521.2.2 ((rd_T51 y513 bt516.1).f0) ((rd_T51 y513 bt516.1).f1) ((rd_T51 y513 bt516.1).f2) ((rd_T51 y513 bt516.1).f3))) else (none)) else (none))) = some (r1, r2, r3, r4, r5, r6) := by first | (rw [hy513]; with_reducible exact H) | (have H2_ := (Option.bind_some _ _).symm.trans H; rw [hy513]; with_reducible exact H2_) | (have H2_ := (Option.bind_some _ _).symm.trans H; with_reducible exact H2_) | with_reducible exact H | (rw [hy513]; exact H) | exact H
 have Ny513 := aM hy513
 clear hy513
 replace H := Option.bind_eq_some_iff.mp H
 obtain ⟨⟨t516, t517, t518⟩, A20, H⟩ := H
 try dsimp only at H
 have A2 := aM A20
 clear A20
 by_cases c3 : 0 ≤ t516
 ·rw [if_pos c3] at H
  have c3b0 : decide (0 ≤ t516) = true := decide_eq_true c3
  clear c3
  by_cases c4 : t516 < (y513.length : Int)
  ·rw [if_pos c4] at H
   have c4b0 : decide (t516 < (y513.length : Int)) = true := decide_eq_true c4
   clear c4
   replace H := Option.bind_eq_some_iff.mp H
   obtain ⟨⟨t521, t522, t523⟩, A50, H⟩ := H
   try dsimp only at H
   have A5 := aM A50
   clear A50
   have H' := aM H
   clear H
   go_enter Try.func211, Try.ntmps211
   go_wp2_with (first | ((with_reducible refine gate_dst (N := 2) rfl ?_); refine box_event ?hg (N := 2) ?hd (cs := #[.int .i64 0, .int .i64 0, .int .i64 0, .int .i64 0]) (t := 51) ?hr ?_; (case hd => rfl); (case hg => rfl); (case hr => first | (go_simp; done) | (go_simp; rfl)); intro gb512 hg w6 hbox hb; have n0_ := aM (IsS174.below (by repeat (first | (with_reducible first | exact HI0.out | apply sA|apply sN|apply sD|apply s1|apply s2) | exact HI0.out)) hb); have n1_ := aM (KeepBut.trans (by repeat (first | (with_reducible first | exact HK.out | apply eS|apply eN|apply eD|apply eA) | exact HK.out)) (KeepBut.of_below hb g none) (.inl rfl)); have n2_ := aM (below_step (by repeat (first | (with_reducible first | exact HB.out | apply bA|apply bN|apply b1 | refine below_set ?_ (IsS174.ge HI0.out)) | exact HB.out)) hb); have n3_ := aM (hbox); have n4_ := aM ((by rw [hg]; exact (keep_size (w := w) (g := g) (row := none) (by repeat (first | (with_reducible first | exact HK.out | apply eS|apply eN|apply eD|apply eA) | exact HK.out))) : w.heap.size ≤ gb512)); have n5_ := aM ((Nat.le_trans HW0.out (by rw [hg]; exact (keep_size (w := w) (g := g) (row := none) (by repeat (first | (with_reducible first | exact HK.out | apply eS|apply eN|apply eD|apply eA) | exact HK.out))) : w.heap.size ≤ gb512) : w0.heap.size ≤ gb512)); have n6_ := aM ((by rw [hg]; exact Nat.ne_of_lt (IsS174.lt (show IsS174 w0 _ g s0_0 s0_1 s0_2 from by repeat (first | (with_reducible first | exact HI0.out | apply sA|apply sN|apply sD|apply s1|apply s2) | exact HI0.out))) : g ≠ gb512)); have n7_ := aM ((by rw [hg]; exact Nat.ne_of_gt (IsS174.lt (show IsS174 w0 _ g s0_0 s0_1 s0_2 from by repeat (first | (with_reducible first | exact HI0.out | apply sA|apply sN|apply sD|apply s1|apply s2) | exact HI0.out))) : gb512 ≠ g)); clear HI0; clear HK; clear HB; have HI0 := n0_; have HK := n1_; have HB := n2_; have BK512 := n3_; have GW512 := n4_; have GE512 := n5_; have NB0_512 := n6_; have NB512_0 := n7_; clear n0_ n1_ n2_ n3_ n4_ n5_ n6_ n7_; clear hb hbox hg) | ((with_reducible refine gate_dst (N := 14) rfl ?_); refine Kd.R_lit k51 _ 51 ?hg (N := 14) ?hd (xs := ([(⟨1, 0, 0, 1⟩ : S51), (⟨(-1), 0, 0, (-1)⟩ : S51), (⟨0, (-1), 1, 0⟩ : S51), (⟨0, (-1), 1, 1⟩ : S51), (⟨(-1), (-1), 1, 0⟩ : S51), (⟨1, 0, 0, (-1)⟩ : S51), (⟨0, 1, 1, 0⟩ : S51), (⟨1, 1, 0, (-1)⟩ : S51)] : List (S51))) (inner := [.int .i64 1, .int .i64 0, .int .i64 0, .int .i64 1, .int .i64 (-1), .int .i64 0, .int .i64 0, .int .i64 (-1), .int .i64 0, .int .i64 (-1), .int .i64 1, .int .i64 0, .int .i64 0, .int .i64 (-1), .int .i64 1, .int .i64 1, .int .i64 (-1), .int .i64 (-1), .int .i64 1, .int .i64 0, .int .i64 1, .int .i64 0, .int .i64 0, .int .i64 (-1), .int .i64 0, .int .i64 1, .int .i64 1, .int .i64 0, .int .i64 1, .int .i64 1, .int .i64 0, .int .i64 (-1)]) (ok := fun _ => True) (okp := fun _ => True) ?hr ?hp (fun _ hk => hk) trivial (Below.refl _ _) (Nat.le_refl _) (by simp) ?_; (case hd => rfl); (case hg => rfl); (case hr => first | (go_simp; done) | (go_simp; rfl)); (case hp => exact (Reps.c4 (show Kd.M k51 _ _ _ (⟨1, 0, 0, 1⟩ : S51) [.int .i64 1, .int .i64 0, .int .i64 0, .int .i64 1] from (k51_mkM _ _ _ (⟨1, 0, 0, 1⟩ : S51) )) (Reps.c4 (show Kd.M k51 _ _ _ (⟨(-1), 0, 0, (-1)⟩ : S51) [.int .i64 (-1), .int .i64 0, .int .i64 0, .int .i64 (-1)] from (k51_mkM _ _ _ (⟨(-1), 0, 0, (-1)⟩ : S51) )) (Reps.c4 (show Kd.M k51 _ _ _ (⟨0, (-1), 1, 0⟩ : S51) [.int .i64 0, .int .i64 (-1), .int .i64 1, .int .i64 0] from (k51_mkM _ _ _ (⟨0, (-1), 1, 0⟩ : S51) )) (Reps.c4 (show Kd.M k51 _ _ _ (⟨0, (-1), 1, 1⟩ : S51) [.int .i64 0, .int .i64 (-1), .int .i64 1, .int .i64 1] from (k51_mkM _ _ _ (⟨0, (-1), 1, 1⟩ : S51) )) (Reps.c4 (show Kd.M k51 _ _ _ (⟨(-1), (-1), 1, 0⟩ : S51) [.int .i64 (-1), .int .i64 (-1), .int .i64 1, .int .i64 0] from (k51_mkM _ _ _ (⟨(-1), (-1), 1, 0⟩ : S51) )) (Reps.c4 (show Kd.M k51 _ _ _ (⟨1, 0, 0, (-1)⟩ : S51) [.int .i64 1, .int .i64 0, .int .i64 0, .int .i64 (-1)] from (k51_mkM _ _ _ (⟨1, 0, 0, (-1)⟩ : S51) )) (Reps.c4 (show Kd.M k51 _ _ _ (⟨0, 1, 1, 0⟩ : S51) [.int .i64 0, .int .i64 1, .int .i64 1, .int .i64 0] from (k51_mkM _ _ _ (⟨0, 1, 1, 0⟩ : S51) )) (Reps.c4 (show Kd.M k51 _ _ _ (⟨1, 1, 0, (-1)⟩ : S51) [.int .i64 1, .int .i64 1, .int .i64 0, .int .i64 (-1)] from (k51_mkM _ _ _ (⟨1, 1, 0, (-1)⟩ : S51) )) (Reps.none _ _)))))))))); intro v514 w7 ho8 hb hg_ hnew_; clear hg_ hnew_; (first | rw [← Ny513.out] at ho8 | (simp only [Int.reduceToNat] at ho8; rw [← Ny513.out] at ho8)); have n0_ := aM (Kd.R_lower (Kd.R_newB ho8 (g := gb512) (o := .cells #[.int .i64 0, .int .i64 0, .int .i64 0, .int .i64 0] 51 (0, 0)) (by (with_reducible repeat (first|apply kN|apply kD|apply kA)); exact BK512.out)) (keep_size (w := w) (g := g) (row := none) (by repeat (first | (with_reducible first | exact HK.out | apply eS|apply eN|apply eD|apply eA | refine keep_far ?_ GW512.out _) | exact HK.out)))); have n1_ := aM (IsS174.below (by repeat (first | (with_reducible first | exact HI0.out | apply sA|apply sN|apply sD|apply s1|apply s2 | refine IsS174.far ?_ NB0_512.out _) | exact HI0.out)) hb); have n2_ := aM (blk_below (g := gb512) (o := .cells #[.int .i64 0, .int .i64 0, .int .i64 0, .int .i64 0] 51 (0, 0)) (by (with_reducible repeat (first|apply kN|apply kD|apply kA)); exact BK512.out) hb); have n3_ := aM (KeepBut.trans (by repeat (first | (with_reducible first | exact HK.out | apply eS|apply eN|apply eD|apply eA | refine keep_far ?_ GW512.out _) | exact HK.out)) (KeepBut.of_below hb g none) (.inl rfl)); have n4_ := aM (below_step (by repeat (first | (with_reducible first | exact HB.out | apply bA|apply bN|apply b1 | refine below_set ?_ (IsS174.ge HI0.out) | refine below_set ?_ GE512.out) | exact HB.out)) hb); clear HI0; clear BK512; clear HK; clear HB; have HO515 := n0_; have HI0 := n1_; have BK512 := n2_; have HK := n3_; have HB := n4_; clear n0_ n1_ n2_ n3_ n4_; clear hb ho8) | ((with_reducible refine gate_callee (f := 123) rfl ?_); refine goesL_ (some 16) rfl rfl Try.func123 (by kernel_rfl) rfl #[.pointer (some ⟨g, 0, none⟩), .int .i64 8] rfl (by first|rfl|(simp only [List.map_toArray, List.map_cons, List.map_nil]; try rfl)) ?_; (with_reducible refine (spec_l01Next.calls g s0_0 s0_1 s0_2 8 t516 t517 t518 w0 _ ?side1 ?side2 A2.out).mono ?_); (case side1 => repeat (first | (with_reducible first | exact HI0.out | apply sA|apply sN|apply sD|apply s1|apply s2 | refine IsS174.far ?_ NB0_512.out _) | exact HI0.out)); (case side2 => repeat (first | (with_reducible first | exact HB.out | apply bA|apply bN|apply b1 | refine below_set ?_ (IsS174.ge HI0.out) | refine below_set ?_ GE512.out) | exact HB.out)); rintro e w9 ⟨rfl, hi, hb, hk⟩; refine ⟨_, rfl, ?_⟩; have n0_ := aM (KeepBut.blk hk (g' := gb512) (o := .cells #[.int .i64 0, .int .i64 0, .int .i64 0, .int .i64 0] 51 (0, 0)) (by (with_reducible repeat (first|apply kN|apply kD|apply kA)); exact BK512.out) NB512_0.out (by simp)); have n1_ := aM (Kd.R_mono (Kd.R_keep (IsS174.apart (show IsS174 w0 _ g s0_0 s0_1 s0_2 from by repeat (first | (with_reducible first | exact HI0.out | apply sA|apply sN|apply sD|apply s1|apply s2 | refine IsS174.far ?_ NB0_512.out _) | exact HI0.out)) (by (with_reducible repeat (first | apply Kd.R_alloc | apply Kd.R_drewN | apply Kd.R_drew)); exact HO515.out) (by decide)) hk (fun _ h => h.2)) (fun _ h => h.1)); have n2_ := aM (KeepBut.trans (by repeat (first | (with_reducible first | exact HK.out | apply eS|apply eN|apply eD|apply eA | refine keep_far ?_ GW512.out _) | exact HK.out)) hk (.inl rfl)); have n3_ := aM (hb); have n4_ := aM (hi); clear BK512; clear HO515; clear HK; clear HB; clear HI0; have BK512 := n0_; have HO515 := n1_; have HK := n2_; have HB := n3_; have HI0 := n4_; clear n0_ n1_ n2_ n3_ n4_; (try clear hb); obtain ⟨Ao10, co10, eo10⟩ := Kd.R_slice HO515.out; subst eo10; have p519 : 0 ≤ (t516 : Int) := of_decide_eq_true (by first | (with_reducible assumption) | assumption); have q519 : t516 < (y513.length : Int) := of_decide_eq_true (by first | (with_reducible assumption) | assumption); obtain ⟨ad519, e519, hx519_0, hx519_1, hx519_2, hx519_3⟩ := at_T51 (Kd.R_reads' HO515.out).2.2 t516 p519 q519; cases e519; replace p519 := eq_true p519; replace q519 := eq_true q519) | ((with_reducible refine gate_dst (N := 3) rfl ?_); refine box_event ?hg (N := 3) ?hd (cs := #[.int .i64 0, .int .i64 0, .int .i64 0, .int .i64 0]) (t := 51) ?hr ?_; (case hd => rfl); (case hg => rfl); (case hr => first | (go_simp; done) | (go_simp; rfl)); intro gb520 hg w11 hbox hb; have n0_ := aM (Kd.R_below (Kd.R_elderB (by (with_reducible repeat (first | apply Kd.R_alloc | apply Kd.R_drewN | apply Kd.R_drew)); exact HO515.out) gb520 (Nat.le_of_eq hg.symm)) hb); have n1_ := aM (IsS174.below (by repeat (first | (with_reducible first | exact HI0.out | apply sA|apply sN|apply sD|apply s1|apply s2 | refine IsS174.far ?_ NB0_512.out _) | exact HI0.out)) hb); have n2_ := aM (blk_below (g := gb512) (o := .cells #[.int .i64 0, .int .i64 0, .int .i64 0, .int .i64 0] 51 (0, 0)) (by (with_reducible repeat (first|apply kN|apply kD|apply kA)); exact BK512.out) hb); have n3_ := aM (KeepBut.trans (by repeat (first | (with_reducible first | exact HK.out | apply eS|apply eN|apply eD|apply eA | refine keep_far ?_ GW512.out _) | exact HK.out)) (KeepBut.of_below hb g none) (.inl rfl)); have n4_ := aM (below_step (by repeat (first | (with_reducible first | exact HB.out | apply bA|apply bN|apply b1 | refine below_set ?_ (IsS174.ge HI0.out) | refine below_set ?_ GE512.out) | exact HB.out)) hb); have n5_ := aM (hbox); have n6_ := aM ((by rw [hg]; exact (keep_size (w := w) (g := g) (row := none) (by repeat (first | (with_reducible first | exact HK.out | apply eS|apply eN|apply eD|apply eA | refine keep_far ?_ GW512.out _) | exact HK.out))) : w.heap.size ≤ gb520)); have n7_ := aM ((Nat.le_trans HW0.out (by rw [hg]; exact (keep_size (w := w) (g := g) (row := none) (by repeat (first | (with_reducible first | exact HK.out | apply eS|apply eN|apply eD|apply eA | refine keep_far ?_ GW512.out _) | exact HK.out))) : w.heap.size ≤ gb520) : w0.heap.size ≤ gb520)); have n8_ := aM ((by rw [hg]; exact Nat.ne_of_lt (blk_lt (g := gb512) (o := .cells #[.int .i64 0, .int .i64 0, .int .i64 0, .int .i64 0] 51 (0, 0)) (by (with_reducible repeat (first|apply kN|apply kD|apply kA)); exact BK512.out)) : gb512 ≠ gb520)); have n9_ := aM ((by rw [hg]; exact Nat.ne_of_gt (blk_lt (g := gb512) (o := .cells #[.int .i64 0, .int .i64 0, .int .i64 0, .int .i64 0] 51 (0, 0)) (by (with_reducible repeat (first|apply kN|apply kD|apply kA)); exact BK512.out)) : gb520 ≠ gb512)); have n10_ := aM ((by rw [hg]; exact Nat.ne_of_lt (IsS174.lt (show IsS174 w0 _ g s0_0 t517 t518 from by repeat (first | (with_reducible first | exact HI0.out | apply sA|apply sN|apply sD|apply s1|apply s2 | refine IsS174.far ?_ NB0_512.out _) | exact HI0.out))) : g ≠ gb520)); have n11_ := aM ((by rw [hg]; exact Nat.ne_of_gt (IsS174.lt (show IsS174 w0 _ g s0_0 t517 t518 from by repeat (first | (with_reducible first | exact HI0.out | apply sA|apply sN|apply sD|apply s1|apply s2 | refine IsS174.far ?_ NB0_512.out _) | exact HI0.out))) : gb520 ≠ g)); clear HO515; clear HI0; clear BK512; clear HK; clear HB; have HO515 := n0_; have HI0 := n1_; have BK512 := n2_; have HK := n3_; have HB := n4_; have BK520 := n5_; have GW520 := n6_; have GE520 := n7_; have NB512_520 := n8_; have NB520_512 := n9_; have NB0_520 := n10_; have NB520_0 := n11_; clear n0_ n1_ n2_ n3_ n4_ n5_ n6_ n7_ n8_ n9_ n10_ n11_; clear hb hbox hg; have hnb12 := NB520_512.out; have hnc12 := NB512_520.out; have hnb13 := NB520_0.out; have hnc13 := NB0_520.out; have hcz14_0 : w11.cell? ⟨gb520, 0, none⟩ = some (.int .i64 0) := (blk_cell BK520.out 0).trans rfl; have hcz14_1 : w11.cell? ⟨gb520, 1, none⟩ = some (.int .i64 0) := (blk_cell BK520.out 1).trans rfl; have hcz14_2 : w11.cell? ⟨gb520, 2, none⟩ = some (.int .i64 0) := (blk_cell BK520.out 2).trans rfl; have hcz14_3 : w11.cell? ⟨gb520, 3, none⟩ = some (.int .i64 0) := (blk_cell BK520.out 3).trans rfl; have hfz14_0 := blk_frozen BK520.out 0; have hfz14_1 := blk_frozen BK520.out 1; have hfz14_2 := blk_frozen BK520.out 2; have hfz14_3 := blk_frozen BK520.out 3) | ((with_reducible refine gate_callee (f := 123) rfl ?_); refine goesL_ (some 20) rfl rfl Try.func123 (by kernel_rfl) rfl #[.pointer (some ⟨g, 0, none⟩), .int .i64 3] rfl (by first|rfl|(simp only [List.map_toArray, List.map_cons, List.map_nil]; try rfl)) ?_; (with_reducible refine (spec_l01Next.calls g s0_0 t517 t518 3 t521 t522 t523 w0 _ ?side1 ?side2 A5.out).mono ?_); (case side1 => repeat (first | (with_reducible first | exact HI0.out | apply sA|apply sN|apply sD|apply s1|apply s2 | refine IsS174.far ?_ NB0_512.out _ | refine IsS174.far ?_ NB0_520.out _) | exact HI0.out)); (case side2 => repeat (first | (with_reducible first | exact HB.out | apply bA|apply bN|apply b1 | refine below_set ?_ (IsS174.ge HI0.out) | refine below_set ?_ (Aside0.out (by assumption))) | exact HB.out)); rintro e w15 ⟨rfl, hi, hb, hk⟩; refine ⟨_, rfl, ?_⟩; have n0_ := aM (KeepBut.blk hk (g' := gb512) (o := .cells #[.int .i64 0, .int .i64 0, .int .i64 0, .int .i64 0] 51 (0, 0)) (by (repeat (first|(with_reducible first|apply kN|apply kD|apply kA)|refine blk_far ?_ NB512_520.out _)); exact BK512.out) NB512_0.out (by simp)); have n1_ := aM (Kd.R_mono (Kd.R_keep (IsS174.apart (show IsS174 w0 _ g s0_0 t517 t518 from by repeat (first | (with_reducible first | exact HI0.out | apply sA|apply sN|apply sD|apply s1|apply s2 | refine IsS174.far ?_ NB0_512.out _ | refine IsS174.far ?_ NB0_520.out _) | exact HI0.out)) (by (with_reducible repeat (first | apply Kd.R_alloc | apply Kd.R_drewN | apply Kd.R_drew)); exact (Kd.R_mono (Kd.R_far (p := ⟨gb520, 3, none⟩) (Kd.R_far (p := ⟨gb520, 2, none⟩) (Kd.R_far (p := ⟨gb520, 1, none⟩) (Kd.R_far (p := ⟨gb520, 0, none⟩) (Kd.R_mono HO515.out (fun k_ hk => (⟨hk, hk.2⟩ : _ ∧ k_ ≠ gb520))) (fun _ hk => hk.2) (.int .i64 ((rd_T51 y513 t516).f0))) (fun _ hk => hk.2) (.int .i64 ((rd_T51 y513 t516).f1))) (fun _ hk => hk.2) (.int .i64 ((rd_T51 y513 t516).f2))) (fun _ hk => hk.2) (.int .i64 ((rd_T51 y513 t516).f3))) (fun _ h_ => h_.1))) (by decide)) hk (fun _ h => h.2)) (fun _ h => h.1)); have n2_ := aM (KeepBut.blk hk (g' := gb520) (o := .cells #[.int .i64 ((rd_T51 y513 t516).f0), .int .i64 ((rd_T51 y513 t516).f1), .int .i64 ((rd_T51 y513 t516).f2), .int .i64 ((rd_T51 y513 t516).f3)] 51 (0, 0)) (by (with_reducible repeat (first|apply kN|apply kD|apply kA)); refine blk_put (cs := #[.int .i64 ((rd_T51 y513 t516).f0), .int .i64 ((rd_T51 y513 t516).f1), .int .i64 ((rd_T51 y513 t516).f2), .int .i64 0]) ?_ 3 _ rfl; (with_reducible repeat (first|apply kN|apply kD|apply kA)); refine blk_put (cs := #[.int .i64 ((rd_T51 y513 t516).f0), .int .i64 ((rd_T51 y513 t516).f1), .int .i64 0, .int .i64 0]) ?_ 2 _ rfl; (with_reducible repeat (first|apply kN|apply kD|apply kA)); refine blk_put (cs := #[.int .i64 ((rd_T51 y513 t516).f0), .int .i64 0, .int .i64 0, .int .i64 0]) ?_ 1 _ rfl; (with_reducible repeat (first|apply kN|apply kD|apply kA)); refine blk_put (cs := #[.int .i64 0, .int .i64 0, .int .i64 0, .int .i64 0]) ?_ 0 _ rfl; (with_reducible repeat (first|apply kN|apply kD|apply kA)); exact BK520.out) NB520_0.out (by simp)); have n3_ := aM (KeepBut.trans (by repeat (first | (with_reducible first | exact HK.out | apply eS|apply eN|apply eD|apply eA | refine keep_far ?_ GW512.out _ | refine keep_far ?_ GW520.out _) | exact HK.out)) hk (.inl rfl)); have n4_ := aM (hb); have n5_ := aM (hi); clear BK512; clear HO515; clear BK520; clear HK; clear HB; clear HI0; have BK512 := n0_; have HO515 := n1_; have BK520 := n2_; have HK := n3_; have HB := n4_; have HI0 := n5_; clear n0_ n1_ n2_ n3_ n4_ n5_; (try clear hb)))
   go_loopg [4] k (fun kq v4 w' => ∃ (x4_1 : Int) (x1001_1 : Int) (x1002_1 : Int) (x521000_1 : Int) (x521001_1 : Int) (x521002_1 : Int) (x521003_1 : Int), v4 = .int .i64 x4_1 ∧ Aside0 (spec_l02DrawFinite.l0 kq x4_1 s0_0 x1001_1 x1002_1 x521000_1 x521001_1 x521002_1 x521003_1 = some (r1, r2, r3, r4, r5, r6)) ∧ Aside0 (kq ≤ k) ∧ Aside0 (w'.heap[gb512]? = some (.cells #[.int .i64 0, .int .i64 0, .int .i64 0, .int .i64 0] 51 (0, 0))) ∧ Aside0 (w'.heap[gb520]? = some (.cells #[.int .i64 x521000_1, .int .i64 x521001_1, .int .i64 x521002_1, .int .i64 x521003_1] 51 (0, 0))) ∧ Aside0 (IsS174 w0 w' g s0_0 x1001_1 x1002_1) ∧ Aside0 (KeepBut w w' g none) ∧ Aside0 (Below w0.heap.size w0 w'))
   case atStart => exact ⟨(t521), (t522), (t523), ((rd_T51 y513 t516).f0), ((rd_T51 y513 t516).f1), ((rd_T51 y513 t516).f2), ((rd_T51 y513 t516).f3), (by first | rfl | (simp; done) | (simp [*]; done)), H', ⟨Nat.le_refl _⟩, ⟨by (with_reducible repeat (first|apply kN|apply kD|apply kA)); exact BK512.out⟩, ⟨by (with_reducible repeat (first|apply kN|apply kD|apply kA)); exact BK520.out⟩, ⟨by repeat (first | (with_reducible first | exact HI0.out | apply sA|apply sN|apply sD|apply s1|apply s2 | refine IsS174.far ?_ NB0_512.out _ | refine IsS174.far ?_ NB0_520.out _) | exact HI0.out)⟩, ⟨by repeat (first | (with_reducible first | exact HK.out | apply eS|apply eN|apply eD|apply eA | refine keep_far ?_ GW512.out _ | refine keep_far ?_ GW520.out _) | exact HK.out)⟩, ⟨by repeat (first | (with_reducible first | exact HB.out | apply bA|apply bN|apply b1 | refine below_set ?_ (IsS174.ge HI0.out) | refine below_set ?_ (Aside0.out (by assumption))) | exact HB.out)⟩⟩
   case round =>
    clear H'
    try clear c1
    try clear c2
    try clear p2
    try clear c3
    try clear c3b0
    try clear c4
    try clear c4b0
    try clear p5
    try clear q5
    try clear hx5
    try clear c12
    try clear c13
    try clear hcz14_0
    try clear hcz14_1
    try clear hcz14_2
    try clear hcz14_3
    try clear hfz14_0
    try clear hfz14_1
    try clear hfz14_2
    try clear hfz14_3
    try clear hx519_0
    try clear hx519_1
    try clear hx519_2
    try clear hx519_3
    try clear p519
    try clear q519
    obtain ⟨x4_1, x1001_1, x1002_1, x521000_1, x521001_1, x521002_1, x521003_1, rfl, HA, HK1, BK512, BK520, HI0, HK, HB⟩ := hrel
    cases gk with
    | zero => exact absurd HA.out (by simp [spec_l02DrawFinite.l0])
    | succ k1 =>
     have H := HA.out
     clear HA
     simp only [spec_l02DrawFinite.l0] at H
     by_cases c16 : x4_1 > 0
     ·rw [if_pos c16] at H
      have c16b0 : decide (0 < x4_1) = true := decide_eq_true c16
      clear c16
      replace H := Option.bind_eq_some_iff.mp H
      obtain ⟨⟨t524, t525, t526⟩, A170, H⟩ := H
      try dsimp only at H
      have A17 := aM A170
      clear A170
      replace H := Option.bind_eq_some_iff.mp H
      obtain ⟨⟨t528, t529, t530⟩, A180, H⟩ := H
      try dsimp only at H
      have A18 := aM A180
      clear A180
      by_cases c19 : t528 = 0
      ·rw [if_pos c19] at H
       have c19b0 : (t528 == 0) = true := beq_iff_eq.mpr c19
       have c19b1 : (t528 != 0) = false := bne_eq_false_iff_eq.mpr c19
       clear c19
       replace H := Option.bind_eq_some_iff.mp H
       obtain ⟨⟨t531, t532, t533⟩, A200, H⟩ := H
       try dsimp only at H
       have A20 := aM A200
       clear A200
       replace H := Option.bind_eq_some_iff.mp H
       obtain ⟨⟨t534, t535, t536, t537⟩, A210, H⟩ := H
       try dsimp only at H
       have A21 := aM A210
       clear A210
       replace H := Option.bind_eq_some_iff.mp H
       obtain ⟨⟨t538, t539, t540, t541⟩, A220, H⟩ := H
       try dsimp only at H
       have A22 := aM A220
       clear A220
       replace H := Option.bind_eq_some_iff.mp H
       obtain ⟨⟨t542, t543, t544, t545⟩, A230, H⟩ := H
       try dsimp only at H
       have A23 := aM A230
       clear A230
       have H' := aM H
       clear H
       try go_wp2_with (first | ((with_reducible refine gate_callee (f := 123) rfl ?_); refine goesL_ (some 26) rfl rfl Try.func123 (by kernel_rfl) rfl #[.pointer (some ⟨g, 0, none⟩), .int .i64 5] rfl (by first|rfl|(simp only [List.map_toArray, List.map_cons, List.map_nil]; try rfl)) ?_; (with_reducible refine (spec_l01Next.calls g s0_0 x1001_1 x1002_1 5 t524 t525 t526 w0 _ ?side1 ?side2 A17.out).mono ?_); (case side1 => repeat (first | (with_reducible first | exact HI0.out | apply sA|apply sN|apply sD|apply s1|apply s2 | refine IsS174.far ?_ NB0_512.out _ | refine IsS174.far ?_ NB0_520.out _) | exact HI0.out)); (case side2 => repeat (first | (with_reducible first | exact HB.out | apply bA|apply bN|apply b1 | refine below_set ?_ (IsS174.ge HI0.out) | refine below_set ?_ (Aside0.out (by assumption))) | exact HB.out)); rintro e w24 ⟨rfl, hi, hb, hk⟩; refine ⟨_, rfl, ?_⟩; have n0_ := aM (KeepBut.blk hk (g' := gb512) (o := .cells #[.int .i64 0, .int .i64 0, .int .i64 0, .int .i64 0] 51 (0, 0)) (by (with_reducible repeat (first|apply kN|apply kD|apply kA)); exact BK512.out) NB512_0.out (by simp)); have n1_ := aM (KeepBut.blk hk (g' := gb520) (o := .cells #[.int .i64 x521000_1, .int .i64 x521001_1, .int .i64 x521002_1, .int .i64 x521003_1] 51 (0, 0)) (by (with_reducible repeat (first|apply kN|apply kD|apply kA)); exact BK520.out) NB520_0.out (by simp)); have n2_ := aM (KeepBut.trans (by repeat (first | (with_reducible first | exact HK.out | apply eS|apply eN|apply eD|apply eA | refine keep_far ?_ GW512.out _ | refine keep_far ?_ GW520.out _) | exact HK.out)) hk (.inl rfl)); have n3_ := aM (hb); have n4_ := aM (hi); clear BK512; clear BK520; clear HK; clear HB; clear HI0; have BK512 := n0_; have BK520 := n1_; have HK := n2_; have HB := n3_; have HI0 := n4_; clear n0_ n1_ n2_ n3_ n4_; (try clear hb)) | ((with_reducible refine gate_dst (N := 5) rfl ?_); refine box_event ?hg (N := 5) ?hd (cs := #[.int .i64 0, .int .i64 0, .int .i64 0, .int .i64 0]) (t := 51) ?hr ?_; (case hd => rfl); (case hg => rfl); (case hr => first | (go_simp; done) | (go_simp; rfl)); intro gb527 hg w25 hbox hb; have n0_ := aM (blk_below (g := gb512) (o := .cells #[.int .i64 0, .int .i64 0, .int .i64 0, .int .i64 0] 51 (0, 0)) (by (with_reducible repeat (first|apply kN|apply kD|apply kA)); exact BK512.out) hb); have n1_ := aM (blk_below (g := gb520) (o := .cells #[.int .i64 x521000_1, .int .i64 x521001_1, .int .i64 x521002_1, .int .i64 x521003_1] 51 (0, 0)) (by (with_reducible repeat (first|apply kN|apply kD|apply kA)); exact BK520.out) hb); have n2_ := aM (IsS174.below (by repeat (first | (with_reducible first | exact HI0.out | apply sA|apply sN|apply sD|apply s1|apply s2 | refine IsS174.far ?_ NB0_512.out _ | refine IsS174.far ?_ NB0_520.out _) | exact HI0.out)) hb); have n3_ := aM (KeepBut.trans (by repeat (first | (with_reducible first | exact HK.out | apply eS|apply eN|apply eD|apply eA | refine keep_far ?_ GW512.out _ | refine keep_far ?_ GW520.out _) | exact HK.out)) (KeepBut.of_below hb g none) (.inl rfl)); have n4_ := aM (below_step (by repeat (first | (with_reducible first | exact HB.out | apply bA|apply bN|apply b1 | refine below_set ?_ (IsS174.ge HI0.out) | refine below_set ?_ (Aside0.out (by assumption))) | exact HB.out)) hb); have n5_ := aM (hbox); have n6_ := aM ((by rw [hg]; exact (keep_size (w := w) (g := g) (row := none) (by repeat (first | (with_reducible first | exact HK.out | apply eS|apply eN|apply eD|apply eA | refine keep_far ?_ GW512.out _ | refine keep_far ?_ GW520.out _) | exact HK.out))) : w.heap.size ≤ gb527)); have n7_ := aM ((Nat.le_trans HW0.out (by rw [hg]; exact (keep_size (w := w) (g := g) (row := none) (by repeat (first | (with_reducible first | exact HK.out | apply eS|apply eN|apply eD|apply eA | refine keep_far ?_ GW512.out _ | refine keep_far ?_ GW520.out _) | exact HK.out))) : w.heap.size ≤ gb527) : w0.heap.size ≤ gb527)); have n8_ := aM ((by rw [hg]; exact Nat.ne_of_lt (blk_lt (g := gb512) (o := .cells #[.int .i64 0, .int .i64 0, .int .i64 0, .int .i64 0] 51 (0, 0)) (by (with_reducible repeat (first|apply kN|apply kD|apply kA)); exact BK512.out)) : gb512 ≠ gb527)); have n9_ := aM ((by rw [hg]; exact Nat.ne_of_gt (blk_lt (g := gb512) (o := .cells #[.int .i64 0, .int .i64 0, .int .i64 0, .int .i64 0] 51 (0, 0)) (by (with_reducible repeat (first|apply kN|apply kD|apply kA)); exact BK512.out)) : gb527 ≠ gb512)); have n10_ := aM ((by rw [hg]; exact Nat.ne_of_lt (blk_lt (g := gb520) (o := .cells #[.int .i64 x521000_1, .int .i64 x521001_1, .int .i64 x521002_1, .int .i64 x521003_1] 51 (0, 0)) (by (with_reducible repeat (first|apply kN|apply kD|apply kA)); exact BK520.out)) : gb520 ≠ gb527)); have n11_ := aM ((by rw [hg]; exact Nat.ne_of_gt (blk_lt (g := gb520) (o := .cells #[.int .i64 x521000_1, .int .i64 x521001_1, .int .i64 x521002_1, .int .i64 x521003_1] 51 (0, 0)) (by (with_reducible repeat (first|apply kN|apply kD|apply kA)); exact BK520.out)) : gb527 ≠ gb520)); have n12_ := aM ((by rw [hg]; exact Nat.ne_of_lt (IsS174.lt (show IsS174 w0 _ g s0_0 t525 t526 from by repeat (first | (with_reducible first | exact HI0.out | apply sA|apply sN|apply sD|apply s1|apply s2 | refine IsS174.far ?_ NB0_512.out _ | refine IsS174.far ?_ NB0_520.out _) | exact HI0.out))) : g ≠ gb527)); have n13_ := aM ((by rw [hg]; exact Nat.ne_of_gt (IsS174.lt (show IsS174 w0 _ g s0_0 t525 t526 from by repeat (first | (with_reducible first | exact HI0.out | apply sA|apply sN|apply sD|apply s1|apply s2 | refine IsS174.far ?_ NB0_512.out _ | refine IsS174.far ?_ NB0_520.out _) | exact HI0.out))) : gb527 ≠ g)); clear BK512; clear BK520; clear HI0; clear HK; clear HB; have BK512 := n0_; have BK520 := n1_; have HI0 := n2_; have HK := n3_; have HB := n4_; have BK527 := n5_; have GW527 := n6_; have GE527 := n7_; have NB512_527 := n8_; have NB527_512 := n9_; have NB520_527 := n10_; have NB527_520 := n11_; have NB0_527 := n12_; have NB527_0 := n13_; clear n0_ n1_ n2_ n3_ n4_ n5_ n6_ n7_ n8_ n9_ n10_ n11_ n12_ n13_; clear hb hbox hg; have hnb26 := NB527_512.out; have hnc26 := NB512_527.out; have hnb27 := NB527_520.out; have hnc27 := NB520_527.out; have hnb28 := NB527_0.out; have hnc28 := NB0_527.out; have hcz29_0 : w25.cell? ⟨gb527, 0, none⟩ = some (.int .i64 0) := (blk_cell BK527.out 0).trans rfl; have hcz29_1 : w25.cell? ⟨gb527, 1, none⟩ = some (.int .i64 0) := (blk_cell BK527.out 1).trans rfl; have hcz29_2 : w25.cell? ⟨gb527, 2, none⟩ = some (.int .i64 0) := (blk_cell BK527.out 2).trans rfl; have hcz29_3 : w25.cell? ⟨gb527, 3, none⟩ = some (.int .i64 0) := (blk_cell BK527.out 3).trans rfl; have hfz29_0 := blk_frozen BK527.out 0; have hfz29_1 := blk_frozen BK527.out 1; have hfz29_2 := blk_frozen BK527.out 2; have hfz29_3 := blk_frozen BK527.out 3) | ((with_reducible refine gate_callee (f := 123) rfl ?_); refine goesL_ (some 30) rfl rfl Try.func123 (by kernel_rfl) rfl #[.pointer (some ⟨g, 0, none⟩), .int .i64 2] rfl (by first|rfl|(simp only [List.map_toArray, List.map_cons, List.map_nil]; try rfl)) ?_; (with_reducible refine (spec_l01Next.calls g s0_0 t525 t526 2 t528 t529 t530 w0 _ ?side1 ?side2 A18.out).mono ?_); (case side1 => repeat (first | (with_reducible first | exact HI0.out | apply sA|apply sN|apply sD|apply s1|apply s2 | refine IsS174.far ?_ NB0_512.out _ | refine IsS174.far ?_ NB0_520.out _ | refine IsS174.far ?_ NB0_527.out _) | exact HI0.out)); (case side2 => repeat (first | (with_reducible first | exact HB.out | apply bA|apply bN|apply b1 | refine below_set ?_ (IsS174.ge HI0.out) | refine below_set ?_ (Aside0.out (by assumption))) | exact HB.out)); rintro e w30 ⟨rfl, hi, hb, hk⟩; refine ⟨_, rfl, ?_⟩; have n0_ := aM (KeepBut.blk hk (g' := gb512) (o := .cells #[.int .i64 0, .int .i64 0, .int .i64 0, .int .i64 0] 51 (0, 0)) (by (repeat (first|(with_reducible first|apply kN|apply kD|apply kA)|refine blk_far ?_ NB512_527.out _)); exact BK512.out) NB512_0.out (by simp)); have n1_ := aM (KeepBut.blk hk (g' := gb520) (o := .cells #[.int .i64 x521000_1, .int .i64 x521001_1, .int .i64 x521002_1, .int .i64 x521003_1] 51 (0, 0)) (by (repeat (first|(with_reducible first|apply kN|apply kD|apply kA)|refine blk_far ?_ NB520_527.out _)); exact BK520.out) NB520_0.out (by simp)); have n2_ := aM (KeepBut.blk hk (g' := gb527) (o := .cells #[.int .i64 1, .int .i64 (wrap64 (t524 - 2)), .int .i64 0, .int .i64 1] 51 (0, 0)) (by (with_reducible repeat (first|apply kN|apply kD|apply kA)); refine blk_put (cs := #[.int .i64 1, .int .i64 (wrap64 (t524 - 2)), .int .i64 0, .int .i64 0]) ?_ 3 _ rfl; (with_reducible repeat (first|apply kN|apply kD|apply kA)); refine blk_put (cs := #[.int .i64 1, .int .i64 (wrap64 (t524 - 2)), .int .i64 0, .int .i64 0]) ?_ 2 _ rfl; (with_reducible repeat (first|apply kN|apply kD|apply kA)); refine blk_put (cs := #[.int .i64 1, .int .i64 0, .int .i64 0, .int .i64 0]) ?_ 1 _ rfl; (with_reducible repeat (first|apply kN|apply kD|apply kA)); refine blk_put (cs := #[.int .i64 0, .int .i64 0, .int .i64 0, .int .i64 0]) ?_ 0 _ rfl; (with_reducible repeat (first|apply kN|apply kD|apply kA)); exact BK527.out) NB527_0.out (by simp)); have n3_ := aM (KeepBut.trans (by repeat (first | (with_reducible first | exact HK.out | apply eS|apply eN|apply eD|apply eA | refine keep_far ?_ GW512.out _ | refine keep_far ?_ GW520.out _ | refine keep_far ?_ GW527.out _) | exact HK.out)) hk (.inl rfl)); have n4_ := aM (hb); have n5_ := aM (hi); clear BK512; clear BK520; clear BK527; clear HK; clear HB; clear HI0; have BK512 := n0_; have BK520 := n1_; have BK527 := n2_; have HK := n3_; have HB := n4_; have HI0 := n5_; clear n0_ n1_ n2_ n3_ n4_ n5_; (try clear hb)) | ((with_reducible refine gate_callee (f := 123) rfl ?_); refine goesL_ (some 33) rfl rfl Try.func123 (by kernel_rfl) rfl #[.pointer (some ⟨g, 0, none⟩), .int .i64 5] rfl (by first|rfl|(simp only [List.map_toArray, List.map_cons, List.map_nil]; try rfl)) ?_; (with_reducible refine (spec_l01Next.calls g s0_0 t529 t530 5 t531 t532 t533 w0 _ ?side1 ?side2 A20.out).mono ?_); (case side1 => repeat (first | (with_reducible first | exact HI0.out | apply sA|apply sN|apply sD|apply s1|apply s2 | refine IsS174.far ?_ NB0_512.out _ | refine IsS174.far ?_ NB0_520.out _ | refine IsS174.far ?_ NB0_527.out _) | exact HI0.out)); (case side2 => repeat (first | (with_reducible first | exact HB.out | apply bA|apply bN|apply b1 | refine below_set ?_ (IsS174.ge HI0.out) | refine below_set ?_ (Aside0.out (by assumption))) | exact HB.out)); rintro e w31 ⟨rfl, hi, hb, hk⟩; refine ⟨_, rfl, ?_⟩; have n0_ := aM (KeepBut.blk hk (g' := gb512) (o := .cells #[.int .i64 0, .int .i64 0, .int .i64 0, .int .i64 0] 51 (0, 0)) (by (with_reducible repeat (first|apply kN|apply kD|apply kA)); exact BK512.out) NB512_0.out (by simp)); have n1_ := aM (KeepBut.blk hk (g' := gb520) (o := .cells #[.int .i64 x521000_1, .int .i64 x521001_1, .int .i64 x521002_1, .int .i64 x521003_1] 51 (0, 0)) (by (with_reducible repeat (first|apply kN|apply kD|apply kA)); exact BK520.out) NB520_0.out (by simp)); have n2_ := aM (KeepBut.blk hk (g' := gb527) (o := .cells #[.int .i64 1, .int .i64 (wrap64 (t524 - 2)), .int .i64 0, .int .i64 1] 51 (0, 0)) (by (with_reducible repeat (first|apply kN|apply kD|apply kA)); exact BK527.out) NB527_0.out (by simp)); have n3_ := aM (KeepBut.trans (by repeat (first | (with_reducible first | exact HK.out | apply eS|apply eN|apply eD|apply eA | refine keep_far ?_ GW512.out _ | refine keep_far ?_ GW520.out _ | refine keep_far ?_ GW527.out _) | exact HK.out)) hk (.inl rfl)); have n4_ := aM (hb); have n5_ := aM (hi); clear BK512; clear BK520; clear BK527; clear HK; clear HB; clear HI0; have BK512 := n0_; have BK520 := n1_; have BK527 := n2_; have HK := n3_; have HB := n4_; have HI0 := n5_; clear n0_ n1_ n2_ n3_ n4_ n5_; (try clear hb); have hcz32_0 : w31.cell? ⟨gb527, 0, none⟩ = some (.int .i64 1) := (blk_cell BK527.out 0).trans rfl; have hcz32_1 : w31.cell? ⟨gb527, 1, none⟩ = some (.int .i64 (wrap64 (t524 - 2))) := (blk_cell BK527.out 1).trans rfl; have hcz32_2 : w31.cell? ⟨gb527, 2, none⟩ = some (.int .i64 0) := (blk_cell BK527.out 2).trans rfl; have hcz32_3 : w31.cell? ⟨gb527, 3, none⟩ = some (.int .i64 1) := (blk_cell BK527.out 3).trans rfl; have hfz32_0 := blk_frozen BK527.out 0; have hfz32_1 := blk_frozen BK527.out 1; have hfz32_2 := blk_frozen BK527.out 2; have hfz32_3 := blk_frozen BK527.out 3))
       have n0_ : Aside0 (((((w31.setCell ⟨gb527, 0, none⟩ (.int .i64 1)).setCell ⟨gb527, 1, none⟩ (.int .i64 0)).setCell ⟨gb527, 2, none⟩ (.int .i64 (wrap64 (t531 - 2)))).setCell ⟨gb527, 3, none⟩ (.int .i64 1)).heap[gb512]? = some (.cells #[.int .i64 0, .int .i64 0, .int .i64 0, .int .i64 0] 51 (0, 0))) := ⟨by (repeat (first|(with_reducible first|apply kN|apply kD|apply kA)|refine blk_far ?_ NB512_527.out _)); exact BK512.out⟩
       have n1_ : Aside0 (((((w31.setCell ⟨gb527, 0, none⟩ (.int .i64 1)).setCell ⟨gb527, 1, none⟩ (.int .i64 0)).setCell ⟨gb527, 2, none⟩ (.int .i64 (wrap64 (t531 - 2)))).setCell ⟨gb527, 3, none⟩ (.int .i64 1)).heap[gb520]? = some (.cells #[.int .i64 x521000_1, .int .i64 x521001_1, .int .i64 x521002_1, .int .i64 x521003_1] 51 (0, 0))) := ⟨by (repeat (first|(with_reducible first|apply kN|apply kD|apply kA)|refine blk_far ?_ NB520_527.out _)); exact BK520.out⟩
       have n2_ : Aside0 (((((w31.setCell ⟨gb527, 0, none⟩ (.int .i64 1)).setCell ⟨gb527, 1, none⟩ (.int .i64 0)).setCell ⟨gb527, 2, none⟩ (.int .i64 (wrap64 (t531 - 2)))).setCell ⟨gb527, 3, none⟩ (.int .i64 1)).heap[gb527]? = some (.cells #[.int .i64 1, .int .i64 0, .int .i64 (wrap64 (t531 - 2)), .int .i64 1] 51 (0, 0))) := ⟨by (with_reducible repeat (first|apply kN|apply kD|apply kA)); refine blk_put (cs := #[.int .i64 1, .int .i64 0, .int .i64 (wrap64 (t531 - 2)), .int .i64 1]) ?_ 3 _ rfl; (with_reducible repeat (first|apply kN|apply kD|apply kA)); refine blk_put (cs := #[.int .i64 1, .int .i64 0, .int .i64 0, .int .i64 1]) ?_ 2 _ rfl; (with_reducible repeat (first|apply kN|apply kD|apply kA)); refine blk_put (cs := #[.int .i64 1, .int .i64 (wrap64 (t524 - 2)), .int .i64 0, .int .i64 1]) ?_ 1 _ rfl; (with_reducible repeat (first|apply kN|apply kD|apply kA)); refine blk_put (cs := #[.int .i64 1, .int .i64 (wrap64 (t524 - 2)), .int .i64 0, .int .i64 1]) ?_ 0 _ rfl; (with_reducible repeat (first|apply kN|apply kD|apply kA)); exact BK527.out⟩
       have n3_ : Aside0 (IsS174 w0 ((((w31.setCell ⟨gb527, 0, none⟩ (.int .i64 1)).setCell ⟨gb527, 1, none⟩ (.int .i64 0)).setCell ⟨gb527, 2, none⟩ (.int .i64 (wrap64 (t531 - 2)))).setCell ⟨gb527, 3, none⟩ (.int .i64 1)) g s0_0 t532 t533) := ⟨by repeat (first | (with_reducible first | exact HI0.out | apply sA|apply sN|apply sD|apply s1|apply s2 | refine IsS174.far ?_ NB0_512.out _ | refine IsS174.far ?_ NB0_520.out _ | refine IsS174.far ?_ NB0_527.out _) | exact HI0.out)⟩
       have n4_ : Aside0 (KeepBut w ((((w31.setCell ⟨gb527, 0, none⟩ (.int .i64 1)).setCell ⟨gb527, 1, none⟩ (.int .i64 0)).setCell ⟨gb527, 2, none⟩ (.int .i64 (wrap64 (t531 - 2)))).setCell ⟨gb527, 3, none⟩ (.int .i64 1)) g none) := ⟨by repeat (first | (with_reducible first | exact HK.out | apply eS|apply eN|apply eD|apply eA | refine keep_far ?_ GW512.out _ | refine keep_far ?_ GW520.out _ | refine keep_far ?_ GW527.out _) | exact HK.out)⟩
       have n5_ : Aside0 (Below w0.heap.size w0 ((((w31.setCell ⟨gb527, 0, none⟩ (.int .i64 1)).setCell ⟨gb527, 1, none⟩ (.int .i64 0)).setCell ⟨gb527, 2, none⟩ (.int .i64 (wrap64 (t531 - 2)))).setCell ⟨gb527, 3, none⟩ (.int .i64 1))) := ⟨by repeat (first | (with_reducible first | exact HB.out | apply bA|apply bN|apply b1 | refine below_set ?_ (IsS174.ge HI0.out) | refine below_set ?_ (Aside0.out (by assumption))) | exact HB.out)⟩
       (try clear BK512)
       (try clear BK520)
       (try clear BK527)
       (try clear HI0)
       (try clear HK)
       (try clear HB)
       generalize ((((w31.setCell ⟨gb527, 0, none⟩ (.int .i64 1)).setCell ⟨gb527, 1, none⟩ (.int .i64 0)).setCell ⟨gb527, 2, none⟩ (.int .i64 (wrap64 (t531 - 2)))).setCell ⟨gb527, 3, none⟩ (.int .i64 1)) = w33 at n0_ n1_ n2_ n3_ n4_ n5_ ⊢
       have BK512 := n0_
       have BK520 := n1_
       have BK527 := n2_
       have HI0 := n3_
       have HK := n4_
       have HB := n5_
       clear n0_ n1_ n2_ n3_ n4_ n5_
       have n0_ := aM (blk_drew BK512.out)
       have n1_ := aM (blk_drew BK520.out)
       have n2_ := aM (blk_drew BK527.out)
       have n3_ := aM (IsS174.drew HI0.out)
       have n4_ := aM (keep_drew HK.out)
       have n5_ := aM (below_drew1 HB.out)
       clear BK512
       clear BK520
       clear BK527
       clear HI0
       clear HK
       clear HB
       have BK512 := n0_
       have BK520 := n1_
       have BK527 := n2_
       have HI0 := n3_
       have HK := n4_
       have HB := n5_
       clear n0_ n1_ n2_ n3_ n4_ n5_
       refine start_ (n := 7) (S := fun w' => w'.cell? ⟨gb527, 0, none⟩ = some (.int .i64 1) ∧ w'.cell? ⟨gb527, 1, none⟩ = some (.int .i64 0) ∧ w'.cell? ⟨gb527, 2, none⟩ = some (.int .i64 (wrap64 (t531 - 2))) ∧ w'.cell? ⟨gb527, 3, none⟩ = some (.int .i64 1) ∧ w'.cell? ⟨gb520, 0, none⟩ = some (.int .i64 x521000_1) ∧ w'.cell? ⟨gb520, 1, none⟩ = some (.int .i64 x521001_1) ∧ w'.cell? ⟨gb520, 2, none⟩ = some (.int .i64 x521002_1) ∧ w'.cell? ⟨gb520, 3, none⟩ = some (.int .i64 x521003_1)) (ds := [6]) #[false, false, false, false, false, false, false] (by kernel_rfl) rfl rfl ⟨(blk_cell BK527.out 0).trans rfl, (blk_cell BK527.out 1).trans rfl, (blk_cell BK527.out 2).trans rfl, (blk_cell BK527.out 3).trans rfl, (blk_cell BK520.out 0).trans rfl, (blk_cell BK520.out 1).trans rfl, (blk_cell BK520.out 2).trans rfl, (blk_cell BK520.out 3).trans rfl⟩ (fun hHeld => ?_)
       generalize w33.drew = w34 at BK512 BK520 BK527 HI0 HK HB hHeld ⊢
       refine take_ (i := 0) (N := some 36) (v := ?_) (a' := ?_) #[true, false, false, false, false, false, false] rfl rfl (by kernel_rfl) (fun _ _ _ h => h) (Or.inl ⟨by rfl, ?_⟩) hHeld ?_ ?_
       rotate_left
       ·rintro w' ⟨s0, s1, s2, s3, s4, s5, s6, s7⟩
        go_simp
        with_reducible rfl
       rotate_left
       ·simp only [Act.put, List.setIfInBounds_toArray, List.set_cons_zero, List.set_cons_succ, i64_w, i32_w]
        rfl
       refine take_ (i := 1) (N := some 37) (v := ?_) (a' := ?_) #[true, true, false, false, false, false, false] rfl rfl (by kernel_rfl) (fun _ _ _ h => h) (Or.inl ⟨by rfl, ?_⟩) hHeld ?_ ?_
       rotate_left
       ·rintro w' ⟨s0, s1, s2, s3, s4, s5, s6, s7⟩
        go_simp
        with_reducible rfl
       rotate_left
       ·simp only [Act.put, List.setIfInBounds_toArray, List.set_cons_zero, List.set_cons_succ, i64_w, i32_w]
        rfl
       refine take_ (i := 3) (N := some 39) (v := ?_) (a' := ?_) #[true, true, false, true, false, false, false] rfl rfl (by kernel_rfl) (fun _ _ _ h => h) (Or.inl ⟨by rfl, ?_⟩) hHeld ?_ ?_
       rotate_left
       ·rintro w' ⟨s0, s1, s2, s3, s4, s5, s6, s7⟩
        go_simp
        with_reducible rfl
       rotate_left
       ·simp only [Act.put, List.setIfInBounds_toArray, List.set_cons_zero, List.set_cons_succ, i64_w, i32_w]
        rfl
       refine one_ (i := 2) (N := some 38) #[true, true, true, true, false, false, false] rfl rfl (by kernel_rfl) (by decide) (fun K hK => ?_)
       refine goes_ Try.func151 (by kernel_rfl) rfl #[.agg #[.int .i64 1, .int .i64 0, .int .i64 (wrap64 (t531 - 2)), .int .i64 1], .agg #[.int .i64 x521000_1, .int .i64 x521001_1, .int .i64 x521002_1, .int .i64 x521003_1]] (by rfl) rfl rfl (by first|rfl|(simp only [List.map_toArray, List.map_cons, List.map_nil]; try rfl)) ?_
       with_reducible refine (spec_l02Multiply.calls 1 0 (wrap64 (t531 - 2)) 1 x521000_1 x521001_1 x521002_1 x521003_1 t534 t535 t536 t537 _ A21.out).mono ?_
       rintro e w35 ⟨rfl, hb⟩
       refine ⟨_, rfl, ?_⟩
       have n0_ := aM (blk_below (g := gb512) (o := .cells #[.int .i64 0, .int .i64 0, .int .i64 0, .int .i64 0] 51 (0, 0)) (by (with_reducible repeat (first|apply kN|apply kD|apply kA)); exact BK512.out) hb)
       have n1_ := aM (blk_below (g := gb520) (o := .cells #[.int .i64 x521000_1, .int .i64 x521001_1, .int .i64 x521002_1, .int .i64 x521003_1] 51 (0, 0)) (by (with_reducible repeat (first|apply kN|apply kD|apply kA)); exact BK520.out) hb)
       have n2_ := aM (IsS174.below (by repeat (first | (with_reducible first | exact HI0.out | apply sA|apply sN|apply sD|apply s1|apply s2 | refine IsS174.far ?_ NB0_512.out _ | refine IsS174.far ?_ NB0_520.out _ | refine IsS174.far ?_ NB0_527.out _) | exact HI0.out)) hb)
       have n3_ := aM (blk_below (g := gb527) (o := .cells #[.int .i64 1, .int .i64 0, .int .i64 (wrap64 (t531 - 2)), .int .i64 1] 51 (0, 0)) (by (with_reducible repeat (first|apply kN|apply kD|apply kA)); exact BK527.out) hb)
       have n4_ := aM (KeepBut.trans (by repeat (first | (with_reducible first | exact HK.out | apply eS|apply eN|apply eD|apply eA | refine keep_far ?_ GW512.out _ | refine keep_far ?_ GW520.out _ | refine keep_far ?_ GW527.out _) | exact HK.out)) (KeepBut.of_below hb g none) (.inl rfl))
       have n5_ := aM (below_step (by repeat (first | (with_reducible first | exact HB.out | apply bA|apply bN|apply b1 | refine below_set ?_ (IsS174.ge HI0.out) | refine below_set ?_ (Aside0.out (by assumption))) | exact HB.out)) hb)
       clear BK512
       clear BK520
       clear HI0
       clear BK527
       clear HK
       clear HB
       have BK512 := n0_
       have BK520 := n1_
       have HI0 := n2_
       have BK527 := n3_
       have HK := n4_
       have HB := n5_
       clear n0_ n1_ n2_ n3_ n4_ n5_
       (try clear hb)
       (try clear hb2)
       (try clear hk)
       (try clear hi)
       refine hK.out _ _ ⟨(blk_cell BK527.out 0).trans rfl, (blk_cell BK527.out 1).trans rfl, (blk_cell BK527.out 2).trans rfl, (blk_cell BK527.out 3).trans rfl, (blk_cell BK520.out 0).trans rfl, (blk_cell BK520.out 1).trans rfl, (blk_cell BK520.out 2).trans rfl, (blk_cell BK520.out 3).trans rfl⟩ (fun hHeld => ?_)
       clear hK K
       refine norm_ (a' := ?_) ?_ ?_
       rotate_left
       ·show Act.put _ (some 38) _ = _
        simp only [Act.put, List.setIfInBounds_toArray, List.set_cons_zero, List.set_cons_succ, i64_w, i32_w]
        rfl
       refine one_ (i := 4) (N := some 40) #[true, true, true, true, true, false, false] rfl rfl (by kernel_rfl) (by decide) (fun K hK => ?_)
       refine goes_ Try.func153 (by kernel_rfl) rfl #[.agg #[.int .i64 1, .int .i64 0, .int .i64 (wrap64 (t531 - 2)), .int .i64 1]] (by rfl) rfl rfl (by first|rfl|(simp only [List.map_toArray, List.map_cons, List.map_nil]; try rfl)) ?_
       with_reducible refine (spec_l02Inverse.calls 1 0 (wrap64 (t531 - 2)) 1 t538 t539 t540 t541 _ A22.out).mono ?_
       rintro e w36 ⟨rfl, hb⟩
       refine ⟨_, rfl, ?_⟩
       have n0_ := aM (blk_below (g := gb512) (o := .cells #[.int .i64 0, .int .i64 0, .int .i64 0, .int .i64 0] 51 (0, 0)) (by (with_reducible repeat (first|apply kN|apply kD|apply kA)); exact BK512.out) hb)
       have n1_ := aM (blk_below (g := gb520) (o := .cells #[.int .i64 x521000_1, .int .i64 x521001_1, .int .i64 x521002_1, .int .i64 x521003_1] 51 (0, 0)) (by (with_reducible repeat (first|apply kN|apply kD|apply kA)); exact BK520.out) hb)
       have n2_ := aM (IsS174.below (by repeat (first | (with_reducible first | exact HI0.out | apply sA|apply sN|apply sD|apply s1|apply s2 | refine IsS174.far ?_ NB0_512.out _ | refine IsS174.far ?_ NB0_520.out _ | refine IsS174.far ?_ NB0_527.out _) | exact HI0.out)) hb)
       have n3_ := aM (blk_below (g := gb527) (o := .cells #[.int .i64 1, .int .i64 0, .int .i64 (wrap64 (t531 - 2)), .int .i64 1] 51 (0, 0)) (by (with_reducible repeat (first|apply kN|apply kD|apply kA)); exact BK527.out) hb)
       have n4_ := aM (KeepBut.trans (by repeat (first | (with_reducible first | exact HK.out | apply eS|apply eN|apply eD|apply eA | refine keep_far ?_ GW512.out _ | refine keep_far ?_ GW520.out _ | refine keep_far ?_ GW527.out _) | exact HK.out)) (KeepBut.of_below hb g none) (.inl rfl))
       have n5_ := aM (below_step (by repeat (first | (with_reducible first | exact HB.out | apply bA|apply bN|apply b1 | refine below_set ?_ (IsS174.ge HI0.out) | refine below_set ?_ (Aside0.out (by assumption))) | exact HB.out)) hb)
       clear BK512
       clear BK520
       clear HI0
       clear BK527
       clear HK
       clear HB
       have BK512 := n0_
       have BK520 := n1_
       have HI0 := n2_
       have BK527 := n3_
       have HK := n4_
       have HB := n5_
       clear n0_ n1_ n2_ n3_ n4_ n5_
       (try clear hb)
       (try clear hb2)
       (try clear hk)
       (try clear hi)
       refine hK.out _ _ ⟨(blk_cell BK527.out 0).trans rfl, (blk_cell BK527.out 1).trans rfl, (blk_cell BK527.out 2).trans rfl, (blk_cell BK527.out 3).trans rfl, (blk_cell BK520.out 0).trans rfl, (blk_cell BK520.out 1).trans rfl, (blk_cell BK520.out 2).trans rfl, (blk_cell BK520.out 3).trans rfl⟩ (fun hHeld => ?_)
       clear hK K
       refine norm_ (a' := ?_) ?_ ?_
       rotate_left
       ·show Act.put _ (some 40) _ = _
        simp only [Act.put, List.setIfInBounds_toArray, List.set_cons_zero, List.set_cons_succ, i64_w, i32_w]
        rfl
       refine one_ (i := 5) (N := some 41) #[true, true, true, true, true, true, false] rfl rfl (by kernel_rfl) (by decide) (fun K hK => ?_)
       refine goes_ Try.func151 (by kernel_rfl) rfl #[.agg #[.int .i64 t534, .int .i64 t535, .int .i64 t536, .int .i64 t537], .agg #[.int .i64 t538, .int .i64 t539, .int .i64 t540, .int .i64 t541]] (by rfl) rfl rfl (by first|rfl|(simp only [List.map_toArray, List.map_cons, List.map_nil]; try rfl)) ?_
       with_reducible refine (spec_l02Multiply.calls t534 t535 t536 t537 t538 t539 t540 t541 t542 t543 t544 t545 _ A23.out).mono ?_
       rintro e w37 ⟨rfl, hb⟩
       refine ⟨_, rfl, ?_⟩
       have n0_ := aM (blk_below (g := gb512) (o := .cells #[.int .i64 0, .int .i64 0, .int .i64 0, .int .i64 0] 51 (0, 0)) (by (with_reducible repeat (first|apply kN|apply kD|apply kA)); exact BK512.out) hb)
       have n1_ := aM (blk_below (g := gb520) (o := .cells #[.int .i64 x521000_1, .int .i64 x521001_1, .int .i64 x521002_1, .int .i64 x521003_1] 51 (0, 0)) (by (with_reducible repeat (first|apply kN|apply kD|apply kA)); exact BK520.out) hb)
       have n2_ := aM (IsS174.below (by repeat (first | (with_reducible first | exact HI0.out | apply sA|apply sN|apply sD|apply s1|apply s2 | refine IsS174.far ?_ NB0_512.out _ | refine IsS174.far ?_ NB0_520.out _ | refine IsS174.far ?_ NB0_527.out _) | exact HI0.out)) hb)
       have n3_ := aM (blk_below (g := gb527) (o := .cells #[.int .i64 1, .int .i64 0, .int .i64 (wrap64 (t531 - 2)), .int .i64 1] 51 (0, 0)) (by (with_reducible repeat (first|apply kN|apply kD|apply kA)); exact BK527.out) hb)
       have n4_ := aM (KeepBut.trans (by repeat (first | (with_reducible first | exact HK.out | apply eS|apply eN|apply eD|apply eA | refine keep_far ?_ GW512.out _ | refine keep_far ?_ GW520.out _ | refine keep_far ?_ GW527.out _) | exact HK.out)) (KeepBut.of_below hb g none) (.inl rfl))
       have n5_ := aM (below_step (by repeat (first | (with_reducible first | exact HB.out | apply bA|apply bN|apply b1 | refine below_set ?_ (IsS174.ge HI0.out) | refine below_set ?_ (Aside0.out (by assumption))) | exact HB.out)) hb)
       clear BK512
       clear BK520
       clear HI0
       clear BK527
       clear HK
       clear HB
       have BK512 := n0_
       have BK520 := n1_
       have HI0 := n2_
       have BK527 := n3_
       have HK := n4_
       have HB := n5_
       clear n0_ n1_ n2_ n3_ n4_ n5_
       (try clear hb)
       (try clear hb2)
       (try clear hk)
       (try clear hi)
       refine hK.out _ _ ⟨(blk_cell BK527.out 0).trans rfl, (blk_cell BK527.out 1).trans rfl, (blk_cell BK527.out 2).trans rfl, (blk_cell BK527.out 3).trans rfl, (blk_cell BK520.out 0).trans rfl, (blk_cell BK520.out 1).trans rfl, (blk_cell BK520.out 2).trans rfl, (blk_cell BK520.out 3).trans rfl⟩ (fun hHeld => ?_)
       clear hK K
       refine norm_ (a' := ?_) ?_ ?_
       rotate_left
       ·show Act.put _ (some 41) _ = _
        simp only [Act.put, List.setIfInBounds_toArray, List.set_cons_zero, List.set_cons_succ, i64_w, i32_w]
        rfl
       refine last_ (i := 6) (N := none) #[true, true, true, true, true, true, true] rfl rfl (by kernel_rfl) (by decide) (fun K hK => ?_)
       have hs38 : w37.cell? ⟨gb520, 0, none⟩ = some (.int .i64 x521000_1) := (blk_cell BK520.out 0).trans rfl
       have hfs38 := blk_frozen BK520.out 0
       have hns38_0 := NB512_520.out
       have hns38_2 := NB527_520.out
       have hms38_0 := NB520_512.out
       have hms38_2 := NB520_527.out
       have hs39 : w37.cell? ⟨gb520, 1, none⟩ = some (.int .i64 x521001_1) := (blk_cell BK520.out 1).trans rfl
       have hfs39 := blk_frozen BK520.out 1
       have hns39_0 := NB512_520.out
       have hns39_2 := NB527_520.out
       have hms39_0 := NB520_512.out
       have hms39_2 := NB520_527.out
       have hs40 : w37.cell? ⟨gb520, 2, none⟩ = some (.int .i64 x521002_1) := (blk_cell BK520.out 2).trans rfl
       have hfs40 := blk_frozen BK520.out 2
       have hns40_0 := NB512_520.out
       have hns40_2 := NB527_520.out
       have hms40_0 := NB520_512.out
       have hms40_2 := NB520_527.out
       have hs41 : w37.cell? ⟨gb520, 3, none⟩ = some (.int .i64 x521003_1) := (blk_cell BK520.out 3).trans rfl
       have hfs41 := blk_frozen BK520.out 3
       have hns41_0 := NB512_520.out
       have hns41_2 := NB527_520.out
       have hms41_0 := NB520_512.out
       have hms41_2 := NB520_527.out
       refine skip_ (w1 := ?_) (by rfl) rfl ?_ ?_
       rotate_left
       ·go_simp
        rfl
       refine hK.out _ _ ?_
       clear hK K
       refine done_ (by kernel_rfl) ?_
       try go_wp2
       go_roundg k1
       case measure => have := HK1.out; omega
       case rel => exact ⟨(wrap64 (x4_1 - 1)), (t532), (t533), (t542), (t543), (t544), (t545), (by first | rfl | (simp; done) | (simp [*]; done)), H', ⟨by have := HK1.out; omega⟩, ⟨by (repeat (first|(with_reducible first|apply kN|apply kD|apply kA)|refine blk_far ?_ NB512_520.out _)); exact BK512.out⟩, ⟨by (with_reducible repeat (first|apply kN|apply kD|apply kA)); refine blk_put (cs := #[.int .i64 t542, .int .i64 t543, .int .i64 t544, .int .i64 x521003_1]) ?_ 3 _ rfl; (with_reducible repeat (first|apply kN|apply kD|apply kA)); refine blk_put (cs := #[.int .i64 t542, .int .i64 t543, .int .i64 x521002_1, .int .i64 x521003_1]) ?_ 2 _ rfl; (with_reducible repeat (first|apply kN|apply kD|apply kA)); refine blk_put (cs := #[.int .i64 t542, .int .i64 x521001_1, .int .i64 x521002_1, .int .i64 x521003_1]) ?_ 1 _ rfl; (with_reducible repeat (first|apply kN|apply kD|apply kA)); refine blk_put (cs := #[.int .i64 x521000_1, .int .i64 x521001_1, .int .i64 x521002_1, .int .i64 x521003_1]) ?_ 0 _ rfl; (with_reducible repeat (first|apply kN|apply kD|apply kA)); exact BK520.out⟩, ⟨by repeat (first | (with_reducible first | exact HI0.out | apply sA|apply sN|apply sD|apply s1|apply s2 | refine IsS174.far ?_ NB0_512.out _ | refine IsS174.far ?_ NB0_520.out _ | refine IsS174.far ?_ NB0_527.out _) | exact HI0.out)⟩, ⟨by repeat (first | (with_reducible first | exact HK.out | apply eS|apply eN|apply eD|apply eA | refine keep_far ?_ GW512.out _ | refine keep_far ?_ GW520.out _ | refine keep_far ?_ GW527.out _) | exact HK.out)⟩, ⟨by repeat (first | (with_reducible first | exact HB.out | apply bA|apply bN|apply b1 | refine below_set ?_ (IsS174.ge HI0.out) | refine below_set ?_ (Aside0.out (by assumption))) | exact HB.out)⟩⟩
      ·rw [if_neg c19] at H
       have c19b0 : (t528 == 0) = false := beq_eq_false_iff_ne.mpr c19
       have c19b1 : (t528 != 0) = true := bne_iff_ne.mpr c19
       replace H := Option.bind_eq_some_iff.mp H
       obtain ⟨⟨t546, t547, t548, t549⟩, A420, H⟩ := H
       try dsimp only at H
       have A42 := aM A420
       clear A420
       replace H := Option.bind_eq_some_iff.mp H
       obtain ⟨⟨t550, t551, t552, t553⟩, A430, H⟩ := H
       try dsimp only at H
       have A43 := aM A430
       clear A430
       replace H := Option.bind_eq_some_iff.mp H
       obtain ⟨⟨t554, t555, t556, t557⟩, A440, H⟩ := H
       try dsimp only at H
       have A44 := aM A440
       clear A440
       have H' := aM H
       clear H
       try go_wp2_with (first | ((with_reducible refine gate_callee (f := 123) rfl ?_); refine goesL_ (some 26) rfl rfl Try.func123 (by kernel_rfl) rfl #[.pointer (some ⟨g, 0, none⟩), .int .i64 5] rfl (by first|rfl|(simp only [List.map_toArray, List.map_cons, List.map_nil]; try rfl)) ?_; (with_reducible refine (spec_l01Next.calls g s0_0 x1001_1 x1002_1 5 t524 t525 t526 w0 _ ?side1 ?side2 A17.out).mono ?_); (case side1 => repeat (first | (with_reducible first | exact HI0.out | apply sA|apply sN|apply sD|apply s1|apply s2 | refine IsS174.far ?_ NB0_512.out _ | refine IsS174.far ?_ NB0_520.out _) | exact HI0.out)); (case side2 => repeat (first | (with_reducible first | exact HB.out | apply bA|apply bN|apply b1 | refine below_set ?_ (IsS174.ge HI0.out) | refine below_set ?_ (Aside0.out (by assumption))) | exact HB.out)); rintro e w45 ⟨rfl, hi, hb, hk⟩; refine ⟨_, rfl, ?_⟩; have n0_ := aM (KeepBut.blk hk (g' := gb512) (o := .cells #[.int .i64 0, .int .i64 0, .int .i64 0, .int .i64 0] 51 (0, 0)) (by (with_reducible repeat (first|apply kN|apply kD|apply kA)); exact BK512.out) NB512_0.out (by simp)); have n1_ := aM (KeepBut.blk hk (g' := gb520) (o := .cells #[.int .i64 x521000_1, .int .i64 x521001_1, .int .i64 x521002_1, .int .i64 x521003_1] 51 (0, 0)) (by (with_reducible repeat (first|apply kN|apply kD|apply kA)); exact BK520.out) NB520_0.out (by simp)); have n2_ := aM (KeepBut.trans (by repeat (first | (with_reducible first | exact HK.out | apply eS|apply eN|apply eD|apply eA | refine keep_far ?_ GW512.out _ | refine keep_far ?_ GW520.out _) | exact HK.out)) hk (.inl rfl)); have n3_ := aM (hb); have n4_ := aM (hi); clear BK512; clear BK520; clear HK; clear HB; clear HI0; have BK512 := n0_; have BK520 := n1_; have HK := n2_; have HB := n3_; have HI0 := n4_; clear n0_ n1_ n2_ n3_ n4_; (try clear hb)) | ((with_reducible refine gate_dst (N := 5) rfl ?_); refine box_event ?hg (N := 5) ?hd (cs := #[.int .i64 0, .int .i64 0, .int .i64 0, .int .i64 0]) (t := 51) ?hr ?_; (case hd => rfl); (case hg => rfl); (case hr => first | (go_simp; done) | (go_simp; rfl)); intro gb527 hg w46 hbox hb; have n0_ := aM (blk_below (g := gb512) (o := .cells #[.int .i64 0, .int .i64 0, .int .i64 0, .int .i64 0] 51 (0, 0)) (by (with_reducible repeat (first|apply kN|apply kD|apply kA)); exact BK512.out) hb); have n1_ := aM (blk_below (g := gb520) (o := .cells #[.int .i64 x521000_1, .int .i64 x521001_1, .int .i64 x521002_1, .int .i64 x521003_1] 51 (0, 0)) (by (with_reducible repeat (first|apply kN|apply kD|apply kA)); exact BK520.out) hb); have n2_ := aM (IsS174.below (by repeat (first | (with_reducible first | exact HI0.out | apply sA|apply sN|apply sD|apply s1|apply s2 | refine IsS174.far ?_ NB0_512.out _ | refine IsS174.far ?_ NB0_520.out _) | exact HI0.out)) hb); have n3_ := aM (KeepBut.trans (by repeat (first | (with_reducible first | exact HK.out | apply eS|apply eN|apply eD|apply eA | refine keep_far ?_ GW512.out _ | refine keep_far ?_ GW520.out _) | exact HK.out)) (KeepBut.of_below hb g none) (.inl rfl)); have n4_ := aM (below_step (by repeat (first | (with_reducible first | exact HB.out | apply bA|apply bN|apply b1 | refine below_set ?_ (IsS174.ge HI0.out) | refine below_set ?_ (Aside0.out (by assumption))) | exact HB.out)) hb); have n5_ := aM (hbox); have n6_ := aM ((by rw [hg]; exact (keep_size (w := w) (g := g) (row := none) (by repeat (first | (with_reducible first | exact HK.out | apply eS|apply eN|apply eD|apply eA | refine keep_far ?_ GW512.out _ | refine keep_far ?_ GW520.out _) | exact HK.out))) : w.heap.size ≤ gb527)); have n7_ := aM ((Nat.le_trans HW0.out (by rw [hg]; exact (keep_size (w := w) (g := g) (row := none) (by repeat (first | (with_reducible first | exact HK.out | apply eS|apply eN|apply eD|apply eA | refine keep_far ?_ GW512.out _ | refine keep_far ?_ GW520.out _) | exact HK.out))) : w.heap.size ≤ gb527) : w0.heap.size ≤ gb527)); have n8_ := aM ((by rw [hg]; exact Nat.ne_of_lt (blk_lt (g := gb512) (o := .cells #[.int .i64 0, .int .i64 0, .int .i64 0, .int .i64 0] 51 (0, 0)) (by (with_reducible repeat (first|apply kN|apply kD|apply kA)); exact BK512.out)) : gb512 ≠ gb527)); have n9_ := aM ((by rw [hg]; exact Nat.ne_of_gt (blk_lt (g := gb512) (o := .cells #[.int .i64 0, .int .i64 0, .int .i64 0, .int .i64 0] 51 (0, 0)) (by (with_reducible repeat (first|apply kN|apply kD|apply kA)); exact BK512.out)) : gb527 ≠ gb512)); have n10_ := aM ((by rw [hg]; exact Nat.ne_of_lt (blk_lt (g := gb520) (o := .cells #[.int .i64 x521000_1, .int .i64 x521001_1, .int .i64 x521002_1, .int .i64 x521003_1] 51 (0, 0)) (by (with_reducible repeat (first|apply kN|apply kD|apply kA)); exact BK520.out)) : gb520 ≠ gb527)); have n11_ := aM ((by rw [hg]; exact Nat.ne_of_gt (blk_lt (g := gb520) (o := .cells #[.int .i64 x521000_1, .int .i64 x521001_1, .int .i64 x521002_1, .int .i64 x521003_1] 51 (0, 0)) (by (with_reducible repeat (first|apply kN|apply kD|apply kA)); exact BK520.out)) : gb527 ≠ gb520)); have n12_ := aM ((by rw [hg]; exact Nat.ne_of_lt (IsS174.lt (show IsS174 w0 _ g s0_0 t525 t526 from by repeat (first | (with_reducible first | exact HI0.out | apply sA|apply sN|apply sD|apply s1|apply s2 | refine IsS174.far ?_ NB0_512.out _ | refine IsS174.far ?_ NB0_520.out _) | exact HI0.out))) : g ≠ gb527)); have n13_ := aM ((by rw [hg]; exact Nat.ne_of_gt (IsS174.lt (show IsS174 w0 _ g s0_0 t525 t526 from by repeat (first | (with_reducible first | exact HI0.out | apply sA|apply sN|apply sD|apply s1|apply s2 | refine IsS174.far ?_ NB0_512.out _ | refine IsS174.far ?_ NB0_520.out _) | exact HI0.out))) : gb527 ≠ g)); clear BK512; clear BK520; clear HI0; clear HK; clear HB; have BK512 := n0_; have BK520 := n1_; have HI0 := n2_; have HK := n3_; have HB := n4_; have BK527 := n5_; have GW527 := n6_; have GE527 := n7_; have NB512_527 := n8_; have NB527_512 := n9_; have NB520_527 := n10_; have NB527_520 := n11_; have NB0_527 := n12_; have NB527_0 := n13_; clear n0_ n1_ n2_ n3_ n4_ n5_ n6_ n7_ n8_ n9_ n10_ n11_ n12_ n13_; clear hb hbox hg; have hnb47 := NB527_512.out; have hnc47 := NB512_527.out; have hnb48 := NB527_520.out; have hnc48 := NB520_527.out; have hnb49 := NB527_0.out; have hnc49 := NB0_527.out; have hcz50_0 : w46.cell? ⟨gb527, 0, none⟩ = some (.int .i64 0) := (blk_cell BK527.out 0).trans rfl; have hcz50_1 : w46.cell? ⟨gb527, 1, none⟩ = some (.int .i64 0) := (blk_cell BK527.out 1).trans rfl; have hcz50_2 : w46.cell? ⟨gb527, 2, none⟩ = some (.int .i64 0) := (blk_cell BK527.out 2).trans rfl; have hcz50_3 : w46.cell? ⟨gb527, 3, none⟩ = some (.int .i64 0) := (blk_cell BK527.out 3).trans rfl; have hfz50_0 := blk_frozen BK527.out 0; have hfz50_1 := blk_frozen BK527.out 1; have hfz50_2 := blk_frozen BK527.out 2; have hfz50_3 := blk_frozen BK527.out 3) | ((with_reducible refine gate_callee (f := 123) rfl ?_); refine goesL_ (some 30) rfl rfl Try.func123 (by kernel_rfl) rfl #[.pointer (some ⟨g, 0, none⟩), .int .i64 2] rfl (by first|rfl|(simp only [List.map_toArray, List.map_cons, List.map_nil]; try rfl)) ?_; (with_reducible refine (spec_l01Next.calls g s0_0 t525 t526 2 t528 t529 t530 w0 _ ?side1 ?side2 A18.out).mono ?_); (case side1 => repeat (first | (with_reducible first | exact HI0.out | apply sA|apply sN|apply sD|apply s1|apply s2 | refine IsS174.far ?_ NB0_512.out _ | refine IsS174.far ?_ NB0_520.out _ | refine IsS174.far ?_ NB0_527.out _) | exact HI0.out)); (case side2 => repeat (first | (with_reducible first | exact HB.out | apply bA|apply bN|apply b1 | refine below_set ?_ (IsS174.ge HI0.out) | refine below_set ?_ (Aside0.out (by assumption))) | exact HB.out)); rintro e w51 ⟨rfl, hi, hb, hk⟩; refine ⟨_, rfl, ?_⟩; have n0_ := aM (KeepBut.blk hk (g' := gb512) (o := .cells #[.int .i64 0, .int .i64 0, .int .i64 0, .int .i64 0] 51 (0, 0)) (by (repeat (first|(with_reducible first|apply kN|apply kD|apply kA)|refine blk_far ?_ NB512_527.out _)); exact BK512.out) NB512_0.out (by simp)); have n1_ := aM (KeepBut.blk hk (g' := gb520) (o := .cells #[.int .i64 x521000_1, .int .i64 x521001_1, .int .i64 x521002_1, .int .i64 x521003_1] 51 (0, 0)) (by (repeat (first|(with_reducible first|apply kN|apply kD|apply kA)|refine blk_far ?_ NB520_527.out _)); exact BK520.out) NB520_0.out (by simp)); have n2_ := aM (KeepBut.blk hk (g' := gb527) (o := .cells #[.int .i64 1, .int .i64 (wrap64 (t524 - 2)), .int .i64 0, .int .i64 1] 51 (0, 0)) (by (with_reducible repeat (first|apply kN|apply kD|apply kA)); refine blk_put (cs := #[.int .i64 1, .int .i64 (wrap64 (t524 - 2)), .int .i64 0, .int .i64 0]) ?_ 3 _ rfl; (with_reducible repeat (first|apply kN|apply kD|apply kA)); refine blk_put (cs := #[.int .i64 1, .int .i64 (wrap64 (t524 - 2)), .int .i64 0, .int .i64 0]) ?_ 2 _ rfl; (with_reducible repeat (first|apply kN|apply kD|apply kA)); refine blk_put (cs := #[.int .i64 1, .int .i64 0, .int .i64 0, .int .i64 0]) ?_ 1 _ rfl; (with_reducible repeat (first|apply kN|apply kD|apply kA)); refine blk_put (cs := #[.int .i64 0, .int .i64 0, .int .i64 0, .int .i64 0]) ?_ 0 _ rfl; (with_reducible repeat (first|apply kN|apply kD|apply kA)); exact BK527.out) NB527_0.out (by simp)); have n3_ := aM (KeepBut.trans (by repeat (first | (with_reducible first | exact HK.out | apply eS|apply eN|apply eD|apply eA | refine keep_far ?_ GW512.out _ | refine keep_far ?_ GW520.out _ | refine keep_far ?_ GW527.out _) | exact HK.out)) hk (.inl rfl)); have n4_ := aM (hb); have n5_ := aM (hi); clear BK512; clear BK520; clear BK527; clear HK; clear HB; clear HI0; have BK512 := n0_; have BK520 := n1_; have BK527 := n2_; have HK := n3_; have HB := n4_; have HI0 := n5_; clear n0_ n1_ n2_ n3_ n4_ n5_; (try clear hb)))
       have n0_ := aM (blk_drew BK512.out)
       have n1_ := aM (blk_drew BK520.out)
       have n2_ := aM (blk_drew BK527.out)
       have n3_ := aM (IsS174.drew HI0.out)
       have n4_ := aM (keep_drew HK.out)
       have n5_ := aM (below_drew1 HB.out)
       clear BK512
       clear BK520
       clear BK527
       clear HI0
       clear HK
       clear HB
       have BK512 := n0_
       have BK520 := n1_
       have BK527 := n2_
       have HI0 := n3_
       have HK := n4_
       have HB := n5_
       clear n0_ n1_ n2_ n3_ n4_ n5_
       refine start_ (n := 7) (S := fun w' => w'.cell? ⟨gb527, 0, none⟩ = some (.int .i64 1) ∧ w'.cell? ⟨gb527, 1, none⟩ = some (.int .i64 (wrap64 (t524 - 2))) ∧ w'.cell? ⟨gb527, 2, none⟩ = some (.int .i64 0) ∧ w'.cell? ⟨gb527, 3, none⟩ = some (.int .i64 1) ∧ w'.cell? ⟨gb520, 0, none⟩ = some (.int .i64 x521000_1) ∧ w'.cell? ⟨gb520, 1, none⟩ = some (.int .i64 x521001_1) ∧ w'.cell? ⟨gb520, 2, none⟩ = some (.int .i64 x521002_1) ∧ w'.cell? ⟨gb520, 3, none⟩ = some (.int .i64 x521003_1)) (ds := [6]) #[false, false, false, false, false, false, false] (by kernel_rfl) rfl rfl ⟨(blk_cell BK527.out 0).trans rfl, (blk_cell BK527.out 1).trans rfl, (blk_cell BK527.out 2).trans rfl, (blk_cell BK527.out 3).trans rfl, (blk_cell BK520.out 0).trans rfl, (blk_cell BK520.out 1).trans rfl, (blk_cell BK520.out 2).trans rfl, (blk_cell BK520.out 3).trans rfl⟩ (fun hHeld => ?_)
       generalize w51.drew = w52 at BK512 BK520 BK527 HI0 HK HB hHeld ⊢
       refine take_ (i := 0) (N := some 36) (v := ?_) (a' := ?_) #[true, false, false, false, false, false, false] rfl rfl (by kernel_rfl) (fun _ _ _ h => h) (Or.inl ⟨by rfl, ?_⟩) hHeld ?_ ?_
       rotate_left
       ·rintro w' ⟨s0, s1, s2, s3, s4, s5, s6, s7⟩
        go_simp
        with_reducible rfl
       rotate_left
       ·simp only [Act.put, List.setIfInBounds_toArray, List.set_cons_zero, List.set_cons_succ, i64_w, i32_w]
        rfl
       refine take_ (i := 1) (N := some 37) (v := ?_) (a' := ?_) #[true, true, false, false, false, false, false] rfl rfl (by kernel_rfl) (fun _ _ _ h => h) (Or.inl ⟨by rfl, ?_⟩) hHeld ?_ ?_
       rotate_left
       ·rintro w' ⟨s0, s1, s2, s3, s4, s5, s6, s7⟩
        go_simp
        with_reducible rfl
       rotate_left
       ·simp only [Act.put, List.setIfInBounds_toArray, List.set_cons_zero, List.set_cons_succ, i64_w, i32_w]
        rfl
       refine take_ (i := 3) (N := some 39) (v := ?_) (a' := ?_) #[true, true, false, true, false, false, false] rfl rfl (by kernel_rfl) (fun _ _ _ h => h) (Or.inl ⟨by rfl, ?_⟩) hHeld ?_ ?_
       rotate_left
       ·rintro w' ⟨s0, s1, s2, s3, s4, s5, s6, s7⟩
        go_simp
        with_reducible rfl
       rotate_left
       ·simp only [Act.put, List.setIfInBounds_toArray, List.set_cons_zero, List.set_cons_succ, i64_w, i32_w]
        rfl
       refine one_ (i := 2) (N := some 38) #[true, true, true, true, false, false, false] rfl rfl (by kernel_rfl) (by decide) (fun K hK => ?_)
       refine goes_ Try.func151 (by kernel_rfl) rfl #[.agg #[.int .i64 1, .int .i64 (wrap64 (t524 - 2)), .int .i64 0, .int .i64 1], .agg #[.int .i64 x521000_1, .int .i64 x521001_1, .int .i64 x521002_1, .int .i64 x521003_1]] (by rfl) rfl rfl (by first|rfl|(simp only [List.map_toArray, List.map_cons, List.map_nil]; try rfl)) ?_
       with_reducible refine (spec_l02Multiply.calls 1 (wrap64 (t524 - 2)) 0 1 x521000_1 x521001_1 x521002_1 x521003_1 t546 t547 t548 t549 _ A42.out).mono ?_
       rintro e w53 ⟨rfl, hb⟩
       refine ⟨_, rfl, ?_⟩
       have n0_ := aM (blk_below (g := gb512) (o := .cells #[.int .i64 0, .int .i64 0, .int .i64 0, .int .i64 0] 51 (0, 0)) (by (with_reducible repeat (first|apply kN|apply kD|apply kA)); exact BK512.out) hb)
       have n1_ := aM (blk_below (g := gb520) (o := .cells #[.int .i64 x521000_1, .int .i64 x521001_1, .int .i64 x521002_1, .int .i64 x521003_1] 51 (0, 0)) (by (with_reducible repeat (first|apply kN|apply kD|apply kA)); exact BK520.out) hb)
       have n2_ := aM (IsS174.below (by repeat (first | (with_reducible first | exact HI0.out | apply sA|apply sN|apply sD|apply s1|apply s2 | refine IsS174.far ?_ NB0_512.out _ | refine IsS174.far ?_ NB0_520.out _ | refine IsS174.far ?_ NB0_527.out _) | exact HI0.out)) hb)
       have n3_ := aM (blk_below (g := gb527) (o := .cells #[.int .i64 1, .int .i64 (wrap64 (t524 - 2)), .int .i64 0, .int .i64 1] 51 (0, 0)) (by (with_reducible repeat (first|apply kN|apply kD|apply kA)); exact BK527.out) hb)
       have n4_ := aM (KeepBut.trans (by repeat (first | (with_reducible first | exact HK.out | apply eS|apply eN|apply eD|apply eA | refine keep_far ?_ GW512.out _ | refine keep_far ?_ GW520.out _ | refine keep_far ?_ GW527.out _) | exact HK.out)) (KeepBut.of_below hb g none) (.inl rfl))
       have n5_ := aM (below_step (by repeat (first | (with_reducible first | exact HB.out | apply bA|apply bN|apply b1 | refine below_set ?_ (IsS174.ge HI0.out) | refine below_set ?_ (Aside0.out (by assumption))) | exact HB.out)) hb)
       clear BK512
       clear BK520
       clear HI0
       clear BK527
       clear HK
       clear HB
       have BK512 := n0_
       have BK520 := n1_
       have HI0 := n2_
       have BK527 := n3_
       have HK := n4_
       have HB := n5_
       clear n0_ n1_ n2_ n3_ n4_ n5_
       (try clear hb)
       (try clear hb2)
       (try clear hk)
       (try clear hi)
       refine hK.out _ _ ⟨(blk_cell BK527.out 0).trans rfl, (blk_cell BK527.out 1).trans rfl, (blk_cell BK527.out 2).trans rfl, (blk_cell BK527.out 3).trans rfl, (blk_cell BK520.out 0).trans rfl, (blk_cell BK520.out 1).trans rfl, (blk_cell BK520.out 2).trans rfl, (blk_cell BK520.out 3).trans rfl⟩ (fun hHeld => ?_)
       clear hK K
       refine norm_ (a' := ?_) ?_ ?_
       rotate_left
       ·show Act.put _ (some 38) _ = _
        simp only [Act.put, List.setIfInBounds_toArray, List.set_cons_zero, List.set_cons_succ, i64_w, i32_w]
        rfl
       refine one_ (i := 4) (N := some 40) #[true, true, true, true, true, false, false] rfl rfl (by kernel_rfl) (by decide) (fun K hK => ?_)
       refine goes_ Try.func153 (by kernel_rfl) rfl #[.agg #[.int .i64 1, .int .i64 (wrap64 (t524 - 2)), .int .i64 0, .int .i64 1]] (by rfl) rfl rfl (by first|rfl|(simp only [List.map_toArray, List.map_cons, List.map_nil]; try rfl)) ?_
       with_reducible refine (spec_l02Inverse.calls 1 (wrap64 (t524 - 2)) 0 1 t550 t551 t552 t553 _ A43.out).mono ?_
       rintro e w54 ⟨rfl, hb⟩
       refine ⟨_, rfl, ?_⟩
       have n0_ := aM (blk_below (g := gb512) (o := .cells #[.int .i64 0, .int .i64 0, .int .i64 0, .int .i64 0] 51 (0, 0)) (by (with_reducible repeat (first|apply kN|apply kD|apply kA)); exact BK512.out) hb)
       have n1_ := aM (blk_below (g := gb520) (o := .cells #[.int .i64 x521000_1, .int .i64 x521001_1, .int .i64 x521002_1, .int .i64 x521003_1] 51 (0, 0)) (by (with_reducible repeat (first|apply kN|apply kD|apply kA)); exact BK520.out) hb)
       have n2_ := aM (IsS174.below (by repeat (first | (with_reducible first | exact HI0.out | apply sA|apply sN|apply sD|apply s1|apply s2 | refine IsS174.far ?_ NB0_512.out _ | refine IsS174.far ?_ NB0_520.out _ | refine IsS174.far ?_ NB0_527.out _) | exact HI0.out)) hb)
       have n3_ := aM (blk_below (g := gb527) (o := .cells #[.int .i64 1, .int .i64 (wrap64 (t524 - 2)), .int .i64 0, .int .i64 1] 51 (0, 0)) (by (with_reducible repeat (first|apply kN|apply kD|apply kA)); exact BK527.out) hb)
       have n4_ := aM (KeepBut.trans (by repeat (first | (with_reducible first | exact HK.out | apply eS|apply eN|apply eD|apply eA | refine keep_far ?_ GW512.out _ | refine keep_far ?_ GW520.out _ | refine keep_far ?_ GW527.out _) | exact HK.out)) (KeepBut.of_below hb g none) (.inl rfl))
       have n5_ := aM (below_step (by repeat (first | (with_reducible first | exact HB.out | apply bA|apply bN|apply b1 | refine below_set ?_ (IsS174.ge HI0.out) | refine below_set ?_ (Aside0.out (by assumption))) | exact HB.out)) hb)
       clear BK512
       clear BK520
       clear HI0
       clear BK527
       clear HK
       clear HB
       have BK512 := n0_
       have BK520 := n1_
       have HI0 := n2_
       have BK527 := n3_
       have HK := n4_
       have HB := n5_
       clear n0_ n1_ n2_ n3_ n4_ n5_
       (try clear hb)
       (try clear hb2)
       (try clear hk)
       (try clear hi)
       refine hK.out _ _ ⟨(blk_cell BK527.out 0).trans rfl, (blk_cell BK527.out 1).trans rfl, (blk_cell BK527.out 2).trans rfl, (blk_cell BK527.out 3).trans rfl, (blk_cell BK520.out 0).trans rfl, (blk_cell BK520.out 1).trans rfl, (blk_cell BK520.out 2).trans rfl, (blk_cell BK520.out 3).trans rfl⟩ (fun hHeld => ?_)
       clear hK K
       refine norm_ (a' := ?_) ?_ ?_
       rotate_left
       ·show Act.put _ (some 40) _ = _
        simp only [Act.put, List.setIfInBounds_toArray, List.set_cons_zero, List.set_cons_succ, i64_w, i32_w]
        rfl
       refine one_ (i := 5) (N := some 41) #[true, true, true, true, true, true, false] rfl rfl (by kernel_rfl) (by decide) (fun K hK => ?_)
       refine goes_ Try.func151 (by kernel_rfl) rfl #[.agg #[.int .i64 t546, .int .i64 t547, .int .i64 t548, .int .i64 t549], .agg #[.int .i64 t550, .int .i64 t551, .int .i64 t552, .int .i64 t553]] (by rfl) rfl rfl (by first|rfl|(simp only [List.map_toArray, List.map_cons, List.map_nil]; try rfl)) ?_
       with_reducible refine (spec_l02Multiply.calls t546 t547 t548 t549 t550 t551 t552 t553 t554 t555 t556 t557 _ A44.out).mono ?_
       rintro e w55 ⟨rfl, hb⟩
       refine ⟨_, rfl, ?_⟩
       have n0_ := aM (blk_below (g := gb512) (o := .cells #[.int .i64 0, .int .i64 0, .int .i64 0, .int .i64 0] 51 (0, 0)) (by (with_reducible repeat (first|apply kN|apply kD|apply kA)); exact BK512.out) hb)
       have n1_ := aM (blk_below (g := gb520) (o := .cells #[.int .i64 x521000_1, .int .i64 x521001_1, .int .i64 x521002_1, .int .i64 x521003_1] 51 (0, 0)) (by (with_reducible repeat (first|apply kN|apply kD|apply kA)); exact BK520.out) hb)
       have n2_ := aM (IsS174.below (by repeat (first | (with_reducible first | exact HI0.out | apply sA|apply sN|apply sD|apply s1|apply s2 | refine IsS174.far ?_ NB0_512.out _ | refine IsS174.far ?_ NB0_520.out _ | refine IsS174.far ?_ NB0_527.out _) | exact HI0.out)) hb)
       have n3_ := aM (blk_below (g := gb527) (o := .cells #[.int .i64 1, .int .i64 (wrap64 (t524 - 2)), .int .i64 0, .int .i64 1] 51 (0, 0)) (by (with_reducible repeat (first|apply kN|apply kD|apply kA)); exact BK527.out) hb)
       have n4_ := aM (KeepBut.trans (by repeat (first | (with_reducible first | exact HK.out | apply eS|apply eN|apply eD|apply eA | refine keep_far ?_ GW512.out _ | refine keep_far ?_ GW520.out _ | refine keep_far ?_ GW527.out _) | exact HK.out)) (KeepBut.of_below hb g none) (.inl rfl))
       have n5_ := aM (below_step (by repeat (first | (with_reducible first | exact HB.out | apply bA|apply bN|apply b1 | refine below_set ?_ (IsS174.ge HI0.out) | refine below_set ?_ (Aside0.out (by assumption))) | exact HB.out)) hb)
       clear BK512
       clear BK520
       clear HI0
       clear BK527
       clear HK
       clear HB
       have BK512 := n0_
       have BK520 := n1_
       have HI0 := n2_
       have BK527 := n3_
       have HK := n4_
       have HB := n5_
       clear n0_ n1_ n2_ n3_ n4_ n5_
       (try clear hb)
       (try clear hb2)
       (try clear hk)
       (try clear hi)
       refine hK.out _ _ ⟨(blk_cell BK527.out 0).trans rfl, (blk_cell BK527.out 1).trans rfl, (blk_cell BK527.out 2).trans rfl, (blk_cell BK527.out 3).trans rfl, (blk_cell BK520.out 0).trans rfl, (blk_cell BK520.out 1).trans rfl, (blk_cell BK520.out 2).trans rfl, (blk_cell BK520.out 3).trans rfl⟩ (fun hHeld => ?_)
       clear hK K
       refine norm_ (a' := ?_) ?_ ?_
       rotate_left
       ·show Act.put _ (some 41) _ = _
        simp only [Act.put, List.setIfInBounds_toArray, List.set_cons_zero, List.set_cons_succ, i64_w, i32_w]
        rfl
       refine last_ (i := 6) (N := none) #[true, true, true, true, true, true, true] rfl rfl (by kernel_rfl) (by decide) (fun K hK => ?_)
       have hs56 : w55.cell? ⟨gb520, 0, none⟩ = some (.int .i64 x521000_1) := (blk_cell BK520.out 0).trans rfl
       have hfs56 := blk_frozen BK520.out 0
       have hns56_0 := NB512_520.out
       have hns56_2 := NB527_520.out
       have hms56_0 := NB520_512.out
       have hms56_2 := NB520_527.out
       have hs57 : w55.cell? ⟨gb520, 1, none⟩ = some (.int .i64 x521001_1) := (blk_cell BK520.out 1).trans rfl
       have hfs57 := blk_frozen BK520.out 1
       have hns57_0 := NB512_520.out
       have hns57_2 := NB527_520.out
       have hms57_0 := NB520_512.out
       have hms57_2 := NB520_527.out
       have hs58 : w55.cell? ⟨gb520, 2, none⟩ = some (.int .i64 x521002_1) := (blk_cell BK520.out 2).trans rfl
       have hfs58 := blk_frozen BK520.out 2
       have hns58_0 := NB512_520.out
       have hns58_2 := NB527_520.out
       have hms58_0 := NB520_512.out
       have hms58_2 := NB520_527.out
       have hs59 : w55.cell? ⟨gb520, 3, none⟩ = some (.int .i64 x521003_1) := (blk_cell BK520.out 3).trans rfl
       have hfs59 := blk_frozen BK520.out 3
       have hns59_0 := NB512_520.out
       have hns59_2 := NB527_520.out
       have hms59_0 := NB520_512.out
       have hms59_2 := NB520_527.out
       refine skip_ (w1 := ?_) (by rfl) rfl ?_ ?_
       rotate_left
       ·go_simp
        rfl
       refine hK.out _ _ ?_
       clear hK K
       refine done_ (by kernel_rfl) ?_
       try go_wp2
       go_roundg k1
       case measure => have := HK1.out; omega
       case rel => exact ⟨(wrap64 (x4_1 - 1)), (t529), (t530), (t554), (t555), (t556), (t557), (by first | rfl | (simp; done) | (simp [*]; done)), H', ⟨by have := HK1.out; omega⟩, ⟨by (repeat (first|(with_reducible first|apply kN|apply kD|apply kA)|refine blk_far ?_ NB512_520.out _)); exact BK512.out⟩, ⟨by (with_reducible repeat (first|apply kN|apply kD|apply kA)); refine blk_put (cs := #[.int .i64 t554, .int .i64 t555, .int .i64 t556, .int .i64 x521003_1]) ?_ 3 _ rfl; (with_reducible repeat (first|apply kN|apply kD|apply kA)); refine blk_put (cs := #[.int .i64 t554, .int .i64 t555, .int .i64 x521002_1, .int .i64 x521003_1]) ?_ 2 _ rfl; (with_reducible repeat (first|apply kN|apply kD|apply kA)); refine blk_put (cs := #[.int .i64 t554, .int .i64 x521001_1, .int .i64 x521002_1, .int .i64 x521003_1]) ?_ 1 _ rfl; (with_reducible repeat (first|apply kN|apply kD|apply kA)); refine blk_put (cs := #[.int .i64 x521000_1, .int .i64 x521001_1, .int .i64 x521002_1, .int .i64 x521003_1]) ?_ 0 _ rfl; (with_reducible repeat (first|apply kN|apply kD|apply kA)); exact BK520.out⟩, ⟨by repeat (first | (with_reducible first | exact HI0.out | apply sA|apply sN|apply sD|apply s1|apply s2 | refine IsS174.far ?_ NB0_512.out _ | refine IsS174.far ?_ NB0_520.out _ | refine IsS174.far ?_ NB0_527.out _) | exact HI0.out)⟩, ⟨by repeat (first | (with_reducible first | exact HK.out | apply eS|apply eN|apply eD|apply eA | refine keep_far ?_ GW512.out _ | refine keep_far ?_ GW520.out _ | refine keep_far ?_ GW527.out _) | exact HK.out)⟩, ⟨by repeat (first | (with_reducible first | exact HB.out | apply bA|apply bN|apply b1 | refine below_set ?_ (IsS174.ge HI0.out) | refine below_set ?_ (Aside0.out (by assumption))) | exact HB.out)⟩⟩
     ·rw [if_neg c16] at H
      have c16b0 : decide (0 < x4_1) = false := decide_eq_false c16
      clear c16
      simp only [Option.some.injEq, Prod.mk.injEq] at H
      obtain ⟨rfl, rfl, rfl, rfl, rfl, rfl⟩ := H
      have hnb60 := NB520_512.out
      have hnc60 := NB512_520.out
      have hnb61 := NB520_0.out
      have hnc61 := NB0_520.out
      have hcz62_0 : wr.cell? ⟨gb520, 0, none⟩ = some (.int .i64 x521000_1) := (blk_cell BK520.out 0).trans rfl
      have hcz62_1 : wr.cell? ⟨gb520, 1, none⟩ = some (.int .i64 x521001_1) := (blk_cell BK520.out 1).trans rfl
      have hcz62_2 : wr.cell? ⟨gb520, 2, none⟩ = some (.int .i64 x521002_1) := (blk_cell BK520.out 2).trans rfl
      have hcz62_3 : wr.cell? ⟨gb520, 3, none⟩ = some (.int .i64 x521003_1) := (blk_cell BK520.out 3).trans rfl
      have hfz62_0 := blk_frozen BK520.out 0
      have hfz62_1 := blk_frozen BK520.out 1
      have hfz62_2 := blk_frozen BK520.out 2
      have hfz62_3 := blk_frozen BK520.out 3
      have hnb63 := NB512_0.out
      have hnc63 := NB0_512.out
      have hcz64_0 : wr.cell? ⟨gb512, 0, none⟩ = some (.int .i64 0) := (blk_cell BK512.out 0).trans rfl
      have hcz64_1 : wr.cell? ⟨gb512, 1, none⟩ = some (.int .i64 0) := (blk_cell BK512.out 1).trans rfl
      have hcz64_2 : wr.cell? ⟨gb512, 2, none⟩ = some (.int .i64 0) := (blk_cell BK512.out 2).trans rfl
      have hcz64_3 : wr.cell? ⟨gb512, 3, none⟩ = some (.int .i64 0) := (blk_cell BK512.out 3).trans rfl
      have hfz64_0 := blk_frozen BK512.out 0
      have hfz64_1 := blk_frozen BK512.out 1
      have hfz64_2 := blk_frozen BK512.out 2
      have hfz64_3 := blk_frozen BK512.out 3
      go_wp2
      refine bodyPost_ret (results_cell_row rfl _ _ gb512 51 #[.int .i64 x521000_1, .int .i64 x521001_1, .int .i64 x521002_1, .int .i64 x521003_1] (0, 0) _ rfl (by (with_reducible repeat (first|apply kN|apply kD|apply kA)); refine blk_put (cs := #[.int .i64 x521000_1, .int .i64 x521001_1, .int .i64 x521002_1, .int .i64 0]) ?_ 3 _ rfl; (with_reducible repeat (first|apply kN|apply kD|apply kA)); refine blk_put (cs := #[.int .i64 x521000_1, .int .i64 x521001_1, .int .i64 0, .int .i64 0]) ?_ 2 _ rfl; (with_reducible repeat (first|apply kN|apply kD|apply kA)); refine blk_put (cs := #[.int .i64 x521000_1, .int .i64 0, .int .i64 0, .int .i64 0]) ?_ 1 _ rfl; (with_reducible repeat (first|apply kN|apply kD|apply kA)); refine blk_put (cs := #[.int .i64 0, .int .i64 0, .int .i64 0, .int .i64 0]) ?_ 0 _ rfl; (with_reducible repeat (first|apply kN|apply kD|apply kA)); exact BK512.out) Try.underlying51 rfl (by kernel_rfl)) rfl ?_
      exact ⟨by first|rfl|(simp [*, errW_none, errW_some] <;> rfl), by repeat (first | (with_reducible first | exact HI0.out | apply sA|apply sN|apply sD|apply s1|apply s2 | refine IsS174.far ?_ NB0_512.out _ | refine IsS174.far ?_ NB0_520.out _) | exact HI0.out), by repeat (first | (with_reducible first | exact HB.out | apply bA|apply bN|apply b1 | refine below_set ?_ (IsS174.ge HI0.out) | refine below_set ?_ (Aside0.out (by assumption))) | exact HB.out), by repeat (first | (with_reducible first | exact HK.out | apply eS|apply eN|apply eD|apply eA | refine keep_far ?_ GW512.out _ | refine keep_far ?_ GW520.out _) | exact HK.out)⟩
  ·rw [if_neg c4] at H
   exact absurd H (by simp)
 ·rw [if_neg c3] at H
  exact absurd H (by simp)

end Go.Proofs.Ytjjbjaagfjljnaa.F

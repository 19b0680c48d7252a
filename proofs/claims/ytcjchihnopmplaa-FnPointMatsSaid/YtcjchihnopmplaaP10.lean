import Derived.Test.YtcjchihnopmplaaP0
import Derived.Test.YtcjchihnopmplaaP2
import Derived.Test.YtcjchihnopmplaaP4
import Derived.Test.YtcjchihnopmplaaP6
import Derived.Test.YtcjchihnopmplaaP9
namespace Go.Proofs.Ytcjchihnopmplaa.F
open Go.RowKit Go.Proofs.YtcjchihnopmplaaW.PrintWords Go.Proofs.YtcjchihnopmplaaW.PrintLast Go.Proofs.YtcjchihnopmplaaW.PrintMore
attribute [local go_sem] max2_int min2_int max_two min_two max_three min_three max_four min_four   -- for this text's walks alone
set_option linter.unusedVariables false
set_option linter.unusedSimpArgs false

def spec_l04DrawMat.f (k : Nat) (s0_0 : List Int) (s0_1 : Int) (s0_2 : Int) (a1 : Int) : Option (Int × Int × Int × Int × Int × Int) := (spec_IsFrame.f a1).bind fun t351 => (if t351 = true then ((spec_l04Mats.f k a1).bind fun t352 => ((spec_l01Next.f s0_0 s0_1 s0_2 (t352.length : Int)).bind fun bt355 => (if 0 ≤ bt355.1 then (if bt355.1 < (t352.length : Int) then (some ((rd_T51 t352 bt355.1).f0, (rd_T51 t352 bt355.1).f1, (rd_T51 t352 bt355.1).f2, (rd_T51 t352 bt355.1).f3, bt355.2.1, bt355.2.2)) else (none)) else (none)))) else ((spec_l02Unit.f).bind fun bt359 => (some (bt359.1, bt359.2.1, bt359.2.2.1, bt359.2.2.2, s0_1, s0_2))))
set_option maxHeartbeats 8000000 in
set_option maxRecDepth 100000 in
theorem spec_l04DrawMat.calls (k : Nat) (g : Nat) (s0_0 : List Int) (s0_1 : Int) (s0_2 : Int) (a1 : Int) (r1 : Int) (r2 : Int) (r3 : Int) (r4 : Int) (r5 : Int) (r6 : Int) (w0 w : World) (hI : IsS144 w0 w g s0_0 s0_1 s0_2) (hB : Below w0.heap.size w0 w) (h : spec_l04DrawMat.f k s0_0 s0_1 s0_2 a1 = some (r1, r2, r3, r4, r5, r6)) :
  Calls Try.prog 105 #[.pointer (some ⟨g, 0, none⟩), .int .i64 a1] w fun e w' => e = .returned (.agg #[.int .i64 r1, .int .i64 r2, .int .i64 r3, .int .i64 r4]) ∧ IsS144 w0 w' g s0_0 r5 r6 ∧ Below w0.heap.size w0 w' ∧ KeepBut w w' g none := by
 have hu51 := Try.underlying51
 have HI0 := aM hI
 have HK := aM (KeepBut.refl w g none)
 have HL := aM hB.size
 clear hI
 have HW0 := aM hB.size
 have HB := aM hB
 clear hB
 have H : ((spec_IsFrame.f a1).bind fun t351 => (if t351 = true then ((spec_l04Mats.f k a1).bind fun t352 => ((spec_l01Next.f s0_0 s0_1 s0_2 (t352.length : Int)).bind fun bt355 => (if 0 ≤ bt355.1 then (if bt355.1 < (t352.length : Int) then (some ((rd_T51 t352 bt355.1).f0, (rd_T51 t352 bt355.1).f1, (rd_T51 t352 bt355.1).f2, (rd_T51 t352 bt355.1).f3, bt355.2.1, bt355.2.2)) else (none)) else (none)))) else ((spec_l02Unit.f).bind fun bt359 => (some (bt359.1, bt359.2.1, bt359.2.2.1, bt359.2.2.2, s0_1, s0_2))))) = some (r1, r2, r3, r4, r5, r6) := h
 clear h
 obtain ⟨t351, A3, H⟩ := oB H
 try dsimp only at H
 by_cases c4 : t351 = true
 ·subst c4
  have H1 : ((spec_l04Mats.f k a1).bind fun t352 => ((spec_l01Next.f s0_0 s0_1 s0_2 (t352.length : Int)).bind fun bt355 => (if 0 ≤ bt355.1 then (if bt355.1 < (t352.length : Int) then (some ((rd_T51 t352 bt355.1).f0, (rd_T51 t352 bt355.1).f1, (rd_T51 t352 bt355.1).f2, (rd_T51 t352 bt355.1).f3, bt355.2.1, bt355.2.2)) else (none)) else (none)))) = some (r1, r2, r3, r4, r5, r6) := by rw [if_pos rfl] at H; exact H
  clear H
  have H := H1
  clear H1
  obtain ⟨t352, A5, H⟩ := oB H
  try dsimp only at H
  obtain ⟨⟨t355, t356, t357⟩, A6, H⟩ := oB H
  try dsimp only at H
  by_cases c7 : 0 ≤ t355
  ·rw [if_pos c7] at H
   have c7b0 : decide (0 ≤ t355) = true := decide_eq_true c7
   clear c7
   by_cases c8 : t355 < (t352.length : Int)
   ·rw [if_pos c8] at H
    have c8b0 : decide (t355 < (t352.length : Int)) = true := decide_eq_true c8
    clear c8
    simp only [Option.some.injEq, Prod.mk.injEq] at H
    obtain ⟨rfl, rfl, rfl, rfl, rfl, rfl⟩ := H
    go_enter Try.func105, Try.ntmps105
    go_wp2_with (first | ((with_reducible refine gD (N:=4) rfl ?_); refine bE 4 #[.int .i64 0, .int .i64 0, .int .i64 0, .int .i64 0] 51 ?_; intro gb350 hg w9 hbox hb; have BK350 := aM hbox; have GW350 := kZ hg HK; have GE350 := kY HW0 hg HK; have NB0_350 := iL g hg; have NB350_0 := iG g hg; replace HI0 := iB g hb; replace HK := kU HK hb; replace HB := bS HB hb; clear hb hbox hg) | ((with_reducible refine gC (f:=63) rfl ?_); refine gM 7 (spec_IsFrame.calls a1 true _ A3.out) Try.func63 ?_; rintro w' ⟨⟨nd, rfl⟩⟩; (try (rw [drewN_self w9]; generalize hq_ : World.drewN w9 _ = w9; have n0_ : Aside0 (w9.heap[gb350]? = some (.cells #[.int .i64 0, .int .i64 0, .int .i64 0, .int .i64 0] 51 (0, 0))) := ⟨by rw [← hq_]; exact (bk BK350)⟩; have n1_ : Aside0 (IsS144 w0 w9 g s0_0 s0_1 s0_2) := ⟨by rw [← hq_]; exact qI⟩; have n2_ : Aside0 (KeepBut w w9 g none) := ⟨by rw [← hq_]; exact qK⟩; have n3_ : Aside0 (Below w0.heap.size w0 w9) := ⟨by rw [← hq_]; exact qB⟩; clear BK350 HI0 HK HB hq_; have BK350 := n0_; have HI0 := n1_; have HK := n2_; have HB := n3_; clear n0_ n1_ n2_ n3_))) | ((with_reducible refine gate_callee (f := 115) rfl ?_); refine goesL_ (some 11) rfl rfl Try.func115 (by kernel_rfl) rfl #[.int .i64 a1] rfl (by first|rfl|(simp only [List.map_toArray, List.map_cons, List.map_nil]; try rfl)) ?_; (with_reducible refine (spec_l04Mats.calls k a1 t352 _ A5.out).mono ?_); rintro e w10 ⟨v353, rfl, ho0, hb⟩; refine ⟨_, rfl, ?_⟩; have HO354 := aM (Kd.R_lower (Kd.R_newB ho0 (g := gb350) (o := .cells #[.int .i64 0, .int .i64 0, .int .i64 0, .int .i64 0] 51 (0, 0)) (bk BK350)) (keep_size (w := w) (g := g) (row := none) qK)); replace HI0 := iB g hb; replace BK350 := bB BK350 hb; replace HK := kU HK hb; replace HB := bS HB hb; (try clear hb); (try clear ho0); obtain ⟨Ao11, co11, eo11⟩ := Kd.R_slice HO354.out; subst eo11) | ((with_reducible refine gC (f:=84) rfl ?_); refine gM 16 (spec_l01Next.calls g s0_0 s0_1 s0_2 (t352.length : Int) t355 t356 t357 w0 _ qI qB A6.out) Try.func84 ?_; rintro w12 ⟨hi, hb, hk⟩; replace BK350 := kB hk BK350 NB350_0; replace HO354 := aM (Kd.R_mono (Kd.R_keep (IsS144.apart (show IsS144 w0 _ g s0_0 s0_1 s0_2 from by repeat (first | (with_reducible first | exact HI0.out | apply sA|apply sN|apply sD|apply s1|apply s2 | refine IsS144.far ?_ NB0_350.out _) | exact HI0.out)) (by (with_reducible repeat (first | apply Kd.R_alloc | apply Kd.R_drewN | apply Kd.R_drew)); exact HO354.out) (by decide)) hk (fun _ h => h.2)) (fun _ h => h.1)); replace HK := kT HK hk; replace HB := aM hb; replace HI0 := aM hi; (try clear hb); have p358 : 0 ≤ (t355 : Int) := of_decide_eq_true (by first | (with_reducible assumption) | assumption); have q358 : t355 < (t352.length : Int) := of_decide_eq_true (by first | (with_reducible assumption) | assumption); obtain ⟨ad358, e358, hx358_0, hx358_1, hx358_2, hx358_3⟩ := at_T51 (Kd.R_reads' HO354.out).2.2 t355 p358 q358; cases e358; replace p358 := eq_true p358; replace q358 := eq_true q358; have hnb13 := NB350_0.out; have hnc13 := NB0_350.out; obtain ⟨hcz14_0, hcz14_1, hcz14_2, hcz14_3⟩ := z4 BK350; obtain ⟨hfz14_0, hfz14_1, hfz14_2, hfz14_3⟩ := y4 BK350))
    refine bodyPost_ret (results_cell_row rfl _ _ gb350 51 #[.int .i64 ((rd_T51 t352 t355).f0), .int .i64 ((rd_T51 t352 t355).f1), .int .i64 ((rd_T51 t352 t355).f2), .int .i64 ((rd_T51 t352 t355).f3)] (0, 0) _ rfl (by (with_reducible repeat (first|apply kN|apply kD|apply kA)); refine blk_put (cs := #[.int .i64 ((rd_T51 t352 t355).f0), .int .i64 ((rd_T51 t352 t355).f1), .int .i64 ((rd_T51 t352 t355).f2), .int .i64 0]) ?_ 3 _ rfl; (with_reducible repeat (first|apply kN|apply kD|apply kA)); refine blk_put (cs := #[.int .i64 ((rd_T51 t352 t355).f0), .int .i64 ((rd_T51 t352 t355).f1), .int .i64 0, .int .i64 0]) ?_ 2 _ rfl; (with_reducible repeat (first|apply kN|apply kD|apply kA)); refine blk_put (cs := #[.int .i64 ((rd_T51 t352 t355).f0), .int .i64 0, .int .i64 0, .int .i64 0]) ?_ 1 _ rfl; (with_reducible repeat (first|apply kN|apply kD|apply kA)); refine blk_put (cs := #[.int .i64 0, .int .i64 0, .int .i64 0, .int .i64 0]) ?_ 0 _ rfl; (with_reducible repeat (first|apply kN|apply kD|apply kA)); exact BK350.out) Try.underlying51 rfl (by kernel_rfl)) rfl ?_
    exact ⟨qR, qI, qB, qK⟩
   ·rw [if_neg c8] at H
    exact absurd H (by simp)
  ·rw [if_neg c7] at H
   exact absurd H (by simp)
 ·replace c4 := Bool.eq_false_iff.mpr c4
  subst c4
  have H1 : ((spec_l02Unit.f).bind fun bt359 => (some (bt359.1, bt359.2.1, bt359.2.2.1, bt359.2.2.2, s0_1, s0_2))) = some (r1, r2, r3, r4, r5, r6) := by rw [if_neg (show ¬ (false = true) by decide)] at H; exact H
  clear H
  have H := H1
  clear H1
  obtain ⟨⟨t359, t360, t361, t362⟩, A15, H⟩ := oB H
  try dsimp only at H
  simp only [Option.some.injEq, Prod.mk.injEq] at H
  obtain ⟨rfl, rfl, rfl, rfl, rfl, rfl⟩ := H
  go_enter Try.func105, Try.ntmps105
  go_wp2_with (first | ((with_reducible refine gD (N:=4) rfl ?_); refine bE 4 #[.int .i64 0, .int .i64 0, .int .i64 0, .int .i64 0] 51 ?_; intro gb350 hg w16 hbox hb; have BK350 := aM hbox; have GW350 := kZ hg HK; have GE350 := kY HW0 hg HK; have NB0_350 := iL g hg; have NB350_0 := iG g hg; replace HI0 := iB g hb; replace HK := kU HK hb; replace HB := bS HB hb; clear hb hbox hg) | ((with_reducible refine gC (f:=63) rfl ?_); refine gM 7 (spec_IsFrame.calls a1 false _ A3.out) Try.func63 ?_; rintro w' ⟨⟨nd, rfl⟩⟩; (try (rw [drewN_self w16]; generalize hq_ : World.drewN w16 _ = w16; have n0_ : Aside0 (w16.heap[gb350]? = some (.cells #[.int .i64 0, .int .i64 0, .int .i64 0, .int .i64 0] 51 (0, 0))) := ⟨by rw [← hq_]; exact (bk BK350)⟩; have n1_ : Aside0 (IsS144 w0 w16 g s0_0 s0_1 s0_2) := ⟨by rw [← hq_]; exact qI⟩; have n2_ : Aside0 (KeepBut w w16 g none) := ⟨by rw [← hq_]; exact qK⟩; have n3_ : Aside0 (Below w0.heap.size w0 w16) := ⟨by rw [← hq_]; exact qB⟩; clear BK350 HI0 HK HB hq_; have BK350 := n0_; have HI0 := n1_; have HK := n2_; have HB := n3_; clear n0_ n1_ n2_ n3_))) | ((with_reducible refine gC (f:=139) rfl ?_); refine gM 9 (spec_l02Unit.calls  t359 t360 t361 t362 _ A15.out) Try.func139 ?_; rintro w17 hb; replace HI0 := iB g hb; replace BK350 := bB BK350 hb; replace HK := kU HK hb; replace HB := bS HB hb; (try clear hb); have hnb18 := NB350_0.out; have hnc18 := NB0_350.out; obtain ⟨hcz19_0, hcz19_1, hcz19_2, hcz19_3⟩ := z4 BK350; obtain ⟨hfz19_0, hfz19_1, hfz19_2, hfz19_3⟩ := y4 BK350))
  refine bodyPost_ret (results_cell_row rfl _ _ gb350 51 #[.int .i64 t359, .int .i64 t360, .int .i64 t361, .int .i64 t362] (0, 0) _ rfl (by (with_reducible repeat (first|apply kN|apply kD|apply kA)); refine blk_put (cs := #[.int .i64 t359, .int .i64 t360, .int .i64 t361, .int .i64 0]) ?_ 3 _ rfl; (with_reducible repeat (first|apply kN|apply kD|apply kA)); refine blk_put (cs := #[.int .i64 t359, .int .i64 t360, .int .i64 0, .int .i64 0]) ?_ 2 _ rfl; (with_reducible repeat (first|apply kN|apply kD|apply kA)); refine blk_put (cs := #[.int .i64 t359, .int .i64 0, .int .i64 0, .int .i64 0]) ?_ 1 _ rfl; (with_reducible repeat (first|apply kN|apply kD|apply kA)); refine blk_put (cs := #[.int .i64 0, .int .i64 0, .int .i64 0, .int .i64 0]) ?_ 0 _ rfl; (with_reducible repeat (first|apply kN|apply kD|apply kA)); exact BK350.out) Try.underlying51 rfl (by kernel_rfl)) rfl ?_
  exact ⟨qR, qI, qB, qK⟩

def spec_DrawIsPointMat.f (k : Nat) (l0 : List Int) : Option (Int × Int × Int × Int × Int) := (spec_l01From.f k l0).bind fun bt364 => ((spec_l04DrawFrame.f bt364.1 bt364.2.1 bt364.2.2).bind fun bt368 => ((spec_l01Next.f bt364.1 bt368.2.1 bt368.2.2 2).bind fun bt371 => (if bt371.1 = 0 then ((spec_l04DrawMat.f k bt364.1 bt371.2.1 bt371.2.2 bt368.1).bind fun bt374 => (some (bt368.1, bt374.1, bt374.2.1, bt374.2.2.1, bt374.2.2.2.1))) else ((spec_l02Draw.f k bt364.1 bt371.2.1 bt371.2.2).bind fun bt380 => (some (bt368.1, bt380.1, bt380.2.1, bt380.2.2.1, bt380.2.2.2.1))))))
set_option maxHeartbeats 8000000 in
set_option maxRecDepth 100000 in
theorem spec_DrawIsPointMat.calls (k : Nat) (A0 : Option Addr) (c0 : Nat) (l0 : List Int) (r1 : Int) (r2 : Int) (r3 : Int) (r4 : Int) (r5 : Int) (w : World) (hr0 : Kd.C (Kd.int .u8) w A0 l0.length l0) (hc0 : l0.length ≤ c0) (h : spec_DrawIsPointMat.f k l0 = some (r1, r2, r3, r4, r5)) :
  Calls Try.prog 55 #[.slice A0 l0.length c0] w fun e w' => e = .returned (.tuple #[.int .i64 r1, .agg #[.int .i64 r2, .int .i64 r3, .int .i64 r4, .int .i64 r5]]) ∧ Below w.heap.size w w' := by
 have hu51 := Try.underlying51
 have HR0 := aM hr0
 have HC0 := aM hc0
 clear hr0 hc0
 have HB := aM (Below.refl w.heap.size w)
 have H : ((spec_l01From.f k l0).bind fun bt364 => ((spec_l04DrawFrame.f bt364.1 bt364.2.1 bt364.2.2).bind fun bt368 => ((spec_l01Next.f bt364.1 bt368.2.1 bt368.2.2 2).bind fun bt371 => (if bt371.1 = 0 then ((spec_l04DrawMat.f k bt364.1 bt371.2.1 bt371.2.2 bt368.1).bind fun bt374 => (some (bt368.1, bt374.1, bt374.2.1, bt374.2.2.1, bt374.2.2.2.1))) else ((spec_l02Draw.f k bt364.1 bt371.2.1 bt371.2.2).bind fun bt380 => (some (bt368.1, bt380.1, bt380.2.1, bt380.2.2.1, bt380.2.2.2.1))))))) = some (r1, r2, r3, r4, r5) := h
 clear h
 obtain ⟨⟨t364, t365, t366⟩, A2, H⟩ := oB H
 try dsimp only at H
 obtain ⟨⟨t368, t369, t370⟩, A3, H⟩ := oB H
 try dsimp only at H
 obtain ⟨⟨t371, t372, t373⟩, A4, H⟩ := oB H
 try dsimp only at H
 by_cases c5 : t371 = 0
 ·rw [if_pos c5] at H
  have c5b0 : (t371 == 0) = true := beq_iff_eq.mpr c5
  have c5b1 : (t371 != 0) = false := bne_eq_false_iff_eq.mpr c5
  clear c5
  obtain ⟨⟨t374, t375, t376, t377, t378, t379⟩, A6, H⟩ := oB H
  try dsimp only at H
  simp only [Option.some.injEq, Prod.mk.injEq] at H
  obtain ⟨rfl, rfl, rfl, rfl, rfl⟩ := H
  go_enter Try.func55, Try.ntmps55
  go_wp2_with (first | ((with_reducible refine gD (N:=3) rfl ?_); refine bE 3 #[.int .i64 0, .int .i64 0, .int .i64 0, .int .i64 0] 51 ?_; intro gb363 hg w7 hbox hb; have BK363 := aM hbox; have GW363 := bZ hg HB; have GE363 := bZ hg HB; replace HB := bS HB hb; clear hb hbox hg) | ((with_reducible refine gate_callee (f := 83) rfl ?_); refine goesL_ (some 7) rfl rfl Try.func83 (by kernel_rfl) rfl #[.slice A0 l0.length c0] rfl (by first|rfl|(simp only [List.map_toArray, List.map_cons, List.map_nil]; try rfl)) ?_; (with_reducible refine (spec_l01From.calls k _ _ l0 t364 t365 t366 w _ ?side1 ?side2 ?side3 A2.out).mono ?_); (case side1 => repeat (first | (with_reducible first | exact HB.out | apply bA|apply bN|apply b1 | refine below_set ?_ GE363.out) | exact HB.out)); (case side2 => exact HR0.out); (case side3 => exact HC0.out); rintro e w8 ⟨g367, rfl, hi, hb, hb2⟩; refine ⟨_, rfl, ?_⟩; have HI367 := aM hi; have NB367_363 := aM (IsS144.ne_blk hi (blk_below (g := gb363) (o := .cells #[.int .i64 0, .int .i64 0, .int .i64 0, .int .i64 0] 51 (0, 0)) (bk BK363) hb2) (by decide)); have NB363_367 := aM (Ne.symm (IsS144.ne_blk hi (blk_below (g := gb363) (o := .cells #[.int .i64 0, .int .i64 0, .int .i64 0, .int .i64 0] 51 (0, 0)) (bk BK363) hb2) (by decide))); replace BK363 := aM (blk_below (g := gb363) (o := .cells #[.int .i64 0, .int .i64 0, .int .i64 0, .int .i64 0] 51 (0, 0)) (bk BK363) hb2); replace HB := aM hb; (try clear hb)) | ((with_reducible refine gC (f:=85) rfl ?_); refine gM 9 (spec_l04DrawFrame.calls g367 t364 t365 t366 t368 t369 t370 w _ (by repeat (first | (with_reducible first | exact HI367.out | apply sA|apply sN|apply sD|apply s1|apply s2 | refine IsS144.far ?_ NB367_363.out _) | exact HI367.out)) (by repeat (first | (with_reducible first | exact HB.out | apply bA|apply bN|apply b1 | refine below_set ?_ (IsS144.ge HI367.out) | refine below_set ?_ GE363.out) | exact HB.out)) A3.out) Try.func85 ?_; rintro w9 ⟨hi, hb, hk⟩; replace BK363 := kB hk BK363 NB363_367; replace HB := aM hb; replace HI367 := aM hi; (try clear hb)) | ((with_reducible refine gC (f:=84) rfl ?_); refine gM 11 (spec_l01Next.calls g367 t364 t369 t370 2 t371 t372 t373 w _ (by repeat (first | (with_reducible first | exact HI367.out | apply sA|apply sN|apply sD|apply s1|apply s2 | refine IsS144.far ?_ NB367_363.out _) | exact HI367.out)) (by repeat (first | (with_reducible first | exact HB.out | apply bA|apply bN|apply b1 | refine below_set ?_ (IsS144.ge HI367.out) | refine below_set ?_ GE363.out) | exact HB.out)) A4.out) Try.func84 ?_; rintro w10 ⟨hi, hb, hk⟩; replace BK363 := kB hk BK363 NB363_367; replace HB := aM hb; replace HI367 := aM hi; (try clear hb)) | ((with_reducible refine gC (f:=105) rfl ?_); refine gM 16 (spec_l04DrawMat.calls k g367 t364 t372 t373 t368 t374 t375 t376 t377 t378 t379 w _ (by repeat (first | (with_reducible first | exact HI367.out | apply sA|apply sN|apply sD|apply s1|apply s2 | refine IsS144.far ?_ NB367_363.out _) | exact HI367.out)) (by repeat (first | (with_reducible first | exact HB.out | apply bA|apply bN|apply b1 | refine below_set ?_ (IsS144.ge HI367.out) | refine below_set ?_ GE363.out) | exact HB.out)) A6.out) Try.func105 ?_; rintro w11 ⟨hi, hb, hk⟩; replace BK363 := kB hk BK363 NB363_367; replace HB := aM hb; replace HI367 := aM hi; (try clear hb); have hnb12 := NB363_367.out; have hnc12 := NB367_363.out; obtain ⟨hcz13_0, hcz13_1, hcz13_2, hcz13_3⟩ := z4 BK363; obtain ⟨hfz13_0, hfz13_1, hfz13_2, hfz13_3⟩ := y4 BK363))
  refine bodyPost_ret (results_tc rfl _ _ gb363 51 #[.int .i64 t374, .int .i64 t375, .int .i64 t376, .int .i64 t377] (0, 0) _ rfl (by (with_reducible repeat (first|apply kN|apply kD|apply kA)); refine blk_put (cs := #[.int .i64 t374, .int .i64 t375, .int .i64 t376, .int .i64 0]) ?_ 3 _ rfl; (with_reducible repeat (first|apply kN|apply kD|apply kA)); refine blk_put (cs := #[.int .i64 t374, .int .i64 t375, .int .i64 0, .int .i64 0]) ?_ 2 _ rfl; (with_reducible repeat (first|apply kN|apply kD|apply kA)); refine blk_put (cs := #[.int .i64 t374, .int .i64 0, .int .i64 0, .int .i64 0]) ?_ 1 _ rfl; (with_reducible repeat (first|apply kN|apply kD|apply kA)); refine blk_put (cs := #[.int .i64 0, .int .i64 0, .int .i64 0, .int .i64 0]) ?_ 0 _ rfl; (with_reducible repeat (first|apply kN|apply kD|apply kA)); exact BK363.out) Try.underlying51 rfl (by kernel_rfl)) rfl ?_
  exact ⟨qR, by repeat (first | (with_reducible first | exact HB.out | apply bA|apply bN|apply b1 | refine below_set ?_ (IsS144.ge HI367.out) | refine below_set ?_ GE363.out) | exact HB.out)⟩
 ·rw [if_neg c5] at H
  have c5b0 : (t371 == 0) = false := beq_eq_false_iff_ne.mpr c5
  have c5b1 : (t371 != 0) = true := bne_iff_ne.mpr c5
  obtain ⟨⟨t380, t381, t382, t383, t384, t385⟩, A14, H⟩ := oB H
  try dsimp only at H
  simp only [Option.some.injEq, Prod.mk.injEq] at H
  obtain ⟨rfl, rfl, rfl, rfl, rfl⟩ := H
  go_enter Try.func55, Try.ntmps55
  go_wp2_with (first | ((with_reducible refine gD (N:=3) rfl ?_); refine bE 3 #[.int .i64 0, .int .i64 0, .int .i64 0, .int .i64 0] 51 ?_; intro gb363 hg w15 hbox hb; have BK363 := aM hbox; have GW363 := bZ hg HB; have GE363 := bZ hg HB; replace HB := bS HB hb; clear hb hbox hg) | ((with_reducible refine gate_callee (f := 83) rfl ?_); refine goesL_ (some 7) rfl rfl Try.func83 (by kernel_rfl) rfl #[.slice A0 l0.length c0] rfl (by first|rfl|(simp only [List.map_toArray, List.map_cons, List.map_nil]; try rfl)) ?_; (with_reducible refine (spec_l01From.calls k _ _ l0 t364 t365 t366 w _ ?side1 ?side2 ?side3 A2.out).mono ?_); (case side1 => repeat (first | (with_reducible first | exact HB.out | apply bA|apply bN|apply b1 | refine below_set ?_ GE363.out) | exact HB.out)); (case side2 => exact HR0.out); (case side3 => exact HC0.out); rintro e w16 ⟨g367, rfl, hi, hb, hb2⟩; refine ⟨_, rfl, ?_⟩; have HI367 := aM hi; have NB367_363 := aM (IsS144.ne_blk hi (blk_below (g := gb363) (o := .cells #[.int .i64 0, .int .i64 0, .int .i64 0, .int .i64 0] 51 (0, 0)) (bk BK363) hb2) (by decide)); have NB363_367 := aM (Ne.symm (IsS144.ne_blk hi (blk_below (g := gb363) (o := .cells #[.int .i64 0, .int .i64 0, .int .i64 0, .int .i64 0] 51 (0, 0)) (bk BK363) hb2) (by decide))); replace BK363 := aM (blk_below (g := gb363) (o := .cells #[.int .i64 0, .int .i64 0, .int .i64 0, .int .i64 0] 51 (0, 0)) (bk BK363) hb2); replace HB := aM hb; (try clear hb)) | ((with_reducible refine gC (f:=85) rfl ?_); refine gM 9 (spec_l04DrawFrame.calls g367 t364 t365 t366 t368 t369 t370 w _ (by repeat (first | (with_reducible first | exact HI367.out | apply sA|apply sN|apply sD|apply s1|apply s2 | refine IsS144.far ?_ NB367_363.out _) | exact HI367.out)) (by repeat (first | (with_reducible first | exact HB.out | apply bA|apply bN|apply b1 | refine below_set ?_ (IsS144.ge HI367.out) | refine below_set ?_ GE363.out) | exact HB.out)) A3.out) Try.func85 ?_; rintro w17 ⟨hi, hb, hk⟩; replace BK363 := kB hk BK363 NB363_367; replace HB := aM hb; replace HI367 := aM hi; (try clear hb)) | ((with_reducible refine gC (f:=84) rfl ?_); refine gM 11 (spec_l01Next.calls g367 t364 t369 t370 2 t371 t372 t373 w _ (by repeat (first | (with_reducible first | exact HI367.out | apply sA|apply sN|apply sD|apply s1|apply s2 | refine IsS144.far ?_ NB367_363.out _) | exact HI367.out)) (by repeat (first | (with_reducible first | exact HB.out | apply bA|apply bN|apply b1 | refine below_set ?_ (IsS144.ge HI367.out) | refine below_set ?_ GE363.out) | exact HB.out)) A4.out) Try.func84 ?_; rintro w18 ⟨hi, hb, hk⟩; replace BK363 := kB hk BK363 NB363_367; replace HB := aM hb; replace HI367 := aM hi; (try clear hb)) | ((with_reducible refine gC (f:=88) rfl ?_); refine gM 19 (spec_l02Draw.calls k g367 t364 t372 t373 t380 t381 t382 t383 t384 t385 w _ (by repeat (first | (with_reducible first | exact HI367.out | apply sA|apply sN|apply sD|apply s1|apply s2 | refine IsS144.far ?_ NB367_363.out _) | exact HI367.out)) (by repeat (first | (with_reducible first | exact HB.out | apply bA|apply bN|apply b1 | refine below_set ?_ (IsS144.ge HI367.out) | refine below_set ?_ GE363.out) | exact HB.out)) A14.out) Try.func88 ?_; rintro w19 ⟨hi, hb, hk⟩; replace BK363 := kB hk BK363 NB363_367; replace HB := aM hb; replace HI367 := aM hi; (try clear hb); have hnb20 := NB363_367.out; have hnc20 := NB367_363.out; obtain ⟨hcz21_0, hcz21_1, hcz21_2, hcz21_3⟩ := z4 BK363; obtain ⟨hfz21_0, hfz21_1, hfz21_2, hfz21_3⟩ := y4 BK363))
  refine bodyPost_ret (results_tc rfl _ _ gb363 51 #[.int .i64 t380, .int .i64 t381, .int .i64 t382, .int .i64 t383] (0, 0) _ rfl (by (with_reducible repeat (first|apply kN|apply kD|apply kA)); refine blk_put (cs := #[.int .i64 t380, .int .i64 t381, .int .i64 t382, .int .i64 0]) ?_ 3 _ rfl; (with_reducible repeat (first|apply kN|apply kD|apply kA)); refine blk_put (cs := #[.int .i64 t380, .int .i64 t381, .int .i64 0, .int .i64 0]) ?_ 2 _ rfl; (with_reducible repeat (first|apply kN|apply kD|apply kA)); refine blk_put (cs := #[.int .i64 t380, .int .i64 0, .int .i64 0, .int .i64 0]) ?_ 1 _ rfl; (with_reducible repeat (first|apply kN|apply kD|apply kA)); refine blk_put (cs := #[.int .i64 0, .int .i64 0, .int .i64 0, .int .i64 0]) ?_ 0 _ rfl; (with_reducible repeat (first|apply kN|apply kD|apply kA)); exact BK363.out) Try.underlying51 rfl (by kernel_rfl)) rfl ?_
  exact ⟨qR, by repeat (first | (with_reducible first | exact HB.out | apply bA|apply bN|apply b1 | refine below_set ?_ (IsS144.ge HI367.out) | refine below_set ?_ GE363.out) | exact HB.out)⟩

end Go.Proofs.Ytcjchihnopmplaa.F

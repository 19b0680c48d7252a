import Derived.Test.YtcjchihnopmplaaP0
import Derived.Test.YtcjchihnopmplaaP1
import Derived.Test.YtcjchihnopmplaaP2
import Derived.Test.YtcjchihnopmplaaP3
import Derived.Test.YtcjchihnopmplaaP9
import Derived.Test.YtcjchihnopmplaaP10
import Derived.Test.YtcjchihnopmplaaP11
namespace Go.Proofs.Ytcjchihnopmplaa.F
open Go.RowKit Go.Proofs.YtcjchihnopmplaaW.PrintWords Go.Proofs.YtcjchihnopmplaaW.PrintLast Go.Proofs.YtcjchihnopmplaaW.PrintMore
attribute [local go_sem] max2_int min2_int max_two min_two max_three min_three max_four min_four   -- for this text's walks alone
set_option linter.unusedVariables false
set_option linter.unusedSimpArgs false
attribute [local go_sem high] eqA51

def spec_DrawMapLattice.f (k : Nat) (l0 : List Int) : Option (Int × Int × Int × Int × Int × Int × Int × Int) := (spec_l01From.f k l0).bind fun bt420 => ((spec_l04DrawFrame.f bt420.1 bt420.2.1 bt420.2.2).bind fun bt424 => ((spec_l01Next.f bt420.1 bt424.2.1 bt424.2.2 12).bind fun bt427 => (if bt427.1 = 0 then ((spec_l02Draw.f k bt420.1 bt427.2.1 bt427.2.2).bind fun bt430 => ((spec_l03Draw.f bt420.1 bt430.2.2.2.2.1 bt430.2.2.2.2.2).bind fun bt436 => (some (bt424.1, bt430.1, bt430.2.1, bt430.2.2.1, bt430.2.2.2.1, bt436.1, bt436.2.1, bt436.2.2.1)))) else ((spec_l04DrawMat.f k bt420.1 bt427.2.1 bt427.2.2 bt424.1).bind fun bt441 => ((spec_l03Draw.f bt420.1 bt441.2.2.2.2.1 bt441.2.2.2.2.2).bind fun bt447 => (some (bt424.1, bt441.1, bt441.2.1, bt441.2.2.1, bt441.2.2.2.1, bt447.1, bt447.2.1, bt447.2.2.1)))))))
set_option maxHeartbeats 8000000 in
set_option maxRecDepth 100000 in
theorem spec_DrawMapLattice.calls (k : Nat) (A0 : Option Addr) (c0 : Nat) (l0 : List Int) (r1 : Int) (r2 : Int) (r3 : Int) (r4 : Int) (r5 : Int) (r6 : Int) (r7 : Int) (r8 : Int) (w : World) (hr0 : Kd.C (Kd.int .u8) w A0 l0.length l0) (hc0 : l0.length ≤ c0) (h : spec_DrawMapLattice.f k l0 = some (r1, r2, r3, r4, r5, r6, r7, r8)) :
  Calls Try.prog 56 #[.slice A0 l0.length c0] w fun e w' => e = .returned (.tuple #[.int .i64 r1, .agg #[.int .i64 r2, .int .i64 r3, .int .i64 r4, .int .i64 r5], .agg #[.int .i64 r6, .int .i64 r7, .int .i64 r8]]) ∧ Below w.heap.size w w' := by
 have hu51 := Try.underlying51
 have hu33 := Try.underlying33
 have HR0 := aM hr0
 have HC0 := aM hc0
 clear hr0 hc0
 have HB := aM (Below.refl w.heap.size w)
 have H : ((spec_l01From.f k l0).bind fun bt420 => ((spec_l04DrawFrame.f bt420.1 bt420.2.1 bt420.2.2).bind fun bt424 => ((spec_l01Next.f bt420.1 bt424.2.1 bt424.2.2 12).bind fun bt427 => (if bt427.1 = 0 then ((spec_l02Draw.f k bt420.1 bt427.2.1 bt427.2.2).bind fun bt430 => ((spec_l03Draw.f bt420.1 bt430.2.2.2.2.1 bt430.2.2.2.2.2).bind fun bt436 => (some (bt424.1, bt430.1, bt430.2.1, bt430.2.2.1, bt430.2.2.2.1, bt436.1, bt436.2.1, bt436.2.2.1)))) else ((spec_l04DrawMat.f k bt420.1 bt427.2.1 bt427.2.2 bt424.1).bind fun bt441 => ((spec_l03Draw.f bt420.1 bt441.2.2.2.2.1 bt441.2.2.2.2.2).bind fun bt447 => (some (bt424.1, bt441.1, bt441.2.1, bt441.2.2.1, bt441.2.2.2.1, bt447.1, bt447.2.1, bt447.2.2.1)))))))) = some (r1, r2, r3, r4, r5, r6, r7, r8) := h
 clear h
 obtain ⟨⟨t420, t421, t422⟩, A2, H⟩ := oB H
 try dsimp only at H
 obtain ⟨⟨t424, t425, t426⟩, A3, H⟩ := oB H
 try dsimp only at H
 obtain ⟨⟨t427, t428, t429⟩, A4, H⟩ := oB H
 try dsimp only at H
 by_cases c5 : t427 = 0
 ·rw [if_pos c5] at H
  have c5b0 : (t427 == 0) = true := beq_iff_eq.mpr c5
  have c5b1 : (t427 != 0) = false := bne_eq_false_iff_eq.mpr c5
  clear c5
  obtain ⟨⟨t430, t431, t432, t433, t434, t435⟩, A6, H⟩ := oB H
  try dsimp only at H
  obtain ⟨⟨t436, t437, t438, t439, t440⟩, A7, H⟩ := oB H
  try dsimp only at H
  simp only [Option.some.injEq, Prod.mk.injEq] at H
  obtain ⟨rfl, rfl, rfl, rfl, rfl, rfl, rfl, rfl⟩ := H
  go_enter Try.func56, Try.ntmps56
  go_wp2_with (first | ((with_reducible refine gD (N:=3) rfl ?_); refine bE 3 #[.int .i64 0, .int .i64 0, .int .i64 0, .int .i64 0] 51 ?_; intro gb418 hg w8 hbox hb; have BK418 := aM hbox; have GW418 := bZ hg HB; have GE418 := bZ hg HB; replace HB := bS HB hb; clear hb hbox hg) | ((with_reducible refine gD (N:=4) rfl ?_); refine bE 4 #[.int .i64 0, .int .i64 0, .int .i64 0] 33 ?_; intro gb419 hg w9 hbox hb; have BK419 := aM hbox; have GW419 := bZ hg HB; have GE419 := bZ hg HB; have NB418_419 := nL hg BK418; have NB419_418 := nG hg BK418; replace BK418 := bB BK418 hb; replace HB := bS HB hb; clear hb hbox hg) | ((with_reducible refine gate_callee (f := 83) rfl ?_); refine goesL_ (some 8) rfl rfl Try.func83 (by kernel_rfl) rfl #[.slice A0 l0.length c0] rfl (by first|rfl|(simp only [List.map_toArray, List.map_cons, List.map_nil]; try rfl)) ?_; (with_reducible refine (spec_l01From.calls k _ _ l0 t420 t421 t422 w _ ?side1 ?side2 ?side3 A2.out).mono ?_); (case side1 => repeat (first | (with_reducible first | exact HB.out | apply bA|apply bN|apply b1 | refine below_set ?_ (Aside0.out (by assumption))) | exact HB.out)); (case side2 => exact HR0.out); (case side3 => exact HC0.out); rintro e w10 ⟨g423, rfl, hi, hb, hb2⟩; refine ⟨_, rfl, ?_⟩; have HI423 := aM hi; have NB423_418 := aM (IsS144.ne_blk hi (blk_below (g := gb418) (o := .cells #[.int .i64 0, .int .i64 0, .int .i64 0, .int .i64 0] 51 (0, 0)) (bk BK418) hb2) (by decide)); have NB418_423 := aM (Ne.symm (IsS144.ne_blk hi (blk_below (g := gb418) (o := .cells #[.int .i64 0, .int .i64 0, .int .i64 0, .int .i64 0] 51 (0, 0)) (bk BK418) hb2) (by decide))); have NB423_419 := aM (IsS144.ne_blk hi (blk_below (g := gb419) (o := .cells #[.int .i64 0, .int .i64 0, .int .i64 0] 33 (0, 0)) (bk BK419) hb2) (by decide)); have NB419_423 := aM (Ne.symm (IsS144.ne_blk hi (blk_below (g := gb419) (o := .cells #[.int .i64 0, .int .i64 0, .int .i64 0] 33 (0, 0)) (bk BK419) hb2) (by decide))); replace BK418 := aM (blk_below (g := gb418) (o := .cells #[.int .i64 0, .int .i64 0, .int .i64 0, .int .i64 0] 51 (0, 0)) (bk BK418) hb2); replace BK419 := aM (blk_below (g := gb419) (o := .cells #[.int .i64 0, .int .i64 0, .int .i64 0] 33 (0, 0)) (bk BK419) hb2); replace HB := aM hb; (try clear hb)) | ((with_reducible refine gC (f:=85) rfl ?_); refine gM 10 (spec_l04DrawFrame.calls g423 t420 t421 t422 t424 t425 t426 w _ (by repeat (first | (with_reducible first | exact HI423.out | apply sA|apply sN|apply sD|apply s1|apply s2 | refine IsS144.far ?_ NB423_418.out _ | refine IsS144.far ?_ NB423_419.out _) | exact HI423.out)) (by repeat (first | (with_reducible first | exact HB.out | apply bA|apply bN|apply b1 | refine below_set ?_ (IsS144.ge HI423.out) | refine below_set ?_ (Aside0.out (by assumption))) | exact HB.out)) A3.out) Try.func85 ?_; rintro w11 ⟨hi, hb, hk⟩; replace BK418 := kB hk BK418 NB418_423; replace BK419 := kB hk BK419 NB419_423; replace HB := aM hb; replace HI423 := aM hi; (try clear hb)) | ((with_reducible refine gC (f:=84) rfl ?_); refine gM 12 (spec_l01Next.calls g423 t420 t425 t426 12 t427 t428 t429 w _ (by repeat (first | (with_reducible first | exact HI423.out | apply sA|apply sN|apply sD|apply s1|apply s2 | refine IsS144.far ?_ NB423_418.out _ | refine IsS144.far ?_ NB423_419.out _) | exact HI423.out)) (by repeat (first | (with_reducible first | exact HB.out | apply bA|apply bN|apply b1 | refine below_set ?_ (IsS144.ge HI423.out) | refine below_set ?_ (Aside0.out (by assumption))) | exact HB.out)) A4.out) Try.func84 ?_; rintro w12 ⟨hi, hb, hk⟩; replace BK418 := kB hk BK418 NB418_423; replace BK419 := kB hk BK419 NB419_423; replace HB := aM hb; replace HI423 := aM hi; (try clear hb)) | ((with_reducible refine gC (f:=88) rfl ?_); refine gM 16 (spec_l02Draw.calls k g423 t420 t428 t429 t430 t431 t432 t433 t434 t435 w _ (by repeat (first | (with_reducible first | exact HI423.out | apply sA|apply sN|apply sD|apply s1|apply s2 | refine IsS144.far ?_ NB423_418.out _ | refine IsS144.far ?_ NB423_419.out _) | exact HI423.out)) (by repeat (first | (with_reducible first | exact HB.out | apply bA|apply bN|apply b1 | refine below_set ?_ (IsS144.ge HI423.out) | refine below_set ?_ (Aside0.out (by assumption))) | exact HB.out)) A6.out) Try.func88 ?_; rintro w13 ⟨hi, hb, hk⟩; replace BK418 := kB hk BK418 NB418_423; replace BK419 := kB hk BK419 NB419_423; replace HB := aM hb; replace HI423 := aM hi; (try clear hb)) | ((with_reducible refine gC (f:=117) rfl ?_); refine gM 18 (spec_l03Draw.calls g423 t420 t434 t435 t436 t437 t438 t439 t440 w _ (by repeat (first | (with_reducible first | exact HI423.out | apply sA|apply sN|apply sD|apply s1|apply s2 | refine IsS144.far ?_ NB423_418.out _ | refine IsS144.far ?_ NB423_419.out _) | exact HI423.out)) (by repeat (first | (with_reducible first | exact HB.out | apply bA|apply bN|apply b1 | refine below_set ?_ (IsS144.ge HI423.out) | refine below_set ?_ (Aside0.out (by assumption))) | exact HB.out)) A7.out) Try.func117 ?_; rintro w14 ⟨hi, hb, hk⟩; replace BK418 := kB hk BK418 NB418_423; replace BK419 := kB hk BK419 NB419_423; replace HB := aM hb; replace HI423 := aM hi; (try clear hb); have hnb15 := NB418_419.out; have hnc15 := NB419_418.out; have hnb16 := NB418_423.out; have hnc16 := NB423_418.out; obtain ⟨hcz17_0, hcz17_1, hcz17_2, hcz17_3⟩ := z4 BK418; obtain ⟨hfz17_0, hfz17_1, hfz17_2, hfz17_3⟩ := y4 BK418; have hnb18 := NB419_423.out; have hnc18 := NB423_419.out; obtain ⟨hcz19_0, hcz19_1, hcz19_2⟩ := z3 BK419; obtain ⟨hfz19_0, hfz19_1, hfz19_2⟩ := y3 BK419))
  refine bodyPost_ret (results_list (rs := [.tmp 2, .cell 3 51, .cell 4 33]) rfl (by simp) (.tmp (.cell gb418 51 #[.int .i64 t430, .int .i64 t431, .int .i64 t432, .int .i64 t433] (0, 0) _ rfl (by (repeat (first|(with_reducible first|apply kN|apply kD|apply kA)|refine blk_far ?_ NB418_419.out _)); refine blk_put (cs := #[.int .i64 t430, .int .i64 t431, .int .i64 t432, .int .i64 0]) ?_ 3 _ rfl; (with_reducible repeat (first|apply kN|apply kD|apply kA)); refine blk_put (cs := #[.int .i64 t430, .int .i64 t431, .int .i64 0, .int .i64 0]) ?_ 2 _ rfl; (with_reducible repeat (first|apply kN|apply kD|apply kA)); refine blk_put (cs := #[.int .i64 t430, .int .i64 0, .int .i64 0, .int .i64 0]) ?_ 1 _ rfl; (with_reducible repeat (first|apply kN|apply kD|apply kA)); refine blk_put (cs := #[.int .i64 0, .int .i64 0, .int .i64 0, .int .i64 0]) ?_ 0 _ rfl; (with_reducible repeat (first|apply kN|apply kD|apply kA)); exact BK418.out) Try.underlying51 rfl (by kernel_rfl) (.cell gb419 33 #[.int .i64 t436, .int .i64 t437, .int .i64 t438] (0, 0) _ rfl (by (with_reducible repeat (first|apply kN|apply kD|apply kA)); refine blk_put (cs := #[.int .i64 t436, .int .i64 t437, .int .i64 0]) ?_ 2 _ rfl; (with_reducible repeat (first|apply kN|apply kD|apply kA)); refine blk_put (cs := #[.int .i64 t436, .int .i64 0, .int .i64 0]) ?_ 1 _ rfl; (with_reducible repeat (first|apply kN|apply kD|apply kA)); refine blk_put (cs := #[.int .i64 0, .int .i64 0, .int .i64 0]) ?_ 0 _ rfl; (repeat (first|(with_reducible first|apply kN|apply kD|apply kA)|refine blk_far ?_ NB419_418.out _)); exact BK419.out) Try.underlying33 rfl (by kernel_rfl) .nil)))) rfl ?_
  exact ⟨qR, by repeat (first | (with_reducible first | exact HB.out | apply bA|apply bN|apply b1 | refine below_set ?_ (IsS144.ge HI423.out) | refine below_set ?_ (Aside0.out (by assumption))) | exact HB.out)⟩
 ·rw [if_neg c5] at H
  have c5b0 : (t427 == 0) = false := beq_eq_false_iff_ne.mpr c5
  have c5b1 : (t427 != 0) = true := bne_iff_ne.mpr c5
  obtain ⟨⟨t441, t442, t443, t444, t445, t446⟩, A20, H⟩ := oB H
  try dsimp only at H
  obtain ⟨⟨t447, t448, t449, t450, t451⟩, A21, H⟩ := oB H
  try dsimp only at H
  simp only [Option.some.injEq, Prod.mk.injEq] at H
  obtain ⟨rfl, rfl, rfl, rfl, rfl, rfl, rfl, rfl⟩ := H
  go_enter Try.func56, Try.ntmps56
  go_wp2_with (first | ((with_reducible refine gD (N:=3) rfl ?_); refine bE 3 #[.int .i64 0, .int .i64 0, .int .i64 0, .int .i64 0] 51 ?_; intro gb418 hg w22 hbox hb; have BK418 := aM hbox; have GW418 := bZ hg HB; have GE418 := bZ hg HB; replace HB := bS HB hb; clear hb hbox hg) | ((with_reducible refine gD (N:=4) rfl ?_); refine bE 4 #[.int .i64 0, .int .i64 0, .int .i64 0] 33 ?_; intro gb419 hg w23 hbox hb; have BK419 := aM hbox; have GW419 := bZ hg HB; have GE419 := bZ hg HB; have NB418_419 := nL hg BK418; have NB419_418 := nG hg BK418; replace BK418 := bB BK418 hb; replace HB := bS HB hb; clear hb hbox hg) | ((with_reducible refine gate_callee (f := 83) rfl ?_); refine goesL_ (some 8) rfl rfl Try.func83 (by kernel_rfl) rfl #[.slice A0 l0.length c0] rfl (by first|rfl|(simp only [List.map_toArray, List.map_cons, List.map_nil]; try rfl)) ?_; (with_reducible refine (spec_l01From.calls k _ _ l0 t420 t421 t422 w _ ?side1 ?side2 ?side3 A2.out).mono ?_); (case side1 => repeat (first | (with_reducible first | exact HB.out | apply bA|apply bN|apply b1 | refine below_set ?_ (Aside0.out (by assumption))) | exact HB.out)); (case side2 => exact HR0.out); (case side3 => exact HC0.out); rintro e w24 ⟨g423, rfl, hi, hb, hb2⟩; refine ⟨_, rfl, ?_⟩; have HI423 := aM hi; have NB423_418 := aM (IsS144.ne_blk hi (blk_below (g := gb418) (o := .cells #[.int .i64 0, .int .i64 0, .int .i64 0, .int .i64 0] 51 (0, 0)) (bk BK418) hb2) (by decide)); have NB418_423 := aM (Ne.symm (IsS144.ne_blk hi (blk_below (g := gb418) (o := .cells #[.int .i64 0, .int .i64 0, .int .i64 0, .int .i64 0] 51 (0, 0)) (bk BK418) hb2) (by decide))); have NB423_419 := aM (IsS144.ne_blk hi (blk_below (g := gb419) (o := .cells #[.int .i64 0, .int .i64 0, .int .i64 0] 33 (0, 0)) (bk BK419) hb2) (by decide)); have NB419_423 := aM (Ne.symm (IsS144.ne_blk hi (blk_below (g := gb419) (o := .cells #[.int .i64 0, .int .i64 0, .int .i64 0] 33 (0, 0)) (bk BK419) hb2) (by decide))); replace BK418 := aM (blk_below (g := gb418) (o := .cells #[.int .i64 0, .int .i64 0, .int .i64 0, .int .i64 0] 51 (0, 0)) (bk BK418) hb2); replace BK419 := aM (blk_below (g := gb419) (o := .cells #[.int .i64 0, .int .i64 0, .int .i64 0] 33 (0, 0)) (bk BK419) hb2); replace HB := aM hb; (try clear hb)) | ((with_reducible refine gC (f:=85) rfl ?_); refine gM 10 (spec_l04DrawFrame.calls g423 t420 t421 t422 t424 t425 t426 w _ (by repeat (first | (with_reducible first | exact HI423.out | apply sA|apply sN|apply sD|apply s1|apply s2 | refine IsS144.far ?_ NB423_418.out _ | refine IsS144.far ?_ NB423_419.out _) | exact HI423.out)) (by repeat (first | (with_reducible first | exact HB.out | apply bA|apply bN|apply b1 | refine below_set ?_ (IsS144.ge HI423.out) | refine below_set ?_ (Aside0.out (by assumption))) | exact HB.out)) A3.out) Try.func85 ?_; rintro w25 ⟨hi, hb, hk⟩; replace BK418 := kB hk BK418 NB418_423; replace BK419 := kB hk BK419 NB419_423; replace HB := aM hb; replace HI423 := aM hi; (try clear hb)) | ((with_reducible refine gC (f:=84) rfl ?_); refine gM 12 (spec_l01Next.calls g423 t420 t425 t426 12 t427 t428 t429 w _ (by repeat (first | (with_reducible first | exact HI423.out | apply sA|apply sN|apply sD|apply s1|apply s2 | refine IsS144.far ?_ NB423_418.out _ | refine IsS144.far ?_ NB423_419.out _) | exact HI423.out)) (by repeat (first | (with_reducible first | exact HB.out | apply bA|apply bN|apply b1 | refine below_set ?_ (IsS144.ge HI423.out) | refine below_set ?_ (Aside0.out (by assumption))) | exact HB.out)) A4.out) Try.func84 ?_; rintro w26 ⟨hi, hb, hk⟩; replace BK418 := kB hk BK418 NB418_423; replace BK419 := kB hk BK419 NB419_423; replace HB := aM hb; replace HI423 := aM hi; (try clear hb)) | ((with_reducible refine gC (f:=105) rfl ?_); refine gM 22 (spec_l04DrawMat.calls k g423 t420 t428 t429 t424 t441 t442 t443 t444 t445 t446 w _ (by repeat (first | (with_reducible first | exact HI423.out | apply sA|apply sN|apply sD|apply s1|apply s2 | refine IsS144.far ?_ NB423_418.out _ | refine IsS144.far ?_ NB423_419.out _) | exact HI423.out)) (by repeat (first | (with_reducible first | exact HB.out | apply bA|apply bN|apply b1 | refine below_set ?_ (IsS144.ge HI423.out) | refine below_set ?_ (Aside0.out (by assumption))) | exact HB.out)) A20.out) Try.func105 ?_; rintro w27 ⟨hi, hb, hk⟩; replace BK418 := kB hk BK418 NB418_423; replace BK419 := kB hk BK419 NB419_423; replace HB := aM hb; replace HI423 := aM hi; (try clear hb)) | ((with_reducible refine gC (f:=117) rfl ?_); refine gM 24 (spec_l03Draw.calls g423 t420 t445 t446 t447 t448 t449 t450 t451 w _ (by repeat (first | (with_reducible first | exact HI423.out | apply sA|apply sN|apply sD|apply s1|apply s2 | refine IsS144.far ?_ NB423_418.out _ | refine IsS144.far ?_ NB423_419.out _) | exact HI423.out)) (by repeat (first | (with_reducible first | exact HB.out | apply bA|apply bN|apply b1 | refine below_set ?_ (IsS144.ge HI423.out) | refine below_set ?_ (Aside0.out (by assumption))) | exact HB.out)) A21.out) Try.func117 ?_; rintro w28 ⟨hi, hb, hk⟩; replace BK418 := kB hk BK418 NB418_423; replace BK419 := kB hk BK419 NB419_423; replace HB := aM hb; replace HI423 := aM hi; (try clear hb); have hnb29 := NB418_419.out; have hnc29 := NB419_418.out; have hnb30 := NB418_423.out; have hnc30 := NB423_418.out; obtain ⟨hcz31_0, hcz31_1, hcz31_2, hcz31_3⟩ := z4 BK418; obtain ⟨hfz31_0, hfz31_1, hfz31_2, hfz31_3⟩ := y4 BK418; have hnb32 := NB419_423.out; have hnc32 := NB423_419.out; obtain ⟨hcz33_0, hcz33_1, hcz33_2⟩ := z3 BK419; obtain ⟨hfz33_0, hfz33_1, hfz33_2⟩ := y3 BK419))
  refine bodyPost_ret (results_list (rs := [.tmp 2, .cell 3 51, .cell 4 33]) rfl (by simp) (.tmp (.cell gb418 51 #[.int .i64 t441, .int .i64 t442, .int .i64 t443, .int .i64 t444] (0, 0) _ rfl (by (repeat (first|(with_reducible first|apply kN|apply kD|apply kA)|refine blk_far ?_ NB418_419.out _)); refine blk_put (cs := #[.int .i64 t441, .int .i64 t442, .int .i64 t443, .int .i64 0]) ?_ 3 _ rfl; (with_reducible repeat (first|apply kN|apply kD|apply kA)); refine blk_put (cs := #[.int .i64 t441, .int .i64 t442, .int .i64 0, .int .i64 0]) ?_ 2 _ rfl; (with_reducible repeat (first|apply kN|apply kD|apply kA)); refine blk_put (cs := #[.int .i64 t441, .int .i64 0, .int .i64 0, .int .i64 0]) ?_ 1 _ rfl; (with_reducible repeat (first|apply kN|apply kD|apply kA)); refine blk_put (cs := #[.int .i64 0, .int .i64 0, .int .i64 0, .int .i64 0]) ?_ 0 _ rfl; (with_reducible repeat (first|apply kN|apply kD|apply kA)); exact BK418.out) Try.underlying51 rfl (by kernel_rfl) (.cell gb419 33 #[.int .i64 t447, .int .i64 t448, .int .i64 t449] (0, 0) _ rfl (by (with_reducible repeat (first|apply kN|apply kD|apply kA)); refine blk_put (cs := #[.int .i64 t447, .int .i64 t448, .int .i64 0]) ?_ 2 _ rfl; (with_reducible repeat (first|apply kN|apply kD|apply kA)); refine blk_put (cs := #[.int .i64 t447, .int .i64 0, .int .i64 0]) ?_ 1 _ rfl; (with_reducible repeat (first|apply kN|apply kD|apply kA)); refine blk_put (cs := #[.int .i64 0, .int .i64 0, .int .i64 0]) ?_ 0 _ rfl; (repeat (first|(with_reducible first|apply kN|apply kD|apply kA)|refine blk_far ?_ NB419_418.out _)); exact BK419.out) Try.underlying33 rfl (by kernel_rfl) .nil)))) rfl ?_
  exact ⟨qR, by repeat (first | (with_reducible first | exact HB.out | apply bA|apply bN|apply b1 | refine below_set ?_ (IsS144.ge HI423.out) | refine below_set ?_ (Aside0.out (by assumption))) | exact HB.out)⟩

def impl_Mat_151.l0 : Nat → List (S51) → Int → Int → Int → Int → Int → Int → Option (Int)
 | 0, _, _, _, _, _, _, _ => none
 | k + 1, x0, x7, x8, x453000, x453001, x453002, x453003 => if x8 < x7 then (if 0 ≤ x8 then (if x8 < (x0.length : Int) then (if (x453000 == ((rd_T51 x0 x8).f0) && (x453001 == ((rd_T51 x0 x8).f1) && (x453002 == ((rd_T51 x0 x8).f2) && (x453003 == ((rd_T51 x0 x8).f3))))) = true then (some x8) else (impl_Mat_151.l0 k x0 x7 (wrap64 (x8 + 1)) x453000 x453001 x453002 x453003)) else (none)) else (none)) else (some (-1))
def impl_Mat_151.f (k : Nat) (l0 : List (S51)) (a1_0 : Int) (a1_1 : Int) (a1_2 : Int) (a1_3 : Int) : Option (Int) := impl_Mat_151.l0 k l0 (l0.length : Int) 0 a1_0 a1_1 a1_2 a1_3
set_option maxHeartbeats 8000000 in
set_option maxRecDepth 100000 in
theorem impl_Mat_151.calls (k : Nat) (A0 : Option Addr) (c0 : Nat) (l0 : List (S51)) (a1_0 : Int) (a1_1 : Int) (a1_2 : Int) (a1_3 : Int) (r : Int) (w : World) (hr0 : Kd.C k51 w A0 l0.length l0) (hc0 : l0.length ≤ c0) (h : impl_Mat_151.f k l0 a1_0 a1_1 a1_2 a1_3 = some r) :
  Calls Try.prog 151 #[.slice A0 l0.length c0, .agg #[.int .i64 a1_0, .int .i64 a1_1, .int .i64 a1_2, .int .i64 a1_3]] w fun e w' => e = .returned (.int .i64 r) ∧ Below w.heap.size w w' := by
 have hu51 := Try.underlying51
 have HR0 := aM hr0
 have HC0 := aM hc0
 clear hr0 hc0
 have HB := aM (Below.refl w.heap.size w)
 have H : (impl_Mat_151.l0 k l0 (l0.length : Int) 0 a1_0 a1_1 a1_2 a1_3) = some r := h
 clear h
 have H' := aM H
 clear H
 go_enter Try.func151, Try.ntmps151
 go_wp2_with (first | ((with_reducible refine gD (N:=3) rfl ?_); refine bE 3 #[.int .i64 a1_0, .int .i64 a1_1, .int .i64 a1_2, .int .i64 a1_3] 51 ?_; intro gb452 hg w3 hbox hb; have BK452 := aM hbox; have GW452 := bZ hg HB; have GE452 := bZ hg HB; replace HB := bS HB hb; clear hb hbox hg))
 repeat (go_quiet (first | ((with_reducible refine gD (N:=3) rfl ?_); refine bE 3 #[.int .i64 a1_0, .int .i64 a1_1, .int .i64 a1_2, .int .i64 a1_3] 51 ?_; intro gb452 hg w3 hbox hb; have BK452 := aM hbox; have GW452 := bZ hg HB; have GE452 := bZ hg HB; replace HB := bS HB hb; clear hb hbox hg)); try go_wp2_with (first | ((with_reducible refine gD (N:=3) rfl ?_); refine bE 3 #[.int .i64 a1_0, .int .i64 a1_1, .int .i64 a1_2, .int .i64 a1_3] 51 ?_; intro gb452 hg w3 hbox hb; have BK452 := aM hbox; have GW452 := bZ hg HB; have GE452 := bZ hg HB; replace HB := bS HB hb; clear hb hbox hg)))
 go_loopg [8] k (fun kq v8 w' => ∃ (x8_1 : Int), v8 = .int .i64 x8_1 ∧ Aside0 (impl_Mat_151.l0 kq l0 (l0.length : Int) x8_1 a1_0 a1_1 a1_2 a1_3 = some r) ∧ Aside0 (kq ≤ k) ∧ Aside0 (w'.heap[gb452]? = some (.cells #[.int .i64 a1_0, .int .i64 a1_1, .int .i64 a1_2, .int .i64 a1_3] 51 (0, 0))) ∧ Aside0 (Below w.heap.size w w'))
 case atStart => exact ⟨(0), (by first | rfl | (simp; done) | (simp [*]; done)), H', ⟨Nat.le_refl _⟩, ⟨bk BK452⟩, ⟨qB⟩⟩
 case round =>
  clear H'
  try clear c1
  try clear p2
  obtain ⟨x8_1, rfl, HA, HK1, BK452, HB⟩ := hrel
  cases gk with
  | zero => exact absurd HA.out (by simp [impl_Mat_151.l0])
  | succ k1 =>
   have H := HA.out
   clear HA
   simp only [impl_Mat_151.l0] at H
   by_cases c4 : x8_1 < (l0.length : Int)
   ·rw [if_pos c4] at H
    have c4b0 : decide (x8_1 < (l0.length : Int)) = true := decide_eq_true c4
    clear c4
    by_cases c5 : 0 ≤ x8_1
    ·rw [if_pos c5] at H
     have c5b0 : decide (0 ≤ x8_1) = true := decide_eq_true c5
     clear c5
     by_cases c6 : x8_1 < (l0.length : Int)
     ·rw [if_pos c6] at H
      have c6b0 : decide (x8_1 < (l0.length : Int)) = true := decide_eq_true c6
      clear c6
      by_cases c7 : (a1_0 == ((rd_T51 l0 x8_1).f0) && (a1_1 == ((rd_T51 l0 x8_1).f1) && (a1_2 == ((rd_T51 l0 x8_1).f2) && (a1_3 == ((rd_T51 l0 x8_1).f3))))) = true
      ·rw [if_pos c7] at H
       have c7b0 : (a1_0 == ((rd_T51 l0 x8_1).f0) && (a1_1 == ((rd_T51 l0 x8_1).f1) && (a1_2 == ((rd_T51 l0 x8_1).f2) && (a1_3 == ((rd_T51 l0 x8_1).f3))))) = true := c7
       (try (have c7b1 : decide (a1_0 = ((rd_T51 l0 x8_1).f0) && (a1_1 == ((rd_T51 l0 x8_1).f1) && (a1_2 == ((rd_T51 l0 x8_1).f2) && (a1_3 == ((rd_T51 l0 x8_1).f3))))) = true := by simpa using c7))
       (try (have c7b2 : (a1_0 == ((rd_T51 l0 x8_1).f0) && (a1_1 == ((rd_T51 l0 x8_1).f1) && (a1_2 == ((rd_T51 l0 x8_1).f2) && (a1_3 == ((rd_T51 l0 x8_1).f3))))) = true := by simpa using c7))
       clear c7
       obtain rfl := Option.some.inj H
       obtain ⟨hcz8_0, hcz8_1, hcz8_2, hcz8_3⟩ := z4 BK452
       obtain ⟨hfz8_0, hfz8_1, hfz8_2, hfz8_3⟩ := y4 BK452
       have p453 : 0 ≤ (x8_1 : Int) := of_decide_eq_true (by first | (with_reducible assumption) | assumption)
       have q453 : x8_1 < (l0.length : Int) := of_decide_eq_true (by first | (with_reducible assumption) | assumption)
       obtain ⟨ad453, e453, hx453_0, hx453_1, hx453_2, hx453_3⟩ := at_T51 HR0.out x8_1 p453 q453
       cases e453
       replace hx453_0 := (HB.out.cell (World.block_lt_of_cell? w _ hx453_0)).trans hx453_0
       replace hx453_1 := (HB.out.cell (World.block_lt_of_cell? w _ hx453_1)).trans hx453_1
       replace hx453_2 := (HB.out.cell (World.block_lt_of_cell? w _ hx453_2)).trans hx453_2
       replace hx453_3 := (HB.out.cell (World.block_lt_of_cell? w _ hx453_3)).trans hx453_3
       replace p453 := eq_true p453
       replace q453 := eq_true q453
       go_wp2
       repeat (go_quiet (fail); try go_wp2)
       go_ret
       exact ⟨qR, qB⟩
      ·rw [if_neg c7] at H
       have c7b0 : (a1_0 == ((rd_T51 l0 x8_1).f0) && (a1_1 == ((rd_T51 l0 x8_1).f1) && (a1_2 == ((rd_T51 l0 x8_1).f2) && (a1_3 == ((rd_T51 l0 x8_1).f3))))) = false := by simpa using c7
       (try (have c7b1 : decide (a1_0 = ((rd_T51 l0 x8_1).f0) && (a1_1 == ((rd_T51 l0 x8_1).f1) && (a1_2 == ((rd_T51 l0 x8_1).f2) && (a1_3 == ((rd_T51 l0 x8_1).f3))))) = false := by simpa using c7))
       (try (have c7b2 : (a1_0 == ((rd_T51 l0 x8_1).f0) && (a1_1 == ((rd_T51 l0 x8_1).f1) && (a1_2 == ((rd_T51 l0 x8_1).f2) && (a1_3 == ((rd_T51 l0 x8_1).f3))))) = false := by simpa using c7))
       (try (have c7b3 : ¬ (a1_0 = ((rd_T51 l0 x8_1).f0) && (a1_1 == ((rd_T51 l0 x8_1).f1) && (a1_2 == ((rd_T51 l0 x8_1).f2) && (a1_3 == ((rd_T51 l0 x8_1).f3))))) := by simpa using c7))
       clear c7
       have H' := aM H
       clear H
       obtain ⟨hcz9_0, hcz9_1, hcz9_2, hcz9_3⟩ := z4 BK452
       obtain ⟨hfz9_0, hfz9_1, hfz9_2, hfz9_3⟩ := y4 BK452
       have p453 : 0 ≤ (x8_1 : Int) := of_decide_eq_true (by first | (with_reducible assumption) | assumption)
       have q453 : x8_1 < (l0.length : Int) := of_decide_eq_true (by first | (with_reducible assumption) | assumption)
       obtain ⟨ad453, e453, hx453_0, hx453_1, hx453_2, hx453_3⟩ := at_T51 HR0.out x8_1 p453 q453
       cases e453
       replace hx453_0 := (HB.out.cell (World.block_lt_of_cell? w _ hx453_0)).trans hx453_0
       replace hx453_1 := (HB.out.cell (World.block_lt_of_cell? w _ hx453_1)).trans hx453_1
       replace hx453_2 := (HB.out.cell (World.block_lt_of_cell? w _ hx453_2)).trans hx453_2
       replace hx453_3 := (HB.out.cell (World.block_lt_of_cell? w _ hx453_3)).trans hx453_3
       replace p453 := eq_true p453
       replace q453 := eq_true q453
       go_wp2
       repeat (go_quiet (fail); try go_wp2)
       go_roundg k1
       case measure => have := HK1.out; omega
       case rel => exact ⟨(wrap64 (x8_1 + 1)), (by first | rfl | (simp; done) | (simp [*]; done)), H', ⟨by have := HK1.out; omega⟩, ⟨bk BK452⟩, ⟨qB⟩⟩
     ·rw [if_neg c6] at H
      exact absurd H (by simp)
    ·rw [if_neg c5] at H
     exact absurd H (by simp)
   ·rw [if_neg c4] at H
    have c4b0 : decide (x8_1 < (l0.length : Int)) = false := decide_eq_false c4
    clear c4
    obtain rfl := Option.some.inj H
    go_wp2
    repeat (go_quiet (fail); try go_wp2)
    go_ret
    exact ⟨qR, qB⟩

def impl_Mat_122.f (k : Nat) (l0 : List (S51)) (a1_0 : Int) (a1_1 : Int) (a1_2 : Int) (a1_3 : Int) : Option (Bool) := (impl_Mat_151.f k l0 a1_0 a1_1 a1_2 a1_3).bind fun t455 => (some (decide (t455 ≥ 0)))
set_option maxHeartbeats 8000000 in
set_option maxRecDepth 100000 in
theorem impl_Mat_122.calls (k : Nat) (A0 : Option Addr) (c0 : Nat) (l0 : List (S51)) (a1_0 : Int) (a1_1 : Int) (a1_2 : Int) (a1_3 : Int) (r : Bool) (w : World) (hr0 : Kd.C k51 w A0 l0.length l0) (hc0 : l0.length ≤ c0) (h : impl_Mat_122.f k l0 a1_0 a1_1 a1_2 a1_3 = some r) :
  Calls Try.prog 122 #[.slice A0 l0.length c0, .agg #[.int .i64 a1_0, .int .i64 a1_1, .int .i64 a1_2, .int .i64 a1_3]] w fun e w' => e = .returned (.bool r) ∧ Below w.heap.size w w' := by
 have hu51 := Try.underlying51
 have HR0 := aM hr0
 have HC0 := aM hc0
 clear hr0 hc0
 have HB := aM (Below.refl w.heap.size w)
 have H : ((impl_Mat_151.f k l0 a1_0 a1_1 a1_2 a1_3).bind fun t455 => (some (decide (t455 ≥ 0)))) = some r := h
 clear h
 obtain ⟨t455, A3, H⟩ := oB H
 try dsimp only at H
 obtain rfl := Option.some.inj H
 go_enter Try.func122, Try.ntmps122
 go_wp2_with (first | ((with_reducible refine gD (N:=3) rfl ?_); refine bE 3 #[.int .i64 a1_0, .int .i64 a1_1, .int .i64 a1_2, .int .i64 a1_3] 51 ?_; intro gb454 hg w4 hbox hb; have BK454 := aM hbox; have GW454 := bZ hg HB; have GE454 := bZ hg HB; replace HB := bS HB hb; clear hb hbox hg; obtain ⟨hcz5_0, hcz5_1, hcz5_2, hcz5_3⟩ := z4 BK454; obtain ⟨hfz5_0, hfz5_1, hfz5_2, hfz5_3⟩ := y4 BK454) | ((with_reducible refine gC (f:=151) rfl ?_); refine gM 7 (impl_Mat_151.calls k _ _ l0 a1_0 a1_1 a1_2 a1_3 t455 _ (cD (Kd.C_below HR0.out HB.out)) HC0.out A3.out) Try.func151 ?_; rintro w6 hb; replace BK454 := bB BK454 hb; replace HB := bS HB hb; (try clear hb)))
 go_ret
 exact ⟨qR, qB⟩

def impl_IsPointMat.f (k : Nat) (a0 : Int) (a1_0 : Int) (a1_1 : Int) (a1_2 : Int) (a1_3 : Int) : Option (Bool) := (impl_IsFrame.f a0).bind fun t457 => (if t457 = true then ((impl_pointMats.f k a0).bind fun t458 => ((impl_Mat_122.f k t458 a1_0 a1_1 a1_2 a1_3).bind fun t461 => (some t461))) else (some false))
def impl_IsPointMat.T1 : Bool × List (List Nat × List Nat) := (true, [([], []), ([0], [0]), ([1, 1], [1]), ([2], [2]), ([3, 2, 2], [2, 3]), ([2], [2]), ([4, 5, 4, 2], [2, 4, 5]), ([2, 6], [2, 6]), ([7, 6, 0, 1, 2, 3, 4, 5, 6, 7], [7])])
def impl_IsPointMat.B1 : List Nat := [0, 1, 3, 7, 15, 7, 63, 127, 255]
theorem impl_IsPointMat.tab1 : rtab .any (opsOf Try.f60 1) = impl_IsPointMat.T1 := by kernel_rfl
theorem impl_IsPointMat.bits1 : waitsOk impl_IsPointMat.T1.2 impl_IsPointMat.B1 = true := by kernel_rfl
set_option maxHeartbeats 8000000 in
set_option maxRecDepth 100000 in
theorem impl_IsPointMat.calls (k : Nat) (a0 : Int) (a1_0 : Int) (a1_1 : Int) (a1_2 : Int) (a1_3 : Int) (r : Bool) (w : World) (h : impl_IsPointMat.f k a0 a1_0 a1_1 a1_2 a1_3 = some r) :
  Calls Try.prog 60 #[.int .i64 a0, .agg #[.int .i64 a1_0, .int .i64 a1_1, .int .i64 a1_2, .int .i64 a1_3]] w fun e w' => e = .returned (.bool r) ∧ Below w.heap.size w w' := by
 have hu51 := Try.underlying51
 have HB := aM (Below.refl w.heap.size w)
 have H : ((impl_IsFrame.f a0).bind fun t457 => (if t457 = true then ((impl_pointMats.f k a0).bind fun t458 => ((impl_Mat_122.f k t458 a1_0 a1_1 a1_2 a1_3).bind fun t461 => (some t461))) else (some false))) = some r := h
 clear h
 obtain ⟨t457, A3, H⟩ := oB H
 try dsimp only at H
 by_cases c4 : t457 = true
 ·subst c4
  have H1 : ((impl_pointMats.f k a0).bind fun t458 => ((impl_Mat_122.f k t458 a1_0 a1_1 a1_2 a1_3).bind fun t461 => (some t461))) = some r := by rw [if_pos rfl] at H; exact H
  clear H
  have H := H1
  clear H1
  obtain ⟨t458, A5, H⟩ := oB H
  try dsimp only at H
  obtain ⟨t461, A6, H⟩ := oB H
  try dsimp only at H
  obtain rfl := Option.some.inj H
  go_enter Try.func60, Try.ntmps60
  try go_wp2_with (first | ((with_reducible refine gD (N:=3) rfl ?_); refine bE 3 #[.int .i64 a1_0, .int .i64 a1_1, .int .i64 a1_2, .int .i64 a1_3] 51 ?_; intro gb456 hg w7 hbox hb; have BK456 := aM hbox; have GW456 := bZ hg HB; have GE456 := bZ hg HB; replace HB := bS HB hb; clear hb hbox hg))
  replace BK456 := aM (blk_drew BK456.out)
  replace HB := aM (below_drew1 HB.out)
  refine sT (fun w' => w'.cell? ⟨gb456, 0, none⟩ = some (.int .i64 a1_0) ∧ w'.cell? ⟨gb456, 1, none⟩ = some (.int .i64 a1_1) ∧ w'.cell? ⟨gb456, 2, none⟩ = some (.int .i64 a1_2) ∧ w'.cell? ⟨gb456, 3, none⟩ = some (.int .i64 a1_3)) [] ⟨cB BK456, cB BK456, cB BK456, cB BK456⟩ (fun hHeld => ?_); refine with_tabW impl_IsPointMat.tab1 impl_IsPointMat.bits1 (fun HT_ HW_ => ?_)
  generalize w7.drew = w8 at BK456 HB hHeld ⊢
  refine pU 0 (some 5) 1 HT_ ?_
  refine oU 1 (some 6) 3 HT_ (fun K hK => ?_)
  refine gO Try.func62 #[.int .i64 a0] ?_
  with_reducible refine (impl_IsFrame.calls a0 true _ A3.out).mono ?_
  rintro e w' ⟨rfl, ⟨nd, rfl⟩⟩
  refine ⟨_, rfl, ?_⟩
  refine hK.out _ _ ⟨cB BK456, cB BK456, cB BK456, cB BK456⟩ (fun hHeld => ?_)
  clear hK K
  refine nM 6 ?_
  refine pU 2 (some 7) 7 HT_ ?_
  refine pU 3 (some 8) 15 HT_ ?_
  refine tU 5 (some 10) 47 HT_ HW_ hHeld ?_
  refine oU 4 (some 9) 63 HT_ (fun K hK => ?_)
  refine gO Try.func114 #[.int .i64 a0] ?_
  with_reducible refine (impl_pointMats.calls k a0 t458 _ A5.out).mono ?_
  rintro e w9 ⟨v459, rfl, ho0, hb⟩
  refine ⟨_, rfl, ?_⟩
  have HO460 := aM (Kd.R_lower (Kd.R_newB ho0 (g := gb456) (o := .cells #[.int .i64 a1_0, .int .i64 a1_1, .int .i64 a1_2, .int .i64 a1_3] 51 (0, 0)) (bk BK456)) (below_size qB))
  replace BK456 := bB BK456 hb
  replace HB := bS HB hb
  (try clear hb)
  (try clear hb2)
  (try clear hk)
  (try clear hi)
  (try clear ho0)
  obtain ⟨Ao10, co10, eo10⟩ := Kd.R_slice HO460.out
  (first | subst eo10 | (injection eo10 with f1_ f2_ f3_; have f4_ := f1_.symm; have f5_ := f3_.symm; clear f1_ f2_ f3_; subst f4_; subst f5_))
  refine hK.out _ _ ⟨cB BK456, cB BK456, cB BK456, cB BK456⟩ (fun hHeld => ?_)
  clear hK K
  refine nM 9 ?_
  refine oU 6 (some 11) 127 HT_ (fun K hK => ?_)
  refine gO Try.func122 #[.slice Ao10 t458.length co10, .agg #[.int .i64 a1_0, .int .i64 a1_1, .int .i64 a1_2, .int .i64 a1_3]] ?_
  with_reducible refine (impl_Mat_122.calls k _ _ t458 a1_0 a1_1 a1_2 a1_3 t461 _ ?side1 ?side2 A6.out).mono ?_
  (case side1 => repeat (first | exact (Kd.R_reads' HO460.out).2.2 | (with_reducible refine Kd.C_alloc ?_ _) | (with_reducible refine Kd.C_drewN ?_ _) | (with_reducible refine Kd.C_drew ?_)))
  (case side2 => exact (Kd.R_reads' HO460.out).2.1)
  rintro e w11 ⟨rfl, hb⟩
  refine ⟨_, rfl, ?_⟩
  have n0_ := aM (Kd.R_below (by (with_reducible repeat (first | apply Kd.R_alloc | apply Kd.R_drewN | apply Kd.R_drew)); exact HO460.out) hb)
  have n1_ := bB BK456 hb
  have n2_ := bS HB hb
  clear HO460
  clear BK456
  clear HB
  have HO460 := n0_
  have BK456 := n1_
  have HB := n2_
  clear n0_ n1_ n2_
  (try clear hb)
  (try clear hb2)
  (try clear hk)
  (try clear hi)
  refine hK.out _ _ ⟨cB BK456, cB BK456, cB BK456, cB BK456⟩ (fun hHeld => ?_)
  clear hK K
  refine nM 11 ?_
  refine pU 7 (some 12) 255 HT_ ?_
  refine pU 8 (some 4) 511 HT_ ?_
  refine dN HT_ ?_
  try go_wp2
  go_ret
  exact ⟨qR, qB⟩
 ·replace c4 := Bool.eq_false_iff.mpr c4
  subst c4
  have H1 : (some false) = some r := by rw [if_neg (show ¬ (false = true) by decide)] at H; exact H
  clear H
  have H := H1
  clear H1
  obtain rfl := Option.some.inj H
  go_enter Try.func60, Try.ntmps60
  try go_wp2_with (first | ((with_reducible refine gD (N:=3) rfl ?_); refine bE 3 #[.int .i64 a1_0, .int .i64 a1_1, .int .i64 a1_2, .int .i64 a1_3] 51 ?_; intro gb456 hg w12 hbox hb; have BK456 := aM hbox; have GW456 := bZ hg HB; have GE456 := bZ hg HB; replace HB := bS HB hb; clear hb hbox hg))
  replace BK456 := aM (blk_drew BK456.out)
  replace HB := aM (below_drew1 HB.out)
  refine start_ (n := 9) (S := fun w' => True) (ds := []) (bz 9 0) (by kernel_rfl) rfl rfl trivial (fun hHeld => ?_); refine with_tabW impl_IsPointMat.tab1 impl_IsPointMat.bits1 (fun HT_ HW_ => ?_)
  generalize w12.drew = w13 at BK456 HB hHeld ⊢
  refine pU 0 (some 5) 1 HT_ ?_
  refine oU 1 (some 6) 3 HT_ (fun K hK => ?_)
  refine gO Try.func62 #[.int .i64 a0] ?_
  with_reducible refine (impl_IsFrame.calls a0 false _ A3.out).mono ?_
  rintro e w' ⟨rfl, ⟨nd, rfl⟩⟩
  refine ⟨_, rfl, ?_⟩
  refine hK.out _ _ trivial (fun hHeld => ?_)
  clear hK K
  refine nM 6 ?_
  refine pU 2 (some 7) 7 HT_ ?_
  refine pV 3 (some 8) 15 HT_ ?_
  refine pV 4 (some 9) 31 HT_ ?_
  refine pV 5 (some 10) 63 HT_ ?_
  refine pV 6 (some 11) 127 HT_ ?_
  refine pU 7 (some 12) 255 HT_ ?_
  refine pU 8 (some 4) 511 HT_ ?_
  refine dN HT_ ?_
  try go_wp2
  go_ret
  exact ⟨qR, qB⟩

def impl_Lattice_index.f (a0_0 : Int) (a0_1 : Int) (a0_2 : Int) : Option (Int) := some (wrap64 (a0_0 * a0_2))
set_option maxHeartbeats 8000000 in
set_option maxRecDepth 100000 in
theorem impl_Lattice_index.calls (a0_0 : Int) (a0_1 : Int) (a0_2 : Int) (r : Int) (w : World) (h : impl_Lattice_index.f a0_0 a0_1 a0_2 = some r) :
  Calls Try.prog 152 #[.agg #[.int .i64 a0_0, .int .i64 a0_1, .int .i64 a0_2]] w fun e w' => e = .returned (.int .i64 r) ∧ Below w.heap.size w w' := by
 have hu33 := Try.underlying33
 have HB := aM (Below.refl w.heap.size w)
 have H : (some (wrap64 (a0_0 * a0_2))) = some r := h
 clear h
 obtain rfl := Option.some.inj H
 go_enter Try.func152, Try.ntmps152
 go_wp2_with (first | ((with_reducible refine gD (N:=1) rfl ?_); refine bE 1 #[.int .i64 a0_0, .int .i64 a0_1, .int .i64 a0_2] 33 ?_; intro gb462 hg w2 hbox hb; have BK462 := aM hbox; have GW462 := bZ hg HB; have GE462 := bZ hg HB; replace HB := bS HB hb; clear hb hbox hg; obtain ⟨hcz3_0, hcz3_1, hcz3_2⟩ := z3 BK462; obtain ⟨hfz3_0, hfz3_1, hfz3_2⟩ := y3 BK462))
 go_ret
 exact ⟨qR, qB⟩

def impl_IsLattice.f (a0_0 : Int) (a0_1 : Int) (a0_2 : Int) : Option (Bool) := (impl_within.f a0_0 1 64).bind fun t464 => (if t464 = true then ((impl_within.f a0_2 1 64).bind fun t465 => (if t465 = true then ((impl_within.f a0_1 0 (wrap64 (a0_0 - 1))).bind fun t466 => (if t466 = true then ((impl_Lattice_index.f a0_0 a0_1 a0_2).bind fun t467 => (some (decide (t467 ≤ 64)))) else (some false))) else (some false))) else (some false))
set_option maxHeartbeats 8000000 in
set_option maxRecDepth 100000 in
theorem impl_IsLattice.calls (a0_0 : Int) (a0_1 : Int) (a0_2 : Int) (r : Bool) (w : World) (h : impl_IsLattice.f a0_0 a0_1 a0_2 = some r) :
  Calls Try.prog 133 #[.agg #[.int .i64 a0_0, .int .i64 a0_1, .int .i64 a0_2]] w fun e w' => e = .returned (.bool r) ∧ Below w.heap.size w w' := by
 have hu33 := Try.underlying33
 have HB := aM (Below.refl w.heap.size w)
 have H : ((impl_within.f a0_0 1 64).bind fun t464 => (if t464 = true then ((impl_within.f a0_2 1 64).bind fun t465 => (if t465 = true then ((impl_within.f a0_1 0 (wrap64 (a0_0 - 1))).bind fun t466 => (if t466 = true then ((impl_Lattice_index.f a0_0 a0_1 a0_2).bind fun t467 => (some (decide (t467 ≤ 64)))) else (some false))) else (some false))) else (some false))) = some r := h
 clear h
 obtain ⟨t464, A2, H⟩ := oB H
 try dsimp only at H
 by_cases c3 : t464 = true
 ·subst c3
  have H1 : ((impl_within.f a0_2 1 64).bind fun t465 => (if t465 = true then ((impl_within.f a0_1 0 (wrap64 (a0_0 - 1))).bind fun t466 => (if t466 = true then ((impl_Lattice_index.f a0_0 a0_1 a0_2).bind fun t467 => (some (decide (t467 ≤ 64)))) else (some false))) else (some false))) = some r := by rw [if_pos rfl] at H; exact H
  clear H
  have H := H1
  clear H1
  obtain ⟨t465, A4, H⟩ := oB H
  try dsimp only at H
  by_cases c5 : t465 = true
  ·subst c5
   have H1 : ((impl_within.f a0_1 0 (wrap64 (a0_0 - 1))).bind fun t466 => (if t466 = true then ((impl_Lattice_index.f a0_0 a0_1 a0_2).bind fun t467 => (some (decide (t467 ≤ 64)))) else (some false))) = some r := by rw [if_pos rfl] at H; exact H
   clear H
   have H := H1
   clear H1
   obtain ⟨t466, A6, H⟩ := oB H
   try dsimp only at H
   by_cases c7 : t466 = true
   ·subst c7
    have H1 : ((impl_Lattice_index.f a0_0 a0_1 a0_2).bind fun t467 => (some (decide (t467 ≤ 64)))) = some r := by rw [if_pos rfl] at H; exact H
    clear H
    have H := H1
    clear H1
    obtain ⟨t467, A8, H⟩ := oB H
    try dsimp only at H
    obtain rfl := Option.some.inj H
    go_enter Try.func133, Try.ntmps133
    go_wp2_with (first | ((with_reducible refine gD (N:=1) rfl ?_); refine bE 1 #[.int .i64 a0_0, .int .i64 a0_1, .int .i64 a0_2] 33 ?_; intro gb463 hg w9 hbox hb; have BK463 := aM hbox; have GW463 := bZ hg HB; have GE463 := bZ hg HB; replace HB := bS HB hb; clear hb hbox hg; obtain ⟨hcz10_0, hcz10_1, hcz10_2⟩ := z3 BK463; obtain ⟨hfz10_0, hfz10_1, hfz10_2⟩ := y3 BK463) | ((with_reducible refine gC (f:=72) rfl ?_); refine gM 5 (impl_within.calls a0_0 1 64 true _ A2.out) Try.func72 ?_; rintro w' ⟨⟨nd, rfl⟩⟩) | (go_at_call 72; (with_reducible refine (impl_within.calls a0_2 1 64 true _ A4.out).mono ?_); rintro e w' ⟨rfl, ⟨nd, rfl⟩⟩) | (go_at_call 72; (with_reducible refine (impl_within.calls a0_1 0 (wrap64 (a0_0 - 1)) true _ A6.out).mono ?_); rintro e w' ⟨rfl, ⟨nd, rfl⟩⟩) | (go_at_call 152; (with_reducible refine (impl_Lattice_index.calls a0_0 a0_1 a0_2 t467 _ A8.out).mono ?_); rintro e w11 ⟨rfl, hb⟩; replace BK463 := bB BK463 hb; replace HB := bS HB hb; (try clear hb)))
    go_ret
    exact ⟨qR, qB⟩
   ·replace c7 := Bool.eq_false_iff.mpr c7
    subst c7
    have H1 : (some false) = some r := by rw [if_neg (show ¬ (false = true) by decide)] at H; exact H
    clear H
    have H := H1
    clear H1
    obtain rfl := Option.some.inj H
    go_enter Try.func133, Try.ntmps133
    go_wp2_with (first | ((with_reducible refine gD (N:=1) rfl ?_); refine bE 1 #[.int .i64 a0_0, .int .i64 a0_1, .int .i64 a0_2] 33 ?_; intro gb463 hg w12 hbox hb; have BK463 := aM hbox; have GW463 := bZ hg HB; have GE463 := bZ hg HB; replace HB := bS HB hb; clear hb hbox hg; obtain ⟨hcz13_0, hcz13_1, hcz13_2⟩ := z3 BK463; obtain ⟨hfz13_0, hfz13_1, hfz13_2⟩ := y3 BK463) | ((with_reducible refine gC (f:=72) rfl ?_); refine gM 5 (impl_within.calls a0_0 1 64 true _ A2.out) Try.func72 ?_; rintro w' ⟨⟨nd, rfl⟩⟩) | (go_at_call 72; (with_reducible refine (impl_within.calls a0_2 1 64 true _ A4.out).mono ?_); rintro e w' ⟨rfl, ⟨nd, rfl⟩⟩) | (go_at_call 72; (with_reducible refine (impl_within.calls a0_1 0 (wrap64 (a0_0 - 1)) false _ A6.out).mono ?_); rintro e w' ⟨rfl, ⟨nd, rfl⟩⟩))
    go_ret
    exact ⟨qR, qB⟩
  ·replace c5 := Bool.eq_false_iff.mpr c5
   subst c5
   have H1 : (some false) = some r := by rw [if_neg (show ¬ (false = true) by decide)] at H; exact H
   clear H
   have H := H1
   clear H1
   obtain rfl := Option.some.inj H
   go_enter Try.func133, Try.ntmps133
   go_wp2_with (first | ((with_reducible refine gD (N:=1) rfl ?_); refine bE 1 #[.int .i64 a0_0, .int .i64 a0_1, .int .i64 a0_2] 33 ?_; intro gb463 hg w14 hbox hb; have BK463 := aM hbox; have GW463 := bZ hg HB; have GE463 := bZ hg HB; replace HB := bS HB hb; clear hb hbox hg; obtain ⟨hcz15_0, hcz15_1, hcz15_2⟩ := z3 BK463; obtain ⟨hfz15_0, hfz15_1, hfz15_2⟩ := y3 BK463) | ((with_reducible refine gC (f:=72) rfl ?_); refine gM 5 (impl_within.calls a0_0 1 64 true _ A2.out) Try.func72 ?_; rintro w' ⟨⟨nd, rfl⟩⟩) | (go_at_call 72; (with_reducible refine (impl_within.calls a0_2 1 64 false _ A4.out).mono ?_); rintro e w' ⟨rfl, ⟨nd, rfl⟩⟩))
   go_ret
   exact ⟨qR, qB⟩
 ·replace c3 := Bool.eq_false_iff.mpr c3
  subst c3
  have H1 : (some false) = some r := by rw [if_neg (show ¬ (false = true) by decide)] at H; exact H
  clear H
  have H := H1
  clear H1
  obtain rfl := Option.some.inj H
  go_enter Try.func133, Try.ntmps133
  go_wp2_with (first | ((with_reducible refine gD (N:=1) rfl ?_); refine bE 1 #[.int .i64 a0_0, .int .i64 a0_1, .int .i64 a0_2] 33 ?_; intro gb463 hg w16 hbox hb; have BK463 := aM hbox; have GW463 := bZ hg HB; have GE463 := bZ hg HB; replace HB := bS HB hb; clear hb hbox hg; obtain ⟨hcz17_0, hcz17_1, hcz17_2⟩ := z3 BK463; obtain ⟨hfz17_0, hfz17_1, hfz17_2⟩ := y3 BK463) | ((with_reducible refine gC (f:=72) rfl ?_); refine gM 5 (impl_within.calls a0_0 1 64 false _ A2.out) Try.func72 ?_; rintro w' ⟨⟨nd, rfl⟩⟩))
  go_ret
  exact ⟨qR, qB⟩

def impl_frameCode.f (a0 : Int) (a1_0 : Int) (a1_1 : Int) (a1_2 : Int) : Option (Int) := (impl_IsFrame.f a0).bind fun t469 => (if t469 = true then ((impl_IsLattice.f a1_0 a1_1 a1_2).bind fun t470 => (if t470 = true then (some 0) else (some 1))) else (some 1))
set_option maxHeartbeats 8000000 in
set_option maxRecDepth 100000 in
theorem impl_frameCode.calls (a0 : Int) (a1_0 : Int) (a1_1 : Int) (a1_2 : Int) (r : Int) (w : World) (h : impl_frameCode.f a0 a1_0 a1_1 a1_2 = some r) :
  Calls Try.prog 80 #[.int .i64 a0, .agg #[.int .i64 a1_0, .int .i64 a1_1, .int .i64 a1_2]] w fun e w' => e = .returned (.int .i64 r) ∧ Below w.heap.size w w' := by
 have hu33 := Try.underlying33
 have HB := aM (Below.refl w.heap.size w)
 have H : ((impl_IsFrame.f a0).bind fun t469 => (if t469 = true then ((impl_IsLattice.f a1_0 a1_1 a1_2).bind fun t470 => (if t470 = true then (some 0) else (some 1))) else (some 1))) = some r := h
 clear h
 obtain ⟨t469, A3, H⟩ := oB H
 try dsimp only at H
 by_cases c4 : t469 = true
 ·subst c4
  have H1 : ((impl_IsLattice.f a1_0 a1_1 a1_2).bind fun t470 => (if t470 = true then (some 0) else (some 1))) = some r := by rw [if_pos rfl] at H; exact H
  clear H
  have H := H1
  clear H1
  obtain ⟨t470, A5, H⟩ := oB H
  try dsimp only at H
  by_cases c6 : t470 = true
  ·subst c6
   have H1 : (some 0) = some r := by rw [if_pos rfl] at H; exact H
   clear H
   have H := H1
   clear H1
   obtain rfl := Option.some.inj H
   go_enter Try.func80, Try.ntmps80
   go_wp2_with (first | ((with_reducible refine gD (N:=3) rfl ?_); refine bE 3 #[.int .i64 a1_0, .int .i64 a1_1, .int .i64 a1_2] 33 ?_; intro gb468 hg w7 hbox hb; have BK468 := aM hbox; have GW468 := bZ hg HB; have GE468 := bZ hg HB; replace HB := bS HB hb; clear hb hbox hg) | ((with_reducible refine gC (f:=62) rfl ?_); refine gM 6 (impl_IsFrame.calls a0 true _ A3.out) Try.func62 ?_; rintro w' ⟨⟨nd, rfl⟩⟩; obtain ⟨hcz8_0, hcz8_1, hcz8_2⟩ := z3 BK468; obtain ⟨hfz8_0, hfz8_1, hfz8_2⟩ := y3 BK468) | (go_at_call 133; (with_reducible refine (impl_IsLattice.calls a1_0 a1_1 a1_2 true _ A5.out).mono ?_); rintro e w9 ⟨rfl, hb⟩; replace BK468 := bB BK468 hb; replace HB := bS HB hb; (try clear hb)))
   go_ret
   exact ⟨qR, qB⟩
  ·replace c6 := Bool.eq_false_iff.mpr c6
   subst c6
   have H1 : (some 1) = some r := by rw [if_neg (show ¬ (false = true) by decide)] at H; exact H
   clear H
   have H := H1
   clear H1
   obtain rfl := Option.some.inj H
   go_enter Try.func80, Try.ntmps80
   go_wp2_with (first | ((with_reducible refine gD (N:=3) rfl ?_); refine bE 3 #[.int .i64 a1_0, .int .i64 a1_1, .int .i64 a1_2] 33 ?_; intro gb468 hg w10 hbox hb; have BK468 := aM hbox; have GW468 := bZ hg HB; have GE468 := bZ hg HB; replace HB := bS HB hb; clear hb hbox hg) | ((with_reducible refine gC (f:=62) rfl ?_); refine gM 6 (impl_IsFrame.calls a0 true _ A3.out) Try.func62 ?_; rintro w' ⟨⟨nd, rfl⟩⟩; obtain ⟨hcz11_0, hcz11_1, hcz11_2⟩ := z3 BK468; obtain ⟨hfz11_0, hfz11_1, hfz11_2⟩ := y3 BK468) | (go_at_call 133; (with_reducible refine (impl_IsLattice.calls a1_0 a1_1 a1_2 false _ A5.out).mono ?_); rintro e w12 ⟨rfl, hb⟩; replace BK468 := bB BK468 hb; replace HB := bS HB hb; (try clear hb)))
   go_ret
   exact ⟨qR, qB⟩
 ·replace c4 := Bool.eq_false_iff.mpr c4
  subst c4
  have H1 : (some 1) = some r := by rw [if_neg (show ¬ (false = true) by decide)] at H; exact H
  clear H
  have H := H1
  clear H1
  obtain rfl := Option.some.inj H
  go_enter Try.func80, Try.ntmps80
  go_wp2_with (first | ((with_reducible refine gD (N:=3) rfl ?_); refine bE 3 #[.int .i64 a1_0, .int .i64 a1_1, .int .i64 a1_2] 33 ?_; intro gb468 hg w13 hbox hb; have BK468 := aM hbox; have GW468 := bZ hg HB; have GE468 := bZ hg HB; replace HB := bS HB hb; clear hb hbox hg) | ((with_reducible refine gC (f:=62) rfl ?_); refine gM 6 (impl_IsFrame.calls a0 false _ A3.out) Try.func62 ?_; rintro w' ⟨⟨nd, rfl⟩⟩))
  go_ret
  exact ⟨qR, qB⟩

end Go.Proofs.Ytcjchihnopmplaa.F

import Derived.Test.YtcjchihnopmplaaP0
namespace Go.Proofs.Ytcjchihnopmplaa.F
open Go.RowKit Go.Proofs.YtcjchihnopmplaaW.PrintWords Go.Proofs.YtcjchihnopmplaaW.PrintLast Go.Proofs.YtcjchihnopmplaaW.PrintMore
attribute [local go_sem] max2_int min2_int max_two min_two max_three min_three max_four min_four   -- for this text's walks alone
set_option linter.unusedVariables false
set_option linter.unusedSimpArgs false

def spec_l02Det.f (a0_0 : Int) (a0_1 : Int) (a0_2 : Int) (a0_3 : Int) : Option (Int) := some (wrap64 ((wrap64 (a0_0 * a0_3)) - (wrap64 (a0_1 * a0_2))))
set_option maxHeartbeats 8000000 in
set_option maxRecDepth 100000 in
theorem spec_l02Det.calls (a0_0 : Int) (a0_1 : Int) (a0_2 : Int) (a0_3 : Int) (r : Int) (w : World) (h : spec_l02Det.f a0_0 a0_1 a0_2 a0_3 = some r) :
  Calls Try.prog 103 #[.agg #[.int .i64 a0_0, .int .i64 a0_1, .int .i64 a0_2, .int .i64 a0_3]] w fun e w' => e = .returned (.int .i64 r) ∧ Below w.heap.size w w' := by
 have hu51 := Try.underlying51
 have HB := aM (Below.refl w.heap.size w)
 have H : (some (wrap64 ((wrap64 (a0_0 * a0_3)) - (wrap64 (a0_1 * a0_2))))) = some r := h
 clear h
 obtain rfl := Option.some.inj H
 go_enter Try.func103, Try.ntmps103
 go_wp2_with (first | ((with_reducible refine gD (N:=1) rfl ?_); refine bE 1 #[.int .i64 a0_0, .int .i64 a0_1, .int .i64 a0_2, .int .i64 a0_3] 51 ?_; intro gb261 hg w2 hbox hb; have BK261 := aM hbox; have GW261 := bZ hg HB; have GE261 := bZ hg HB; replace HB := bS HB hb; clear hb hbox hg; obtain ⟨hcz3_0, hcz3_1, hcz3_2, hcz3_3⟩ := z4 BK261; obtain ⟨hfz3_0, hfz3_1, hfz3_2, hfz3_3⟩ := y4 BK261))
 go_ret
 exact ⟨qR, qB⟩

def spec_l02Inverse.f (a0_0 : Int) (a0_1 : Int) (a0_2 : Int) (a0_3 : Int) : Option (Int × Int × Int × Int) := (spec_l02Det.f a0_0 a0_1 a0_2 a0_3).bind fun t264 => (some (wrap64 (t264 * a0_3), wrap64 ((wrap64 (-t264)) * a0_1), wrap64 ((wrap64 (-t264)) * a0_2), wrap64 (t264 * a0_0)))
set_option maxHeartbeats 8000000 in
set_option maxRecDepth 100000 in
theorem spec_l02Inverse.calls (a0_0 : Int) (a0_1 : Int) (a0_2 : Int) (a0_3 : Int) (r1 : Int) (r2 : Int) (r3 : Int) (r4 : Int) (w : World) (h : spec_l02Inverse.f a0_0 a0_1 a0_2 a0_3 = some (r1, r2, r3, r4)) :
  Calls Try.prog 94 #[.agg #[.int .i64 a0_0, .int .i64 a0_1, .int .i64 a0_2, .int .i64 a0_3]] w fun e w' => e = .returned (.agg #[.int .i64 r1, .int .i64 r2, .int .i64 r3, .int .i64 r4]) ∧ Below w.heap.size w w' := by
 have hu51 := Try.underlying51
 have HB := aM (Below.refl w.heap.size w)
 have H : ((spec_l02Det.f a0_0 a0_1 a0_2 a0_3).bind fun t264 => (some (wrap64 (t264 * a0_3), wrap64 ((wrap64 (-t264)) * a0_1), wrap64 ((wrap64 (-t264)) * a0_2), wrap64 (t264 * a0_0)))) = some (r1, r2, r3, r4) := h
 clear h
 obtain ⟨t264, A2, H⟩ := oB H
 try dsimp only at H
 simp only [Option.some.injEq, Prod.mk.injEq] at H
 obtain ⟨rfl, rfl, rfl, rfl⟩ := H
 go_enter Try.func94, Try.ntmps94
 go_wp2_with (first | ((with_reducible refine gD (N:=1) rfl ?_); refine bE 1 #[.int .i64 a0_0, .int .i64 a0_1, .int .i64 a0_2, .int .i64 a0_3] 51 ?_; intro gb262 hg w3 hbox hb; have BK262 := aM hbox; have GW262 := bZ hg HB; have GE262 := bZ hg HB; replace HB := bS HB hb; clear hb hbox hg) | ((with_reducible refine gD (N:=2) rfl ?_); refine bE 2 #[.int .i64 0, .int .i64 0, .int .i64 0, .int .i64 0] 51 ?_; intro gb263 hg w4 hbox hb; have BK263 := aM hbox; have GW263 := bZ hg HB; have GE263 := bZ hg HB; have NB262_263 := nL hg BK262; have NB263_262 := nG hg BK262; replace BK262 := bB BK262 hb; replace HB := bS HB hb; clear hb hbox hg; have hnb5 := NB262_263.out; have hnc5 := NB263_262.out; obtain ⟨hcz6_0, hcz6_1, hcz6_2, hcz6_3⟩ := z4 BK262; obtain ⟨hfz6_0, hfz6_1, hfz6_2, hfz6_3⟩ := y4 BK262) | ((with_reducible refine gC (f:=103) rfl ?_); refine gM 5 (spec_l02Det.calls a0_0 a0_1 a0_2 a0_3 t264 _ A2.out) Try.func103 ?_; rintro w7 hb; replace BK262 := bB BK262 hb; replace BK263 := bB BK263 hb; replace HB := bS HB hb; (try clear hb); obtain ⟨hcz8_0, hcz8_1, hcz8_2, hcz8_3⟩ := z4 BK262; obtain ⟨hfz8_0, hfz8_1, hfz8_2, hfz8_3⟩ := y4 BK262; obtain ⟨hcz9_0, hcz9_1, hcz9_2, hcz9_3⟩ := z4 BK263; obtain ⟨hfz9_0, hfz9_1, hfz9_2, hfz9_3⟩ := y4 BK263))
 refine bodyPost_ret (results_cell_row rfl _ _ gb263 51 #[.int .i64 (wrap64 (t264 * a0_3)), .int .i64 (wrap64 ((wrap64 (-t264)) * a0_1)), .int .i64 (wrap64 ((wrap64 (-t264)) * a0_2)), .int .i64 (wrap64 (t264 * a0_0))] (0, 0) _ rfl (by (with_reducible repeat (first|apply kN|apply kD|apply kA)); refine blk_put (cs := #[.int .i64 (wrap64 (t264 * a0_3)), .int .i64 (wrap64 ((wrap64 (-t264)) * a0_1)), .int .i64 (wrap64 ((wrap64 (-t264)) * a0_2)), .int .i64 0]) ?_ 3 _ rfl; (with_reducible repeat (first|apply kN|apply kD|apply kA)); refine blk_put (cs := #[.int .i64 (wrap64 (t264 * a0_3)), .int .i64 (wrap64 ((wrap64 (-t264)) * a0_1)), .int .i64 0, .int .i64 0]) ?_ 2 _ rfl; (with_reducible repeat (first|apply kN|apply kD|apply kA)); refine blk_put (cs := #[.int .i64 (wrap64 (t264 * a0_3)), .int .i64 0, .int .i64 0, .int .i64 0]) ?_ 1 _ rfl; (with_reducible repeat (first|apply kN|apply kD|apply kA)); refine blk_put (cs := #[.int .i64 0, .int .i64 0, .int .i64 0, .int .i64 0]) ?_ 0 _ rfl; (with_reducible repeat (first|apply kN|apply kD|apply kA)); exact BK263.out) Try.underlying51 rfl (by kernel_rfl)) rfl ?_
 exact ⟨qR, qB⟩

end Go.Proofs.Ytcjchihnopmplaa.F

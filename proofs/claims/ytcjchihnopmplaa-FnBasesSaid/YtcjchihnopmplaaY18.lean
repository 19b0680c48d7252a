import Derived.Test.YtcjchihnopmplaaY0
namespace Go.Proofs.Ytcjchihnopmplaa.F
open Go.RowKit Go.Proofs.YtcjchihnopmplaaW.PrintWords Go.Proofs.YtcjchihnopmplaaW.PrintLast Go.Proofs.YtcjchihnopmplaaW.PrintMore
attribute [local go_sem] max2_int min2_int max_two min_two max_three min_three max_four min_four   -- for this text's walks alone
set_option linter.unusedVariables false
set_option linter.unusedSimpArgs false

def spec_l01Det.f (a0_0 : Int) (a0_1 : Int) (a1_0 : Int) (a1_1 : Int) : Option (Int) := some (wrap64 ((wrap64 (a0_0 * a1_1)) - (wrap64 (a0_1 * a1_0))))
set_option maxHeartbeats 8000000 in
set_option maxRecDepth 100000 in
theorem spec_l01Det.calls (a0_0 : Int) (a0_1 : Int) (a1_0 : Int) (a1_1 : Int) (r : Int) (w : World) (h : spec_l01Det.f a0_0 a0_1 a1_0 a1_1 = some r) :
  Calls Try.prog 127 #[.agg #[.int .i64 a0_0, .int .i64 a0_1], .agg #[.int .i64 a1_0, .int .i64 a1_1]] w fun e w' => e = .returned (.int .i64 r) ∧ Below w.heap.size w w' := by
 have hu47 := Try.underlying47
 have HB := aM (Below.refl w.heap.size w)
 have H : (some (wrap64 ((wrap64 (a0_0 * a1_1)) - (wrap64 (a0_1 * a1_0))))) = some r := h
 clear h
 obtain rfl := Option.some.inj H
 go_enter Try.func127, Try.ntmps127
 go_wp2_with (first | (refine bE 2 #[.int .i64 a0_0, .int .i64 a0_1] 47 ?_; intro gb812 hg w3 hbox hb; have BK812 := aM hbox; have GW812 := bZ hg HB; have GE812 := bZ hg HB; replace HB := bS HB hb; clear hb hbox hg) | (refine bE 3 #[.int .i64 a1_0, .int .i64 a1_1] 47 ?_; intro gb813 hg w4 hbox hb; have BK813 := aM hbox; have GW813 := bZ hg HB; have GE813 := bZ hg HB; have NB812_813 := nL hg BK812; have NB813_812 := nG hg BK812; replace BK812 := bB BK812 hb; replace HB := bS HB hb; clear hb hbox hg; have hnb5 := NB812_813.out; have hnc5 := NB813_812.out; obtain ⟨hcz6_0, hcz6_1⟩ := z2 BK812; obtain ⟨hfz6_0, hfz6_1⟩ := y2 BK812; obtain ⟨hcz7_0, hcz7_1⟩ := z2 BK813; obtain ⟨hfz7_0, hfz7_1⟩ := y2 BK813))
 go_ret
 exact ⟨qR, qB⟩

end Go.Proofs.Ytcjchihnopmplaa.F

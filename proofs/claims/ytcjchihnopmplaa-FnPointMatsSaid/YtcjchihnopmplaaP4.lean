import Derived.Test.YtcjchihnopmplaaP0
import Derived.Test.YtcjchihnopmplaaP1
import Derived.Test.YtcjchihnopmplaaP3
namespace Go.Proofs.Ytcjchihnopmplaa.F
open Go.RowKit Go.Proofs.YtcjchihnopmplaaW.PrintWords Go.Proofs.YtcjchihnopmplaaW.PrintLast Go.Proofs.YtcjchihnopmplaaW.PrintMore
attribute [local go_sem] max2_int min2_int max_two min_two max_three min_three max_four min_four   -- for this text's walks alone
set_option linter.unusedVariables false
set_option linter.unusedSimpArgs false

def impl_PointMats.f (k : Nat) (a0 : Int) : Option ((List (S51)) × Int) := (impl_IsFrame.f a0).bind fun t183 => (if t183 = true then ((impl_pointMats.f k a0).bind fun t184 => (some (t184, 0))) else (some (([] : List (S51)), 1)))
set_option maxHeartbeats 8000000 in
set_option maxRecDepth 100000 in
theorem impl_PointMats.calls (k : Nat) (a0 : Int) (r1 : List (S51)) (r2 : Int) (w : World) (h : impl_PointMats.f k a0 = some (r1, r2)) :
  Calls Try.prog 51 #[.int .i64 a0] w fun e w' => ∃ v0_ : Value, e = .returned (.tuple #[v0_, .int .i64 r2]) ∧ Kd.R k51 51 w' w.heap.size (fun _ => True) v0_ r1 ∧ Below w.heap.size w w' := by
 have HB := aM (Below.refl w.heap.size w)
 have H : ((impl_IsFrame.f a0).bind fun t183 => (if t183 = true then ((impl_pointMats.f k a0).bind fun t184 => (some (t184, 0))) else (some (([] : List (S51)), 1)))) = some (r1, r2) := h
 clear h
 obtain ⟨t183, A2, H⟩ := oB H
 try dsimp only at H
 by_cases c3 : t183 = true
 ·subst c3
  have H1 : ((impl_pointMats.f k a0).bind fun t184 => (some (t184, 0))) = some (r1, r2) := by rw [if_pos rfl] at H; exact H
  clear H
  have H := H1
  clear H1
  obtain ⟨t184, A4, H⟩ := oB H
  try dsimp only at H
  simp only [Option.some.injEq, Prod.mk.injEq] at H
  obtain ⟨rfl, rfl⟩ := H
  go_enter Try.func51, Try.ntmps51
  go_wp2_with (first | ((with_reducible refine gC (f:=62) rfl ?_); refine gM 5 (impl_IsFrame.calls a0 true _ A2.out) Try.func62 ?_; rintro w' ⟨⟨nd, rfl⟩⟩) | ((with_reducible refine gate_callee (f := 114) rfl ?_); refine goesL_ (some 8) rfl rfl Try.func114 (by kernel_rfl) rfl #[.int .i64 a0] rfl (by first|rfl|(simp only [List.map_toArray, List.map_cons, List.map_nil]; try rfl)) ?_; (with_reducible refine (impl_pointMats.calls k a0 t184 _ A4.out).mono ?_); rintro e w5 ⟨v185, rfl, ho0, hb⟩; refine ⟨_, rfl, ?_⟩; have HO186 := aM (Kd.R_lower ho0 (below_size qB)); replace HB := bS HB hb; (try clear hb); (try clear ho0)))
  go_ret2
  exact ⟨_, qR, by (with_reducible repeat (first | apply Kd.R_alloc | apply Kd.R_drewN | apply Kd.R_drew)); exact HO186.out, qB⟩
 ·replace c3 := Bool.eq_false_iff.mpr c3
  subst c3
  have H1 : (some (([] : List (S51)), 1)) = some (r1, r2) := by rw [if_neg (show ¬ (false = true) by decide)] at H; exact H
  clear H
  have H := H1
  clear H1
  simp only [Option.some.injEq, Prod.mk.injEq] at H
  obtain ⟨rfl, rfl⟩ := H
  go_enter Try.func51, Try.ntmps51
  go_wp2_with (first | ((with_reducible refine gC (f:=62) rfl ?_); refine gM 5 (impl_IsFrame.calls a0 false _ A2.out) Try.func62 ?_; rintro w' ⟨⟨nd, rfl⟩⟩))
  go_ret2
  exact ⟨_, qR, by first | exact Kd.R_nil _ _ _ _ _ | exact Kd.N_nil _ _ _ _ _ | exact Kd.V_nil _ _ _ _ _ | exact Kd.Q_nil _ _ _ _ _ | exact Kd.S_nil _ _ _ _ _, qB⟩

def spec_IsFrame.f (a0 : Int) : Option (Bool) := if a0 = 0 then (some true) else (some (a0 == 1))
set_option maxHeartbeats 8000000 in
set_option maxRecDepth 100000 in
theorem spec_IsFrame.calls (a0 : Int) (r : Bool) (w : World) (h : spec_IsFrame.f a0 = some r) :
  Calls Try.prog 63 #[.int .i64 a0] w fun e w' => e = .returned (.bool r) ∧ Drawn0 w w' := by
 have H : (if a0 = 0 then (some true) else (some (a0 == 1))) = some r := h
 clear h
 by_cases c2 : a0 = 0
 ·rw [if_pos c2] at H
  have c2b0 : (a0 == 0) = true := beq_iff_eq.mpr c2
  have c2b1 : (a0 != 0) = false := bne_eq_false_iff_eq.mpr c2
  clear c2
  obtain rfl := Option.some.inj H
  go_enter Try.func63, Try.ntmps63
  go_wp2
  go_ret
  exact ⟨by first | rfl | (simp; done) | (simp [*]; done), by repeat (first | exact Drawn0.refl _ | apply Drawn0.step)⟩
 ·rw [if_neg c2] at H
  have c2b0 : (a0 == 0) = false := beq_eq_false_iff_ne.mpr c2
  have c2b1 : (a0 != 0) = true := bne_iff_ne.mpr c2
  obtain rfl := Option.some.inj H
  go_enter Try.func63, Try.ntmps63
  go_wp2
  go_ret
  exact ⟨by first | rfl | (simp; done) | (simp [*]; done), by repeat (first | exact Drawn0.refl _ | apply Drawn0.step)⟩

def spec_l04Norm.f (a0 : Int) (a1_0 : Int) (a1_1 : Int) : Option (Int) := if a0 = 1 then (some (wrap64 ((wrap64 ((wrap64 (a1_0 * a1_0)) + (wrap64 (a1_1 * a1_1)))) + (wrap64 (a1_0 * a1_1))))) else (some (wrap64 ((wrap64 (a1_0 * a1_0)) + (wrap64 (a1_1 * a1_1)))))
set_option maxHeartbeats 8000000 in
set_option maxRecDepth 100000 in
theorem spec_l04Norm.calls (a0 : Int) (a1_0 : Int) (a1_1 : Int) (r : Int) (w : World) (h : spec_l04Norm.f a0 a1_0 a1_1 = some r) :
  Calls Try.prog 116 #[.int .i64 a0, .agg #[.int .i64 a1_0, .int .i64 a1_1]] w fun e w' => e = .returned (.int .i64 r) ∧ Below w.heap.size w w' := by
 have hu47 := Try.underlying47
 have HB := aM (Below.refl w.heap.size w)
 have H : (if a0 = 1 then (some (wrap64 ((wrap64 ((wrap64 (a1_0 * a1_0)) + (wrap64 (a1_1 * a1_1)))) + (wrap64 (a1_0 * a1_1))))) else (some (wrap64 ((wrap64 (a1_0 * a1_0)) + (wrap64 (a1_1 * a1_1)))))) = some r := h
 clear h
 by_cases c3 : a0 = 1
 ·rw [if_pos c3] at H
  have c3b0 : (a0 == 1) = true := beq_iff_eq.mpr c3
  have c3b1 : (a0 != 1) = false := bne_eq_false_iff_eq.mpr c3
  clear c3
  obtain rfl := Option.some.inj H
  go_enter Try.func116, Try.ntmps116
  go_wp2_with (first | ((with_reducible refine gD (N:=3) rfl ?_); refine bE 3 #[.int .i64 a1_0, .int .i64 a1_1] 47 ?_; intro gb187 hg w4 hbox hb; have BK187 := aM hbox; have GW187 := bZ hg HB; have GE187 := bZ hg HB; replace HB := bS HB hb; clear hb hbox hg; obtain ⟨hcz5_0, hcz5_1⟩ := z2 BK187; obtain ⟨hfz5_0, hfz5_1⟩ := y2 BK187))
  go_ret
  exact ⟨qR, qB⟩
 ·rw [if_neg c3] at H
  have c3b0 : (a0 == 1) = false := beq_eq_false_iff_ne.mpr c3
  have c3b1 : (a0 != 1) = true := bne_iff_ne.mpr c3
  obtain rfl := Option.some.inj H
  go_enter Try.func116, Try.ntmps116
  go_wp2_with (first | ((with_reducible refine gD (N:=3) rfl ?_); refine bE 3 #[.int .i64 a1_0, .int .i64 a1_1] 47 ?_; intro gb187 hg w6 hbox hb; have BK187 := aM hbox; have GW187 := bZ hg HB; have GE187 := bZ hg HB; replace HB := bS HB hb; clear hb hbox hg; obtain ⟨hcz7_0, hcz7_1⟩ := z2 BK187; obtain ⟨hfz7_0, hfz7_1⟩ := y2 BK187))
  go_ret
  exact ⟨qR, qB⟩

def spec_l01Add.f (a0_0 : Int) (a0_1 : Int) (a1_0 : Int) (a1_1 : Int) : Option (Int × Int) := some (wrap64 (a0_0 + a1_0), wrap64 (a0_1 + a1_1))
set_option maxHeartbeats 8000000 in
set_option maxRecDepth 100000 in
theorem spec_l01Add.calls (a0_0 : Int) (a0_1 : Int) (a1_0 : Int) (a1_1 : Int) (r1 : Int) (r2 : Int) (w : World) (h : spec_l01Add.f a0_0 a0_1 a1_0 a1_1 = some (r1, r2)) :
  Calls Try.prog 143 #[.agg #[.int .i64 a0_0, .int .i64 a0_1], .agg #[.int .i64 a1_0, .int .i64 a1_1]] w fun e w' => e = .returned (.agg #[.int .i64 r1, .int .i64 r2]) ∧ Below w.heap.size w w' := by
 have hu47 := Try.underlying47
 have HB := aM (Below.refl w.heap.size w)
 have H : (some (wrap64 (a0_0 + a1_0), wrap64 (a0_1 + a1_1))) = some (r1, r2) := h
 clear h
 simp only [Option.some.injEq, Prod.mk.injEq] at H
 obtain ⟨rfl, rfl⟩ := H
 go_enter Try.func143, Try.ntmps143
 go_wp2_with (first | ((with_reducible refine gD (N:=2) rfl ?_); refine bE 2 #[.int .i64 a0_0, .int .i64 a0_1] 47 ?_; intro gb188 hg w3 hbox hb; have BK188 := aM hbox; have GW188 := bZ hg HB; have GE188 := bZ hg HB; replace HB := bS HB hb; clear hb hbox hg) | ((with_reducible refine gD (N:=3) rfl ?_); refine bE 3 #[.int .i64 a1_0, .int .i64 a1_1] 47 ?_; intro gb189 hg w4 hbox hb; have BK189 := aM hbox; have GW189 := bZ hg HB; have GE189 := bZ hg HB; have NB188_189 := nL hg BK188; have NB189_188 := nG hg BK188; replace BK188 := bB BK188 hb; replace HB := bS HB hb; clear hb hbox hg) | ((with_reducible refine gD (N:=4) rfl ?_); refine bE 4 #[.int .i64 0, .int .i64 0] 47 ?_; intro gb190 hg w5 hbox hb; have BK190 := aM hbox; have GW190 := bZ hg HB; have GE190 := bZ hg HB; have NB188_190 := nL hg BK188; have NB190_188 := nG hg BK188; have NB189_190 := nL hg BK189; have NB190_189 := nG hg BK189; replace BK188 := bB BK188 hb; replace BK189 := bB BK189 hb; replace HB := bS HB hb; clear hb hbox hg; have hnb6 := NB188_189.out; have hnc6 := NB189_188.out; have hnb7 := NB188_190.out; have hnc7 := NB190_188.out; obtain ⟨hcz8_0, hcz8_1⟩ := z2 BK188; obtain ⟨hfz8_0, hfz8_1⟩ := y2 BK188; have hnb9 := NB189_190.out; have hnc9 := NB190_189.out; obtain ⟨hcz10_0, hcz10_1⟩ := z2 BK189; obtain ⟨hfz10_0, hfz10_1⟩ := y2 BK189; obtain ⟨hcz11_0, hcz11_1⟩ := z2 BK190; obtain ⟨hfz11_0, hfz11_1⟩ := y2 BK190))
 refine bodyPost_ret (results_cell_row rfl _ _ gb190 47 #[.int .i64 (wrap64 (a0_0 + a1_0)), .int .i64 (wrap64 (a0_1 + a1_1))] (0, 0) _ rfl (by (with_reducible repeat (first|apply kN|apply kD|apply kA)); refine blk_put (cs := #[.int .i64 (wrap64 (a0_0 + a1_0)), .int .i64 0]) ?_ 1 _ rfl; (with_reducible repeat (first|apply kN|apply kD|apply kA)); refine blk_put (cs := #[.int .i64 0, .int .i64 0]) ?_ 0 _ rfl; (with_reducible repeat (first|apply kN|apply kD|apply kA)); exact BK190.out) Try.underlying47 rfl (by kernel_rfl)) rfl ?_
 exact ⟨qR, qB⟩

end Go.Proofs.Ytcjchihnopmplaa.F

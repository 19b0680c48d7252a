import Derived.Test.YtalenihfajfdkaaF0
import Derived.Test.YtalenihfajfdkaaF3
namespace Go.Proofs.Ytalenihfajfdkaa.F
open Go.RowKit Go.Proofs.YtalenihfajfdkaaW.PrintWords Go.Proofs.YtalenihfajfdkaaW.PrintLast Go.Proofs.YtalenihfajfdkaaW.PrintMore
attribute [local go_sem] max2_int min2_int max_two min_two max_three min_three max_four min_four   -- for this text's walks alone
set_option linter.unusedVariables false
set_option linter.unusedSimpArgs false

/-! ### laws_FnExactIsFrame: function 4 -/
def laws_FnExactIsFrame.f (a0 : Int) : Option (Bool) := (spec_IsFrame.f a0).bind fun t102 => ((impl_IsFrame.f a0).bind fun t103 => (if (t103 != t102) = true then (some false) else (some true)))
set_option maxHeartbeats 8000000 in
set_option maxRecDepth 100000 in
theorem laws_FnExactIsFrame.calls (a0 : Int) (w : World) (h : laws_FnExactIsFrame.f a0 = some true) :
    Calls Try.prog 4 #[.int .i64 a0] w fun e w' => e = .returned (.bool true) ∧ Drawn0 w w' := by
  have H : ((spec_IsFrame.f a0).bind fun t102 => ((impl_IsFrame.f a0).bind fun t103 => (if (t103 != t102) = true then (some false) else (some true)))) = some true := h
  clear h
  replace H := Option.bind_eq_some_iff.mp H
  obtain ⟨t102, A20, H⟩ := H
  replace H : ((impl_IsFrame.f a0).bind fun t103 => (if (t103 != t102) = true then (some false) else (some true))) = some true := H
  have A2 := Aside0.mk A20
  clear A20
  replace H := Option.bind_eq_some_iff.mp H
  obtain ⟨t103, A30, H⟩ := H
  replace H : (if (t103 != t102) = true then (some false) else (some true)) = some true := H
  have A3 := Aside0.mk A30
  clear A30
  by_cases c4 : (t103 != t102) = true
  · rw [if_pos c4] at H
    have c4b0 : (t103 != t102) = true := c4
    (try (have c4b1 : decide (t103 = t102) = false := by simpa using c4))
    (try (have c4b2 : (t103 == t102) = false := by simpa using c4))
    (try (have c4b3 : ¬ (t103 = t102) := by simpa using c4))
    clear c4
    exact absurd (Option.some.inj H) (by decide)
  · rw [if_neg c4] at H
    have c4b0 : (t103 != t102) = false := by simpa using c4
    (try (have c4b1 : decide (t103 = t102) = true := by simpa using c4))
    (try (have c4b2 : (t103 == t102) = true := by simpa using c4))
    clear c4
    clear H
    go_enter Try.func4, Try.ntmps4
    go_wp2_with (first | ((with_reducible refine gate_callee (f := 9) rfl ?_); refine goesL_ (some 6) rfl rfl Try.func9 (by kernel_rfl) rfl #[.int .i64 a0] rfl (by (try simp only [List.map_toArray, List.map_cons, List.map_nil]); first | done | rfl | (simp only [List.length_drop, List.length_take]; rfl)) ?_; (with_reducible refine (spec_IsFrame.calls a0 t102 _ A2.out).mono ?_); rintro e w' ⟨rfl, ⟨nd, rfl⟩⟩; refine ⟨_, rfl, ?_⟩) | ((with_reducible refine gate_callee (f := 10) rfl ?_); refine goesL_ (some 8) rfl rfl Try.func10 (by kernel_rfl) rfl #[.int .i64 a0] rfl (by (try simp only [List.map_toArray, List.map_cons, List.map_nil]); first | done | rfl | (simp only [List.length_drop, List.length_take]; rfl)) ?_; (with_reducible refine (impl_IsFrame.calls a0 t103 _ A3.out).mono ?_); rintro e w' ⟨rfl, ⟨nd, rfl⟩⟩; refine ⟨_, rfl, ?_⟩))
    go_ret
    exact ⟨by first | rfl | (simp; done) | (simp [*]; done), by repeat (first | exact Drawn0.refl _ | apply Drawn0.step)⟩


end Go.Proofs.Ytalenihfajfdkaa.F

import Derived.Test.YtalenihfajfdkaaF0
import Derived.Test.YtalenihfajfdkaaF11
namespace Go.Proofs.Ytalenihfajfdkaa.F
open Go.RowKit Go.Proofs.YtalenihfajfdkaaW.PrintWords Go.Proofs.YtalenihfajfdkaaW.PrintLast Go.Proofs.YtalenihfajfdkaaW.PrintMore
attribute [local go_sem] max2_int min2_int max_two min_two max_three min_three max_four min_four   -- for this text's walks alone
set_option linter.unusedVariables false
set_option linter.unusedSimpArgs false

/-! ### laws_FnExactDivisorOf: function 7 -/
def laws_FnExactDivisorOf.f (k : Nat) (a0 : Int) (a1 : Int) : Option (Bool) := (spec_DivisorOf.f k a0 a1).bind fun bt150 => ((impl_DivisorOf.f k a0 a1).bind fun bt152 => (if bt152.1 = bt150.1 then (if bt152.2 = bt150.2 then (some true) else (some false)) else (some false)))
theorem laws_FnExactDivisorOf.mono : ∀ a0 a1 k, LeO (laws_FnExactDivisorOf.f k a0 a1) (laws_FnExactDivisorOf.f (k + 1) a0 a1) := by
  intro a0 a1 k
  unfold laws_FnExactDivisorOf.f
  repeat' first
      | (with_reducible exact impl_DivisorOf.mono _ _ _)
      | (with_reducible exact spec_DivisorOf.mono _ _ _)
      | (with_reducible exact LeO.refl _)
      | (with_reducible exact LeO.none _)
      | (with_reducible refine LeO.ite ?_ ?_)
      | (with_reducible refine LeO.bind ?_ (fun _ => ?_))
      | exact impl_DivisorOf.mono _ _ _
      | exact spec_DivisorOf.mono _ _ _
      | exact LeO.none _
      | refine LeO.ite ?_ ?_
      | refine LeO.bind ?_ (fun _ => ?_)
set_option maxHeartbeats 8000000 in
set_option maxRecDepth 100000 in
theorem laws_FnExactDivisorOf.calls (k : Nat) (a0 : Int) (a1 : Int) (w : World) (h : laws_FnExactDivisorOf.f k a0 a1 = some true) :
    Calls Try.prog 7 #[.int .i64 a0, .int .i64 a1] w fun e w' => e = .returned (.bool true) ∧ Below w.heap.size w w' := by
  have HB := Aside0.mk (Below.refl w.heap.size w)
  have H : ((spec_DivisorOf.f k a0 a1).bind fun bt150 => ((impl_DivisorOf.f k a0 a1).bind fun bt152 => (if bt152.1 = bt150.1 then (if bt152.2 = bt150.2 then (some true) else (some false)) else (some false)))) = some true := h
  clear h
  replace H := Option.bind_eq_some_iff.mp H
  obtain ⟨⟨t150, t151⟩, A30, H⟩ := H
  replace H : ((impl_DivisorOf.f k a0 a1).bind fun bt152 => (if bt152.1 = t150 then (if bt152.2 = t151 then (some true) else (some false)) else (some false))) = some true := H
  have A3 := Aside0.mk A30
  clear A30
  replace H := Option.bind_eq_some_iff.mp H
  obtain ⟨⟨t152, t153⟩, A40, H⟩ := H
  replace H : (if t152 = t150 then (if t153 = t151 then (some true) else (some false)) else (some false)) = some true := H
  have A4 := Aside0.mk A40
  clear A40
  by_cases c5 : t152 = t150
  · rw [if_pos c5] at H
    have c5b0 : (t152 == t150) = true := beq_iff_eq.mpr c5
    have c5b1 : (t152 != t150) = false := bne_eq_false_iff_eq.mpr c5
    clear c5
    by_cases c6 : t153 = t151
    · rw [if_pos c6] at H
      have c6b0 : (t153 == t151) = true := beq_iff_eq.mpr c6
      have c6b1 : (t153 != t151) = false := bne_eq_false_iff_eq.mpr c6
      clear c6
      clear H
      go_enter Try.func7, Try.ntmps7
      go_wp2_with (first | ((with_reducible refine gate_callee (f := 17) rfl ?_); refine goesL_ (some 12) rfl rfl Try.func17 (by kernel_rfl) rfl #[.int .i64 a0, .int .i64 a1] rfl (by (try simp only [List.map_toArray, List.map_cons, List.map_nil]); first | done | rfl | (simp only [List.length_drop, List.length_take]; rfl)) ?_; (with_reducible refine (spec_DivisorOf.calls k a0 a1 t150 t151 _ A3.out).mono ?_); rintro e w7 ⟨rfl, hb⟩; refine ⟨_, rfl, ?_⟩; have n0_ := Aside0.mk (below_step (by repeat (first | (with_reducible first | exact HB.out | apply below_alloc | apply pw_below_drewN | apply below_drew1) | exact HB.out)) hb); clear HB; have HB := n0_; clear n0_; (try clear hb); (try clear hb2); (try clear hk); (try clear hi)) | ((with_reducible refine gate_callee (f := 18) rfl ?_); refine goesL_ (some 18) rfl rfl Try.func18 (by kernel_rfl) rfl #[.int .i64 a0, .int .i64 a1] rfl (by (try simp only [List.map_toArray, List.map_cons, List.map_nil]); first | done | rfl | (simp only [List.length_drop, List.length_take]; rfl)) ?_; (with_reducible refine (impl_DivisorOf.calls k a0 a1 t152 t153 _ A4.out).mono ?_); rintro e w8 ⟨rfl, hb⟩; refine ⟨_, rfl, ?_⟩; have n0_ := Aside0.mk (below_step (by repeat (first | (with_reducible first | exact HB.out | apply below_alloc | apply pw_below_drewN | apply below_drew1) | exact HB.out)) hb); clear HB; have HB := n0_; clear n0_; (try clear hb); (try clear hb2); (try clear hk); (try clear hi)))
      go_ret
      exact ⟨by first | rfl | (simp [errW_none, errW_some] <;> rfl) | (simp [*, errW_none, errW_some] <;> rfl), by repeat (first | (with_reducible first | exact HB.out | apply below_alloc | apply pw_below_drewN | apply below_drew1) | exact HB.out)⟩
    · rw [if_neg c6] at H
      have c6b0 : (t153 == t151) = false := beq_eq_false_iff_ne.mpr c6
      have c6b1 : (t153 != t151) = true := bne_iff_ne.mpr c6
      exact absurd (Option.some.inj H) (by decide)
  · rw [if_neg c5] at H
    have c5b0 : (t152 == t150) = false := beq_eq_false_iff_ne.mpr c5
    have c5b1 : (t152 != t150) = true := bne_iff_ne.mpr c5
    exact absurd (Option.some.inj H) (by decide)

end Go.Proofs.Ytalenihfajfdkaa.F

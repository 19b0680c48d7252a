import Derived.Test.YtpkjgcafbkfbgaaF0
import Derived.Test.YtpkjgcafbkfbgaaF18
import Derived.Test.YtpkjgcafbkfbgaaF24
import Derived.Test.YtpkjgcafbkfbgaaF27
namespace Go.Proofs.Ytpkjgcafbkfbgaa.F
open Go.RowKit Go.Proofs.YtpkjgcafbkfbgaaW.PrintWords Go.Proofs.YtpkjgcafbkfbgaaW.PrintLast Go.Proofs.YtpkjgcafbkfbgaaW.PrintMore
attribute [local go_sem] max2_int min2_int max_two min_two max_three min_three max_four min_four   -- for this text's walks alone
set_option linter.unusedVariables false
set_option linter.unusedSimpArgs false

/-! ### laws_FnExactIsPointMat: function 9 -/
def laws_FnExactIsPointMat.f (k : Nat) (a0 : Int) (a1_0 : Int) (a1_1 : Int) (a1_2 : Int) (a1_3 : Int) : Option (Bool) := (laws_toMat.f a1_0 a1_1 a1_2 a1_3).bind fun bt395 => ((spec_IsPointMat.f a0 bt395.1 bt395.2.1 bt395.2.2.1 bt395.2.2.2).bind fun t399 => ((laws_toMat.f a1_0 a1_1 a1_2 a1_3).bind fun bt400 => ((impl_IsPointMat.f k a0 bt400.1 bt400.2.1 bt400.2.2.1 bt400.2.2.2).bind fun t404 => (if (t404 != t399) = true then (some false) else (some true)))))
theorem laws_FnExactIsPointMat.mono : ∀ a0 a1 a2 a3 a4 k, LeO (laws_FnExactIsPointMat.f k a0 a1 a2 a3 a4) (laws_FnExactIsPointMat.f (k + 1) a0 a1 a2 a3 a4) := by
  intro a0 a1 a2 a3 a4 k
  unfold laws_FnExactIsPointMat.f
  repeat' first
      | (with_reducible exact impl_IsPointMat.mono _ _ _ _ _ _)
      | (with_reducible exact LeO.refl _)
      | (with_reducible exact LeO.none _)
      | (with_reducible refine LeO.ite ?_ ?_)
      | (with_reducible refine LeO.bind ?_ (fun _ => ?_))
      | exact impl_IsPointMat.mono _ _ _ _ _ _
      | exact LeO.none _
      | refine LeO.ite ?_ ?_
      | refine LeO.bind ?_ (fun _ => ?_)
set_option maxHeartbeats 8000000 in
set_option maxRecDepth 100000 in
theorem laws_FnExactIsPointMat.calls (k : Nat) (a0 : Int) (a1_0 : Int) (a1_1 : Int) (a1_2 : Int) (a1_3 : Int) (w : World) (h : laws_FnExactIsPointMat.f k a0 a1_0 a1_1 a1_2 a1_3 = some true) :
    Calls Try.prog 9 #[.int .i64 a0, .agg #[.int .i64 a1_0, .int .i64 a1_1, .int .i64 a1_2, .int .i64 a1_3]] w fun e w' => e = .returned (.bool true) ∧ Below w.heap.size w w' := by
  have hu40 := Try.underlying40
  have HB := Aside0.mk (Below.refl w.heap.size w)
  have H : ((laws_toMat.f a1_0 a1_1 a1_2 a1_3).bind fun bt395 => ((spec_IsPointMat.f a0 bt395.1 bt395.2.1 bt395.2.2.1 bt395.2.2.2).bind fun t399 => ((laws_toMat.f a1_0 a1_1 a1_2 a1_3).bind fun bt400 => ((impl_IsPointMat.f k a0 bt400.1 bt400.2.1 bt400.2.2.1 bt400.2.2.2).bind fun t404 => (if (t404 != t399) = true then (some false) else (some true)))))) = some true := h
  clear h
  replace H := Option.bind_eq_some_iff.mp H
  obtain ⟨⟨t395, t396, t397, t398⟩, A30, H⟩ := H
  replace H : ((spec_IsPointMat.f a0 t395 t396 t397 t398).bind fun t399 => ((laws_toMat.f a1_0 a1_1 a1_2 a1_3).bind fun bt400 => ((impl_IsPointMat.f k a0 bt400.1 bt400.2.1 bt400.2.2.1 bt400.2.2.2).bind fun t404 => (if (t404 != t399) = true then (some false) else (some true))))) = some true := H
  have A3 := Aside0.mk A30
  clear A30
  replace H := Option.bind_eq_some_iff.mp H
  obtain ⟨t399, A40, H⟩ := H
  replace H : ((laws_toMat.f a1_0 a1_1 a1_2 a1_3).bind fun bt400 => ((impl_IsPointMat.f k a0 bt400.1 bt400.2.1 bt400.2.2.1 bt400.2.2.2).bind fun t404 => (if (t404 != t399) = true then (some false) else (some true)))) = some true := H
  have A4 := Aside0.mk A40
  clear A40
  replace H := Option.bind_eq_some_iff.mp H
  obtain ⟨⟨t400, t401, t402, t403⟩, A50, H⟩ := H
  replace H : ((impl_IsPointMat.f k a0 t400 t401 t402 t403).bind fun t404 => (if (t404 != t399) = true then (some false) else (some true))) = some true := H
  have A5 := Aside0.mk A50
  clear A50
  replace H := Option.bind_eq_some_iff.mp H
  obtain ⟨t404, A60, H⟩ := H
  replace H : (if (t404 != t399) = true then (some false) else (some true)) = some true := H
  have A6 := Aside0.mk A60
  clear A60
  by_cases c7 : (t404 != t399) = true
  · rw [if_pos c7] at H
    have c7b0 : (t404 != t399) = true := c7
    (try (have c7b1 : decide (t404 = t399) = false := by simpa using c7))
    (try (have c7b2 : (t404 == t399) = false := by simpa using c7))
    (try (have c7b3 : ¬ (t404 = t399) := by simpa using c7))
    clear c7
    exact absurd (Option.some.inj H) (by decide)
  · rw [if_neg c7] at H
    have c7b0 : (t404 != t399) = false := by simpa using c7
    (try (have c7b1 : decide (t404 = t399) = true := by simpa using c7))
    (try (have c7b2 : (t404 == t399) = true := by simpa using c7))
    clear c7
    clear H
    go_enter Try.func9, Try.ntmps9
    go_wp2_with (first | ((with_reducible refine gate_dst (N := 3) rfl ?_); refine box_event ?hg (N := 3) ?hd (cs := #[.int .i64 a1_0, .int .i64 a1_1, .int .i64 a1_2, .int .i64 a1_3]) (t := 40) ?hr ?_; (case hd => rfl); (case hg => rfl); (case hr => first | (go_simp; done) | (go_simp; rfl)); intro gb394 hg w15 hbox hb; have n0_ := Aside0.mk (below_step (by repeat (first | (with_reducible first | exact HB.out | apply below_alloc | apply pw_below_drewN | apply below_drew1) | exact HB.out)) hb); have n1_ := Aside0.mk (hbox); have n2_ := Aside0.mk ((by rw [hg]; exact (below_size (by repeat (first | (with_reducible first | exact HB.out | apply below_alloc | apply pw_below_drewN | apply below_drew1) | exact HB.out))) : w.heap.size ≤ gb394)); have n3_ := Aside0.mk ((by rw [hg]; exact (below_size (by repeat (first | (with_reducible first | exact HB.out | apply below_alloc | apply pw_below_drewN | apply below_drew1) | exact HB.out))) : w.heap.size ≤ gb394)); clear HB; have HB := n0_; have BK394 := n1_; have GW394 := n2_; have GE394 := n3_; clear n0_ n1_ n2_ n3_; clear hb hbox hg; have hcz16_0 : w15.cell? ⟨gb394, 0, none⟩ = some (.int .i64 a1_0) := (blk_cell BK394.out 0).trans rfl; have hcz16_1 : w15.cell? ⟨gb394, 1, none⟩ = some (.int .i64 a1_1) := (blk_cell BK394.out 1).trans rfl; have hcz16_2 : w15.cell? ⟨gb394, 2, none⟩ = some (.int .i64 a1_2) := (blk_cell BK394.out 2).trans rfl; have hcz16_3 : w15.cell? ⟨gb394, 3, none⟩ = some (.int .i64 a1_3) := (blk_cell BK394.out 3).trans rfl; have hfz16_0 := blk_frozen BK394.out 0; have hfz16_1 := blk_frozen BK394.out 1; have hfz16_2 := blk_frozen BK394.out 2; have hfz16_3 := blk_frozen BK394.out 3) | ((with_reducible refine gate_callee (f := 28) rfl ?_); refine goesL_ (some 9) rfl rfl Try.func28 (by kernel_rfl) rfl #[.agg #[.int .i64 a1_0, .int .i64 a1_1, .int .i64 a1_2, .int .i64 a1_3]] rfl (by (try simp only [List.map_toArray, List.map_cons, List.map_nil]); first | done | rfl | (simp only [List.length_drop, List.length_take]; rfl)) ?_; (with_reducible refine (laws_toMat.calls a1_0 a1_1 a1_2 a1_3 t395 t396 t397 t398 _ A3.out).mono ?_); rintro e w17 ⟨rfl, hb⟩; refine ⟨_, rfl, ?_⟩; have n0_ := Aside0.mk (blk_below (g := gb394) (o := .cells #[.int .i64 a1_0, .int .i64 a1_1, .int .i64 a1_2, .int .i64 a1_3] 40 (0, 0)) (by (with_reducible repeat (first | refine blk_drewN ?_ _ | refine blk_drew ?_ | refine blk_alloc ?_ _)); exact BK394.out) hb); have n1_ := Aside0.mk (below_step (by repeat (first | (with_reducible first | exact HB.out | apply below_alloc | apply pw_below_drewN | apply below_drew1 | refine below_set ?_ GE394.out) | exact HB.out)) hb); clear BK394; clear HB; have BK394 := n0_; have HB := n1_; clear n0_ n1_; (try clear hb); (try clear hb2); (try clear hk); (try clear hi)) | ((with_reducible refine gate_callee (f := 31) rfl ?_); refine goesL_ (some 10) rfl rfl Try.func31 (by kernel_rfl) rfl #[.int .i64 a0, .agg #[.int .i64 t395, .int .i64 t396, .int .i64 t397, .int .i64 t398]] rfl (by (try simp only [List.map_toArray, List.map_cons, List.map_nil]); first | done | rfl | (simp only [List.length_drop, List.length_take]; rfl)) ?_; (with_reducible refine (spec_IsPointMat.calls a0 t395 t396 t397 t398 t399 _ A4.out).mono ?_); rintro e w18 ⟨rfl, hb⟩; refine ⟨_, rfl, ?_⟩; have n0_ := Aside0.mk (blk_below (g := gb394) (o := .cells #[.int .i64 a1_0, .int .i64 a1_1, .int .i64 a1_2, .int .i64 a1_3] 40 (0, 0)) (by (with_reducible repeat (first | refine blk_drewN ?_ _ | refine blk_drew ?_ | refine blk_alloc ?_ _)); exact BK394.out) hb); have n1_ := Aside0.mk (below_step (by repeat (first | (with_reducible first | exact HB.out | apply below_alloc | apply pw_below_drewN | apply below_drew1 | refine below_set ?_ GE394.out) | exact HB.out)) hb); clear BK394; clear HB; have BK394 := n0_; have HB := n1_; clear n0_ n1_; (try clear hb); (try clear hb2); (try clear hk); (try clear hi); have hcz19_0 : w18.cell? ⟨gb394, 0, none⟩ = some (.int .i64 a1_0) := (blk_cell BK394.out 0).trans rfl; have hcz19_1 : w18.cell? ⟨gb394, 1, none⟩ = some (.int .i64 a1_1) := (blk_cell BK394.out 1).trans rfl; have hcz19_2 : w18.cell? ⟨gb394, 2, none⟩ = some (.int .i64 a1_2) := (blk_cell BK394.out 2).trans rfl; have hcz19_3 : w18.cell? ⟨gb394, 3, none⟩ = some (.int .i64 a1_3) := (blk_cell BK394.out 3).trans rfl; have hfz19_0 := blk_frozen BK394.out 0; have hfz19_1 := blk_frozen BK394.out 1; have hfz19_2 := blk_frozen BK394.out 2; have hfz19_3 := blk_frozen BK394.out 3) | ((with_reducible refine gate_callee (f := 28) rfl ?_); refine goesL_ (some 13) rfl rfl Try.func28 (by kernel_rfl) rfl #[.agg #[.int .i64 a1_0, .int .i64 a1_1, .int .i64 a1_2, .int .i64 a1_3]] rfl (by (try simp only [List.map_toArray, List.map_cons, List.map_nil]); first | done | rfl | (simp only [List.length_drop, List.length_take]; rfl)) ?_; (with_reducible refine (laws_toMat.calls a1_0 a1_1 a1_2 a1_3 t400 t401 t402 t403 _ A5.out).mono ?_); rintro e w20 ⟨rfl, hb⟩; refine ⟨_, rfl, ?_⟩; have n0_ := Aside0.mk (blk_below (g := gb394) (o := .cells #[.int .i64 a1_0, .int .i64 a1_1, .int .i64 a1_2, .int .i64 a1_3] 40 (0, 0)) (by (with_reducible repeat (first | refine blk_drewN ?_ _ | refine blk_drew ?_ | refine blk_alloc ?_ _)); exact BK394.out) hb); have n1_ := Aside0.mk (below_step (by repeat (first | (with_reducible first | exact HB.out | apply below_alloc | apply pw_below_drewN | apply below_drew1 | refine below_set ?_ GE394.out) | exact HB.out)) hb); clear BK394; clear HB; have BK394 := n0_; have HB := n1_; clear n0_ n1_; (try clear hb); (try clear hb2); (try clear hk); (try clear hi)) | ((with_reducible refine gate_callee (f := 32) rfl ?_); refine goesL_ (some 14) rfl rfl Try.func32 (by kernel_rfl) rfl #[.int .i64 a0, .agg #[.int .i64 t400, .int .i64 t401, .int .i64 t402, .int .i64 t403]] rfl (by (try simp only [List.map_toArray, List.map_cons, List.map_nil]); first | done | rfl | (simp only [List.length_drop, List.length_take]; rfl)) ?_; (with_reducible refine (impl_IsPointMat.calls k a0 t400 t401 t402 t403 t404 _ A6.out).mono ?_); rintro e w21 ⟨rfl, hb⟩; refine ⟨_, rfl, ?_⟩; have n0_ := Aside0.mk (blk_below (g := gb394) (o := .cells #[.int .i64 a1_0, .int .i64 a1_1, .int .i64 a1_2, .int .i64 a1_3] 40 (0, 0)) (by (with_reducible repeat (first | refine blk_drewN ?_ _ | refine blk_drew ?_ | refine blk_alloc ?_ _)); exact BK394.out) hb); have n1_ := Aside0.mk (below_step (by repeat (first | (with_reducible first | exact HB.out | apply below_alloc | apply pw_below_drewN | apply below_drew1 | refine below_set ?_ GE394.out) | exact HB.out)) hb); clear BK394; clear HB; have BK394 := n0_; have HB := n1_; clear n0_ n1_; (try clear hb); (try clear hb2); (try clear hk); (try clear hi)))
    go_ret
    exact ⟨by first | rfl | (simp [errW_none, errW_some] <;> rfl) | (simp [*, errW_none, errW_some] <;> rfl), by repeat (first | (with_reducible first | exact HB.out | apply below_alloc | apply pw_below_drewN | apply below_drew1 | refine below_set ?_ GE394.out) | exact HB.out)⟩

end Go.Proofs.Ytpkjgcafbkfbgaa.F

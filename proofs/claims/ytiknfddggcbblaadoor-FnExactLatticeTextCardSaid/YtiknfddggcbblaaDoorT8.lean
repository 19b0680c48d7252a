import Derived.Test.YtiknfddggcbblaaDoorT0
import Derived.Test.YtiknfddggcbblaaDoorT6
namespace Go.Proofs.YtiknfddggcbblaaDoor.F
open Go.RowKit Go.Proofs.YtiknfddggcbblaaDoorW.PrintWords Go.Proofs.YtiknfddggcbblaaDoorW.PrintLast Go.Proofs.YtiknfddggcbblaaDoorW.PrintMore
attribute [local go_sem] max2_int min2_int max_two min_two max_three min_three max_four min_four   -- for this text's walks alone
set_option linter.unusedVariables false
set_option linter.unusedSimpArgs false

/-! ### laws_FnExactLatticeText: function 7 -/
def laws_FnExactLatticeText.f (k : Nat) (a0_0 : Int) (a0_1 : Int) (a0_2 : Int) : Option (Bool) := (laws_toLattice.f a0_0 a0_1 a0_2).bind fun bt633 => ((spec_LatticeText.f k bt633.1 bt633.2.1 bt633.2.2).bind fun t636 => ((laws_toLattice.f a0_0 a0_1 a0_2).bind fun bt637 => ((impl_LatticeText.f k bt637.1 bt637.2.1 bt637.2.2).bind fun t640 => (if t640.toList = t636.toList then (some true) else (some false)))))
theorem laws_FnExactLatticeText.mono : ∀ a0 a1 a2 k, LeO (laws_FnExactLatticeText.f k a0 a1 a2) (laws_FnExactLatticeText.f (k + 1) a0 a1 a2) := by
  intro a0 a1 a2 k
  unfold laws_FnExactLatticeText.f
  repeat' first
      | (with_reducible exact impl_LatticeText.mono _ _ _ _)
      | (with_reducible exact spec_LatticeText.mono _ _ _ _)
      | (with_reducible exact LeO.refl _)
      | (with_reducible exact LeO.none _)
      | (with_reducible refine LeO.ite ?_ ?_)
      | (with_reducible refine LeO.bind ?_ (fun _ => ?_))
      | exact impl_LatticeText.mono _ _ _ _
      | exact spec_LatticeText.mono _ _ _ _
      | exact LeO.none _
      | refine LeO.ite ?_ ?_
      | refine LeO.bind ?_ (fun _ => ?_)
set_option maxHeartbeats 8000000 in
set_option maxRecDepth 100000 in
theorem laws_FnExactLatticeText.calls (k : Nat) (a0_0 : Int) (a0_1 : Int) (a0_2 : Int) (w : World) (TBw : TB w) (h : laws_FnExactLatticeText.f k a0_0 a0_1 a0_2 = some true) :
    Calls Tryd.prog 7 #[.agg #[.int .i64 a0_0, .int .i64 a0_1, .int .i64 a0_2]] w fun e w' => e = .returned (.bool true) ∧ Below w.heap.size w w' := by
  have hu54 := Tryd.underlying54
  have HB := Aside0.mk (Below.refl w.heap.size w)
  have H : ((laws_toLattice.f a0_0 a0_1 a0_2).bind fun bt633 => ((spec_LatticeText.f k bt633.1 bt633.2.1 bt633.2.2).bind fun t636 => ((laws_toLattice.f a0_0 a0_1 a0_2).bind fun bt637 => ((impl_LatticeText.f k bt637.1 bt637.2.1 bt637.2.2).bind fun t640 => (if t640.toList = t636.toList then (some true) else (some false)))))) = some true := h
  clear h
  replace H := Option.bind_eq_some_iff.mp H
  obtain ⟨⟨t633, t634, t635⟩, A20, H⟩ := H
  replace H : ((spec_LatticeText.f k t633 t634 t635).bind fun t636 => ((laws_toLattice.f a0_0 a0_1 a0_2).bind fun bt637 => ((impl_LatticeText.f k bt637.1 bt637.2.1 bt637.2.2).bind fun t640 => (if t640.toList = t636.toList then (some true) else (some false))))) = some true := H
  have A2 := Aside0.mk A20
  clear A20
  replace H := Option.bind_eq_some_iff.mp H
  obtain ⟨t636, A30, H⟩ := H
  replace H : ((laws_toLattice.f a0_0 a0_1 a0_2).bind fun bt637 => ((impl_LatticeText.f k bt637.1 bt637.2.1 bt637.2.2).bind fun t640 => (if t640.toList = t636.toList then (some true) else (some false)))) = some true := H
  have A3 := Aside0.mk A30
  clear A30
  replace H := Option.bind_eq_some_iff.mp H
  obtain ⟨⟨t637, t638, t639⟩, A40, H⟩ := H
  replace H : ((impl_LatticeText.f k t637 t638 t639).bind fun t640 => (if t640.toList = t636.toList then (some true) else (some false))) = some true := H
  have A4 := Aside0.mk A40
  clear A40
  replace H := Option.bind_eq_some_iff.mp H
  obtain ⟨t640, A50, H⟩ := H
  replace H : (if t640.toList = t636.toList then (some true) else (some false)) = some true := H
  have A5 := Aside0.mk A50
  clear A50
  by_cases c6 : t640.toList = t636.toList
  · rw [if_pos c6] at H
    have c6b0 : (t640.toList == t636.toList) = true := beq_iff_eq.mpr c6
    have c6b1 : (t640.toList != t636.toList) = false := bne_eq_false_iff_eq.mpr c6
    clear c6
    clear H
    go_enter Tryd.func7, Tryd.ntmps7
    go_wp2_with (first | ((with_reducible refine gate_dst (N := 1) rfl ?_); refine box_event ?hg (N := 1) ?hd (cs := #[.int .i64 a0_0, .int .i64 a0_1, .int .i64 a0_2]) (t := 54) ?hr ?_; (case hd => rfl); (case hg => rfl); (case hr => first | (go_simp; done) | (go_simp; rfl)); intro gb632 hg w7 hbox hb; have n0_ := Aside0.mk (below_step (by repeat (first | (with_reducible first | exact HB.out | apply below_alloc | apply pw_below_drewN | apply below_drew1) | exact HB.out)) hb); have n1_ := Aside0.mk (hbox); have n2_ := Aside0.mk ((by rw [hg]; exact (below_size (by repeat (first | (with_reducible first | exact HB.out | apply below_alloc | apply pw_below_drewN | apply below_drew1) | exact HB.out))) : w.heap.size ≤ gb632)); have n3_ := Aside0.mk ((by rw [hg]; exact (below_size (by repeat (first | (with_reducible first | exact HB.out | apply below_alloc | apply pw_below_drewN | apply below_drew1) | exact HB.out))) : w.heap.size ≤ gb632)); clear HB; have HB := n0_; have BK632 := n1_; have GW632 := n2_; have GE632 := n3_; clear n0_ n1_ n2_ n3_; clear hb hbox hg; have hcz8_0 : w7.cell? ⟨gb632, 0, none⟩ = some (.int .i64 a0_0) := (blk_cell BK632.out 0).trans rfl; have hcz8_1 : w7.cell? ⟨gb632, 1, none⟩ = some (.int .i64 a0_1) := (blk_cell BK632.out 1).trans rfl; have hcz8_2 : w7.cell? ⟨gb632, 2, none⟩ = some (.int .i64 a0_2) := (blk_cell BK632.out 2).trans rfl; have hfz8_0 := blk_frozen BK632.out 0; have hfz8_1 := blk_frozen BK632.out 1; have hfz8_2 := blk_frozen BK632.out 2) | ((with_reducible refine gate_callee (f := 33) rfl ?_); refine goesL_ (some 6) rfl rfl Tryd.func33 (by kernel_rfl) rfl #[.agg #[.int .i64 a0_0, .int .i64 a0_1, .int .i64 a0_2]] rfl (by (try simp only [List.map_toArray, List.map_cons, List.map_nil]); first | done | rfl | (simp only [List.length_drop, List.length_take]; rfl)) ?_; (with_reducible refine (laws_toLattice.calls a0_0 a0_1 a0_2 t633 t634 t635 _ A2.out).mono ?_); rintro e w9 ⟨rfl, hb⟩; refine ⟨_, rfl, ?_⟩; have n0_ := Aside0.mk (blk_below (g := gb632) (o := .cells #[.int .i64 a0_0, .int .i64 a0_1, .int .i64 a0_2] 54 (0, 0)) (by (with_reducible repeat (first | refine blk_drewN ?_ _ | refine blk_drew ?_ | refine blk_alloc ?_ _)); exact BK632.out) hb); have n1_ := Aside0.mk (below_step (by repeat (first | (with_reducible first | exact HB.out | apply below_alloc | apply pw_below_drewN | apply below_drew1 | refine below_set ?_ GE632.out) | exact HB.out)) hb); clear BK632; clear HB; have BK632 := n0_; have HB := n1_; clear n0_ n1_; (try clear hb); (try clear hb2); (try clear hk); (try clear hi)) | ((with_reducible refine gate_callee (f := 29) rfl ?_); refine goesL_ (some 7) rfl rfl Tryd.func29 (by kernel_rfl) rfl #[.agg #[.int .i64 t633, .int .i64 t634, .int .i64 t635]] rfl (by (try simp only [List.map_toArray, List.map_cons, List.map_nil]); first | done | rfl | (simp only [List.length_drop, List.length_take]; rfl)) ?_; (with_reducible refine (spec_LatticeText.calls k t633 t634 t635 t636 _ A3.out).mono ?_); rintro e w10 ⟨rfl, hb⟩; refine ⟨_, rfl, ?_⟩; have n0_ := Aside0.mk (blk_below (g := gb632) (o := .cells #[.int .i64 a0_0, .int .i64 a0_1, .int .i64 a0_2] 54 (0, 0)) (by (with_reducible repeat (first | refine blk_drewN ?_ _ | refine blk_drew ?_ | refine blk_alloc ?_ _)); exact BK632.out) hb); have n1_ := Aside0.mk (below_step (by repeat (first | (with_reducible first | exact HB.out | apply below_alloc | apply pw_below_drewN | apply below_drew1 | refine below_set ?_ GE632.out) | exact HB.out)) hb); clear BK632; clear HB; have BK632 := n0_; have HB := n1_; clear n0_ n1_; (try clear hb); (try clear hb2); (try clear hk); (try clear hi); have hcz11_0 : w10.cell? ⟨gb632, 0, none⟩ = some (.int .i64 a0_0) := (blk_cell BK632.out 0).trans rfl; have hcz11_1 : w10.cell? ⟨gb632, 1, none⟩ = some (.int .i64 a0_1) := (blk_cell BK632.out 1).trans rfl; have hcz11_2 : w10.cell? ⟨gb632, 2, none⟩ = some (.int .i64 a0_2) := (blk_cell BK632.out 2).trans rfl; have hfz11_0 := blk_frozen BK632.out 0; have hfz11_1 := blk_frozen BK632.out 1; have hfz11_2 := blk_frozen BK632.out 2) | ((with_reducible refine gate_callee (f := 33) rfl ?_); refine goesL_ (some 9) rfl rfl Tryd.func33 (by kernel_rfl) rfl #[.agg #[.int .i64 a0_0, .int .i64 a0_1, .int .i64 a0_2]] rfl (by (try simp only [List.map_toArray, List.map_cons, List.map_nil]); first | done | rfl | (simp only [List.length_drop, List.length_take]; rfl)) ?_; (with_reducible refine (laws_toLattice.calls a0_0 a0_1 a0_2 t637 t638 t639 _ A4.out).mono ?_); rintro e w12 ⟨rfl, hb⟩; refine ⟨_, rfl, ?_⟩; have n0_ := Aside0.mk (blk_below (g := gb632) (o := .cells #[.int .i64 a0_0, .int .i64 a0_1, .int .i64 a0_2] 54 (0, 0)) (by (with_reducible repeat (first | refine blk_drewN ?_ _ | refine blk_drew ?_ | refine blk_alloc ?_ _)); exact BK632.out) hb); have n1_ := Aside0.mk (below_step (by repeat (first | (with_reducible first | exact HB.out | apply below_alloc | apply pw_below_drewN | apply below_drew1 | refine below_set ?_ GE632.out) | exact HB.out)) hb); clear BK632; clear HB; have BK632 := n0_; have HB := n1_; clear n0_ n1_; (try clear hb); (try clear hb2); (try clear hk); (try clear hi)) | ((with_reducible refine gate_callee (f := 24) rfl ?_); refine goesL_ (some 10) rfl rfl Tryd.func24 (by kernel_rfl) rfl #[.agg #[.int .i64 t637, .int .i64 t638, .int .i64 t639]] rfl (by (try simp only [List.map_toArray, List.map_cons, List.map_nil]); first | done | rfl | (simp only [List.length_drop, List.length_take]; rfl)) ?_; (with_reducible refine (impl_LatticeText.calls k t637 t638 t639 t640 _ (TB_below TBw (by repeat (first | (with_reducible first | exact HB.out | apply below_alloc | apply pw_below_drewN | apply below_drew1) | exact HB.out))) A5.out).mono ?_); rintro e w13 ⟨rfl, hb⟩; refine ⟨_, rfl, ?_⟩; have n0_ := Aside0.mk (blk_below (g := gb632) (o := .cells #[.int .i64 a0_0, .int .i64 a0_1, .int .i64 a0_2] 54 (0, 0)) (by (with_reducible repeat (first | refine blk_drewN ?_ _ | refine blk_drew ?_ | refine blk_alloc ?_ _)); exact BK632.out) hb); have n1_ := Aside0.mk (below_step (by repeat (first | (with_reducible first | exact HB.out | apply below_alloc | apply pw_below_drewN | apply below_drew1 | refine below_set ?_ GE632.out) | exact HB.out)) hb); clear BK632; clear HB; have BK632 := n0_; have HB := n1_; clear n0_ n1_; (try clear hb); (try clear hb2); (try clear hk); (try clear hi)))
    go_ret
    exact ⟨by first | rfl | (simp [errW_none, errW_some] <;> rfl) | (simp [*, errW_none, errW_some] <;> rfl), by repeat (first | (with_reducible first | exact HB.out | apply below_alloc | apply pw_below_drewN | apply below_drew1 | refine below_set ?_ GE632.out) | exact HB.out)⟩
  · rw [if_neg c6] at H
    have c6b0 : (t640.toList == t636.toList) = false := beq_eq_false_iff_ne.mpr c6
    have c6b1 : (t640.toList != t636.toList) = true := bne_iff_ne.mpr c6
    exact absurd (Option.some.inj H) (by decide)
end Go.Proofs.YtiknfddggcbblaaDoor.F

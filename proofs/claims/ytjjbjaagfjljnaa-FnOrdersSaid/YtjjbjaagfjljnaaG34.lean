import Derived.Test.YtjjbjaagfjljnaaG0
import Derived.Test.YtjjbjaagfjljnaaG21
import Derived.Test.YtjjbjaagfjljnaaG24
import Derived.Test.YtjjbjaagfjljnaaG33
namespace Go.Proofs.Ytjjbjaagfjljnaa.F
open Go.RowKit Go.Proofs.YtjjbjaagfjljnaaW.PrintWords Go.Proofs.YtjjbjaagfjljnaaW.PrintLast Go.Proofs.YtjjbjaagfjljnaaW.PrintMore
attribute [local go_sem] max2_int min2_int max_two min_two max_three min_three max_four min_four   -- for this text's walks alone
set_option linter.unusedVariables false
set_option linter.unusedSimpArgs false
attribute [local go_sem high] eqA51

/-! ### spec_l02Order: function 160 -/
def spec_l02Order.l0 : Nat → Int → Int → Int → Int → Int → Int → Int → Int → Int → Option (Int)
  | 0, _, _, _, _, _, _, _, _, _ => none
  | k + 1, x4, x834000, x834001, x834002, x834003, x839000, x839001, x839002, x839003 => if x4 ≤ 6 then ((spec_l02Multiply.f x834000 x834001 x834002 x834003 x839000 x839001 x839002 x839003).bind fun bt839 => ((spec_l02Small.f bt839.1 bt839.2.1 bt839.2.2.1 bt839.2.2.2).bind fun t843 => (if t843 = true then ((spec_l02Unit.f).bind fun bt844 => (if (bt839.1 == bt844.1 && (bt839.2.1 == bt844.2.1 && (bt839.2.2.1 == bt844.2.2.1 && (bt839.2.2.2 == bt844.2.2.2)))) = true then (some x4) else (spec_l02Order.l0 k (wrap64 (x4 + 1)) x834000 x834001 x834002 x834003 bt839.1 bt839.2.1 bt839.2.2.1 bt839.2.2.2))) else (some 0)))) else (some 0)
def spec_l02Order.f (k : Nat) (a0_0 : Int) (a0_1 : Int) (a0_2 : Int) (a0_3 : Int) : Option (Int) := (spec_l02Unit.f).bind fun bt834 => (spec_l02Order.l0 k 1 a0_0 a0_1 a0_2 a0_3 bt834.1 bt834.2.1 bt834.2.2.1 bt834.2.2.2)
theorem spec_l02Order.mono_l : ∀ k, (∀ y0 y1 y2 y3 y4 y5 y6 y7 y8, LeO (spec_l02Order.l0 k y0 y1 y2 y3 y4 y5 y6 y7 y8) (spec_l02Order.l0 (k + 1) y0 y1 y2 y3 y4 y5 y6 y7 y8))
  | 0 => fun _ _ _ _ _ _ _ _ _ r h => by simp [spec_l02Order.l0] at h
  | k + 1 => by
    have ih0 := spec_l02Order.mono_l k
    · intro y0 y1 y2 y3 y4 y5 y6 y7 y8
      unfold spec_l02Order.l0
      repeat' first
      | (with_reducible exact ih0 _ _ _ _ _ _ _ _ _)
      | (with_reducible exact LeO.refl _)
      | (with_reducible exact LeO.none _)
      | (with_reducible refine LeO.ite ?_ ?_)
      | (with_reducible refine LeO.bind ?_ (fun _ => ?_))
      | exact ih0 _ _ _ _ _ _ _ _ _
      | exact LeO.none _
      | refine LeO.ite ?_ ?_
      | refine LeO.bind ?_ (fun _ => ?_)
theorem spec_l02Order.mono : ∀ a0 a1 a2 a3 k, LeO (spec_l02Order.f k a0 a1 a2 a3) (spec_l02Order.f (k + 1) a0 a1 a2 a3) := by
  intro a0 a1 a2 a3 k
  have ih0 := spec_l02Order.mono_l k
  unfold spec_l02Order.f
  repeat' first
      | (with_reducible exact ih0 _ _ _ _ _ _ _ _ _)
      | (with_reducible exact LeO.refl _)
      | (with_reducible exact LeO.none _)
      | (with_reducible refine LeO.ite ?_ ?_)
      | (with_reducible refine LeO.bind ?_ (fun _ => ?_))
      | exact ih0 _ _ _ _ _ _ _ _ _
      | exact LeO.none _
      | refine LeO.ite ?_ ?_
      | refine LeO.bind ?_ (fun _ => ?_)
set_option maxHeartbeats 8000000 in
set_option maxRecDepth 100000 in
theorem spec_l02Order.calls (k : Nat) (a0_0 : Int) (a0_1 : Int) (a0_2 : Int) (a0_3 : Int) (r : Int) (w : World) (h : spec_l02Order.f k a0_0 a0_1 a0_2 a0_3 = some r) :
    Calls Try.prog 160 #[.agg #[.int .i64 a0_0, .int .i64 a0_1, .int .i64 a0_2, .int .i64 a0_3]] w fun e w' => e = .returned (.int .i64 r) ∧ Below w.heap.size w w' := by
  have hu51 := Try.underlying51
  have HB := Aside0.mk (Below.refl w.heap.size w)
  have H : ((spec_l02Unit.f).bind fun bt834 => (spec_l02Order.l0 k 1 a0_0 a0_1 a0_2 a0_3 bt834.1 bt834.2.1 bt834.2.2.1 bt834.2.2.2)) = some r := h
  clear h
  replace H := Option.bind_eq_some_iff.mp H
  obtain ⟨⟨t834, t835, t836, t837⟩, A20, H⟩ := H
  replace H : (spec_l02Order.l0 k 1 a0_0 a0_1 a0_2 a0_3 t834 t835 t836 t837) = some r := H
  have A2 := Aside0.mk A20
  clear A20
  have H' := Aside0.mk H
  clear H
  go_enter Try.func160, Try.ntmps160
  go_wp2_with (first | ((with_reducible refine gate_dst (N := 1) rfl ?_); refine box_event ?hg (N := 1) ?hd (cs := #[.int .i64 a0_0, .int .i64 a0_1, .int .i64 a0_2, .int .i64 a0_3]) (t := 51) ?hr ?_; (case hd => rfl); (case hg => rfl); (case hr => first | (go_simp; done) | (go_simp; rfl)); intro gb833 hg w3 hbox hb; have n0_ := Aside0.mk (below_step (by repeat (first | (with_reducible first | exact HB.out | apply below_alloc | apply pw_below_drewN | apply below_drew1) | exact HB.out)) hb); have n1_ := Aside0.mk (hbox); have n2_ := Aside0.mk ((by rw [hg]; exact (below_size (by repeat (first | (with_reducible first | exact HB.out | apply below_alloc | apply pw_below_drewN | apply below_drew1) | exact HB.out))) : w.heap.size ≤ gb833)); have n3_ := Aside0.mk ((by rw [hg]; exact (below_size (by repeat (first | (with_reducible first | exact HB.out | apply below_alloc | apply pw_below_drewN | apply below_drew1) | exact HB.out))) : w.heap.size ≤ gb833)); clear HB; have HB := n0_; have BK833 := n1_; have GW833 := n2_; have GE833 := n3_; clear n0_ n1_ n2_ n3_; clear hb hbox hg) | ((with_reducible refine gate_callee (f := 162) rfl ?_); refine goesL_ (some 5) rfl rfl Try.func162 (by kernel_rfl) rfl #[] rfl (by (try simp only [List.map_toArray, List.map_cons, List.map_nil]); first | done | rfl | (simp only [List.length_drop, List.length_take]; rfl)) ?_; (with_reducible refine (spec_l02Unit.calls  t834 t835 t836 t837 _ A2.out).mono ?_); rintro e w4 ⟨rfl, hb⟩; refine ⟨_, rfl, ?_⟩; have n0_ := Aside0.mk (blk_below (g := gb833) (o := .cells #[.int .i64 a0_0, .int .i64 a0_1, .int .i64 a0_2, .int .i64 a0_3] 51 (0, 0)) (by (with_reducible repeat (first | refine blk_drewN ?_ _ | refine blk_drew ?_ | refine blk_alloc ?_ _)); exact BK833.out) hb); have n1_ := Aside0.mk (below_step (by repeat (first | (with_reducible first | exact HB.out | apply below_alloc | apply pw_below_drewN | apply below_drew1 | refine below_set ?_ GE833.out) | exact HB.out)) hb); clear BK833; clear HB; have BK833 := n0_; have HB := n1_; clear n0_ n1_; (try clear hb); (try clear hb2); (try clear hk); (try clear hi)) | ((with_reducible refine gate_dst (N := 3) rfl ?_); refine box_event ?hg (N := 3) ?hd (cs := #[.int .i64 0, .int .i64 0, .int .i64 0, .int .i64 0]) (t := 51) ?hr ?_; (case hd => rfl); (case hg => rfl); (case hr => first | (go_simp; done) | (go_simp; rfl)); intro gb838 hg w5 hbox hb; have n0_ := Aside0.mk (blk_below (g := gb833) (o := .cells #[.int .i64 a0_0, .int .i64 a0_1, .int .i64 a0_2, .int .i64 a0_3] 51 (0, 0)) (by (with_reducible repeat (first | refine blk_drewN ?_ _ | refine blk_drew ?_ | refine blk_alloc ?_ _)); exact BK833.out) hb); have n1_ := Aside0.mk (below_step (by repeat (first | (with_reducible first | exact HB.out | apply below_alloc | apply pw_below_drewN | apply below_drew1 | refine below_set ?_ GE833.out) | exact HB.out)) hb); have n2_ := Aside0.mk (hbox); have n3_ := Aside0.mk ((by rw [hg]; exact (below_size (by repeat (first | (with_reducible first | exact HB.out | apply below_alloc | apply pw_below_drewN | apply below_drew1 | refine below_set ?_ GE833.out) | exact HB.out))) : w.heap.size ≤ gb838)); have n4_ := Aside0.mk ((by rw [hg]; exact (below_size (by repeat (first | (with_reducible first | exact HB.out | apply below_alloc | apply pw_below_drewN | apply below_drew1 | refine below_set ?_ GE833.out) | exact HB.out))) : w.heap.size ≤ gb838)); have n5_ := Aside0.mk ((by rw [hg]; exact Nat.ne_of_lt (blk_lt (g := gb833) (o := .cells #[.int .i64 a0_0, .int .i64 a0_1, .int .i64 a0_2, .int .i64 a0_3] 51 (0, 0)) (by (with_reducible repeat (first | refine blk_drewN ?_ _ | refine blk_drew ?_ | refine blk_alloc ?_ _)); exact BK833.out)) : gb833 ≠ gb838)); have n6_ := Aside0.mk ((by rw [hg]; exact Nat.ne_of_gt (blk_lt (g := gb833) (o := .cells #[.int .i64 a0_0, .int .i64 a0_1, .int .i64 a0_2, .int .i64 a0_3] 51 (0, 0)) (by (with_reducible repeat (first | refine blk_drewN ?_ _ | refine blk_drew ?_ | refine blk_alloc ?_ _)); exact BK833.out)) : gb838 ≠ gb833)); clear BK833; clear HB; have BK833 := n0_; have HB := n1_; have BK838 := n2_; have GW838 := n3_; have GE838 := n4_; have NB833_838 := n5_; have NB838_833 := n6_; clear n0_ n1_ n2_ n3_ n4_ n5_ n6_; clear hb hbox hg; have hnb6 := NB838_833.out; have hnc6 := NB833_838.out; have hcz7_0 : w5.cell? ⟨gb838, 0, none⟩ = some (.int .i64 0) := (blk_cell BK838.out 0).trans rfl; have hcz7_1 : w5.cell? ⟨gb838, 1, none⟩ = some (.int .i64 0) := (blk_cell BK838.out 1).trans rfl; have hcz7_2 : w5.cell? ⟨gb838, 2, none⟩ = some (.int .i64 0) := (blk_cell BK838.out 2).trans rfl; have hcz7_3 : w5.cell? ⟨gb838, 3, none⟩ = some (.int .i64 0) := (blk_cell BK838.out 3).trans rfl; have hfz7_0 := blk_frozen BK838.out 0; have hfz7_1 := blk_frozen BK838.out 1; have hfz7_2 := blk_frozen BK838.out 2; have hfz7_3 := blk_frozen BK838.out 3))
  go_loopg [4] k (fun kq v4 w' => ∃ (x4_1 : Int) (x839000_1 : Int) (x839001_1 : Int) (x839002_1 : Int) (x839003_1 : Int), v4 = .int .i64 x4_1 ∧ Aside0 (spec_l02Order.l0 kq x4_1 a0_0 a0_1 a0_2 a0_3 x839000_1 x839001_1 x839002_1 x839003_1 = some r) ∧ Aside0 (kq ≤ k) ∧ Aside0 (w'.heap[gb833]? = some (.cells #[.int .i64 a0_0, .int .i64 a0_1, .int .i64 a0_2, .int .i64 a0_3] 51 (0, 0))) ∧ Aside0 (w'.heap[gb838]? = some (.cells #[.int .i64 x839000_1, .int .i64 x839001_1, .int .i64 x839002_1, .int .i64 x839003_1] 51 (0, 0))) ∧ Aside0 (Below w.heap.size w w'))
  case atStart => exact ⟨(1), (t834), (t835), (t836), (t837), (by first | rfl | (simp; done) | (simp [*]; done)), H', ⟨Nat.le_refl _⟩, ⟨by (with_reducible repeat (first | refine blk_drewN ?_ _ | refine blk_drew ?_ | refine blk_alloc ?_ _)); refine blk_far ?_ NB833_838.out _; (with_reducible repeat (first | refine blk_drewN ?_ _ | refine blk_drew ?_ | refine blk_alloc ?_ _)); refine blk_far ?_ NB833_838.out _; (with_reducible repeat (first | refine blk_drewN ?_ _ | refine blk_drew ?_ | refine blk_alloc ?_ _)); refine blk_far ?_ NB833_838.out _; (with_reducible repeat (first | refine blk_drewN ?_ _ | refine blk_drew ?_ | refine blk_alloc ?_ _)); refine blk_far ?_ NB833_838.out _; (with_reducible repeat (first | refine blk_drewN ?_ _ | refine blk_drew ?_ | refine blk_alloc ?_ _)); exact BK833.out⟩, ⟨by (with_reducible repeat (first | refine blk_drewN ?_ _ | refine blk_drew ?_ | refine blk_alloc ?_ _)); refine blk_put (cs := #[.int .i64 t834, .int .i64 t835, .int .i64 t836, .int .i64 0]) ?_ 3 _ rfl; (with_reducible repeat (first | refine blk_drewN ?_ _ | refine blk_drew ?_ | refine blk_alloc ?_ _)); refine blk_put (cs := #[.int .i64 t834, .int .i64 t835, .int .i64 0, .int .i64 0]) ?_ 2 _ rfl; (with_reducible repeat (first | refine blk_drewN ?_ _ | refine blk_drew ?_ | refine blk_alloc ?_ _)); refine blk_put (cs := #[.int .i64 t834, .int .i64 0, .int .i64 0, .int .i64 0]) ?_ 1 _ rfl; (with_reducible repeat (first | refine blk_drewN ?_ _ | refine blk_drew ?_ | refine blk_alloc ?_ _)); refine blk_put (cs := #[.int .i64 0, .int .i64 0, .int .i64 0, .int .i64 0]) ?_ 0 _ rfl; (with_reducible repeat (first | refine blk_drewN ?_ _ | refine blk_drew ?_ | refine blk_alloc ?_ _)); exact BK838.out⟩, ⟨by repeat (first | (with_reducible first | exact HB.out | apply below_alloc | apply pw_below_drewN | apply below_drew1 | refine below_set ?_ GE833.out | refine below_set ?_ GE838.out) | exact HB.out)⟩⟩
  case round =>
    clear H'
    try clear c1
    try clear p2
    try clear c6
    try clear hcz7_0
    try clear hcz7_1
    try clear hcz7_2
    try clear hcz7_3
    try clear hfz7_0
    try clear hfz7_1
    try clear hfz7_2
    try clear hfz7_3
    obtain ⟨x4_1, x839000_1, x839001_1, x839002_1, x839003_1, rfl, HA, HK1, BK833, BK838, HB⟩ := hrel
    cases gk with
    | zero => exact absurd HA.out (by simp [spec_l02Order.l0])
    | succ k1 =>
      have H := HA.out
      clear HA
      simp only [spec_l02Order.l0] at H
      by_cases c8 : x4_1 ≤ 6
      · rw [if_pos c8] at H
        have c8b0 : decide (x4_1 ≤ 6) = true := decide_eq_true c8
        clear c8
        replace H := Option.bind_eq_some_iff.mp H
        obtain ⟨⟨t839, t840, t841, t842⟩, A90, H⟩ := H
        replace H : ((spec_l02Small.f t839 t840 t841 t842).bind fun t843 => (if t843 = true then ((spec_l02Unit.f).bind fun bt844 => (if (t839 == bt844.1 && (t840 == bt844.2.1 && (t841 == bt844.2.2.1 && (t842 == bt844.2.2.2)))) = true then (some x4_1) else (spec_l02Order.l0 k1 (wrap64 (x4_1 + 1)) a0_0 a0_1 a0_2 a0_3 t839 t840 t841 t842))) else (some 0))) = some r := H
        have A9 := Aside0.mk A90
        clear A90
        replace H := Option.bind_eq_some_iff.mp H
        obtain ⟨t843, A100, H⟩ := H
        replace H : (if t843 = true then ((spec_l02Unit.f).bind fun bt844 => (if (t839 == bt844.1 && (t840 == bt844.2.1 && (t841 == bt844.2.2.1 && (t842 == bt844.2.2.2)))) = true then (some x4_1) else (spec_l02Order.l0 k1 (wrap64 (x4_1 + 1)) a0_0 a0_1 a0_2 a0_3 t839 t840 t841 t842))) else (some 0)) = some r := H
        have A10 := Aside0.mk A100
        clear A100
        by_cases c11 : t843 = true
        · subst c11
          have H1 : ((spec_l02Unit.f).bind fun bt844 => (if (t839 == bt844.1 && (t840 == bt844.2.1 && (t841 == bt844.2.2.1 && (t842 == bt844.2.2.2)))) = true then (some x4_1) else (spec_l02Order.l0 k1 (wrap64 (x4_1 + 1)) a0_0 a0_1 a0_2 a0_3 t839 t840 t841 t842))) = some r := by rw [if_pos rfl] at H; exact H
          clear H
          have H := H1
          clear H1
          replace H := Option.bind_eq_some_iff.mp H
          obtain ⟨⟨t844, t845, t846, t847⟩, A120, H⟩ := H
          replace H : (if (t839 == t844 && (t840 == t845 && (t841 == t846 && (t842 == t847)))) = true then (some x4_1) else (spec_l02Order.l0 k1 (wrap64 (x4_1 + 1)) a0_0 a0_1 a0_2 a0_3 t839 t840 t841 t842)) = some r := H
          have A12 := Aside0.mk A120
          clear A120
          by_cases c13 : (t839 == t844 && (t840 == t845 && (t841 == t846 && (t842 == t847)))) = true
          · rw [if_pos c13] at H
            have c13b0 : (t839 == t844 && (t840 == t845 && (t841 == t846 && (t842 == t847)))) = true := c13
            (try (have c13b1 : decide (t839 = t844 && (t840 == t845 && (t841 == t846 && (t842 == t847)))) = true := by simpa using c13))
            (try (have c13b2 : (t839 == t844 && (t840 == t845 && (t841 == t846 && (t842 == t847)))) = true := by simpa using c13))
            clear c13
            obtain rfl := Option.some.inj H
            have hnb14 := NB833_838.out
            have hnc14 := NB838_833.out
            have hcz15_0 : wr.cell? ⟨gb833, 0, none⟩ = some (.int .i64 a0_0) := (blk_cell BK833.out 0).trans rfl
            have hcz15_1 : wr.cell? ⟨gb833, 1, none⟩ = some (.int .i64 a0_1) := (blk_cell BK833.out 1).trans rfl
            have hcz15_2 : wr.cell? ⟨gb833, 2, none⟩ = some (.int .i64 a0_2) := (blk_cell BK833.out 2).trans rfl
            have hcz15_3 : wr.cell? ⟨gb833, 3, none⟩ = some (.int .i64 a0_3) := (blk_cell BK833.out 3).trans rfl
            have hfz15_0 := blk_frozen BK833.out 0
            have hfz15_1 := blk_frozen BK833.out 1
            have hfz15_2 := blk_frozen BK833.out 2
            have hfz15_3 := blk_frozen BK833.out 3
            have hcz16_0 : wr.cell? ⟨gb838, 0, none⟩ = some (.int .i64 x839000_1) := (blk_cell BK838.out 0).trans rfl
            have hcz16_1 : wr.cell? ⟨gb838, 1, none⟩ = some (.int .i64 x839001_1) := (blk_cell BK838.out 1).trans rfl
            have hcz16_2 : wr.cell? ⟨gb838, 2, none⟩ = some (.int .i64 x839002_1) := (blk_cell BK838.out 2).trans rfl
            have hcz16_3 : wr.cell? ⟨gb838, 3, none⟩ = some (.int .i64 x839003_1) := (blk_cell BK838.out 3).trans rfl
            have hfz16_0 := blk_frozen BK838.out 0
            have hfz16_1 := blk_frozen BK838.out 1
            have hfz16_2 := blk_frozen BK838.out 2
            have hfz16_3 := blk_frozen BK838.out 3
            try go_wp2_with (first | ((with_reducible refine gate_callee (f := 151) rfl ?_); refine goesL_ (some 12) rfl rfl Try.func151 (by kernel_rfl) rfl #[.agg #[.int .i64 a0_0, .int .i64 a0_1, .int .i64 a0_2, .int .i64 a0_3], .agg #[.int .i64 x839000_1, .int .i64 x839001_1, .int .i64 x839002_1, .int .i64 x839003_1]] rfl (by (try simp only [List.map_toArray, List.map_cons, List.map_nil]); first | done | rfl | (simp only [List.length_drop, List.length_take]; rfl)) ?_; (with_reducible refine (spec_l02Multiply.calls a0_0 a0_1 a0_2 a0_3 x839000_1 x839001_1 x839002_1 x839003_1 t839 t840 t841 t842 _ A9.out).mono ?_); rintro e w17 ⟨rfl, hb⟩; refine ⟨_, rfl, ?_⟩; have n0_ := Aside0.mk (blk_below (g := gb833) (o := .cells #[.int .i64 a0_0, .int .i64 a0_1, .int .i64 a0_2, .int .i64 a0_3] 51 (0, 0)) (by (with_reducible repeat (first | refine blk_drewN ?_ _ | refine blk_drew ?_ | refine blk_alloc ?_ _)); exact BK833.out) hb); have n1_ := Aside0.mk (blk_below (g := gb838) (o := .cells #[.int .i64 x839000_1, .int .i64 x839001_1, .int .i64 x839002_1, .int .i64 x839003_1] 51 (0, 0)) (by (with_reducible repeat (first | refine blk_drewN ?_ _ | refine blk_drew ?_ | refine blk_alloc ?_ _)); exact BK838.out) hb); have n2_ := Aside0.mk (below_step (by repeat (first | (with_reducible first | exact HB.out | apply below_alloc | apply pw_below_drewN | apply below_drew1 | refine below_set ?_ GE833.out | refine below_set ?_ GE838.out) | exact HB.out)) hb); clear BK833; clear BK838; clear HB; have BK833 := n0_; have BK838 := n1_; have HB := n2_; clear n0_ n1_ n2_; (try clear hb); (try clear hb2); (try clear hk); (try clear hi); have hcz18_0 : w17.cell? ⟨gb838, 0, none⟩ = some (.int .i64 x839000_1) := (blk_cell BK838.out 0).trans rfl; have hcz18_1 : w17.cell? ⟨gb838, 1, none⟩ = some (.int .i64 x839001_1) := (blk_cell BK838.out 1).trans rfl; have hcz18_2 : w17.cell? ⟨gb838, 2, none⟩ = some (.int .i64 x839002_1) := (blk_cell BK838.out 2).trans rfl; have hcz18_3 : w17.cell? ⟨gb838, 3, none⟩ = some (.int .i64 x839003_1) := (blk_cell BK838.out 3).trans rfl; have hfz18_0 := blk_frozen BK838.out 0; have hfz18_1 := blk_frozen BK838.out 1; have hfz18_2 := blk_frozen BK838.out 2; have hfz18_3 := blk_frozen BK838.out 3) | ((with_reducible refine gate_callee (f := 157) rfl ?_); refine goesL_ (some 14) rfl rfl Try.func157 (by kernel_rfl) rfl #[.agg #[.int .i64 t839, .int .i64 t840, .int .i64 t841, .int .i64 t842]] rfl (by (try simp only [List.map_toArray, List.map_cons, List.map_nil]); first | done | rfl | (simp only [List.length_drop, List.length_take]; rfl)) ?_; (with_reducible refine (spec_l02Small.calls t839 t840 t841 t842 true _ A10.out).mono ?_); rintro e w19 ⟨rfl, hb⟩; refine ⟨_, rfl, ?_⟩; have n0_ := Aside0.mk (blk_below (g := gb833) (o := .cells #[.int .i64 a0_0, .int .i64 a0_1, .int .i64 a0_2, .int .i64 a0_3] 51 (0, 0)) (by (with_reducible repeat (first | refine blk_drewN ?_ _ | refine blk_drew ?_ | refine blk_alloc ?_ _)); refine blk_far ?_ NB833_838.out _; (with_reducible repeat (first | refine blk_drewN ?_ _ | refine blk_drew ?_ | refine blk_alloc ?_ _)); refine blk_far ?_ NB833_838.out _; (with_reducible repeat (first | refine blk_drewN ?_ _ | refine blk_drew ?_ | refine blk_alloc ?_ _)); refine blk_far ?_ NB833_838.out _; (with_reducible repeat (first | refine blk_drewN ?_ _ | refine blk_drew ?_ | refine blk_alloc ?_ _)); refine blk_far ?_ NB833_838.out _; (with_reducible repeat (first | refine blk_drewN ?_ _ | refine blk_drew ?_ | refine blk_alloc ?_ _)); exact BK833.out) hb); have n1_ := Aside0.mk (blk_below (g := gb838) (o := .cells #[.int .i64 t839, .int .i64 t840, .int .i64 t841, .int .i64 t842] 51 (0, 0)) (by (with_reducible repeat (first | refine blk_drewN ?_ _ | refine blk_drew ?_ | refine blk_alloc ?_ _)); refine blk_put (cs := #[.int .i64 t839, .int .i64 t840, .int .i64 t841, .int .i64 x839003_1]) ?_ 3 _ rfl; (with_reducible repeat (first | refine blk_drewN ?_ _ | refine blk_drew ?_ | refine blk_alloc ?_ _)); refine blk_put (cs := #[.int .i64 t839, .int .i64 t840, .int .i64 x839002_1, .int .i64 x839003_1]) ?_ 2 _ rfl; (with_reducible repeat (first | refine blk_drewN ?_ _ | refine blk_drew ?_ | refine blk_alloc ?_ _)); refine blk_put (cs := #[.int .i64 t839, .int .i64 x839001_1, .int .i64 x839002_1, .int .i64 x839003_1]) ?_ 1 _ rfl; (with_reducible repeat (first | refine blk_drewN ?_ _ | refine blk_drew ?_ | refine blk_alloc ?_ _)); refine blk_put (cs := #[.int .i64 x839000_1, .int .i64 x839001_1, .int .i64 x839002_1, .int .i64 x839003_1]) ?_ 0 _ rfl; (with_reducible repeat (first | refine blk_drewN ?_ _ | refine blk_drew ?_ | refine blk_alloc ?_ _)); exact BK838.out) hb); have n2_ := Aside0.mk (below_step (by repeat (first | (with_reducible first | exact HB.out | apply below_alloc | apply pw_below_drewN | apply below_drew1 | refine below_set ?_ GE833.out | refine below_set ?_ GE838.out) | exact HB.out)) hb); clear BK833; clear BK838; clear HB; have BK833 := n0_; have BK838 := n1_; have HB := n2_; clear n0_ n1_ n2_; (try clear hb); (try clear hb2); (try clear hk); (try clear hi)))
            have n0_ := Aside0.mk (blk_drew BK833.out)
            have n1_ := Aside0.mk (blk_drew BK838.out)
            have n2_ := Aside0.mk (below_drew1 HB.out)
            clear BK833
            clear BK838
            clear HB
            have BK833 := n0_
            have BK838 := n1_
            have HB := n2_
            clear n0_ n1_ n2_
            refine start_ (n := 3) (S := fun w' => w'.cell? ⟨gb838, 0, none⟩ = some (.int .i64 t839) ∧ w'.cell? ⟨gb838, 1, none⟩ = some (.int .i64 t840) ∧ w'.cell? ⟨gb838, 2, none⟩ = some (.int .i64 t841) ∧ w'.cell? ⟨gb838, 3, none⟩ = some (.int .i64 t842)) (ds := []) #[false, false, false] (by kernel_rfl) rfl rfl ⟨(blk_cell BK838.out 0).trans rfl, (blk_cell BK838.out 1).trans rfl, (blk_cell BK838.out 2).trans rfl, (blk_cell BK838.out 3).trans rfl⟩ (fun hHeld => ?_)
            generalize w19.drew = w20 at BK833 BK838 HB hHeld ⊢
            refine take_ (i := 0) (N := some 16) (v := ?_) (a' := ?_) #[true, false, false] rfl rfl (by kernel_rfl) (fun _ _ _ h => h) (Or.inl ⟨by rfl, ?_⟩) hHeld ?_ ?_
            rotate_left
            · rintro w' ⟨s0, s1, s2, s3⟩
              go_simp
              with_reducible rfl
            rotate_left
            · simp only [Act.put, List.setIfInBounds_toArray, List.set_cons_zero, List.set_cons_succ, i64_w, i32_w]
              rfl
            refine one_ (i := 1) (N := some 17) #[true, true, false] rfl rfl (by kernel_rfl) (by decide) (fun K hK => ?_)
            refine goes_ Try.func162 (by kernel_rfl) rfl #[] (by rfl) rfl rfl (by (try simp only [List.map_toArray, List.map_cons, List.map_nil]); first | done | rfl | (simp only [List.length_drop, List.length_take]; rfl)) ?_
            with_reducible refine (spec_l02Unit.calls  t844 t845 t846 t847 _ A12.out).mono ?_
            rintro e w21 ⟨rfl, hb⟩
            refine ⟨_, rfl, ?_⟩
            have n0_ := Aside0.mk (blk_below (g := gb833) (o := .cells #[.int .i64 a0_0, .int .i64 a0_1, .int .i64 a0_2, .int .i64 a0_3] 51 (0, 0)) (by (with_reducible repeat (first | refine blk_drewN ?_ _ | refine blk_drew ?_ | refine blk_alloc ?_ _)); exact BK833.out) hb)
            have n1_ := Aside0.mk (blk_below (g := gb838) (o := .cells #[.int .i64 t839, .int .i64 t840, .int .i64 t841, .int .i64 t842] 51 (0, 0)) (by (with_reducible repeat (first | refine blk_drewN ?_ _ | refine blk_drew ?_ | refine blk_alloc ?_ _)); exact BK838.out) hb)
            have n2_ := Aside0.mk (below_step (by repeat (first | (with_reducible first | exact HB.out | apply below_alloc | apply pw_below_drewN | apply below_drew1 | refine below_set ?_ GE833.out | refine below_set ?_ GE838.out) | exact HB.out)) hb)
            clear BK833
            clear BK838
            clear HB
            have BK833 := n0_
            have BK838 := n1_
            have HB := n2_
            clear n0_ n1_ n2_
            (try clear hb)
            (try clear hb2)
            (try clear hk)
            (try clear hi)
            refine hK.out _ _ ⟨(blk_cell BK838.out 0).trans rfl, (blk_cell BK838.out 1).trans rfl, (blk_cell BK838.out 2).trans rfl, (blk_cell BK838.out 3).trans rfl⟩ (fun hHeld => ?_)
            clear hK K
            refine norm_ (a' := ?_) ?_ ?_
            rotate_left
            · show Act.put _ (some 17) _ = _
              simp only [Act.put, List.setIfInBounds_toArray, List.set_cons_zero, List.set_cons_succ, i64_w, i32_w]
              rfl
            refine pure_ (i := 2) (N := some 18) (v := ?_) (a' := ?_) #[true, true, true] rfl rfl (by kernel_rfl) (fun _ _ _ h => h) (Or.inl ⟨by rfl, ?_⟩) ?_ ?_
            rotate_left
            · intro w'
              go_simp
              with_reducible rfl
            rotate_left
            · simp only [Act.put, List.setIfInBounds_toArray, List.set_cons_zero, List.set_cons_succ, i64_w, i32_w]
              rfl
            refine done_ (by kernel_rfl) ?_
            try go_wp2
            go_ret
            exact ⟨by first | rfl | (simp [errW_none, errW_some] <;> rfl) | (simp [*, errW_none, errW_some] <;> rfl), by repeat (first | (with_reducible first | exact HB.out | apply below_alloc | apply pw_below_drewN | apply below_drew1 | refine below_set ?_ GE833.out | refine below_set ?_ GE838.out) | exact HB.out)⟩
          · rw [if_neg c13] at H
            have c13b0 : (t839 == t844 && (t840 == t845 && (t841 == t846 && (t842 == t847)))) = false := by simpa using c13
            (try (have c13b1 : decide (t839 = t844 && (t840 == t845 && (t841 == t846 && (t842 == t847)))) = false := by simpa using c13))
            (try (have c13b2 : (t839 == t844 && (t840 == t845 && (t841 == t846 && (t842 == t847)))) = false := by simpa using c13))
            (try (have c13b3 : ¬ (t839 = t844 && (t840 == t845 && (t841 == t846 && (t842 == t847)))) := by simpa using c13))
            clear c13
            have H' := Aside0.mk H
            clear H
            have hnb22 := NB833_838.out
            have hnc22 := NB838_833.out
            have hcz23_0 : wr.cell? ⟨gb833, 0, none⟩ = some (.int .i64 a0_0) := (blk_cell BK833.out 0).trans rfl
            have hcz23_1 : wr.cell? ⟨gb833, 1, none⟩ = some (.int .i64 a0_1) := (blk_cell BK833.out 1).trans rfl
            have hcz23_2 : wr.cell? ⟨gb833, 2, none⟩ = some (.int .i64 a0_2) := (blk_cell BK833.out 2).trans rfl
            have hcz23_3 : wr.cell? ⟨gb833, 3, none⟩ = some (.int .i64 a0_3) := (blk_cell BK833.out 3).trans rfl
            have hfz23_0 := blk_frozen BK833.out 0
            have hfz23_1 := blk_frozen BK833.out 1
            have hfz23_2 := blk_frozen BK833.out 2
            have hfz23_3 := blk_frozen BK833.out 3
            have hcz24_0 : wr.cell? ⟨gb838, 0, none⟩ = some (.int .i64 x839000_1) := (blk_cell BK838.out 0).trans rfl
            have hcz24_1 : wr.cell? ⟨gb838, 1, none⟩ = some (.int .i64 x839001_1) := (blk_cell BK838.out 1).trans rfl
            have hcz24_2 : wr.cell? ⟨gb838, 2, none⟩ = some (.int .i64 x839002_1) := (blk_cell BK838.out 2).trans rfl
            have hcz24_3 : wr.cell? ⟨gb838, 3, none⟩ = some (.int .i64 x839003_1) := (blk_cell BK838.out 3).trans rfl
            have hfz24_0 := blk_frozen BK838.out 0
            have hfz24_1 := blk_frozen BK838.out 1
            have hfz24_2 := blk_frozen BK838.out 2
            have hfz24_3 := blk_frozen BK838.out 3
            try go_wp2_with (first | ((with_reducible refine gate_callee (f := 151) rfl ?_); refine goesL_ (some 12) rfl rfl Try.func151 (by kernel_rfl) rfl #[.agg #[.int .i64 a0_0, .int .i64 a0_1, .int .i64 a0_2, .int .i64 a0_3], .agg #[.int .i64 x839000_1, .int .i64 x839001_1, .int .i64 x839002_1, .int .i64 x839003_1]] rfl (by (try simp only [List.map_toArray, List.map_cons, List.map_nil]); first | done | rfl | (simp only [List.length_drop, List.length_take]; rfl)) ?_; (with_reducible refine (spec_l02Multiply.calls a0_0 a0_1 a0_2 a0_3 x839000_1 x839001_1 x839002_1 x839003_1 t839 t840 t841 t842 _ A9.out).mono ?_); rintro e w25 ⟨rfl, hb⟩; refine ⟨_, rfl, ?_⟩; have n0_ := Aside0.mk (blk_below (g := gb833) (o := .cells #[.int .i64 a0_0, .int .i64 a0_1, .int .i64 a0_2, .int .i64 a0_3] 51 (0, 0)) (by (with_reducible repeat (first | refine blk_drewN ?_ _ | refine blk_drew ?_ | refine blk_alloc ?_ _)); exact BK833.out) hb); have n1_ := Aside0.mk (blk_below (g := gb838) (o := .cells #[.int .i64 x839000_1, .int .i64 x839001_1, .int .i64 x839002_1, .int .i64 x839003_1] 51 (0, 0)) (by (with_reducible repeat (first | refine blk_drewN ?_ _ | refine blk_drew ?_ | refine blk_alloc ?_ _)); exact BK838.out) hb); have n2_ := Aside0.mk (below_step (by repeat (first | (with_reducible first | exact HB.out | apply below_alloc | apply pw_below_drewN | apply below_drew1 | refine below_set ?_ GE833.out | refine below_set ?_ GE838.out) | exact HB.out)) hb); clear BK833; clear BK838; clear HB; have BK833 := n0_; have BK838 := n1_; have HB := n2_; clear n0_ n1_ n2_; (try clear hb); (try clear hb2); (try clear hk); (try clear hi); have hcz26_0 : w25.cell? ⟨gb838, 0, none⟩ = some (.int .i64 x839000_1) := (blk_cell BK838.out 0).trans rfl; have hcz26_1 : w25.cell? ⟨gb838, 1, none⟩ = some (.int .i64 x839001_1) := (blk_cell BK838.out 1).trans rfl; have hcz26_2 : w25.cell? ⟨gb838, 2, none⟩ = some (.int .i64 x839002_1) := (blk_cell BK838.out 2).trans rfl; have hcz26_3 : w25.cell? ⟨gb838, 3, none⟩ = some (.int .i64 x839003_1) := (blk_cell BK838.out 3).trans rfl; have hfz26_0 := blk_frozen BK838.out 0; have hfz26_1 := blk_frozen BK838.out 1; have hfz26_2 := blk_frozen BK838.out 2; have hfz26_3 := blk_frozen BK838.out 3) | ((with_reducible refine gate_callee (f := 157) rfl ?_); refine goesL_ (some 14) rfl rfl Try.func157 (by kernel_rfl) rfl #[.agg #[.int .i64 t839, .int .i64 t840, .int .i64 t841, .int .i64 t842]] rfl (by (try simp only [List.map_toArray, List.map_cons, List.map_nil]); first | done | rfl | (simp only [List.length_drop, List.length_take]; rfl)) ?_; (with_reducible refine (spec_l02Small.calls t839 t840 t841 t842 true _ A10.out).mono ?_); rintro e w27 ⟨rfl, hb⟩; refine ⟨_, rfl, ?_⟩; have n0_ := Aside0.mk (blk_below (g := gb833) (o := .cells #[.int .i64 a0_0, .int .i64 a0_1, .int .i64 a0_2, .int .i64 a0_3] 51 (0, 0)) (by (with_reducible repeat (first | refine blk_drewN ?_ _ | refine blk_drew ?_ | refine blk_alloc ?_ _)); refine blk_far ?_ NB833_838.out _; (with_reducible repeat (first | refine blk_drewN ?_ _ | refine blk_drew ?_ | refine blk_alloc ?_ _)); refine blk_far ?_ NB833_838.out _; (with_reducible repeat (first | refine blk_drewN ?_ _ | refine blk_drew ?_ | refine blk_alloc ?_ _)); refine blk_far ?_ NB833_838.out _; (with_reducible repeat (first | refine blk_drewN ?_ _ | refine blk_drew ?_ | refine blk_alloc ?_ _)); refine blk_far ?_ NB833_838.out _; (with_reducible repeat (first | refine blk_drewN ?_ _ | refine blk_drew ?_ | refine blk_alloc ?_ _)); exact BK833.out) hb); have n1_ := Aside0.mk (blk_below (g := gb838) (o := .cells #[.int .i64 t839, .int .i64 t840, .int .i64 t841, .int .i64 t842] 51 (0, 0)) (by (with_reducible repeat (first | refine blk_drewN ?_ _ | refine blk_drew ?_ | refine blk_alloc ?_ _)); refine blk_put (cs := #[.int .i64 t839, .int .i64 t840, .int .i64 t841, .int .i64 x839003_1]) ?_ 3 _ rfl; (with_reducible repeat (first | refine blk_drewN ?_ _ | refine blk_drew ?_ | refine blk_alloc ?_ _)); refine blk_put (cs := #[.int .i64 t839, .int .i64 t840, .int .i64 x839002_1, .int .i64 x839003_1]) ?_ 2 _ rfl; (with_reducible repeat (first | refine blk_drewN ?_ _ | refine blk_drew ?_ | refine blk_alloc ?_ _)); refine blk_put (cs := #[.int .i64 t839, .int .i64 x839001_1, .int .i64 x839002_1, .int .i64 x839003_1]) ?_ 1 _ rfl; (with_reducible repeat (first | refine blk_drewN ?_ _ | refine blk_drew ?_ | refine blk_alloc ?_ _)); refine blk_put (cs := #[.int .i64 x839000_1, .int .i64 x839001_1, .int .i64 x839002_1, .int .i64 x839003_1]) ?_ 0 _ rfl; (with_reducible repeat (first | refine blk_drewN ?_ _ | refine blk_drew ?_ | refine blk_alloc ?_ _)); exact BK838.out) hb); have n2_ := Aside0.mk (below_step (by repeat (first | (with_reducible first | exact HB.out | apply below_alloc | apply pw_below_drewN | apply below_drew1 | refine below_set ?_ GE833.out | refine below_set ?_ GE838.out) | exact HB.out)) hb); clear BK833; clear BK838; clear HB; have BK833 := n0_; have BK838 := n1_; have HB := n2_; clear n0_ n1_ n2_; (try clear hb); (try clear hb2); (try clear hk); (try clear hi)))
            have n0_ := Aside0.mk (blk_drew BK833.out)
            have n1_ := Aside0.mk (blk_drew BK838.out)
            have n2_ := Aside0.mk (below_drew1 HB.out)
            clear BK833
            clear BK838
            clear HB
            have BK833 := n0_
            have BK838 := n1_
            have HB := n2_
            clear n0_ n1_ n2_
            refine start_ (n := 3) (S := fun w' => w'.cell? ⟨gb838, 0, none⟩ = some (.int .i64 t839) ∧ w'.cell? ⟨gb838, 1, none⟩ = some (.int .i64 t840) ∧ w'.cell? ⟨gb838, 2, none⟩ = some (.int .i64 t841) ∧ w'.cell? ⟨gb838, 3, none⟩ = some (.int .i64 t842)) (ds := []) #[false, false, false] (by kernel_rfl) rfl rfl ⟨(blk_cell BK838.out 0).trans rfl, (blk_cell BK838.out 1).trans rfl, (blk_cell BK838.out 2).trans rfl, (blk_cell BK838.out 3).trans rfl⟩ (fun hHeld => ?_)
            generalize w27.drew = w28 at BK833 BK838 HB hHeld ⊢
            refine take_ (i := 0) (N := some 16) (v := ?_) (a' := ?_) #[true, false, false] rfl rfl (by kernel_rfl) (fun _ _ _ h => h) (Or.inl ⟨by rfl, ?_⟩) hHeld ?_ ?_
            rotate_left
            · rintro w' ⟨s0, s1, s2, s3⟩
              go_simp
              with_reducible rfl
            rotate_left
            · simp only [Act.put, List.setIfInBounds_toArray, List.set_cons_zero, List.set_cons_succ, i64_w, i32_w]
              rfl
            refine one_ (i := 1) (N := some 17) #[true, true, false] rfl rfl (by kernel_rfl) (by decide) (fun K hK => ?_)
            refine goes_ Try.func162 (by kernel_rfl) rfl #[] (by rfl) rfl rfl (by (try simp only [List.map_toArray, List.map_cons, List.map_nil]); first | done | rfl | (simp only [List.length_drop, List.length_take]; rfl)) ?_
            with_reducible refine (spec_l02Unit.calls  t844 t845 t846 t847 _ A12.out).mono ?_
            rintro e w29 ⟨rfl, hb⟩
            refine ⟨_, rfl, ?_⟩
            have n0_ := Aside0.mk (blk_below (g := gb833) (o := .cells #[.int .i64 a0_0, .int .i64 a0_1, .int .i64 a0_2, .int .i64 a0_3] 51 (0, 0)) (by (with_reducible repeat (first | refine blk_drewN ?_ _ | refine blk_drew ?_ | refine blk_alloc ?_ _)); exact BK833.out) hb)
            have n1_ := Aside0.mk (blk_below (g := gb838) (o := .cells #[.int .i64 t839, .int .i64 t840, .int .i64 t841, .int .i64 t842] 51 (0, 0)) (by (with_reducible repeat (first | refine blk_drewN ?_ _ | refine blk_drew ?_ | refine blk_alloc ?_ _)); exact BK838.out) hb)
            have n2_ := Aside0.mk (below_step (by repeat (first | (with_reducible first | exact HB.out | apply below_alloc | apply pw_below_drewN | apply below_drew1 | refine below_set ?_ GE833.out | refine below_set ?_ GE838.out) | exact HB.out)) hb)
            clear BK833
            clear BK838
            clear HB
            have BK833 := n0_
            have BK838 := n1_
            have HB := n2_
            clear n0_ n1_ n2_
            (try clear hb)
            (try clear hb2)
            (try clear hk)
            (try clear hi)
            refine hK.out _ _ ⟨(blk_cell BK838.out 0).trans rfl, (blk_cell BK838.out 1).trans rfl, (blk_cell BK838.out 2).trans rfl, (blk_cell BK838.out 3).trans rfl⟩ (fun hHeld => ?_)
            clear hK K
            refine norm_ (a' := ?_) ?_ ?_
            rotate_left
            · show Act.put _ (some 17) _ = _
              simp only [Act.put, List.setIfInBounds_toArray, List.set_cons_zero, List.set_cons_succ, i64_w, i32_w]
              rfl
            refine pure_ (i := 2) (N := some 18) (v := ?_) (a' := ?_) #[true, true, true] rfl rfl (by kernel_rfl) (fun _ _ _ h => h) (Or.inl ⟨by rfl, ?_⟩) ?_ ?_
            rotate_left
            · intro w'
              go_simp
              with_reducible rfl
            rotate_left
            · simp only [Act.put, List.setIfInBounds_toArray, List.set_cons_zero, List.set_cons_succ, i64_w, i32_w]
              rfl
            refine done_ (by kernel_rfl) ?_
            try go_wp2
            go_roundg k1
            case measure => have := HK1.out; omega
            case rel => exact ⟨(wrap64 (x4_1 + 1)), (t839), (t840), (t841), (t842), (by first | rfl | (simp; done) | (simp [*]; done)), H', ⟨by have := HK1.out; omega⟩, ⟨by (with_reducible repeat (first | refine blk_drewN ?_ _ | refine blk_drew ?_ | refine blk_alloc ?_ _)); exact BK833.out⟩, ⟨by (with_reducible repeat (first | refine blk_drewN ?_ _ | refine blk_drew ?_ | refine blk_alloc ?_ _)); exact BK838.out⟩, ⟨by repeat (first | (with_reducible first | exact HB.out | apply below_alloc | apply pw_below_drewN | apply below_drew1 | refine below_set ?_ GE833.out | refine below_set ?_ GE838.out) | exact HB.out)⟩⟩
        · replace c11 := Bool.eq_false_iff.mpr c11
          subst c11
          have H1 : (some 0) = some r := by rw [if_neg (show ¬ (false = true) by decide)] at H; exact H
          clear H
          have H := H1
          clear H1
          obtain rfl := Option.some.inj H
          have hnb30 := NB833_838.out
          have hnc30 := NB838_833.out
          have hcz31_0 : wr.cell? ⟨gb833, 0, none⟩ = some (.int .i64 a0_0) := (blk_cell BK833.out 0).trans rfl
          have hcz31_1 : wr.cell? ⟨gb833, 1, none⟩ = some (.int .i64 a0_1) := (blk_cell BK833.out 1).trans rfl
          have hcz31_2 : wr.cell? ⟨gb833, 2, none⟩ = some (.int .i64 a0_2) := (blk_cell BK833.out 2).trans rfl
          have hcz31_3 : wr.cell? ⟨gb833, 3, none⟩ = some (.int .i64 a0_3) := (blk_cell BK833.out 3).trans rfl
          have hfz31_0 := blk_frozen BK833.out 0
          have hfz31_1 := blk_frozen BK833.out 1
          have hfz31_2 := blk_frozen BK833.out 2
          have hfz31_3 := blk_frozen BK833.out 3
          have hcz32_0 : wr.cell? ⟨gb838, 0, none⟩ = some (.int .i64 x839000_1) := (blk_cell BK838.out 0).trans rfl
          have hcz32_1 : wr.cell? ⟨gb838, 1, none⟩ = some (.int .i64 x839001_1) := (blk_cell BK838.out 1).trans rfl
          have hcz32_2 : wr.cell? ⟨gb838, 2, none⟩ = some (.int .i64 x839002_1) := (blk_cell BK838.out 2).trans rfl
          have hcz32_3 : wr.cell? ⟨gb838, 3, none⟩ = some (.int .i64 x839003_1) := (blk_cell BK838.out 3).trans rfl
          have hfz32_0 := blk_frozen BK838.out 0
          have hfz32_1 := blk_frozen BK838.out 1
          have hfz32_2 := blk_frozen BK838.out 2
          have hfz32_3 := blk_frozen BK838.out 3
          go_wp2_with (first | ((with_reducible refine gate_callee (f := 151) rfl ?_); refine goesL_ (some 12) rfl rfl Try.func151 (by kernel_rfl) rfl #[.agg #[.int .i64 a0_0, .int .i64 a0_1, .int .i64 a0_2, .int .i64 a0_3], .agg #[.int .i64 x839000_1, .int .i64 x839001_1, .int .i64 x839002_1, .int .i64 x839003_1]] rfl (by (try simp only [List.map_toArray, List.map_cons, List.map_nil]); first | done | rfl | (simp only [List.length_drop, List.length_take]; rfl)) ?_; (with_reducible refine (spec_l02Multiply.calls a0_0 a0_1 a0_2 a0_3 x839000_1 x839001_1 x839002_1 x839003_1 t839 t840 t841 t842 _ A9.out).mono ?_); rintro e w33 ⟨rfl, hb⟩; refine ⟨_, rfl, ?_⟩; have n0_ := Aside0.mk (blk_below (g := gb833) (o := .cells #[.int .i64 a0_0, .int .i64 a0_1, .int .i64 a0_2, .int .i64 a0_3] 51 (0, 0)) (by (with_reducible repeat (first | refine blk_drewN ?_ _ | refine blk_drew ?_ | refine blk_alloc ?_ _)); exact BK833.out) hb); have n1_ := Aside0.mk (blk_below (g := gb838) (o := .cells #[.int .i64 x839000_1, .int .i64 x839001_1, .int .i64 x839002_1, .int .i64 x839003_1] 51 (0, 0)) (by (with_reducible repeat (first | refine blk_drewN ?_ _ | refine blk_drew ?_ | refine blk_alloc ?_ _)); exact BK838.out) hb); have n2_ := Aside0.mk (below_step (by repeat (first | (with_reducible first | exact HB.out | apply below_alloc | apply pw_below_drewN | apply below_drew1 | refine below_set ?_ GE833.out | refine below_set ?_ GE838.out) | exact HB.out)) hb); clear BK833; clear BK838; clear HB; have BK833 := n0_; have BK838 := n1_; have HB := n2_; clear n0_ n1_ n2_; (try clear hb); (try clear hb2); (try clear hk); (try clear hi); have hcz34_0 : w33.cell? ⟨gb838, 0, none⟩ = some (.int .i64 x839000_1) := (blk_cell BK838.out 0).trans rfl; have hcz34_1 : w33.cell? ⟨gb838, 1, none⟩ = some (.int .i64 x839001_1) := (blk_cell BK838.out 1).trans rfl; have hcz34_2 : w33.cell? ⟨gb838, 2, none⟩ = some (.int .i64 x839002_1) := (blk_cell BK838.out 2).trans rfl; have hcz34_3 : w33.cell? ⟨gb838, 3, none⟩ = some (.int .i64 x839003_1) := (blk_cell BK838.out 3).trans rfl; have hfz34_0 := blk_frozen BK838.out 0; have hfz34_1 := blk_frozen BK838.out 1; have hfz34_2 := blk_frozen BK838.out 2; have hfz34_3 := blk_frozen BK838.out 3) | ((with_reducible refine gate_callee (f := 157) rfl ?_); refine goesL_ (some 14) rfl rfl Try.func157 (by kernel_rfl) rfl #[.agg #[.int .i64 t839, .int .i64 t840, .int .i64 t841, .int .i64 t842]] rfl (by (try simp only [List.map_toArray, List.map_cons, List.map_nil]); first | done | rfl | (simp only [List.length_drop, List.length_take]; rfl)) ?_; (with_reducible refine (spec_l02Small.calls t839 t840 t841 t842 false _ A10.out).mono ?_); rintro e w35 ⟨rfl, hb⟩; refine ⟨_, rfl, ?_⟩; have n0_ := Aside0.mk (blk_below (g := gb833) (o := .cells #[.int .i64 a0_0, .int .i64 a0_1, .int .i64 a0_2, .int .i64 a0_3] 51 (0, 0)) (by (with_reducible repeat (first | refine blk_drewN ?_ _ | refine blk_drew ?_ | refine blk_alloc ?_ _)); refine blk_far ?_ NB833_838.out _; (with_reducible repeat (first | refine blk_drewN ?_ _ | refine blk_drew ?_ | refine blk_alloc ?_ _)); refine blk_far ?_ NB833_838.out _; (with_reducible repeat (first | refine blk_drewN ?_ _ | refine blk_drew ?_ | refine blk_alloc ?_ _)); refine blk_far ?_ NB833_838.out _; (with_reducible repeat (first | refine blk_drewN ?_ _ | refine blk_drew ?_ | refine blk_alloc ?_ _)); refine blk_far ?_ NB833_838.out _; (with_reducible repeat (first | refine blk_drewN ?_ _ | refine blk_drew ?_ | refine blk_alloc ?_ _)); exact BK833.out) hb); have n1_ := Aside0.mk (blk_below (g := gb838) (o := .cells #[.int .i64 t839, .int .i64 t840, .int .i64 t841, .int .i64 t842] 51 (0, 0)) (by (with_reducible repeat (first | refine blk_drewN ?_ _ | refine blk_drew ?_ | refine blk_alloc ?_ _)); refine blk_put (cs := #[.int .i64 t839, .int .i64 t840, .int .i64 t841, .int .i64 x839003_1]) ?_ 3 _ rfl; (with_reducible repeat (first | refine blk_drewN ?_ _ | refine blk_drew ?_ | refine blk_alloc ?_ _)); refine blk_put (cs := #[.int .i64 t839, .int .i64 t840, .int .i64 x839002_1, .int .i64 x839003_1]) ?_ 2 _ rfl; (with_reducible repeat (first | refine blk_drewN ?_ _ | refine blk_drew ?_ | refine blk_alloc ?_ _)); refine blk_put (cs := #[.int .i64 t839, .int .i64 x839001_1, .int .i64 x839002_1, .int .i64 x839003_1]) ?_ 1 _ rfl; (with_reducible repeat (first | refine blk_drewN ?_ _ | refine blk_drew ?_ | refine blk_alloc ?_ _)); refine blk_put (cs := #[.int .i64 x839000_1, .int .i64 x839001_1, .int .i64 x839002_1, .int .i64 x839003_1]) ?_ 0 _ rfl; (with_reducible repeat (first | refine blk_drewN ?_ _ | refine blk_drew ?_ | refine blk_alloc ?_ _)); exact BK838.out) hb); have n2_ := Aside0.mk (below_step (by repeat (first | (with_reducible first | exact HB.out | apply below_alloc | apply pw_below_drewN | apply below_drew1 | refine below_set ?_ GE833.out | refine below_set ?_ GE838.out) | exact HB.out)) hb); clear BK833; clear BK838; clear HB; have BK833 := n0_; have BK838 := n1_; have HB := n2_; clear n0_ n1_ n2_; (try clear hb); (try clear hb2); (try clear hk); (try clear hi)))
          go_ret
          exact ⟨by first | rfl | (simp [errW_none, errW_some] <;> rfl) | (simp [*, errW_none, errW_some] <;> rfl), by repeat (first | (with_reducible first | exact HB.out | apply below_alloc | apply pw_below_drewN | apply below_drew1 | refine below_set ?_ GE833.out | refine below_set ?_ GE838.out) | exact HB.out)⟩
      · rw [if_neg c8] at H
        have c8b0 : decide (x4_1 ≤ 6) = false := decide_eq_false c8
        clear c8
        obtain rfl := Option.some.inj H
        go_wp2
        go_ret
        exact ⟨by first | rfl | (simp [errW_none, errW_some] <;> rfl) | (simp [*, errW_none, errW_some] <;> rfl), by repeat (first | (with_reducible first | exact HB.out | apply below_alloc | apply pw_below_drewN | apply below_drew1 | refine below_set ?_ GE833.out | refine below_set ?_ GE838.out) | exact HB.out)⟩

/-! ### impl_Mat_isReflection: function 163 -/
def impl_Mat_isReflection.f (k : Nat) (a0_0 : Int) (a0_1 : Int) (a0_2 : Int) (a0_3 : Int) : Option (Bool) := (impl_Mat_det.f a0_0 a0_1 a0_2 a0_3).bind fun t920 => (if t920 = (-1) then ((impl_Mat_order.f k a0_0 a0_1 a0_2 a0_3).bind fun t921 => (some (t921 == 2))) else (some false))
theorem impl_Mat_isReflection.mono : ∀ a0 a1 a2 a3 k, LeO (impl_Mat_isReflection.f k a0 a1 a2 a3) (impl_Mat_isReflection.f (k + 1) a0 a1 a2 a3) := by
  intro a0 a1 a2 a3 k
  unfold impl_Mat_isReflection.f
  repeat' first
      | (with_reducible exact impl_Mat_order.mono _ _ _ _ _)
      | (with_reducible exact LeO.refl _)
      | (with_reducible exact LeO.none _)
      | (with_reducible refine LeO.ite ?_ ?_)
      | (with_reducible refine LeO.bind ?_ (fun _ => ?_))
      | exact impl_Mat_order.mono _ _ _ _ _
      | exact LeO.none _
      | refine LeO.ite ?_ ?_
      | refine LeO.bind ?_ (fun _ => ?_)
set_option maxHeartbeats 8000000 in
set_option maxRecDepth 100000 in
theorem impl_Mat_isReflection.calls (k : Nat) (a0_0 : Int) (a0_1 : Int) (a0_2 : Int) (a0_3 : Int) (r : Bool) (w : World) (h : impl_Mat_isReflection.f k a0_0 a0_1 a0_2 a0_3 = some r) :
    Calls Try.prog 163 #[.agg #[.int .i64 a0_0, .int .i64 a0_1, .int .i64 a0_2, .int .i64 a0_3]] w fun e w' => e = .returned (.bool r) ∧ Below w.heap.size w w' := by
  have hu51 := Try.underlying51
  have HB := Aside0.mk (Below.refl w.heap.size w)
  have H : ((impl_Mat_det.f a0_0 a0_1 a0_2 a0_3).bind fun t920 => (if t920 = (-1) then ((impl_Mat_order.f k a0_0 a0_1 a0_2 a0_3).bind fun t921 => (some (t921 == 2))) else (some false))) = some r := h
  clear h
  replace H := Option.bind_eq_some_iff.mp H
  obtain ⟨t920, A20, H⟩ := H
  replace H : (if t920 = (-1) then ((impl_Mat_order.f k a0_0 a0_1 a0_2 a0_3).bind fun t921 => (some (t921 == 2))) else (some false)) = some r := H
  have A2 := Aside0.mk A20
  clear A20
  by_cases c3 : t920 = (-1)
  · rw [if_pos c3] at H
    have c3b0 : (t920 == (-1)) = true := beq_iff_eq.mpr c3
    have c3b1 : (t920 != (-1)) = false := bne_eq_false_iff_eq.mpr c3
    clear c3
    replace H := Option.bind_eq_some_iff.mp H
    obtain ⟨t921, A40, H⟩ := H
    replace H : (some (t921 == 2)) = some r := H
    have A4 := Aside0.mk A40
    clear A40
    obtain rfl := Option.some.inj H
    go_enter Try.func163, Try.ntmps163
    go_wp2_with (first | ((with_reducible refine gate_dst (N := 1) rfl ?_); refine box_event ?hg (N := 1) ?hd (cs := #[.int .i64 a0_0, .int .i64 a0_1, .int .i64 a0_2, .int .i64 a0_3]) (t := 51) ?hr ?_; (case hd => rfl); (case hg => rfl); (case hr => first | (go_simp; done) | (go_simp; rfl)); intro gb919 hg w5 hbox hb; have n0_ := Aside0.mk (below_step (by repeat (first | (with_reducible first | exact HB.out | apply below_alloc | apply pw_below_drewN | apply below_drew1) | exact HB.out)) hb); have n1_ := Aside0.mk (hbox); have n2_ := Aside0.mk ((by rw [hg]; exact (below_size (by repeat (first | (with_reducible first | exact HB.out | apply below_alloc | apply pw_below_drewN | apply below_drew1) | exact HB.out))) : w.heap.size ≤ gb919)); have n3_ := Aside0.mk ((by rw [hg]; exact (below_size (by repeat (first | (with_reducible first | exact HB.out | apply below_alloc | apply pw_below_drewN | apply below_drew1) | exact HB.out))) : w.heap.size ≤ gb919)); clear HB; have HB := n0_; have BK919 := n1_; have GW919 := n2_; have GE919 := n3_; clear n0_ n1_ n2_ n3_; clear hb hbox hg; have hcz6_0 : w5.cell? ⟨gb919, 0, none⟩ = some (.int .i64 a0_0) := (blk_cell BK919.out 0).trans rfl; have hcz6_1 : w5.cell? ⟨gb919, 1, none⟩ = some (.int .i64 a0_1) := (blk_cell BK919.out 1).trans rfl; have hcz6_2 : w5.cell? ⟨gb919, 2, none⟩ = some (.int .i64 a0_2) := (blk_cell BK919.out 2).trans rfl; have hcz6_3 : w5.cell? ⟨gb919, 3, none⟩ = some (.int .i64 a0_3) := (blk_cell BK919.out 3).trans rfl; have hfz6_0 := blk_frozen BK919.out 0; have hfz6_1 := blk_frozen BK919.out 1; have hfz6_2 := blk_frozen BK919.out 2; have hfz6_3 := blk_frozen BK919.out 3) | ((with_reducible refine gate_callee (f := 156) rfl ?_); refine goesL_ (some 4) rfl rfl Try.func156 (by kernel_rfl) rfl #[.agg #[.int .i64 a0_0, .int .i64 a0_1, .int .i64 a0_2, .int .i64 a0_3]] rfl (by (try simp only [List.map_toArray, List.map_cons, List.map_nil]); first | done | rfl | (simp only [List.length_drop, List.length_take]; rfl)) ?_; (with_reducible refine (impl_Mat_det.calls a0_0 a0_1 a0_2 a0_3 t920 _ A2.out).mono ?_); rintro e w7 ⟨rfl, hb⟩; refine ⟨_, rfl, ?_⟩; have n0_ := Aside0.mk (blk_below (g := gb919) (o := .cells #[.int .i64 a0_0, .int .i64 a0_1, .int .i64 a0_2, .int .i64 a0_3] 51 (0, 0)) (by (with_reducible repeat (first | refine blk_drewN ?_ _ | refine blk_drew ?_ | refine blk_alloc ?_ _)); exact BK919.out) hb); have n1_ := Aside0.mk (below_step (by repeat (first | (with_reducible first | exact HB.out | apply below_alloc | apply pw_below_drewN | apply below_drew1 | refine below_set ?_ GE919.out) | exact HB.out)) hb); clear BK919; clear HB; have BK919 := n0_; have HB := n1_; clear n0_ n1_; (try clear hb); (try clear hb2); (try clear hk); (try clear hi); have hcz8_0 : w7.cell? ⟨gb919, 0, none⟩ = some (.int .i64 a0_0) := (blk_cell BK919.out 0).trans rfl; have hcz8_1 : w7.cell? ⟨gb919, 1, none⟩ = some (.int .i64 a0_1) := (blk_cell BK919.out 1).trans rfl; have hcz8_2 : w7.cell? ⟨gb919, 2, none⟩ = some (.int .i64 a0_2) := (blk_cell BK919.out 2).trans rfl; have hcz8_3 : w7.cell? ⟨gb919, 3, none⟩ = some (.int .i64 a0_3) := (blk_cell BK919.out 3).trans rfl; have hfz8_0 := blk_frozen BK919.out 0; have hfz8_1 := blk_frozen BK919.out 1; have hfz8_2 := blk_frozen BK919.out 2; have hfz8_3 := blk_frozen BK919.out 3) | (go_at_call 159; (with_reducible refine (impl_Mat_order.calls k a0_0 a0_1 a0_2 a0_3 t921 _ A4.out).mono ?_); rintro e w9 ⟨rfl, hb⟩; have n0_ := Aside0.mk (blk_below (g := gb919) (o := .cells #[.int .i64 a0_0, .int .i64 a0_1, .int .i64 a0_2, .int .i64 a0_3] 51 (0, 0)) (by (with_reducible repeat (first | refine blk_drewN ?_ _ | refine blk_drew ?_ | refine blk_alloc ?_ _)); exact BK919.out) hb); have n1_ := Aside0.mk (below_step (by repeat (first | (with_reducible first | exact HB.out | apply below_alloc | apply pw_below_drewN | apply below_drew1 | refine below_set ?_ GE919.out) | exact HB.out)) hb); clear BK919; clear HB; have BK919 := n0_; have HB := n1_; clear n0_ n1_; (try clear hb); (try clear hb2); (try clear hk); (try clear hi)))
    go_ret
    exact ⟨by first | rfl | (simp [errW_none, errW_some] <;> rfl) | (simp [*, errW_none, errW_some] <;> rfl), by repeat (first | (with_reducible first | exact HB.out | apply below_alloc | apply pw_below_drewN | apply below_drew1 | refine below_set ?_ GE919.out) | exact HB.out)⟩
  · rw [if_neg c3] at H
    have c3b0 : (t920 == (-1)) = false := beq_eq_false_iff_ne.mpr c3
    have c3b1 : (t920 != (-1)) = true := bne_iff_ne.mpr c3
    obtain rfl := Option.some.inj H
    go_enter Try.func163, Try.ntmps163
    go_wp2_with (first | ((with_reducible refine gate_dst (N := 1) rfl ?_); refine box_event ?hg (N := 1) ?hd (cs := #[.int .i64 a0_0, .int .i64 a0_1, .int .i64 a0_2, .int .i64 a0_3]) (t := 51) ?hr ?_; (case hd => rfl); (case hg => rfl); (case hr => first | (go_simp; done) | (go_simp; rfl)); intro gb919 hg w10 hbox hb; have n0_ := Aside0.mk (below_step (by repeat (first | (with_reducible first | exact HB.out | apply below_alloc | apply pw_below_drewN | apply below_drew1) | exact HB.out)) hb); have n1_ := Aside0.mk (hbox); have n2_ := Aside0.mk ((by rw [hg]; exact (below_size (by repeat (first | (with_reducible first | exact HB.out | apply below_alloc | apply pw_below_drewN | apply below_drew1) | exact HB.out))) : w.heap.size ≤ gb919)); have n3_ := Aside0.mk ((by rw [hg]; exact (below_size (by repeat (first | (with_reducible first | exact HB.out | apply below_alloc | apply pw_below_drewN | apply below_drew1) | exact HB.out))) : w.heap.size ≤ gb919)); clear HB; have HB := n0_; have BK919 := n1_; have GW919 := n2_; have GE919 := n3_; clear n0_ n1_ n2_ n3_; clear hb hbox hg; have hcz11_0 : w10.cell? ⟨gb919, 0, none⟩ = some (.int .i64 a0_0) := (blk_cell BK919.out 0).trans rfl; have hcz11_1 : w10.cell? ⟨gb919, 1, none⟩ = some (.int .i64 a0_1) := (blk_cell BK919.out 1).trans rfl; have hcz11_2 : w10.cell? ⟨gb919, 2, none⟩ = some (.int .i64 a0_2) := (blk_cell BK919.out 2).trans rfl; have hcz11_3 : w10.cell? ⟨gb919, 3, none⟩ = some (.int .i64 a0_3) := (blk_cell BK919.out 3).trans rfl; have hfz11_0 := blk_frozen BK919.out 0; have hfz11_1 := blk_frozen BK919.out 1; have hfz11_2 := blk_frozen BK919.out 2; have hfz11_3 := blk_frozen BK919.out 3) | ((with_reducible refine gate_callee (f := 156) rfl ?_); refine goesL_ (some 4) rfl rfl Try.func156 (by kernel_rfl) rfl #[.agg #[.int .i64 a0_0, .int .i64 a0_1, .int .i64 a0_2, .int .i64 a0_3]] rfl (by (try simp only [List.map_toArray, List.map_cons, List.map_nil]); first | done | rfl | (simp only [List.length_drop, List.length_take]; rfl)) ?_; (with_reducible refine (impl_Mat_det.calls a0_0 a0_1 a0_2 a0_3 t920 _ A2.out).mono ?_); rintro e w12 ⟨rfl, hb⟩; refine ⟨_, rfl, ?_⟩; have n0_ := Aside0.mk (blk_below (g := gb919) (o := .cells #[.int .i64 a0_0, .int .i64 a0_1, .int .i64 a0_2, .int .i64 a0_3] 51 (0, 0)) (by (with_reducible repeat (first | refine blk_drewN ?_ _ | refine blk_drew ?_ | refine blk_alloc ?_ _)); exact BK919.out) hb); have n1_ := Aside0.mk (below_step (by repeat (first | (with_reducible first | exact HB.out | apply below_alloc | apply pw_below_drewN | apply below_drew1 | refine below_set ?_ GE919.out) | exact HB.out)) hb); clear BK919; clear HB; have BK919 := n0_; have HB := n1_; clear n0_ n1_; (try clear hb); (try clear hb2); (try clear hk); (try clear hi)))
    go_ret
    exact ⟨by first | rfl | (simp [errW_none, errW_some] <;> rfl) | (simp [*, errW_none, errW_some] <;> rfl), by repeat (first | (with_reducible first | exact HB.out | apply below_alloc | apply pw_below_drewN | apply below_drew1 | refine below_set ?_ GE919.out) | exact HB.out)⟩

/-! ### impl_Mat_isRotation: function 164 -/
def impl_Mat_isRotation.f (k : Nat) (a0_0 : Int) (a0_1 : Int) (a0_2 : Int) (a0_3 : Int) : Option (Bool) := (impl_Mat_det.f a0_0 a0_1 a0_2 a0_3).bind fun t923 => (if t923 = 1 then ((impl_Mat_order.f k a0_0 a0_1 a0_2 a0_3).bind fun t924 => (some (decide (t924 > 0)))) else (some false))
theorem impl_Mat_isRotation.mono : ∀ a0 a1 a2 a3 k, LeO (impl_Mat_isRotation.f k a0 a1 a2 a3) (impl_Mat_isRotation.f (k + 1) a0 a1 a2 a3) := by
  intro a0 a1 a2 a3 k
  unfold impl_Mat_isRotation.f
  repeat' first
      | (with_reducible exact impl_Mat_order.mono _ _ _ _ _)
      | (with_reducible exact LeO.refl _)
      | (with_reducible exact LeO.none _)
      | (with_reducible refine LeO.ite ?_ ?_)
      | (with_reducible refine LeO.bind ?_ (fun _ => ?_))
      | exact impl_Mat_order.mono _ _ _ _ _
      | exact LeO.none _
      | refine LeO.ite ?_ ?_
      | refine LeO.bind ?_ (fun _ => ?_)
set_option maxHeartbeats 8000000 in
set_option maxRecDepth 100000 in
theorem impl_Mat_isRotation.calls (k : Nat) (a0_0 : Int) (a0_1 : Int) (a0_2 : Int) (a0_3 : Int) (r : Bool) (w : World) (h : impl_Mat_isRotation.f k a0_0 a0_1 a0_2 a0_3 = some r) :
    Calls Try.prog 164 #[.agg #[.int .i64 a0_0, .int .i64 a0_1, .int .i64 a0_2, .int .i64 a0_3]] w fun e w' => e = .returned (.bool r) ∧ Below w.heap.size w w' := by
  have hu51 := Try.underlying51
  have HB := Aside0.mk (Below.refl w.heap.size w)
  have H : ((impl_Mat_det.f a0_0 a0_1 a0_2 a0_3).bind fun t923 => (if t923 = 1 then ((impl_Mat_order.f k a0_0 a0_1 a0_2 a0_3).bind fun t924 => (some (decide (t924 > 0)))) else (some false))) = some r := h
  clear h
  replace H := Option.bind_eq_some_iff.mp H
  obtain ⟨t923, A20, H⟩ := H
  replace H : (if t923 = 1 then ((impl_Mat_order.f k a0_0 a0_1 a0_2 a0_3).bind fun t924 => (some (decide (t924 > 0)))) else (some false)) = some r := H
  have A2 := Aside0.mk A20
  clear A20
  by_cases c3 : t923 = 1
  · rw [if_pos c3] at H
    have c3b0 : (t923 == 1) = true := beq_iff_eq.mpr c3
    have c3b1 : (t923 != 1) = false := bne_eq_false_iff_eq.mpr c3
    clear c3
    replace H := Option.bind_eq_some_iff.mp H
    obtain ⟨t924, A40, H⟩ := H
    replace H : (some (decide (t924 > 0))) = some r := H
    have A4 := Aside0.mk A40
    clear A40
    obtain rfl := Option.some.inj H
    go_enter Try.func164, Try.ntmps164
    go_wp2_with (first | ((with_reducible refine gate_dst (N := 1) rfl ?_); refine box_event ?hg (N := 1) ?hd (cs := #[.int .i64 a0_0, .int .i64 a0_1, .int .i64 a0_2, .int .i64 a0_3]) (t := 51) ?hr ?_; (case hd => rfl); (case hg => rfl); (case hr => first | (go_simp; done) | (go_simp; rfl)); intro gb922 hg w5 hbox hb; have n0_ := Aside0.mk (below_step (by repeat (first | (with_reducible first | exact HB.out | apply below_alloc | apply pw_below_drewN | apply below_drew1) | exact HB.out)) hb); have n1_ := Aside0.mk (hbox); have n2_ := Aside0.mk ((by rw [hg]; exact (below_size (by repeat (first | (with_reducible first | exact HB.out | apply below_alloc | apply pw_below_drewN | apply below_drew1) | exact HB.out))) : w.heap.size ≤ gb922)); have n3_ := Aside0.mk ((by rw [hg]; exact (below_size (by repeat (first | (with_reducible first | exact HB.out | apply below_alloc | apply pw_below_drewN | apply below_drew1) | exact HB.out))) : w.heap.size ≤ gb922)); clear HB; have HB := n0_; have BK922 := n1_; have GW922 := n2_; have GE922 := n3_; clear n0_ n1_ n2_ n3_; clear hb hbox hg; have hcz6_0 : w5.cell? ⟨gb922, 0, none⟩ = some (.int .i64 a0_0) := (blk_cell BK922.out 0).trans rfl; have hcz6_1 : w5.cell? ⟨gb922, 1, none⟩ = some (.int .i64 a0_1) := (blk_cell BK922.out 1).trans rfl; have hcz6_2 : w5.cell? ⟨gb922, 2, none⟩ = some (.int .i64 a0_2) := (blk_cell BK922.out 2).trans rfl; have hcz6_3 : w5.cell? ⟨gb922, 3, none⟩ = some (.int .i64 a0_3) := (blk_cell BK922.out 3).trans rfl; have hfz6_0 := blk_frozen BK922.out 0; have hfz6_1 := blk_frozen BK922.out 1; have hfz6_2 := blk_frozen BK922.out 2; have hfz6_3 := blk_frozen BK922.out 3) | ((with_reducible refine gate_callee (f := 156) rfl ?_); refine goesL_ (some 4) rfl rfl Try.func156 (by kernel_rfl) rfl #[.agg #[.int .i64 a0_0, .int .i64 a0_1, .int .i64 a0_2, .int .i64 a0_3]] rfl (by (try simp only [List.map_toArray, List.map_cons, List.map_nil]); first | done | rfl | (simp only [List.length_drop, List.length_take]; rfl)) ?_; (with_reducible refine (impl_Mat_det.calls a0_0 a0_1 a0_2 a0_3 t923 _ A2.out).mono ?_); rintro e w7 ⟨rfl, hb⟩; refine ⟨_, rfl, ?_⟩; have n0_ := Aside0.mk (blk_below (g := gb922) (o := .cells #[.int .i64 a0_0, .int .i64 a0_1, .int .i64 a0_2, .int .i64 a0_3] 51 (0, 0)) (by (with_reducible repeat (first | refine blk_drewN ?_ _ | refine blk_drew ?_ | refine blk_alloc ?_ _)); exact BK922.out) hb); have n1_ := Aside0.mk (below_step (by repeat (first | (with_reducible first | exact HB.out | apply below_alloc | apply pw_below_drewN | apply below_drew1 | refine below_set ?_ GE922.out) | exact HB.out)) hb); clear BK922; clear HB; have BK922 := n0_; have HB := n1_; clear n0_ n1_; (try clear hb); (try clear hb2); (try clear hk); (try clear hi); have hcz8_0 : w7.cell? ⟨gb922, 0, none⟩ = some (.int .i64 a0_0) := (blk_cell BK922.out 0).trans rfl; have hcz8_1 : w7.cell? ⟨gb922, 1, none⟩ = some (.int .i64 a0_1) := (blk_cell BK922.out 1).trans rfl; have hcz8_2 : w7.cell? ⟨gb922, 2, none⟩ = some (.int .i64 a0_2) := (blk_cell BK922.out 2).trans rfl; have hcz8_3 : w7.cell? ⟨gb922, 3, none⟩ = some (.int .i64 a0_3) := (blk_cell BK922.out 3).trans rfl; have hfz8_0 := blk_frozen BK922.out 0; have hfz8_1 := blk_frozen BK922.out 1; have hfz8_2 := blk_frozen BK922.out 2; have hfz8_3 := blk_frozen BK922.out 3) | (go_at_call 159; (with_reducible refine (impl_Mat_order.calls k a0_0 a0_1 a0_2 a0_3 t924 _ A4.out).mono ?_); rintro e w9 ⟨rfl, hb⟩; have n0_ := Aside0.mk (blk_below (g := gb922) (o := .cells #[.int .i64 a0_0, .int .i64 a0_1, .int .i64 a0_2, .int .i64 a0_3] 51 (0, 0)) (by (with_reducible repeat (first | refine blk_drewN ?_ _ | refine blk_drew ?_ | refine blk_alloc ?_ _)); exact BK922.out) hb); have n1_ := Aside0.mk (below_step (by repeat (first | (with_reducible first | exact HB.out | apply below_alloc | apply pw_below_drewN | apply below_drew1 | refine below_set ?_ GE922.out) | exact HB.out)) hb); clear BK922; clear HB; have BK922 := n0_; have HB := n1_; clear n0_ n1_; (try clear hb); (try clear hb2); (try clear hk); (try clear hi)))
    go_ret
    exact ⟨by first | rfl | (simp [errW_none, errW_some] <;> rfl) | (simp [*, errW_none, errW_some] <;> rfl), by repeat (first | (with_reducible first | exact HB.out | apply below_alloc | apply pw_below_drewN | apply below_drew1 | refine below_set ?_ GE922.out) | exact HB.out)⟩
  · rw [if_neg c3] at H
    have c3b0 : (t923 == 1) = false := beq_eq_false_iff_ne.mpr c3
    have c3b1 : (t923 != 1) = true := bne_iff_ne.mpr c3
    obtain rfl := Option.some.inj H
    go_enter Try.func164, Try.ntmps164
    go_wp2_with (first | ((with_reducible refine gate_dst (N := 1) rfl ?_); refine box_event ?hg (N := 1) ?hd (cs := #[.int .i64 a0_0, .int .i64 a0_1, .int .i64 a0_2, .int .i64 a0_3]) (t := 51) ?hr ?_; (case hd => rfl); (case hg => rfl); (case hr => first | (go_simp; done) | (go_simp; rfl)); intro gb922 hg w10 hbox hb; have n0_ := Aside0.mk (below_step (by repeat (first | (with_reducible first | exact HB.out | apply below_alloc | apply pw_below_drewN | apply below_drew1) | exact HB.out)) hb); have n1_ := Aside0.mk (hbox); have n2_ := Aside0.mk ((by rw [hg]; exact (below_size (by repeat (first | (with_reducible first | exact HB.out | apply below_alloc | apply pw_below_drewN | apply below_drew1) | exact HB.out))) : w.heap.size ≤ gb922)); have n3_ := Aside0.mk ((by rw [hg]; exact (below_size (by repeat (first | (with_reducible first | exact HB.out | apply below_alloc | apply pw_below_drewN | apply below_drew1) | exact HB.out))) : w.heap.size ≤ gb922)); clear HB; have HB := n0_; have BK922 := n1_; have GW922 := n2_; have GE922 := n3_; clear n0_ n1_ n2_ n3_; clear hb hbox hg; have hcz11_0 : w10.cell? ⟨gb922, 0, none⟩ = some (.int .i64 a0_0) := (blk_cell BK922.out 0).trans rfl; have hcz11_1 : w10.cell? ⟨gb922, 1, none⟩ = some (.int .i64 a0_1) := (blk_cell BK922.out 1).trans rfl; have hcz11_2 : w10.cell? ⟨gb922, 2, none⟩ = some (.int .i64 a0_2) := (blk_cell BK922.out 2).trans rfl; have hcz11_3 : w10.cell? ⟨gb922, 3, none⟩ = some (.int .i64 a0_3) := (blk_cell BK922.out 3).trans rfl; have hfz11_0 := blk_frozen BK922.out 0; have hfz11_1 := blk_frozen BK922.out 1; have hfz11_2 := blk_frozen BK922.out 2; have hfz11_3 := blk_frozen BK922.out 3) | ((with_reducible refine gate_callee (f := 156) rfl ?_); refine goesL_ (some 4) rfl rfl Try.func156 (by kernel_rfl) rfl #[.agg #[.int .i64 a0_0, .int .i64 a0_1, .int .i64 a0_2, .int .i64 a0_3]] rfl (by (try simp only [List.map_toArray, List.map_cons, List.map_nil]); first | done | rfl | (simp only [List.length_drop, List.length_take]; rfl)) ?_; (with_reducible refine (impl_Mat_det.calls a0_0 a0_1 a0_2 a0_3 t923 _ A2.out).mono ?_); rintro e w12 ⟨rfl, hb⟩; refine ⟨_, rfl, ?_⟩; have n0_ := Aside0.mk (blk_below (g := gb922) (o := .cells #[.int .i64 a0_0, .int .i64 a0_1, .int .i64 a0_2, .int .i64 a0_3] 51 (0, 0)) (by (with_reducible repeat (first | refine blk_drewN ?_ _ | refine blk_drew ?_ | refine blk_alloc ?_ _)); exact BK922.out) hb); have n1_ := Aside0.mk (below_step (by repeat (first | (with_reducible first | exact HB.out | apply below_alloc | apply pw_below_drewN | apply below_drew1 | refine below_set ?_ GE922.out) | exact HB.out)) hb); clear BK922; clear HB; have BK922 := n0_; have HB := n1_; clear n0_ n1_; (try clear hb); (try clear hb2); (try clear hk); (try clear hi)))
    go_ret
    exact ⟨by first | rfl | (simp [errW_none, errW_some] <;> rfl) | (simp [*, errW_none, errW_some] <;> rfl), by repeat (first | (with_reducible first | exact HB.out | apply below_alloc | apply pw_below_drewN | apply below_drew1 | refine below_set ?_ GE922.out) | exact HB.out)⟩

/-! ### spec_l02Kind: function 165 -/
def spec_l02Kind.f (k : Nat) (a0_0 : Int) (a0_1 : Int) (a0_2 : Int) (a0_3 : Int) : Option (Int) := (spec_l02Det.f a0_0 a0_1 a0_2 a0_3).bind fun t931 => (if t931 = 1 then ((spec_l02Order.f k a0_0 a0_1 a0_2 a0_3).bind fun t932 => (some t932)) else ((spec_l02Order.f k a0_0 a0_1 a0_2 a0_3).bind fun t933 => (if t933 = 2 then (some (-2)) else (some 0))))
theorem spec_l02Kind.mono : ∀ a0 a1 a2 a3 k, LeO (spec_l02Kind.f k a0 a1 a2 a3) (spec_l02Kind.f (k + 1) a0 a1 a2 a3) := by
  intro a0 a1 a2 a3 k
  unfold spec_l02Kind.f
  repeat' first
      | (with_reducible exact spec_l02Order.mono _ _ _ _ _)
      | (with_reducible exact LeO.refl _)
      | (with_reducible exact LeO.none _)
      | (with_reducible refine LeO.ite ?_ ?_)
      | (with_reducible refine LeO.bind ?_ (fun _ => ?_))
      | exact spec_l02Order.mono _ _ _ _ _
      | exact LeO.none _
      | refine LeO.ite ?_ ?_
      | refine LeO.bind ?_ (fun _ => ?_)
set_option maxHeartbeats 8000000 in
set_option maxRecDepth 100000 in
theorem spec_l02Kind.calls (k : Nat) (a0_0 : Int) (a0_1 : Int) (a0_2 : Int) (a0_3 : Int) (r : Int) (w : World) (h : spec_l02Kind.f k a0_0 a0_1 a0_2 a0_3 = some r) :
    Calls Try.prog 165 #[.agg #[.int .i64 a0_0, .int .i64 a0_1, .int .i64 a0_2, .int .i64 a0_3]] w fun e w' => e = .returned (.int .i64 r) ∧ Below w.heap.size w w' := by
  have hu51 := Try.underlying51
  have HB := Aside0.mk (Below.refl w.heap.size w)
  have H : ((spec_l02Det.f a0_0 a0_1 a0_2 a0_3).bind fun t931 => (if t931 = 1 then ((spec_l02Order.f k a0_0 a0_1 a0_2 a0_3).bind fun t932 => (some t932)) else ((spec_l02Order.f k a0_0 a0_1 a0_2 a0_3).bind fun t933 => (if t933 = 2 then (some (-2)) else (some 0))))) = some r := h
  clear h
  replace H := Option.bind_eq_some_iff.mp H
  obtain ⟨t931, A20, H⟩ := H
  replace H : (if t931 = 1 then ((spec_l02Order.f k a0_0 a0_1 a0_2 a0_3).bind fun t932 => (some t932)) else ((spec_l02Order.f k a0_0 a0_1 a0_2 a0_3).bind fun t933 => (if t933 = 2 then (some (-2)) else (some 0)))) = some r := H
  have A2 := Aside0.mk A20
  clear A20
  by_cases c3 : t931 = 1
  · rw [if_pos c3] at H
    have c3b0 : (t931 == 1) = true := beq_iff_eq.mpr c3
    have c3b1 : (t931 != 1) = false := bne_eq_false_iff_eq.mpr c3
    clear c3
    replace H := Option.bind_eq_some_iff.mp H
    obtain ⟨t932, A40, H⟩ := H
    replace H : (some t932) = some r := H
    have A4 := Aside0.mk A40
    clear A40
    obtain rfl := Option.some.inj H
    go_enter Try.func165, Try.ntmps165
    go_wp2_with (first | ((with_reducible refine gate_dst (N := 1) rfl ?_); refine box_event ?hg (N := 1) ?hd (cs := #[.int .i64 a0_0, .int .i64 a0_1, .int .i64 a0_2, .int .i64 a0_3]) (t := 51) ?hr ?_; (case hd => rfl); (case hg => rfl); (case hr => first | (go_simp; done) | (go_simp; rfl)); intro gb930 hg w5 hbox hb; have n0_ := Aside0.mk (below_step (by repeat (first | (with_reducible first | exact HB.out | apply below_alloc | apply pw_below_drewN | apply below_drew1) | exact HB.out)) hb); have n1_ := Aside0.mk (hbox); have n2_ := Aside0.mk ((by rw [hg]; exact (below_size (by repeat (first | (with_reducible first | exact HB.out | apply below_alloc | apply pw_below_drewN | apply below_drew1) | exact HB.out))) : w.heap.size ≤ gb930)); have n3_ := Aside0.mk ((by rw [hg]; exact (below_size (by repeat (first | (with_reducible first | exact HB.out | apply below_alloc | apply pw_below_drewN | apply below_drew1) | exact HB.out))) : w.heap.size ≤ gb930)); clear HB; have HB := n0_; have BK930 := n1_; have GW930 := n2_; have GE930 := n3_; clear n0_ n1_ n2_ n3_; clear hb hbox hg; have hcz6_0 : w5.cell? ⟨gb930, 0, none⟩ = some (.int .i64 a0_0) := (blk_cell BK930.out 0).trans rfl; have hcz6_1 : w5.cell? ⟨gb930, 1, none⟩ = some (.int .i64 a0_1) := (blk_cell BK930.out 1).trans rfl; have hcz6_2 : w5.cell? ⟨gb930, 2, none⟩ = some (.int .i64 a0_2) := (blk_cell BK930.out 2).trans rfl; have hcz6_3 : w5.cell? ⟨gb930, 3, none⟩ = some (.int .i64 a0_3) := (blk_cell BK930.out 3).trans rfl; have hfz6_0 := blk_frozen BK930.out 0; have hfz6_1 := blk_frozen BK930.out 1; have hfz6_2 := blk_frozen BK930.out 2; have hfz6_3 := blk_frozen BK930.out 3) | ((with_reducible refine gate_callee (f := 158) rfl ?_); refine goesL_ (some 5) rfl rfl Try.func158 (by kernel_rfl) rfl #[.agg #[.int .i64 a0_0, .int .i64 a0_1, .int .i64 a0_2, .int .i64 a0_3]] rfl (by (try simp only [List.map_toArray, List.map_cons, List.map_nil]); first | done | rfl | (simp only [List.length_drop, List.length_take]; rfl)) ?_; (with_reducible refine (spec_l02Det.calls a0_0 a0_1 a0_2 a0_3 t931 _ A2.out).mono ?_); rintro e w7 ⟨rfl, hb⟩; refine ⟨_, rfl, ?_⟩; have n0_ := Aside0.mk (blk_below (g := gb930) (o := .cells #[.int .i64 a0_0, .int .i64 a0_1, .int .i64 a0_2, .int .i64 a0_3] 51 (0, 0)) (by (with_reducible repeat (first | refine blk_drewN ?_ _ | refine blk_drew ?_ | refine blk_alloc ?_ _)); exact BK930.out) hb); have n1_ := Aside0.mk (below_step (by repeat (first | (with_reducible first | exact HB.out | apply below_alloc | apply pw_below_drewN | apply below_drew1 | refine below_set ?_ GE930.out) | exact HB.out)) hb); clear BK930; clear HB; have BK930 := n0_; have HB := n1_; clear n0_ n1_; (try clear hb); (try clear hb2); (try clear hk); (try clear hi); have hcz8_0 : w7.cell? ⟨gb930, 0, none⟩ = some (.int .i64 a0_0) := (blk_cell BK930.out 0).trans rfl; have hcz8_1 : w7.cell? ⟨gb930, 1, none⟩ = some (.int .i64 a0_1) := (blk_cell BK930.out 1).trans rfl; have hcz8_2 : w7.cell? ⟨gb930, 2, none⟩ = some (.int .i64 a0_2) := (blk_cell BK930.out 2).trans rfl; have hcz8_3 : w7.cell? ⟨gb930, 3, none⟩ = some (.int .i64 a0_3) := (blk_cell BK930.out 3).trans rfl; have hfz8_0 := blk_frozen BK930.out 0; have hfz8_1 := blk_frozen BK930.out 1; have hfz8_2 := blk_frozen BK930.out 2; have hfz8_3 := blk_frozen BK930.out 3) | ((with_reducible refine gate_callee (f := 160) rfl ?_); refine goesL_ (some 8) rfl rfl Try.func160 (by kernel_rfl) rfl #[.agg #[.int .i64 a0_0, .int .i64 a0_1, .int .i64 a0_2, .int .i64 a0_3]] rfl (by (try simp only [List.map_toArray, List.map_cons, List.map_nil]); first | done | rfl | (simp only [List.length_drop, List.length_take]; rfl)) ?_; (with_reducible refine (spec_l02Order.calls k a0_0 a0_1 a0_2 a0_3 t932 _ A4.out).mono ?_); rintro e w9 ⟨rfl, hb⟩; refine ⟨_, rfl, ?_⟩; have n0_ := Aside0.mk (blk_below (g := gb930) (o := .cells #[.int .i64 a0_0, .int .i64 a0_1, .int .i64 a0_2, .int .i64 a0_3] 51 (0, 0)) (by (with_reducible repeat (first | refine blk_drewN ?_ _ | refine blk_drew ?_ | refine blk_alloc ?_ _)); exact BK930.out) hb); have n1_ := Aside0.mk (below_step (by repeat (first | (with_reducible first | exact HB.out | apply below_alloc | apply pw_below_drewN | apply below_drew1 | refine below_set ?_ GE930.out) | exact HB.out)) hb); clear BK930; clear HB; have BK930 := n0_; have HB := n1_; clear n0_ n1_; (try clear hb); (try clear hb2); (try clear hk); (try clear hi)))
    go_ret
    exact ⟨by first | rfl | (simp [errW_none, errW_some] <;> rfl) | (simp [*, errW_none, errW_some] <;> rfl), by repeat (first | (with_reducible first | exact HB.out | apply below_alloc | apply pw_below_drewN | apply below_drew1 | refine below_set ?_ GE930.out) | exact HB.out)⟩
  · rw [if_neg c3] at H
    have c3b0 : (t931 == 1) = false := beq_eq_false_iff_ne.mpr c3
    have c3b1 : (t931 != 1) = true := bne_iff_ne.mpr c3
    replace H := Option.bind_eq_some_iff.mp H
    obtain ⟨t933, A100, H⟩ := H
    replace H : (if t933 = 2 then (some (-2)) else (some 0)) = some r := H
    have A10 := Aside0.mk A100
    clear A100
    by_cases c11 : t933 = 2
    · rw [if_pos c11] at H
      have c11b0 : (t933 == 2) = true := beq_iff_eq.mpr c11
      have c11b1 : (t933 != 2) = false := bne_eq_false_iff_eq.mpr c11
      clear c11
      obtain rfl := Option.some.inj H
      go_enter Try.func165, Try.ntmps165
      go_wp2_with (first | ((with_reducible refine gate_dst (N := 1) rfl ?_); refine box_event ?hg (N := 1) ?hd (cs := #[.int .i64 a0_0, .int .i64 a0_1, .int .i64 a0_2, .int .i64 a0_3]) (t := 51) ?hr ?_; (case hd => rfl); (case hg => rfl); (case hr => first | (go_simp; done) | (go_simp; rfl)); intro gb930 hg w12 hbox hb; have n0_ := Aside0.mk (below_step (by repeat (first | (with_reducible first | exact HB.out | apply below_alloc | apply pw_below_drewN | apply below_drew1) | exact HB.out)) hb); have n1_ := Aside0.mk (hbox); have n2_ := Aside0.mk ((by rw [hg]; exact (below_size (by repeat (first | (with_reducible first | exact HB.out | apply below_alloc | apply pw_below_drewN | apply below_drew1) | exact HB.out))) : w.heap.size ≤ gb930)); have n3_ := Aside0.mk ((by rw [hg]; exact (below_size (by repeat (first | (with_reducible first | exact HB.out | apply below_alloc | apply pw_below_drewN | apply below_drew1) | exact HB.out))) : w.heap.size ≤ gb930)); clear HB; have HB := n0_; have BK930 := n1_; have GW930 := n2_; have GE930 := n3_; clear n0_ n1_ n2_ n3_; clear hb hbox hg; have hcz13_0 : w12.cell? ⟨gb930, 0, none⟩ = some (.int .i64 a0_0) := (blk_cell BK930.out 0).trans rfl; have hcz13_1 : w12.cell? ⟨gb930, 1, none⟩ = some (.int .i64 a0_1) := (blk_cell BK930.out 1).trans rfl; have hcz13_2 : w12.cell? ⟨gb930, 2, none⟩ = some (.int .i64 a0_2) := (blk_cell BK930.out 2).trans rfl; have hcz13_3 : w12.cell? ⟨gb930, 3, none⟩ = some (.int .i64 a0_3) := (blk_cell BK930.out 3).trans rfl; have hfz13_0 := blk_frozen BK930.out 0; have hfz13_1 := blk_frozen BK930.out 1; have hfz13_2 := blk_frozen BK930.out 2; have hfz13_3 := blk_frozen BK930.out 3) | ((with_reducible refine gate_callee (f := 158) rfl ?_); refine goesL_ (some 5) rfl rfl Try.func158 (by kernel_rfl) rfl #[.agg #[.int .i64 a0_0, .int .i64 a0_1, .int .i64 a0_2, .int .i64 a0_3]] rfl (by (try simp only [List.map_toArray, List.map_cons, List.map_nil]); first | done | rfl | (simp only [List.length_drop, List.length_take]; rfl)) ?_; (with_reducible refine (spec_l02Det.calls a0_0 a0_1 a0_2 a0_3 t931 _ A2.out).mono ?_); rintro e w14 ⟨rfl, hb⟩; refine ⟨_, rfl, ?_⟩; have n0_ := Aside0.mk (blk_below (g := gb930) (o := .cells #[.int .i64 a0_0, .int .i64 a0_1, .int .i64 a0_2, .int .i64 a0_3] 51 (0, 0)) (by (with_reducible repeat (first | refine blk_drewN ?_ _ | refine blk_drew ?_ | refine blk_alloc ?_ _)); exact BK930.out) hb); have n1_ := Aside0.mk (below_step (by repeat (first | (with_reducible first | exact HB.out | apply below_alloc | apply pw_below_drewN | apply below_drew1 | refine below_set ?_ GE930.out) | exact HB.out)) hb); clear BK930; clear HB; have BK930 := n0_; have HB := n1_; clear n0_ n1_; (try clear hb); (try clear hb2); (try clear hk); (try clear hi); have hcz15_0 : w14.cell? ⟨gb930, 0, none⟩ = some (.int .i64 a0_0) := (blk_cell BK930.out 0).trans rfl; have hcz15_1 : w14.cell? ⟨gb930, 1, none⟩ = some (.int .i64 a0_1) := (blk_cell BK930.out 1).trans rfl; have hcz15_2 : w14.cell? ⟨gb930, 2, none⟩ = some (.int .i64 a0_2) := (blk_cell BK930.out 2).trans rfl; have hcz15_3 : w14.cell? ⟨gb930, 3, none⟩ = some (.int .i64 a0_3) := (blk_cell BK930.out 3).trans rfl; have hfz15_0 := blk_frozen BK930.out 0; have hfz15_1 := blk_frozen BK930.out 1; have hfz15_2 := blk_frozen BK930.out 2; have hfz15_3 := blk_frozen BK930.out 3) | ((with_reducible refine gate_callee (f := 160) rfl ?_); refine goesL_ (some 11) rfl rfl Try.func160 (by kernel_rfl) rfl #[.agg #[.int .i64 a0_0, .int .i64 a0_1, .int .i64 a0_2, .int .i64 a0_3]] rfl (by (try simp only [List.map_toArray, List.map_cons, List.map_nil]); first | done | rfl | (simp only [List.length_drop, List.length_take]; rfl)) ?_; (with_reducible refine (spec_l02Order.calls k a0_0 a0_1 a0_2 a0_3 t933 _ A10.out).mono ?_); rintro e w16 ⟨rfl, hb⟩; refine ⟨_, rfl, ?_⟩; have n0_ := Aside0.mk (blk_below (g := gb930) (o := .cells #[.int .i64 a0_0, .int .i64 a0_1, .int .i64 a0_2, .int .i64 a0_3] 51 (0, 0)) (by (with_reducible repeat (first | refine blk_drewN ?_ _ | refine blk_drew ?_ | refine blk_alloc ?_ _)); exact BK930.out) hb); have n1_ := Aside0.mk (below_step (by repeat (first | (with_reducible first | exact HB.out | apply below_alloc | apply pw_below_drewN | apply below_drew1 | refine below_set ?_ GE930.out) | exact HB.out)) hb); clear BK930; clear HB; have BK930 := n0_; have HB := n1_; clear n0_ n1_; (try clear hb); (try clear hb2); (try clear hk); (try clear hi)))
      go_ret
      exact ⟨by first | rfl | (simp [errW_none, errW_some] <;> rfl) | (simp [*, errW_none, errW_some] <;> rfl), by repeat (first | (with_reducible first | exact HB.out | apply below_alloc | apply pw_below_drewN | apply below_drew1 | refine below_set ?_ GE930.out) | exact HB.out)⟩
    · rw [if_neg c11] at H
      have c11b0 : (t933 == 2) = false := beq_eq_false_iff_ne.mpr c11
      have c11b1 : (t933 != 2) = true := bne_iff_ne.mpr c11
      obtain rfl := Option.some.inj H
      go_enter Try.func165, Try.ntmps165
      go_wp2_with (first | ((with_reducible refine gate_dst (N := 1) rfl ?_); refine box_event ?hg (N := 1) ?hd (cs := #[.int .i64 a0_0, .int .i64 a0_1, .int .i64 a0_2, .int .i64 a0_3]) (t := 51) ?hr ?_; (case hd => rfl); (case hg => rfl); (case hr => first | (go_simp; done) | (go_simp; rfl)); intro gb930 hg w17 hbox hb; have n0_ := Aside0.mk (below_step (by repeat (first | (with_reducible first | exact HB.out | apply below_alloc | apply pw_below_drewN | apply below_drew1) | exact HB.out)) hb); have n1_ := Aside0.mk (hbox); have n2_ := Aside0.mk ((by rw [hg]; exact (below_size (by repeat (first | (with_reducible first | exact HB.out | apply below_alloc | apply pw_below_drewN | apply below_drew1) | exact HB.out))) : w.heap.size ≤ gb930)); have n3_ := Aside0.mk ((by rw [hg]; exact (below_size (by repeat (first | (with_reducible first | exact HB.out | apply below_alloc | apply pw_below_drewN | apply below_drew1) | exact HB.out))) : w.heap.size ≤ gb930)); clear HB; have HB := n0_; have BK930 := n1_; have GW930 := n2_; have GE930 := n3_; clear n0_ n1_ n2_ n3_; clear hb hbox hg; have hcz18_0 : w17.cell? ⟨gb930, 0, none⟩ = some (.int .i64 a0_0) := (blk_cell BK930.out 0).trans rfl; have hcz18_1 : w17.cell? ⟨gb930, 1, none⟩ = some (.int .i64 a0_1) := (blk_cell BK930.out 1).trans rfl; have hcz18_2 : w17.cell? ⟨gb930, 2, none⟩ = some (.int .i64 a0_2) := (blk_cell BK930.out 2).trans rfl; have hcz18_3 : w17.cell? ⟨gb930, 3, none⟩ = some (.int .i64 a0_3) := (blk_cell BK930.out 3).trans rfl; have hfz18_0 := blk_frozen BK930.out 0; have hfz18_1 := blk_frozen BK930.out 1; have hfz18_2 := blk_frozen BK930.out 2; have hfz18_3 := blk_frozen BK930.out 3) | ((with_reducible refine gate_callee (f := 158) rfl ?_); refine goesL_ (some 5) rfl rfl Try.func158 (by kernel_rfl) rfl #[.agg #[.int .i64 a0_0, .int .i64 a0_1, .int .i64 a0_2, .int .i64 a0_3]] rfl (by (try simp only [List.map_toArray, List.map_cons, List.map_nil]); first | done | rfl | (simp only [List.length_drop, List.length_take]; rfl)) ?_; (with_reducible refine (spec_l02Det.calls a0_0 a0_1 a0_2 a0_3 t931 _ A2.out).mono ?_); rintro e w19 ⟨rfl, hb⟩; refine ⟨_, rfl, ?_⟩; have n0_ := Aside0.mk (blk_below (g := gb930) (o := .cells #[.int .i64 a0_0, .int .i64 a0_1, .int .i64 a0_2, .int .i64 a0_3] 51 (0, 0)) (by (with_reducible repeat (first | refine blk_drewN ?_ _ | refine blk_drew ?_ | refine blk_alloc ?_ _)); exact BK930.out) hb); have n1_ := Aside0.mk (below_step (by repeat (first | (with_reducible first | exact HB.out | apply below_alloc | apply pw_below_drewN | apply below_drew1 | refine below_set ?_ GE930.out) | exact HB.out)) hb); clear BK930; clear HB; have BK930 := n0_; have HB := n1_; clear n0_ n1_; (try clear hb); (try clear hb2); (try clear hk); (try clear hi); have hcz20_0 : w19.cell? ⟨gb930, 0, none⟩ = some (.int .i64 a0_0) := (blk_cell BK930.out 0).trans rfl; have hcz20_1 : w19.cell? ⟨gb930, 1, none⟩ = some (.int .i64 a0_1) := (blk_cell BK930.out 1).trans rfl; have hcz20_2 : w19.cell? ⟨gb930, 2, none⟩ = some (.int .i64 a0_2) := (blk_cell BK930.out 2).trans rfl; have hcz20_3 : w19.cell? ⟨gb930, 3, none⟩ = some (.int .i64 a0_3) := (blk_cell BK930.out 3).trans rfl; have hfz20_0 := blk_frozen BK930.out 0; have hfz20_1 := blk_frozen BK930.out 1; have hfz20_2 := blk_frozen BK930.out 2; have hfz20_3 := blk_frozen BK930.out 3) | ((with_reducible refine gate_callee (f := 160) rfl ?_); refine goesL_ (some 11) rfl rfl Try.func160 (by kernel_rfl) rfl #[.agg #[.int .i64 a0_0, .int .i64 a0_1, .int .i64 a0_2, .int .i64 a0_3]] rfl (by (try simp only [List.map_toArray, List.map_cons, List.map_nil]); first | done | rfl | (simp only [List.length_drop, List.length_take]; rfl)) ?_; (with_reducible refine (spec_l02Order.calls k a0_0 a0_1 a0_2 a0_3 t933 _ A10.out).mono ?_); rintro e w21 ⟨rfl, hb⟩; refine ⟨_, rfl, ?_⟩; have n0_ := Aside0.mk (blk_below (g := gb930) (o := .cells #[.int .i64 a0_0, .int .i64 a0_1, .int .i64 a0_2, .int .i64 a0_3] 51 (0, 0)) (by (with_reducible repeat (first | refine blk_drewN ?_ _ | refine blk_drew ?_ | refine blk_alloc ?_ _)); exact BK930.out) hb); have n1_ := Aside0.mk (below_step (by repeat (first | (with_reducible first | exact HB.out | apply below_alloc | apply pw_below_drewN | apply below_drew1 | refine below_set ?_ GE930.out) | exact HB.out)) hb); clear BK930; clear HB; have BK930 := n0_; have HB := n1_; clear n0_ n1_; (try clear hb); (try clear hb2); (try clear hk); (try clear hi)))
      go_ret
      exact ⟨by first | rfl | (simp [errW_none, errW_some] <;> rfl) | (simp [*, errW_none, errW_some] <;> rfl), by repeat (first | (with_reducible first | exact HB.out | apply below_alloc | apply pw_below_drewN | apply below_drew1 | refine below_set ?_ GE930.out) | exact HB.out)⟩

end Go.Proofs.Ytjjbjaagfjljnaa.F

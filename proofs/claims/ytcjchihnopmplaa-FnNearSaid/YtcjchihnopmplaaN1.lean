import Derived.Test.YtcjchihnopmplaaN0
namespace Go.Proofs.Ytcjchihnopmplaa.F
open Go.RowKit Go.Proofs.YtcjchihnopmplaaW.PrintWords Go.Proofs.YtcjchihnopmplaaW.PrintLast Go.Proofs.YtcjchihnopmplaaW.PrintMore
attribute [local go_sem] max2_int min2_int max_two min_two max_three min_three max_four min_four   -- for this text's walks alone
set_option linter.unusedVariables false
set_option linter.unusedSimpArgs false

/-! ### spec_IsFrame: function 63 -/
def spec_IsFrame.f (a0 : Int) : Option (Bool) := if a0 = 0 then (some true) else (some (a0 == 1))
set_option maxHeartbeats 8000000 in
set_option maxRecDepth 100000 in
theorem spec_IsFrame.calls (a0 : Int) (r : Bool) (w : World) (h : spec_IsFrame.f a0 = some r) :
    Calls Try.prog 63 #[.int .i64 a0] w fun e w' => e = .returned (.bool r) ∧ Drawn0 w w' := by
  have H : (if a0 = 0 then (some true) else (some (a0 == 1))) = some r := h
  clear h
  by_cases c2 : a0 = 0
  · rw [if_pos c2] at H
    have c2b0 : (a0 == 0) = true := beq_iff_eq.mpr c2
    have c2b1 : (a0 != 0) = false := bne_eq_false_iff_eq.mpr c2
    clear c2
    obtain rfl := Option.some.inj H
    go_enter Try.func63, Try.ntmps63
    go_wp2
    go_ret
    exact ⟨by first | rfl | (simp; done) | (simp [*]; done), by repeat (first | exact Drawn0.refl _ | apply Drawn0.step)⟩
  · rw [if_neg c2] at H
    have c2b0 : (a0 == 0) = false := beq_eq_false_iff_ne.mpr c2
    have c2b1 : (a0 != 0) = true := bne_iff_ne.mpr c2
    obtain rfl := Option.some.inj H
    go_enter Try.func63, Try.ntmps63
    go_wp2
    go_ret
    exact ⟨by first | rfl | (simp; done) | (simp [*]; done), by repeat (first | exact Drawn0.refl _ | apply Drawn0.step)⟩

/-! ### spec_l01In: function 70 -/
def spec_l01In.f (a0 : Int) (a1 : Int) (a2 : Int) : Option (Bool) := if a0 ≥ a1 then (some (decide (a0 ≤ a2))) else (some false)
set_option maxHeartbeats 8000000 in
set_option maxRecDepth 100000 in
theorem spec_l01In.calls (a0 : Int) (a1 : Int) (a2 : Int) (r : Bool) (w : World) (h : spec_l01In.f a0 a1 a2 = some r) :
    Calls Try.prog 70 #[.int .i64 a0, .int .i64 a1, .int .i64 a2] w fun e w' => e = .returned (.bool r) ∧ Drawn0 w w' := by
  have H : (if a0 ≥ a1 then (some (decide (a0 ≤ a2))) else (some false)) = some r := h
  clear h
  by_cases c4 : a0 ≥ a1
  · rw [if_pos c4] at H
    have c4b0 : decide (a1 ≤ a0) = true := decide_eq_true c4
    clear c4
    obtain rfl := Option.some.inj H
    go_enter Try.func70, Try.ntmps70
    go_wp2
    go_ret
    exact ⟨by first | rfl | (simp; done) | (simp [*]; done), by repeat (first | exact Drawn0.refl _ | apply Drawn0.step)⟩
  · rw [if_neg c4] at H
    have c4b0 : decide (a1 ≤ a0) = false := decide_eq_false c4
    clear c4
    obtain rfl := Option.some.inj H
    go_enter Try.func70, Try.ntmps70
    go_wp2
    go_ret
    exact ⟨by first | rfl | (simp; done) | (simp [*]; done), by repeat (first | exact Drawn0.refl _ | apply Drawn0.step)⟩

/-! ### spec_l04Norm: function 116 -/
def spec_l04Norm.f (a0 : Int) (a1_0 : Int) (a1_1 : Int) : Option (Int) := if a0 = 1 then (some (wrap64 ((wrap64 ((wrap64 (a1_0 * a1_0)) + (wrap64 (a1_1 * a1_1)))) + (wrap64 (a1_0 * a1_1))))) else (some (wrap64 ((wrap64 (a1_0 * a1_0)) + (wrap64 (a1_1 * a1_1)))))
set_option maxHeartbeats 8000000 in
set_option maxRecDepth 100000 in
theorem spec_l04Norm.calls (a0 : Int) (a1_0 : Int) (a1_1 : Int) (r : Int) (w : World) (h : spec_l04Norm.f a0 a1_0 a1_1 = some r) :
    Calls Try.prog 116 #[.int .i64 a0, .agg #[.int .i64 a1_0, .int .i64 a1_1]] w fun e w' => e = .returned (.int .i64 r) ∧ Below w.heap.size w w' := by
  have hu47 := Try.underlying47
  have HB := Aside0.mk (Below.refl w.heap.size w)
  have H : (if a0 = 1 then (some (wrap64 ((wrap64 ((wrap64 (a1_0 * a1_0)) + (wrap64 (a1_1 * a1_1)))) + (wrap64 (a1_0 * a1_1))))) else (some (wrap64 ((wrap64 (a1_0 * a1_0)) + (wrap64 (a1_1 * a1_1)))))) = some r := h
  clear h
  by_cases c3 : a0 = 1
  · rw [if_pos c3] at H
    have c3b0 : (a0 == 1) = true := beq_iff_eq.mpr c3
    have c3b1 : (a0 != 1) = false := bne_eq_false_iff_eq.mpr c3
    clear c3
    obtain rfl := Option.some.inj H
    go_enter Try.func116, Try.ntmps116
    go_wp2_with (first | ((with_reducible refine gate_dst (N := 3) rfl ?_); refine box_event ?hg (N := 3) ?hd (cs := #[.int .i64 a1_0, .int .i64 a1_1]) (t := 47) ?hr ?_; (case hd => rfl); (case hg => rfl); (case hr => first | (go_simp; done) | (go_simp; rfl)); intro gb101 hg w4 hbox hb; have n0_ := Aside0.mk (below_step (by repeat (first | (with_reducible first | exact HB.out | apply below_alloc | apply pw_below_drewN | apply below_drew1) | exact HB.out)) hb); have n1_ := Aside0.mk (hbox); have n2_ := Aside0.mk ((by rw [hg]; exact (below_size (by repeat (first | (with_reducible first | exact HB.out | apply below_alloc | apply pw_below_drewN | apply below_drew1) | exact HB.out))) : w.heap.size ≤ gb101)); have n3_ := Aside0.mk ((by rw [hg]; exact (below_size (by repeat (first | (with_reducible first | exact HB.out | apply below_alloc | apply pw_below_drewN | apply below_drew1) | exact HB.out))) : w.heap.size ≤ gb101)); clear HB; have HB := n0_; have BK101 := n1_; have GW101 := n2_; have GE101 := n3_; clear n0_ n1_ n2_ n3_; clear hb hbox hg; have hcz5_0 : w4.cell? ⟨gb101, 0, none⟩ = some (.int .i64 a1_0) := (blk_cell BK101.out 0).trans rfl; have hcz5_1 : w4.cell? ⟨gb101, 1, none⟩ = some (.int .i64 a1_1) := (blk_cell BK101.out 1).trans rfl; have hfz5_0 := blk_frozen BK101.out 0; have hfz5_1 := blk_frozen BK101.out 1))
    go_ret
    exact ⟨by first | rfl | (simp [errW_none, errW_some] <;> rfl) | (simp [*, errW_none, errW_some] <;> rfl), by repeat (first | (with_reducible first | exact HB.out | apply below_alloc | apply pw_below_drewN | apply below_drew1 | refine below_set ?_ GE101.out) | exact HB.out)⟩
  · rw [if_neg c3] at H
    have c3b0 : (a0 == 1) = false := beq_eq_false_iff_ne.mpr c3
    have c3b1 : (a0 != 1) = true := bne_iff_ne.mpr c3
    obtain rfl := Option.some.inj H
    go_enter Try.func116, Try.ntmps116
    go_wp2_with (first | ((with_reducible refine gate_dst (N := 3) rfl ?_); refine box_event ?hg (N := 3) ?hd (cs := #[.int .i64 a1_0, .int .i64 a1_1]) (t := 47) ?hr ?_; (case hd => rfl); (case hg => rfl); (case hr => first | (go_simp; done) | (go_simp; rfl)); intro gb101 hg w6 hbox hb; have n0_ := Aside0.mk (below_step (by repeat (first | (with_reducible first | exact HB.out | apply below_alloc | apply pw_below_drewN | apply below_drew1) | exact HB.out)) hb); have n1_ := Aside0.mk (hbox); have n2_ := Aside0.mk ((by rw [hg]; exact (below_size (by repeat (first | (with_reducible first | exact HB.out | apply below_alloc | apply pw_below_drewN | apply below_drew1) | exact HB.out))) : w.heap.size ≤ gb101)); have n3_ := Aside0.mk ((by rw [hg]; exact (below_size (by repeat (first | (with_reducible first | exact HB.out | apply below_alloc | apply pw_below_drewN | apply below_drew1) | exact HB.out))) : w.heap.size ≤ gb101)); clear HB; have HB := n0_; have BK101 := n1_; have GW101 := n2_; have GE101 := n3_; clear n0_ n1_ n2_ n3_; clear hb hbox hg; have hcz7_0 : w6.cell? ⟨gb101, 0, none⟩ = some (.int .i64 a1_0) := (blk_cell BK101.out 0).trans rfl; have hcz7_1 : w6.cell? ⟨gb101, 1, none⟩ = some (.int .i64 a1_1) := (blk_cell BK101.out 1).trans rfl; have hfz7_0 := blk_frozen BK101.out 0; have hfz7_1 := blk_frozen BK101.out 1))
    go_ret
    exact ⟨by first | rfl | (simp [errW_none, errW_some] <;> rfl) | (simp [*, errW_none, errW_some] <;> rfl), by repeat (first | (with_reducible first | exact HB.out | apply below_alloc | apply pw_below_drewN | apply below_drew1 | refine below_set ?_ GE101.out) | exact HB.out)⟩

/-! ### spec_l04Near: function 71 -/
mutual
def spec_l04Near.l0 : Nat → Int → Int → Int → List (S47) → Int → Option ((List (S47)))
  | 0, _, _, _, _, _ => none
  | k + 1, x0, x1, x2, x7, x8 => if x8 ≤ x2 then (spec_l04Near.l1 k x0 x1 x2 x7 x8 (wrap64 (-x2))) else (some x7)
def spec_l04Near.l1 : Nat → Int → Int → Int → List (S47) → Int → Int → Option ((List (S47)))
  | 0, _, _, _, _, _, _ => none
  | k + 1, x0, x1, x2, x7, x8, x9 => if x9 ≤ x2 then ((spec_l04Norm.f x0 x8 x9).bind fun t106 => (if t106 ≤ x1 then (if x7.length < 8796093022208 then (spec_l04Near.l1 k x0 x1 x2 (x7 ++ [(⟨x8, x9⟩ : S47)]) x8 (wrap64 (x9 + 1))) else (none)) else (spec_l04Near.l1 k x0 x1 x2 x7 x8 (wrap64 (x9 + 1))))) else (spec_l04Near.l0 k x0 x1 x2 x7 (wrap64 (x8 + 1)))
end
def spec_l04Near.f (k : Nat) (a0 : Int) (a1 : Int) (a2 : Int) : Option ((List (S47))) := spec_l04Near.l0 k a0 a1 a2 (([] : List (S47))) (wrap64 (-a2))
theorem spec_l04Near.mono_l : ∀ k, (∀ y0 y1 y2 y3 y4, LeO (spec_l04Near.l0 k y0 y1 y2 y3 y4) (spec_l04Near.l0 (k + 1) y0 y1 y2 y3 y4)) ∧ (∀ y0 y1 y2 y3 y4 y5, LeO (spec_l04Near.l1 k y0 y1 y2 y3 y4 y5) (spec_l04Near.l1 (k + 1) y0 y1 y2 y3 y4 y5))
  | 0 => ⟨fun _ _ _ _ _ r h => by simp [spec_l04Near.l0] at h, fun _ _ _ _ _ _ r h => by simp [spec_l04Near.l1] at h⟩
  | k + 1 => by
    obtain ⟨ih0, ih1⟩ := spec_l04Near.mono_l k
    refine ⟨?_, ?_⟩
    · intro y0 y1 y2 y3 y4
      unfold spec_l04Near.l0
      repeat' first
      | (with_reducible exact ih0 _ _ _ _ _)
      | (with_reducible exact ih1 _ _ _ _ _ _)
      | (with_reducible exact LeO.refl _)
      | (with_reducible exact LeO.none _)
      | (with_reducible refine LeO.ite ?_ ?_)
      | (with_reducible refine LeO.bind ?_ (fun _ => ?_))
      | exact ih0 _ _ _ _ _
      | exact ih1 _ _ _ _ _ _
      | exact LeO.none _
      | refine LeO.ite ?_ ?_
      | refine LeO.bind ?_ (fun _ => ?_)
    · intro y0 y1 y2 y3 y4 y5
      unfold spec_l04Near.l1
      repeat' first
      | (with_reducible exact ih0 _ _ _ _ _)
      | (with_reducible exact ih1 _ _ _ _ _ _)
      | (with_reducible exact LeO.refl _)
      | (with_reducible exact LeO.none _)
      | (with_reducible refine LeO.ite ?_ ?_)
      | (with_reducible refine LeO.bind ?_ (fun _ => ?_))
      | exact ih0 _ _ _ _ _
      | exact ih1 _ _ _ _ _ _
      | exact LeO.none _
      | refine LeO.ite ?_ ?_
      | refine LeO.bind ?_ (fun _ => ?_)
theorem spec_l04Near.mono : ∀ a0 a1 a2 k, LeO (spec_l04Near.f k a0 a1 a2) (spec_l04Near.f (k + 1) a0 a1 a2) := by
  intro a0 a1 a2 k
  obtain ⟨ih0, ih1⟩ := spec_l04Near.mono_l k
  unfold spec_l04Near.f
  repeat' first
      | (with_reducible exact ih0 _ _ _ _ _)
      | (with_reducible exact ih1 _ _ _ _ _ _)
      | (with_reducible exact LeO.refl _)
      | (with_reducible exact LeO.none _)
      | (with_reducible refine LeO.ite ?_ ?_)
      | (with_reducible refine LeO.bind ?_ (fun _ => ?_))
      | exact ih0 _ _ _ _ _
      | exact ih1 _ _ _ _ _ _
      | exact LeO.none _
      | refine LeO.ite ?_ ?_
      | refine LeO.bind ?_ (fun _ => ?_)
set_option maxHeartbeats 8000000 in
set_option maxRecDepth 100000 in
theorem spec_l04Near.calls (k : Nat) (a0 : Int) (a1 : Int) (a2 : Int) (r : List (S47)) (w : World) (h : spec_l04Near.f k a0 a1 a2 = some r) :
    Calls Try.prog 71 #[.int .i64 a0, .int .i64 a1, .int .i64 a2] w fun e w' => ∃ v0_ : Value, e = .returned (v0_) ∧ Kd.R k47 47 w' w.heap.size (fun _ => True) v0_ r ∧ Below w.heap.size w w' := by
  have hu47 := Try.underlying47
  have HB := Aside0.mk (Below.refl w.heap.size w)
  have H : (spec_l04Near.l0 k a0 a1 a2 (([] : List (S47))) (wrap64 (-a2))) = some r := h
  clear h
  obtain ⟨y102, hy102⟩ : ∃ y_ : List (S47), y_ = (([] : List (S47))) := ⟨_, rfl⟩
  replace H : (spec_l04Near.l0 k a0 a1 a2 y102 (wrap64 (-a2))) = some r := by first | (rw [hy102]; with_reducible exact H) | (have H2_ := (Option.bind_some _ _).symm.trans H; rw [hy102]; with_reducible exact H2_) | (have H2_ := (Option.bind_some _ _).symm.trans H; with_reducible exact H2_) | with_reducible exact H | (rw [hy102]; exact H) | exact H
  have Ny102 := Aside0.mk hy102
  clear hy102
  have H' := Aside0.mk H
  clear H
  go_enter Try.func71, Try.ntmps71
  go_wp2_with (first | ((with_reducible refine gate_dst (N := 11) rfl ?_); refine Kd.R_lit k47 _ 47 ?hg (N := 11) ?hd (xs := ([] : List (S47))) (inner := []) (ok := fun _ => True) (okp := fun _ => True) ?hr ?hp (fun _ hk => hk) trivial (Below.refl _ _) (Nat.le_refl _) (by simp) ?_; (case hd => rfl); (case hg => rfl); (case hr => first | (go_simp; done) | (go_simp; rfl)); (case hp => exact (Reps.none _ _)); intro v103 w4 ho5 hb hg_ hnew_; clear hg_ hnew_; (first | rw [← Ny102.out] at ho5 | (simp only [Int.reduceToNat] at ho5; rw [← Ny102.out] at ho5)); have n0_ := Aside0.mk (Kd.R_lower ho5 (below_size (by repeat (first | (with_reducible first | exact HB.out | apply below_alloc | apply pw_below_drewN | apply below_drew1) | exact HB.out)))); have n1_ := Aside0.mk (below_step (by repeat (first | (with_reducible first | exact HB.out | apply below_alloc | apply pw_below_drewN | apply below_drew1) | exact HB.out)) hb); clear HB; have HO104 := n0_; have HB := n1_; clear n0_ n1_; clear hb ho5))
  go_loopg [7, 8] k (fun kq v7 v8 w' => ∃ (x7_1 : List (S47)) (x8_1 : Int), v8 = .int .i64 x8_1 ∧ Aside0 (spec_l04Near.l0 kq a0 a1 a2 x7_1 x8_1 = some r) ∧ Aside0 (kq ≤ k) ∧ Aside0 (Kd.R k47 47 w' w.heap.size (fun _ => True) v7 x7_1) ∧ Aside0 (Below w.heap.size w w'))
  case atStart => exact ⟨(y102), (wrap64 (-a2)), (by first | rfl | (simp; done) | (simp [*]; done)), H', ⟨Nat.le_refl _⟩, ⟨by (with_reducible repeat (first | apply Kd.R_alloc | apply Kd.R_drewN | apply Kd.R_drew)); exact HO104.out⟩, ⟨by repeat (first | (with_reducible first | exact HB.out | apply below_alloc | apply pw_below_drewN | apply below_drew1) | exact HB.out)⟩⟩
  case round =>
    clear H'
    try clear p2
    obtain ⟨x7_1, x8_1, rfl, HA, HK1, HO_7, HB⟩ := hrel
    cases gk with
    | zero => exact absurd HA.out (by simp [spec_l04Near.l0])
    | succ k1 =>
      have H := HA.out
      clear HA
      simp only [spec_l04Near.l0] at H
      by_cases c6 : x8_1 ≤ a2
      · rw [if_pos c6] at H
        have c6b0 : decide (x8_1 ≤ a2) = true := decide_eq_true c6
        clear c6
        have H' := Aside0.mk H
        clear H
        go_wp2
        go_loopg [7, 9] k1 (fun kq v7 v9 w' => ∃ (x7_2 : List (S47)) (x9_2 : Int), v9 = .int .i64 x9_2 ∧ Aside0 (spec_l04Near.l1 kq a0 a1 a2 x7_2 x8_1 x9_2 = some r) ∧ Aside0 (kq ≤ k1) ∧ Aside0 (Kd.R k47 47 w' w.heap.size (fun _ => True) v7 x7_2) ∧ Aside0 (Below w.heap.size w w'))
        case atStart => exact ⟨(x7_1), (wrap64 (-a2)), (by first | rfl | (simp; done) | (simp [*]; done)), H', ⟨Nat.le_refl _⟩, ⟨by (with_reducible repeat (first | apply Kd.R_alloc | apply Kd.R_drewN | apply Kd.R_drew)); exact HO_7.out⟩, ⟨by repeat (first | (with_reducible first | exact HB.out | apply below_alloc | apply pw_below_drewN | apply below_drew1) | exact HB.out)⟩⟩
        case round =>
          clear H'
          try clear p2
          try clear c6
          try clear c6b0
          try clear p6
          try clear p2
          obtain ⟨x7_2, x9_2, rfl, HA, HK2, HO_7, HB⟩ := hrel
          cases gk with
          | zero => exact absurd HA.out (by simp [spec_l04Near.l1])
          | succ k2 =>
            have H := HA.out
            clear HA
            simp only [spec_l04Near.l1] at H
            by_cases c7 : x9_2 ≤ a2
            · rw [if_pos c7] at H
              have c7b0 : decide (x9_2 ≤ a2) = true := decide_eq_true c7
              clear c7
              replace H := Option.bind_eq_some_iff.mp H
              obtain ⟨t106, A80, H⟩ := H
              replace H : (if t106 ≤ a1 then (if x7_2.length < 8796093022208 then (spec_l04Near.l1 k2 a0 a1 a2 (x7_2 ++ [(⟨x8_1, x9_2⟩ : S47)]) x8_1 (wrap64 (x9_2 + 1))) else (none)) else (spec_l04Near.l1 k2 a0 a1 a2 x7_2 x8_1 (wrap64 (x9_2 + 1)))) = some r := H
              have A8 := Aside0.mk A80
              clear A80
              by_cases c9 : t106 ≤ a1
              · rw [if_pos c9] at H
                have c9b0 : decide (t106 ≤ a1) = true := decide_eq_true c9
                clear c9
                by_cases c10 : x7_2.length < 8796093022208
                · rw [if_pos c10] at H
                  have LMc10 := Aside0.mk c10
                  clear c10
                  obtain ⟨y107, hy107⟩ : ∃ y_ : List (S47), y_ = (x7_2 ++ [(⟨x8_1, x9_2⟩ : S47)]) := ⟨_, rfl⟩
                  replace H : (spec_l04Near.l1 k2 a0 a1 a2 y107 x8_1 (wrap64 (x9_2 + 1))) = some r := by first | (rw [hy107]; with_reducible exact H) | (have H2_ := (Option.bind_some _ _).symm.trans H; rw [hy107]; with_reducible exact H2_) | (have H2_ := (Option.bind_some _ _).symm.trans H; with_reducible exact H2_) | with_reducible exact H | (rw [hy107]; exact H) | exact H
                  have Ny107 := Aside0.mk hy107
                  clear hy107
                  have H' := Aside0.mk H
                  clear H
                  go_wp2_with (first | ((with_reducible refine gate_dst (N := 10) rfl ?_); refine box_event ?hg (N := 10) ?hd (cs := #[.int .i64 0, .int .i64 0]) (t := 47) ?hr ?_; (case hd => rfl); (case hg => rfl); (case hr => first | (go_simp; done) | (go_simp; rfl)); intro gb105 hg w11 hbox hb; have n0_ := Aside0.mk (Kd.R_below (Kd.R_elderB (by (with_reducible repeat (first | apply Kd.R_alloc | apply Kd.R_drewN | apply Kd.R_drew)); exact HO_7.out) gb105 (Nat.le_of_eq hg.symm)) hb); have n1_ := Aside0.mk (below_step (by repeat (first | (with_reducible first | exact HB.out | apply below_alloc | apply pw_below_drewN | apply below_drew1) | exact HB.out)) hb); have n2_ := Aside0.mk (hbox); have n3_ := Aside0.mk ((by rw [hg]; exact (below_size (by repeat (first | (with_reducible first | exact HB.out | apply below_alloc | apply pw_below_drewN | apply below_drew1) | exact HB.out))) : w.heap.size ≤ gb105)); have n4_ := Aside0.mk ((by rw [hg]; exact (below_size (by repeat (first | (with_reducible first | exact HB.out | apply below_alloc | apply pw_below_drewN | apply below_drew1) | exact HB.out))) : w.heap.size ≤ gb105)); clear HO_7; clear HB; have HO_7 := n0_; have HB := n1_; have BK105 := n2_; have GW105 := n3_; have GE105 := n4_; clear n0_ n1_ n2_ n3_ n4_; clear hb hbox hg; have hcz12_0 : w11.cell? ⟨gb105, 0, none⟩ = some (.int .i64 0) := (blk_cell BK105.out 0).trans rfl; have hcz12_1 : w11.cell? ⟨gb105, 1, none⟩ = some (.int .i64 0) := (blk_cell BK105.out 1).trans rfl; have hfz12_0 := blk_frozen BK105.out 0; have hfz12_1 := blk_frozen BK105.out 1) | ((with_reducible refine gate_callee (f := 116) rfl ?_); refine goesL_ (some 31) rfl rfl Try.func116 (by kernel_rfl) rfl #[.int .i64 a0, .agg #[.int .i64 x8_1, .int .i64 x9_2]] rfl (by (try simp only [List.map_toArray, List.map_cons, List.map_nil]); first | done | rfl | (simp only [List.length_drop, List.length_take]; rfl)) ?_; (with_reducible refine (spec_l04Norm.calls a0 x8_1 x9_2 t106 _ A8.out).mono ?_); rintro e w13 ⟨rfl, hb⟩; refine ⟨_, rfl, ?_⟩; have n0_ := Aside0.mk (Kd.R_below (by (with_reducible repeat (first | apply Kd.R_alloc | apply Kd.R_drewN | apply Kd.R_drew)); exact (Kd.R_mono (Kd.R_far (p := ⟨gb105, 1, none⟩) (Kd.R_far (p := ⟨gb105, 0, none⟩) (Kd.R_mono HO_7.out (fun k_ hk => (⟨hk, hk.2⟩ : _ ∧ k_ ≠ gb105))) (fun _ hk => hk.2) (.int .i64 x8_1)) (fun _ hk => hk.2) (.int .i64 x9_2)) (fun _ h_ => h_.1))) hb); have n1_ := Aside0.mk (blk_below (g := gb105) (o := .cells #[.int .i64 x8_1, .int .i64 x9_2] 47 (0, 0)) (by (with_reducible repeat (first | refine blk_drewN ?_ _ | refine blk_drew ?_ | refine blk_alloc ?_ _)); refine blk_put (cs := #[.int .i64 x8_1, .int .i64 0]) ?_ 1 _ rfl; (with_reducible repeat (first | refine blk_drewN ?_ _ | refine blk_drew ?_ | refine blk_alloc ?_ _)); refine blk_put (cs := #[.int .i64 0, .int .i64 0]) ?_ 0 _ rfl; (with_reducible repeat (first | refine blk_drewN ?_ _ | refine blk_drew ?_ | refine blk_alloc ?_ _)); exact BK105.out) hb); have n2_ := Aside0.mk (below_step (by repeat (first | (with_reducible first | exact HB.out | apply below_alloc | apply pw_below_drewN | apply below_drew1 | refine below_set ?_ GE105.out) | exact HB.out)) hb); clear HO_7; clear BK105; clear HB; have HO_7 := n0_; have BK105 := n1_; have HB := n2_; clear n0_ n1_ n2_; (try clear hb); (try clear hb2); (try clear hk); (try clear hi); have hcz14_0 : w13.cell? ⟨gb105, 0, none⟩ = some (.int .i64 x8_1) := (blk_cell BK105.out 0).trans rfl; have hcz14_1 : w13.cell? ⟨gb105, 1, none⟩ = some (.int .i64 x9_2) := (blk_cell BK105.out 1).trans rfl; have hfz14_0 := blk_frozen BK105.out 0; have hfz14_1 := blk_frozen BK105.out 1) | ((with_reducible refine gate_builtin (b := .append) (xs := #[.tmp 34, .tmp 36]) rfl ?_); at_builtin; refine Kd.R_append k47 (w0 := w) w.heap.size rfl (.tmp 34) (.tmp 36) 22 47 (.agg #[(.int .i64 0), (.int .i64 0)]) 16 rfl Try.underlying22 info47 rfl (by decide) (by omega) u7 x7_2 (⟨x8_1, x9_2⟩ : S47) [.int .i64 x8_1, .int .i64 x9_2] (fun k_ => k_ ≠ gb105) (fun _ => False) rfl rfl ?aP (fun _ hk => hk.elim) ?aF ?aO ?aB ?aS ?aL ?_; (case aP => exact k47_mkM _ _ _ (⟨x8_1, x9_2⟩ : S47)); (case aB => exact (by repeat (first | (with_reducible first | exact HB.out | apply below_alloc | apply pw_below_drewN | apply below_drew1 | refine below_set ?_ GE105.out) | exact HB.out))); (case aF => exact (fun k_ hk => Kd.freshB (g := gb105) (o := .cells #[.int .i64 x8_1, .int .i64 x9_2] 47 (0, 0)) (by (with_reducible repeat (first | refine blk_drewN ?_ _ | refine blk_drew ?_ | refine blk_alloc ?_ _)); exact BK105.out) k_ hk)); (case aO => exact (by (with_reducible repeat (first | apply Kd.R_alloc | apply Kd.R_drewN | apply Kd.R_drew)); exact Kd.R_mono HO_7.out (fun _ hk => hk.2))); (case aS => exact (below_size (by repeat (first | (with_reducible first | exact HB.out | apply below_alloc | apply pw_below_drewN | apply below_drew1 | refine below_set ?_ GE105.out) | exact HB.out)))); (case aL => have := LMc10.out; omega); intro v108 w15 ho hb hg hat; rw [← Ny107.out] at ho; have n0_ := Aside0.mk (blk_grown (g := gb105) (o := .cells #[.int .i64 x8_1, .int .i64 x9_2] 47 (0, 0)) (by (with_reducible repeat (first | refine blk_drewN ?_ _ | refine blk_drew ?_ | refine blk_alloc ?_ _)); exact BK105.out) hg (Kd.R_away HO_7.out (fun _ hk => hk.2))); have n1_ := Aside0.mk (hb); have n2_ := Aside0.mk (ho); clear BK105; clear HB; clear HO_7; have BK105 := n0_; have HB := n1_; have HO109 := n2_; clear n0_ n1_ n2_; clear ho hb hg hat))
                  go_roundg k2
                  case measure => have := HK1.out; have := HK2.out; omega
                  case rel => exact ⟨(y107), (wrap64 (x9_2 + 1)), (by first | rfl | (simp; done) | (simp [*]; done)), H', ⟨by have := HK1.out; have := HK2.out; omega⟩, ⟨by (with_reducible repeat (first | apply Kd.R_alloc | apply Kd.R_drewN | apply Kd.R_drew)); exact Kd.R_mono HO109.out (fun _ hk => trivial)⟩, ⟨by repeat (first | (with_reducible first | exact HB.out | apply below_alloc | apply pw_below_drewN | apply below_drew1 | refine below_set ?_ GE105.out) | exact HB.out)⟩⟩
                · rw [if_neg c10] at H
                  exact absurd H (by simp)
              · rw [if_neg c9] at H
                have c9b0 : decide (t106 ≤ a1) = false := decide_eq_false c9
                clear c9
                have H' := Aside0.mk H
                clear H
                go_wp2_with (first | ((with_reducible refine gate_dst (N := 10) rfl ?_); refine box_event ?hg (N := 10) ?hd (cs := #[.int .i64 0, .int .i64 0]) (t := 47) ?hr ?_; (case hd => rfl); (case hg => rfl); (case hr => first | (go_simp; done) | (go_simp; rfl)); intro gb105 hg w16 hbox hb; have n0_ := Aside0.mk (Kd.R_below (Kd.R_elderB (by (with_reducible repeat (first | apply Kd.R_alloc | apply Kd.R_drewN | apply Kd.R_drew)); exact HO_7.out) gb105 (Nat.le_of_eq hg.symm)) hb); have n1_ := Aside0.mk (below_step (by repeat (first | (with_reducible first | exact HB.out | apply below_alloc | apply pw_below_drewN | apply below_drew1) | exact HB.out)) hb); have n2_ := Aside0.mk (hbox); have n3_ := Aside0.mk ((by rw [hg]; exact (below_size (by repeat (first | (with_reducible first | exact HB.out | apply below_alloc | apply pw_below_drewN | apply below_drew1) | exact HB.out))) : w.heap.size ≤ gb105)); have n4_ := Aside0.mk ((by rw [hg]; exact (below_size (by repeat (first | (with_reducible first | exact HB.out | apply below_alloc | apply pw_below_drewN | apply below_drew1) | exact HB.out))) : w.heap.size ≤ gb105)); clear HO_7; clear HB; have HO_7 := n0_; have HB := n1_; have BK105 := n2_; have GW105 := n3_; have GE105 := n4_; clear n0_ n1_ n2_ n3_ n4_; clear hb hbox hg; have hcz17_0 : w16.cell? ⟨gb105, 0, none⟩ = some (.int .i64 0) := (blk_cell BK105.out 0).trans rfl; have hcz17_1 : w16.cell? ⟨gb105, 1, none⟩ = some (.int .i64 0) := (blk_cell BK105.out 1).trans rfl; have hfz17_0 := blk_frozen BK105.out 0; have hfz17_1 := blk_frozen BK105.out 1) | ((with_reducible refine gate_callee (f := 116) rfl ?_); refine goesL_ (some 31) rfl rfl Try.func116 (by kernel_rfl) rfl #[.int .i64 a0, .agg #[.int .i64 x8_1, .int .i64 x9_2]] rfl (by (try simp only [List.map_toArray, List.map_cons, List.map_nil]); first | done | rfl | (simp only [List.length_drop, List.length_take]; rfl)) ?_; (with_reducible refine (spec_l04Norm.calls a0 x8_1 x9_2 t106 _ A8.out).mono ?_); rintro e w18 ⟨rfl, hb⟩; refine ⟨_, rfl, ?_⟩; have n0_ := Aside0.mk (Kd.R_below (by (with_reducible repeat (first | apply Kd.R_alloc | apply Kd.R_drewN | apply Kd.R_drew)); exact (Kd.R_mono (Kd.R_far (p := ⟨gb105, 1, none⟩) (Kd.R_far (p := ⟨gb105, 0, none⟩) (Kd.R_mono HO_7.out (fun k_ hk => (⟨hk, hk.2⟩ : _ ∧ k_ ≠ gb105))) (fun _ hk => hk.2) (.int .i64 x8_1)) (fun _ hk => hk.2) (.int .i64 x9_2)) (fun _ h_ => h_.1))) hb); have n1_ := Aside0.mk (blk_below (g := gb105) (o := .cells #[.int .i64 x8_1, .int .i64 x9_2] 47 (0, 0)) (by (with_reducible repeat (first | refine blk_drewN ?_ _ | refine blk_drew ?_ | refine blk_alloc ?_ _)); refine blk_put (cs := #[.int .i64 x8_1, .int .i64 0]) ?_ 1 _ rfl; (with_reducible repeat (first | refine blk_drewN ?_ _ | refine blk_drew ?_ | refine blk_alloc ?_ _)); refine blk_put (cs := #[.int .i64 0, .int .i64 0]) ?_ 0 _ rfl; (with_reducible repeat (first | refine blk_drewN ?_ _ | refine blk_drew ?_ | refine blk_alloc ?_ _)); exact BK105.out) hb); have n2_ := Aside0.mk (below_step (by repeat (first | (with_reducible first | exact HB.out | apply below_alloc | apply pw_below_drewN | apply below_drew1 | refine below_set ?_ GE105.out) | exact HB.out)) hb); clear HO_7; clear BK105; clear HB; have HO_7 := n0_; have BK105 := n1_; have HB := n2_; clear n0_ n1_ n2_; (try clear hb); (try clear hb2); (try clear hk); (try clear hi)))
                go_roundg k2
                case measure => have := HK1.out; have := HK2.out; omega
                case rel => exact ⟨(x7_2), (wrap64 (x9_2 + 1)), (by first | rfl | (simp; done) | (simp [*]; done)), H', ⟨by have := HK1.out; have := HK2.out; omega⟩, ⟨by (with_reducible repeat (first | apply Kd.R_alloc | apply Kd.R_drewN | apply Kd.R_drew)); exact Kd.R_mono HO_7.out (fun _ hk => trivial)⟩, ⟨by repeat (first | (with_reducible first | exact HB.out | apply below_alloc | apply pw_below_drewN | apply below_drew1 | refine below_set ?_ GE105.out) | exact HB.out)⟩⟩
            · rw [if_neg c7] at H
              have c7b0 : decide (x9_2 ≤ a2) = false := decide_eq_false c7
              clear c7
              have H' := Aside0.mk H
              clear H
              go_wp2
              go_roundg k2
              case measure => have := HK1.out; have := HK2.out; omega
              case rel => exact ⟨(x7_2), (wrap64 (x8_1 + 1)), (by first | rfl | (simp; done) | (simp [*]; done)), H', ⟨by have := HK1.out; have := HK2.out; omega⟩, ⟨by (with_reducible repeat (first | apply Kd.R_alloc | apply Kd.R_drewN | apply Kd.R_drew)); exact HO_7.out⟩, ⟨by repeat (first | (with_reducible first | exact HB.out | apply below_alloc | apply pw_below_drewN | apply below_drew1) | exact HB.out)⟩⟩
      · rw [if_neg c6] at H
        have c6b0 : decide (x8_1 ≤ a2) = false := decide_eq_false c6
        clear c6
        obtain rfl := Option.some.inj H
        go_wp2
        go_ret
        exact ⟨_, by first | rfl | (simp [errW_none, errW_some] <;> rfl) | (simp [*, errW_none, errW_some] <;> rfl), by (with_reducible repeat (first | apply Kd.R_alloc | apply Kd.R_drewN | apply Kd.R_drew)); exact HO_7.out, by repeat (first | (with_reducible first | exact HB.out | apply below_alloc | apply pw_below_drewN | apply below_drew1) | exact HB.out)⟩

/-! ### spec_NearVecs: function 10 -/
def spec_NearVecs.f (k : Nat) (a0 : Int) (a1 : Int) : Option ((List (S47)) × Int) := (spec_IsFrame.f a0).bind fun t110 => (if t110 = true then ((spec_l01In.f a1 0 100).bind fun t111 => (if t111 = true then ((spec_l04Near.f k a0 a1 12).bind fun t112 => (some (t112, 0))) else (some (([] : List (S47)), 2)))) else (some (([] : List (S47)), 1)))
theorem spec_NearVecs.mono : ∀ a0 a1 k, LeO (spec_NearVecs.f k a0 a1) (spec_NearVecs.f (k + 1) a0 a1) := by
  intro a0 a1 k
  unfold spec_NearVecs.f
  repeat' first
      | (with_reducible exact spec_l04Near.mono _ _ _ _)
      | (with_reducible exact LeO.refl _)
      | (with_reducible exact LeO.none _)
      | (with_reducible refine LeO.ite ?_ ?_)
      | (with_reducible refine LeO.bind ?_ (fun _ => ?_))
      | exact spec_l04Near.mono _ _ _ _
      | exact LeO.none _
      | refine LeO.ite ?_ ?_
      | refine LeO.bind ?_ (fun _ => ?_)
set_option maxHeartbeats 8000000 in
set_option maxRecDepth 100000 in
theorem spec_NearVecs.calls (k : Nat) (a0 : Int) (a1 : Int) (r1 : List (S47)) (r2 : Int) (w : World) (h : spec_NearVecs.f k a0 a1 = some (r1, r2)) :
    Calls Try.prog 10 #[.int .i64 a0, .int .i64 a1] w fun e w' => ∃ v0_ : Value, e = .returned (.tuple #[v0_, .int .i64 r2]) ∧ Kd.R k47 47 w' w.heap.size (fun _ => True) v0_ r1 ∧ Below w.heap.size w w' := by
  have HB := Aside0.mk (Below.refl w.heap.size w)
  have H : ((spec_IsFrame.f a0).bind fun t110 => (if t110 = true then ((spec_l01In.f a1 0 100).bind fun t111 => (if t111 = true then ((spec_l04Near.f k a0 a1 12).bind fun t112 => (some (t112, 0))) else (some (([] : List (S47)), 2)))) else (some (([] : List (S47)), 1)))) = some (r1, r2) := h
  clear h
  replace H := Option.bind_eq_some_iff.mp H
  obtain ⟨t110, A30, H⟩ := H
  replace H : (if t110 = true then ((spec_l01In.f a1 0 100).bind fun t111 => (if t111 = true then ((spec_l04Near.f k a0 a1 12).bind fun t112 => (some (t112, 0))) else (some (([] : List (S47)), 2)))) else (some (([] : List (S47)), 1))) = some (r1, r2) := H
  have A3 := Aside0.mk A30
  clear A30
  by_cases c4 : t110 = true
  · subst c4
    have H1 : ((spec_l01In.f a1 0 100).bind fun t111 => (if t111 = true then ((spec_l04Near.f k a0 a1 12).bind fun t112 => (some (t112, 0))) else (some (([] : List (S47)), 2)))) = some (r1, r2) := by rw [if_pos rfl] at H; exact H
    clear H
    have H := H1
    clear H1
    replace H := Option.bind_eq_some_iff.mp H
    obtain ⟨t111, A50, H⟩ := H
    replace H : (if t111 = true then ((spec_l04Near.f k a0 a1 12).bind fun t112 => (some (t112, 0))) else (some (([] : List (S47)), 2))) = some (r1, r2) := H
    have A5 := Aside0.mk A50
    clear A50
    by_cases c6 : t111 = true
    · subst c6
      have H1 : ((spec_l04Near.f k a0 a1 12).bind fun t112 => (some (t112, 0))) = some (r1, r2) := by rw [if_pos rfl] at H; exact H
      clear H
      have H := H1
      clear H1
      replace H := Option.bind_eq_some_iff.mp H
      obtain ⟨t112, A70, H⟩ := H
      replace H : (some (t112, 0)) = some (r1, r2) := H
      have A7 := Aside0.mk A70
      clear A70
      simp only [Option.some.injEq, Prod.mk.injEq] at H
      obtain ⟨rfl, rfl⟩ := H
      go_enter Try.func10, Try.ntmps10
      go_wp2_with (first | ((with_reducible refine gate_callee (f := 63) rfl ?_); refine goesL_ (some 7) rfl rfl Try.func63 (by kernel_rfl) rfl #[.int .i64 a0] rfl (by (try simp only [List.map_toArray, List.map_cons, List.map_nil]); first | done | rfl | (simp only [List.length_drop, List.length_take]; rfl)) ?_; (with_reducible refine (spec_IsFrame.calls a0 true _ A3.out).mono ?_); rintro e w' ⟨rfl, ⟨nd, rfl⟩⟩; refine ⟨_, rfl, ?_⟩) | ((with_reducible refine gate_callee (f := 70) rfl ?_); refine goesL_ (some 10) rfl rfl Try.func70 (by kernel_rfl) rfl #[.int .i64 a1, .int .i64 0, .int .i64 100] rfl (by (try simp only [List.map_toArray, List.map_cons, List.map_nil]); first | done | rfl | (simp only [List.length_drop, List.length_take]; rfl)) ?_; (with_reducible refine (spec_l01In.calls a1 0 100 true _ A5.out).mono ?_); rintro e w' ⟨rfl, ⟨nd, rfl⟩⟩; refine ⟨_, rfl, ?_⟩) | ((with_reducible refine gate_callee (f := 71) rfl ?_); refine goesL_ (some 14) rfl rfl Try.func71 (by kernel_rfl) rfl #[.int .i64 a0, .int .i64 a1, .int .i64 12] rfl (by (try simp only [List.map_toArray, List.map_cons, List.map_nil]); first | done | rfl | (simp only [List.length_drop, List.length_take]; rfl)) ?_; (with_reducible refine (spec_l04Near.calls k a0 a1 12 t112 _ A7.out).mono ?_); rintro e w8 ⟨v113, rfl, ho0, hb⟩; refine ⟨_, rfl, ?_⟩; have n0_ := Aside0.mk (Kd.R_lower ho0 (below_size (by repeat (first | (with_reducible first | exact HB.out | apply below_alloc | apply pw_below_drewN | apply below_drew1) | exact HB.out)))); have n1_ := Aside0.mk (below_step (by repeat (first | (with_reducible first | exact HB.out | apply below_alloc | apply pw_below_drewN | apply below_drew1) | exact HB.out)) hb); clear HB; have HO114 := n0_; have HB := n1_; clear n0_ n1_; (try clear hb); (try clear hb2); (try clear hk); (try clear hi); (try clear ho0)))
      go_ret2
      exact ⟨_, by first | rfl | (simp [errW_none, errW_some] <;> rfl) | (simp [*, errW_none, errW_some] <;> rfl), by (with_reducible repeat (first | apply Kd.R_alloc | apply Kd.R_drewN | apply Kd.R_drew)); exact HO114.out, by repeat (first | (with_reducible first | exact HB.out | apply below_alloc | apply pw_below_drewN | apply below_drew1) | exact HB.out)⟩
    · replace c6 := Bool.eq_false_iff.mpr c6
      subst c6
      have H1 : (some (([] : List (S47)), 2)) = some (r1, r2) := by rw [if_neg (show ¬ (false = true) by decide)] at H; exact H
      clear H
      have H := H1
      clear H1
      simp only [Option.some.injEq, Prod.mk.injEq] at H
      obtain ⟨rfl, rfl⟩ := H
      go_enter Try.func10, Try.ntmps10
      go_wp2_with (first | ((with_reducible refine gate_callee (f := 63) rfl ?_); refine goesL_ (some 7) rfl rfl Try.func63 (by kernel_rfl) rfl #[.int .i64 a0] rfl (by (try simp only [List.map_toArray, List.map_cons, List.map_nil]); first | done | rfl | (simp only [List.length_drop, List.length_take]; rfl)) ?_; (with_reducible refine (spec_IsFrame.calls a0 true _ A3.out).mono ?_); rintro e w' ⟨rfl, ⟨nd, rfl⟩⟩; refine ⟨_, rfl, ?_⟩) | ((with_reducible refine gate_callee (f := 70) rfl ?_); refine goesL_ (some 10) rfl rfl Try.func70 (by kernel_rfl) rfl #[.int .i64 a1, .int .i64 0, .int .i64 100] rfl (by (try simp only [List.map_toArray, List.map_cons, List.map_nil]); first | done | rfl | (simp only [List.length_drop, List.length_take]; rfl)) ?_; (with_reducible refine (spec_l01In.calls a1 0 100 false _ A5.out).mono ?_); rintro e w' ⟨rfl, ⟨nd, rfl⟩⟩; refine ⟨_, rfl, ?_⟩))
      go_ret2
      exact ⟨_, by first | rfl | (simp [errW_none, errW_some] <;> rfl) | (simp [*, errW_none, errW_some] <;> rfl), by first | exact Kd.R_nil _ _ _ _ _ | exact Kd.N_nil _ _ _ _ _ | exact Kd.V_nil _ _ _ _ _ | exact Kd.Q_nil _ _ _ _ _ | exact Kd.S_nil _ _ _ _ _, by repeat (first | (with_reducible first | exact HB.out | apply below_alloc | apply pw_below_drewN | apply below_drew1) | exact HB.out)⟩
  · replace c4 := Bool.eq_false_iff.mpr c4
    subst c4
    have H1 : (some (([] : List (S47)), 1)) = some (r1, r2) := by rw [if_neg (show ¬ (false = true) by decide)] at H; exact H
    clear H
    have H := H1
    clear H1
    simp only [Option.some.injEq, Prod.mk.injEq] at H
    obtain ⟨rfl, rfl⟩ := H
    go_enter Try.func10, Try.ntmps10
    go_wp2_with (first | ((with_reducible refine gate_callee (f := 63) rfl ?_); refine goesL_ (some 7) rfl rfl Try.func63 (by kernel_rfl) rfl #[.int .i64 a0] rfl (by (try simp only [List.map_toArray, List.map_cons, List.map_nil]); first | done | rfl | (simp only [List.length_drop, List.length_take]; rfl)) ?_; (with_reducible refine (spec_IsFrame.calls a0 false _ A3.out).mono ?_); rintro e w' ⟨rfl, ⟨nd, rfl⟩⟩; refine ⟨_, rfl, ?_⟩))
    go_ret2
    exact ⟨_, by first | rfl | (simp [errW_none, errW_some] <;> rfl) | (simp [*, errW_none, errW_some] <;> rfl), by first | exact Kd.R_nil _ _ _ _ _ | exact Kd.N_nil _ _ _ _ _ | exact Kd.V_nil _ _ _ _ _ | exact Kd.Q_nil _ _ _ _ _ | exact Kd.S_nil _ _ _ _ _, by repeat (first | (with_reducible first | exact HB.out | apply below_alloc | apply pw_below_drewN | apply below_drew1) | exact HB.out)⟩

/-! ### impl_within: function 72 -/
def impl_within.f (a0 : Int) (a1 : Int) (a2 : Int) : Option (Bool) := if a0 ≥ a1 then (some (decide (a0 ≤ a2))) else (some false)
set_option maxHeartbeats 8000000 in
set_option maxRecDepth 100000 in
theorem impl_within.calls (a0 : Int) (a1 : Int) (a2 : Int) (r : Bool) (w : World) (h : impl_within.f a0 a1 a2 = some r) :
    Calls Try.prog 72 #[.int .i64 a0, .int .i64 a1, .int .i64 a2] w fun e w' => e = .returned (.bool r) ∧ Drawn0 w w' := by
  have H : (if a0 ≥ a1 then (some (decide (a0 ≤ a2))) else (some false)) = some r := h
  clear h
  by_cases c4 : a0 ≥ a1
  · rw [if_pos c4] at H
    have c4b0 : decide (a1 ≤ a0) = true := decide_eq_true c4
    clear c4
    obtain rfl := Option.some.inj H
    go_enter Try.func72, Try.ntmps72
    go_wp2
    go_ret
    exact ⟨by first | rfl | (simp; done) | (simp [*]; done), by repeat (first | exact Drawn0.refl _ | apply Drawn0.step)⟩
  · rw [if_neg c4] at H
    have c4b0 : decide (a1 ≤ a0) = false := decide_eq_false c4
    clear c4
    obtain rfl := Option.some.inj H
    go_enter Try.func72, Try.ntmps72
    go_wp2
    go_ret
    exact ⟨by first | rfl | (simp; done) | (simp [*]; done), by repeat (first | exact Drawn0.refl _ | apply Drawn0.step)⟩

/-! ### impl_IsFrame: function 62 -/
def impl_IsFrame.f (a0 : Int) : Option (Bool) := (impl_within.f a0 0 1).bind fun t115 => (some t115)
set_option maxHeartbeats 8000000 in
set_option maxRecDepth 100000 in
theorem impl_IsFrame.calls (a0 : Int) (r : Bool) (w : World) (h : impl_IsFrame.f a0 = some r) :
    Calls Try.prog 62 #[.int .i64 a0] w fun e w' => e = .returned (.bool r) ∧ Drawn0 w w' := by
  have H : ((impl_within.f a0 0 1).bind fun t115 => (some t115)) = some r := h
  clear h
  replace H := Option.bind_eq_some_iff.mp H
  obtain ⟨t115, A20, H⟩ := H
  replace H : (some t115) = some r := H
  have A2 := Aside0.mk A20
  clear A20
  obtain rfl := Option.some.inj H
  go_enter Try.func62, Try.ntmps62
  go_wp2_with (first | ((with_reducible refine gate_callee (f := 72) rfl ?_); refine goesL_ (some 4) rfl rfl Try.func72 (by kernel_rfl) rfl #[.int .i64 a0, .int .i64 0, .int .i64 1] rfl (by (try simp only [List.map_toArray, List.map_cons, List.map_nil]); first | done | rfl | (simp only [List.length_drop, List.length_take]; rfl)) ?_; (with_reducible refine (impl_within.calls a0 0 1 t115 _ A2.out).mono ?_); rintro e w' ⟨rfl, ⟨nd, rfl⟩⟩; refine ⟨_, rfl, ?_⟩))
  go_ret
  exact ⟨by first | rfl | (simp; done) | (simp [*]; done), by repeat (first | exact Drawn0.refl _ | apply Drawn0.step)⟩

/-! ### impl_vecsAround: function 74 -/
mutual
def impl_vecsAround.l0 : Nat → Int → List (S47) → Int → Option ((List (S47)))
  | 0, _, _, _ => none
  | k + 1, x0, x3, x4 => if x4 ≤ x0 then (impl_vecsAround.l1 k x0 x3 x4 (wrap64 (-x0))) else (some x3)
def impl_vecsAround.l1 : Nat → Int → List (S47) → Int → Int → Option ((List (S47)))
  | 0, _, _, _, _ => none
  | k + 1, x0, x3, x4, x5 => if x5 ≤ x0 then (if x3.length < 8796093022208 then (impl_vecsAround.l1 k x0 (x3 ++ [(⟨x4, x5⟩ : S47)]) x4 (wrap64 (x5 + 1))) else (none)) else (impl_vecsAround.l0 k x0 x3 (wrap64 (x4 + 1)))
end
def impl_vecsAround.f (k : Nat) (a0 : Int) : Option ((List (S47))) := impl_vecsAround.l0 k a0 (([] : List (S47))) (wrap64 (-a0))
theorem impl_vecsAround.mono_l : ∀ k, (∀ y0 y1 y2, LeO (impl_vecsAround.l0 k y0 y1 y2) (impl_vecsAround.l0 (k + 1) y0 y1 y2)) ∧ (∀ y0 y1 y2 y3, LeO (impl_vecsAround.l1 k y0 y1 y2 y3) (impl_vecsAround.l1 (k + 1) y0 y1 y2 y3))
  | 0 => ⟨fun _ _ _ r h => by simp [impl_vecsAround.l0] at h, fun _ _ _ _ r h => by simp [impl_vecsAround.l1] at h⟩
  | k + 1 => by
    obtain ⟨ih0, ih1⟩ := impl_vecsAround.mono_l k
    refine ⟨?_, ?_⟩
    · intro y0 y1 y2
      unfold impl_vecsAround.l0
      repeat' first
      | (with_reducible exact ih0 _ _ _)
      | (with_reducible exact ih1 _ _ _ _)
      | (with_reducible exact LeO.refl _)
      | (with_reducible exact LeO.none _)
      | (with_reducible refine LeO.ite ?_ ?_)
      | (with_reducible refine LeO.bind ?_ (fun _ => ?_))
      | exact ih0 _ _ _
      | exact ih1 _ _ _ _
      | exact LeO.none _
      | refine LeO.ite ?_ ?_
      | refine LeO.bind ?_ (fun _ => ?_)
    · intro y0 y1 y2 y3
      unfold impl_vecsAround.l1
      repeat' first
      | (with_reducible exact ih0 _ _ _)
      | (with_reducible exact ih1 _ _ _ _)
      | (with_reducible exact LeO.refl _)
      | (with_reducible exact LeO.none _)
      | (with_reducible refine LeO.ite ?_ ?_)
      | (with_reducible refine LeO.bind ?_ (fun _ => ?_))
      | exact ih0 _ _ _
      | exact ih1 _ _ _ _
      | exact LeO.none _
      | refine LeO.ite ?_ ?_
      | refine LeO.bind ?_ (fun _ => ?_)
theorem impl_vecsAround.mono : ∀ a0 k, LeO (impl_vecsAround.f k a0) (impl_vecsAround.f (k + 1) a0) := by
  intro a0 k
  obtain ⟨ih0, ih1⟩ := impl_vecsAround.mono_l k
  unfold impl_vecsAround.f
  repeat' first
      | (with_reducible exact ih0 _ _ _)
      | (with_reducible exact ih1 _ _ _ _)
      | (with_reducible exact LeO.refl _)
      | (with_reducible exact LeO.none _)
      | (with_reducible refine LeO.ite ?_ ?_)
      | (with_reducible refine LeO.bind ?_ (fun _ => ?_))
      | exact ih0 _ _ _
      | exact ih1 _ _ _ _
      | exact LeO.none _
      | refine LeO.ite ?_ ?_
      | refine LeO.bind ?_ (fun _ => ?_)
set_option maxHeartbeats 8000000 in
set_option maxRecDepth 100000 in
theorem impl_vecsAround.calls (k : Nat) (a0 : Int) (r : List (S47)) (w : World) (h : impl_vecsAround.f k a0 = some r) :
    Calls Try.prog 74 #[.int .i64 a0] w fun e w' => ∃ v0_ : Value, e = .returned (v0_) ∧ Kd.R k47 47 w' w.heap.size (fun _ => True) v0_ r ∧ Below w.heap.size w w' := by
  have hu47 := Try.underlying47
  have HB := Aside0.mk (Below.refl w.heap.size w)
  have H : (impl_vecsAround.l0 k a0 (([] : List (S47))) (wrap64 (-a0))) = some r := h
  clear h
  obtain ⟨y116, hy116⟩ : ∃ y_ : List (S47), y_ = (([] : List (S47))) := ⟨_, rfl⟩
  replace H : (impl_vecsAround.l0 k a0 y116 (wrap64 (-a0))) = some r := by first | (rw [hy116]; with_reducible exact H) | (have H2_ := (Option.bind_some _ _).symm.trans H; rw [hy116]; with_reducible exact H2_) | (have H2_ := (Option.bind_some _ _).symm.trans H; with_reducible exact H2_) | with_reducible exact H | (rw [hy116]; exact H) | exact H
  have Ny116 := Aside0.mk hy116
  clear hy116
  have H' := Aside0.mk H
  clear H
  go_enter Try.func74, Try.ntmps74
  go_wp2_with (first | ((with_reducible refine gate_dst (N := 6) rfl ?_); refine Kd.R_lit k47 _ 47 ?hg (N := 6) ?hd (xs := ([] : List (S47))) (inner := []) (ok := fun _ => True) (okp := fun _ => True) ?hr ?hp (fun _ hk => hk) trivial (Below.refl _ _) (Nat.le_refl _) (by simp) ?_; (case hd => rfl); (case hg => rfl); (case hr => first | (go_simp; done) | (go_simp; rfl)); (case hp => exact (Reps.none _ _)); intro v117 w2 ho3 hb hg_ hnew_; clear hg_ hnew_; (first | rw [← Ny116.out] at ho3 | (simp only [Int.reduceToNat] at ho3; rw [← Ny116.out] at ho3)); have n0_ := Aside0.mk (Kd.R_lower ho3 (below_size (by repeat (first | (with_reducible first | exact HB.out | apply below_alloc | apply pw_below_drewN | apply below_drew1) | exact HB.out)))); have n1_ := Aside0.mk (below_step (by repeat (first | (with_reducible first | exact HB.out | apply below_alloc | apply pw_below_drewN | apply below_drew1) | exact HB.out)) hb); clear HB; have HO118 := n0_; have HB := n1_; clear n0_ n1_; clear hb ho3))
  go_loopg [3, 4] k (fun kq v3 v4 w' => ∃ (x3_1 : List (S47)) (x4_1 : Int), v4 = .int .i64 x4_1 ∧ Aside0 (impl_vecsAround.l0 kq a0 x3_1 x4_1 = some r) ∧ Aside0 (kq ≤ k) ∧ Aside0 (Kd.R k47 47 w' w.heap.size (fun _ => True) v3 x3_1) ∧ Aside0 (Below w.heap.size w w'))
  case atStart => exact ⟨(y116), (wrap64 (-a0)), (by first | rfl | (simp; done) | (simp [*]; done)), H', ⟨Nat.le_refl _⟩, ⟨by (with_reducible repeat (first | apply Kd.R_alloc | apply Kd.R_drewN | apply Kd.R_drew)); exact HO118.out⟩, ⟨by repeat (first | (with_reducible first | exact HB.out | apply below_alloc | apply pw_below_drewN | apply below_drew1) | exact HB.out)⟩⟩
  case round =>
    clear H'
    try clear p2
    obtain ⟨x3_1, x4_1, rfl, HA, HK1, HO_3, HB⟩ := hrel
    cases gk with
    | zero => exact absurd HA.out (by simp [impl_vecsAround.l0])
    | succ k1 =>
      have H := HA.out
      clear HA
      simp only [impl_vecsAround.l0] at H
      by_cases c4 : x4_1 ≤ a0
      · rw [if_pos c4] at H
        have c4b0 : decide (x4_1 ≤ a0) = true := decide_eq_true c4
        clear c4
        have H' := Aside0.mk H
        clear H
        go_wp2
        go_loopg [3, 5] k1 (fun kq v3 v5 w' => ∃ (x3_2 : List (S47)) (x5_2 : Int), v5 = .int .i64 x5_2 ∧ Aside0 (impl_vecsAround.l1 kq a0 x3_2 x4_1 x5_2 = some r) ∧ Aside0 (kq ≤ k1) ∧ Aside0 (Kd.R k47 47 w' w.heap.size (fun _ => True) v3 x3_2) ∧ Aside0 (Below w.heap.size w w'))
        case atStart => exact ⟨(x3_1), (wrap64 (-a0)), (by first | rfl | (simp; done) | (simp [*]; done)), H', ⟨Nat.le_refl _⟩, ⟨by (with_reducible repeat (first | apply Kd.R_alloc | apply Kd.R_drewN | apply Kd.R_drew)); exact HO_3.out⟩, ⟨by repeat (first | (with_reducible first | exact HB.out | apply below_alloc | apply pw_below_drewN | apply below_drew1) | exact HB.out)⟩⟩
        case round =>
          clear H'
          try clear p2
          try clear c4
          try clear c4b0
          try clear p2
          obtain ⟨x3_2, x5_2, rfl, HA, HK2, HO_3, HB⟩ := hrel
          cases gk with
          | zero => exact absurd HA.out (by simp [impl_vecsAround.l1])
          | succ k2 =>
            have H := HA.out
            clear HA
            simp only [impl_vecsAround.l1] at H
            by_cases c5 : x5_2 ≤ a0
            · rw [if_pos c5] at H
              have c5b0 : decide (x5_2 ≤ a0) = true := decide_eq_true c5
              clear c5
              by_cases c6 : x3_2.length < 8796093022208
              · rw [if_pos c6] at H
                have LMc6 := Aside0.mk c6
                clear c6
                obtain ⟨y119, hy119⟩ : ∃ y_ : List (S47), y_ = (x3_2 ++ [(⟨x4_1, x5_2⟩ : S47)]) := ⟨_, rfl⟩
                replace H : (impl_vecsAround.l1 k2 a0 y119 x4_1 (wrap64 (x5_2 + 1))) = some r := by first | (rw [hy119]; with_reducible exact H) | (have H2_ := (Option.bind_some _ _).symm.trans H; rw [hy119]; with_reducible exact H2_) | (have H2_ := (Option.bind_some _ _).symm.trans H; with_reducible exact H2_) | with_reducible exact H | (rw [hy119]; exact H) | exact H
                have Ny119 := Aside0.mk hy119
                clear hy119
                have H' := Aside0.mk H
                clear H
                go_wp2_with (first | ((with_reducible refine gate_builtin (b := .append) (xs := #[.tmp 21, .tmp 25]) rfl ?_); at_builtin; refine Kd.R_append k47 (w0 := w) w.heap.size rfl (.tmp 21) (.tmp 25) 22 47 (.agg #[(.int .i64 0), (.int .i64 0)]) 16 rfl Try.underlying22 info47 rfl (by decide) (by omega) u3 x3_2 (⟨x4_1, x5_2⟩ : S47) [.int .i64 x4_1, .int .i64 x5_2] (fun _ => True) (fun _ => False) rfl rfl ?aP (fun _ hk => hk.elim) ?aF ?aO ?aB ?aS ?aL ?_; (case aP => exact k47_mkM _ _ _ (⟨x4_1, x5_2⟩ : S47)); (case aB => exact (by repeat (first | (with_reducible first | exact HB.out | apply below_alloc | apply pw_below_drewN | apply below_drew1) | exact HB.out))); (case aF => exact (fun _ _ => trivial)); (case aO => exact (by (with_reducible repeat (first | apply Kd.R_alloc | apply Kd.R_drewN | apply Kd.R_drew)); exact HO_3.out)); (case aS => exact (below_size (by repeat (first | (with_reducible first | exact HB.out | apply below_alloc | apply pw_below_drewN | apply below_drew1) | exact HB.out)))); (case aL => have := LMc6.out; omega); intro v120 w7 ho hb hg hat; rw [← Ny119.out] at ho; have n0_ := Aside0.mk (hb); have n1_ := Aside0.mk (ho); clear HB; clear HO_3; have HB := n0_; have HO121 := n1_; clear n0_ n1_; clear ho hb hg hat))
                go_roundg k2
                case measure => have := HK1.out; have := HK2.out; omega
                case rel => exact ⟨(y119), (wrap64 (x5_2 + 1)), (by first | rfl | (simp; done) | (simp [*]; done)), H', ⟨by have := HK1.out; have := HK2.out; omega⟩, ⟨by (with_reducible repeat (first | apply Kd.R_alloc | apply Kd.R_drewN | apply Kd.R_drew)); exact HO121.out⟩, ⟨by repeat (first | (with_reducible first | exact HB.out | apply below_alloc | apply pw_below_drewN | apply below_drew1) | exact HB.out)⟩⟩
              · rw [if_neg c6] at H
                exact absurd H (by simp)
            · rw [if_neg c5] at H
              have c5b0 : decide (x5_2 ≤ a0) = false := decide_eq_false c5
              clear c5
              have H' := Aside0.mk H
              clear H
              go_wp2
              go_roundg k2
              case measure => have := HK1.out; have := HK2.out; omega
              case rel => exact ⟨(x3_2), (wrap64 (x4_1 + 1)), (by first | rfl | (simp; done) | (simp [*]; done)), H', ⟨by have := HK1.out; have := HK2.out; omega⟩, ⟨by (with_reducible repeat (first | apply Kd.R_alloc | apply Kd.R_drewN | apply Kd.R_drew)); exact HO_3.out⟩, ⟨by repeat (first | (with_reducible first | exact HB.out | apply below_alloc | apply pw_below_drewN | apply below_drew1) | exact HB.out)⟩⟩
      · rw [if_neg c4] at H
        have c4b0 : decide (x4_1 ≤ a0) = false := decide_eq_false c4
        clear c4
        obtain rfl := Option.some.inj H
        go_wp2
        go_ret
        exact ⟨_, by first | rfl | (simp [errW_none, errW_some] <;> rfl) | (simp [*, errW_none, errW_some] <;> rfl), by (with_reducible repeat (first | apply Kd.R_alloc | apply Kd.R_drewN | apply Kd.R_drew)); exact HO_3.out, by repeat (first | (with_reducible first | exact HB.out | apply below_alloc | apply pw_below_drewN | apply below_drew1) | exact HB.out)⟩

/-! ### impl_norm: function 76 -/
def impl_norm.f (a0 : Int) (a1_0 : Int) (a1_1 : Int) : Option (Int) := some (wrap64 ((wrap64 ((wrap64 (a1_0 * a1_0)) + (wrap64 ((wrap64 (a0 * a1_0)) * a1_1)))) + (wrap64 (a1_1 * a1_1))))
set_option maxHeartbeats 8000000 in
set_option maxRecDepth 100000 in
theorem impl_norm.calls (a0 : Int) (a1_0 : Int) (a1_1 : Int) (r : Int) (w : World) (h : impl_norm.f a0 a1_0 a1_1 = some r) :
    Calls Try.prog 76 #[.int .i64 a0, .agg #[.int .i64 a1_0, .int .i64 a1_1]] w fun e w' => e = .returned (.int .i64 r) ∧ Below w.heap.size w w' := by
  have hu47 := Try.underlying47
  have HB := Aside0.mk (Below.refl w.heap.size w)
  have H : (some (wrap64 ((wrap64 ((wrap64 (a1_0 * a1_0)) + (wrap64 ((wrap64 (a0 * a1_0)) * a1_1)))) + (wrap64 (a1_1 * a1_1))))) = some r := h
  clear h
  obtain rfl := Option.some.inj H
  go_enter Try.func76, Try.ntmps76
  go_wp2_with (first | ((with_reducible refine gate_dst (N := 3) rfl ?_); refine box_event ?hg (N := 3) ?hd (cs := #[.int .i64 a1_0, .int .i64 a1_1]) (t := 47) ?hr ?_; (case hd => rfl); (case hg => rfl); (case hr => first | (go_simp; done) | (go_simp; rfl)); intro gb251 hg w3 hbox hb; have n0_ := Aside0.mk (below_step (by repeat (first | (with_reducible first | exact HB.out | apply below_alloc | apply pw_below_drewN | apply below_drew1) | exact HB.out)) hb); have n1_ := Aside0.mk (hbox); have n2_ := Aside0.mk ((by rw [hg]; exact (below_size (by repeat (first | (with_reducible first | exact HB.out | apply below_alloc | apply pw_below_drewN | apply below_drew1) | exact HB.out))) : w.heap.size ≤ gb251)); have n3_ := Aside0.mk ((by rw [hg]; exact (below_size (by repeat (first | (with_reducible first | exact HB.out | apply below_alloc | apply pw_below_drewN | apply below_drew1) | exact HB.out))) : w.heap.size ≤ gb251)); clear HB; have HB := n0_; have BK251 := n1_; have GW251 := n2_; have GE251 := n3_; clear n0_ n1_ n2_ n3_; clear hb hbox hg; have hcz4_0 : w3.cell? ⟨gb251, 0, none⟩ = some (.int .i64 a1_0) := (blk_cell BK251.out 0).trans rfl; have hcz4_1 : w3.cell? ⟨gb251, 1, none⟩ = some (.int .i64 a1_1) := (blk_cell BK251.out 1).trans rfl; have hfz4_0 := blk_frozen BK251.out 0; have hfz4_1 := blk_frozen BK251.out 1))
  go_ret
  exact ⟨by first | rfl | (simp [errW_none, errW_some] <;> rfl) | (simp [*, errW_none, errW_some] <;> rfl), by repeat (first | (with_reducible first | exact HB.out | apply below_alloc | apply pw_below_drewN | apply below_drew1 | refine below_set ?_ GE251.out) | exact HB.out)⟩

/-! ### impl_NearVecs: function 11 -/
def impl_NearVecs.f (k : Nat) (a0 : Int) (a1 : Int) : Option ((List (S47)) × Int) := (spec_IsFrame.f a0).bind fun t122 => (if t122 = true then ((spec_l01In.f a1 0 100).bind fun t123 => (if t123 = true then ((spec_l04Near.f k a0 a1 12).bind fun t124 => (some (t124, 0))) else (some (([] : List (S47)), 2)))) else (some (([] : List (S47)), 1)))
theorem impl_NearVecs.mono : ∀ a0 a1 k, LeO (impl_NearVecs.f k a0 a1) (impl_NearVecs.f (k + 1) a0 a1) := by
  intro a0 a1 k
  unfold impl_NearVecs.f
  repeat' first
      | (with_reducible exact spec_l04Near.mono _ _ _ _)
      | (with_reducible exact LeO.refl _)
      | (with_reducible exact LeO.none _)
      | (with_reducible refine LeO.ite ?_ ?_)
      | (with_reducible refine LeO.bind ?_ (fun _ => ?_))
      | exact spec_l04Near.mono _ _ _ _
      | exact LeO.none _
      | refine LeO.ite ?_ ?_
      | refine LeO.bind ?_ (fun _ => ?_)
-- impl_vecsAround.calls impl_norm.calls impl_IsFrame.calls impl_within.calls
set_option maxHeartbeats 8000000 in
set_option maxRecDepth 100000 in
theorem near_cl (a0 a1 x y r : Int) (F N : Nat) (W : World) (hFs : F < W.heap.size) (hNs : N < W.heap.size) (hF : W.cell? ⟨F, 0, none⟩ = some (.int .i64 a0)) (hN : W.cell? ⟨N, 0, none⟩ = some (.int .i64 a1)) (h : impl_norm.f a0 x y = some r) :
    Calls Try.prog 75 #[.agg #[.int .i64 x, .int .i64 y], .pointer (some ⟨F, 0, none⟩), .pointer (some ⟨N, 0, none⟩)] W fun e w' => e = .returned (.bool (decide (r > a1))) ∧ Below W.heap.size W w' := by
  go_enter Try.func75, Try.ntmps75
  go_wp2_with (first | ((with_reducible refine gate_dst (N := 3) rfl ?_); refine box_event ?hg (N := 3) ?hd (cs := #[.int .i64 x, .int .i64 y]) (t := 47) ?hr ?_; (case hd => rfl); (case hg => rfl); (case hr => first | (go_simp; done) | (go_simp; rfl)); intro gb hg w4 hbox hb))
  subst hg
  have f4 : w4.cell? ⟨F, 0, none⟩ = some (.int .i64 a0) := (hb.cell (p := ⟨F, 0, none⟩) hFs).trans hF
  have n4 : w4.cell? ⟨N, 0, none⟩ = some (.int .i64 a1) := (hb.cell (p := ⟨N, 0, none⟩) hNs).trans hN
  have b0 : w4.cell? ⟨W.heap.size, 0, none⟩ = some (.int .i64 x) := (blk_cell hbox 0).trans rfl
  have b1 : w4.cell? ⟨W.heap.size, 1, none⟩ = some (.int .i64 y) := (blk_cell hbox 1).trans rfl
  have hs4 : W.heap.size ≤ w4.heap.size := hb.size
  go_region_with (go_at_call 76; refine (impl_norm.calls a0 x y r _ h).mono ?_; rintro e w5 ⟨rfl, hb5⟩; have n5 : w5.cell? ⟨N, 0, none⟩ = some (.int .i64 a1) := (hb5.cell (p := ⟨N, 0, none⟩) (by first | exact Nat.lt_of_lt_of_le hNs hs4 | (simp; omega))).trans n4)
  all_goals
    go_wp2
    go_ret
    exact ⟨rfl, below_step (by first | exact below_drew1 hb | exact hb) hb5⟩
/-- What the search answers. -/
def FirstAt {α : Type} (p : α → Bool) (z : α) (xs : List α) (i : Int) : Prop := (i = -1 ∧ ∀ j : Nat, j < xs.length → p (xs.getD j z) = false) ∨ (∃ k0 : Nat, i = (k0 : Int) ∧ k0 < xs.length ∧ p (xs.getD k0 z) = true ∧ ∀ j : Nat, j < k0 → p (xs.getD j z) = false)
set_option maxHeartbeats 8000000 in
set_option maxRecDepth 100000 in
theorem idx131 (p : S47 → Bool) (lb : Array Value) (A : Option Addr) (c : Nat) (xs : List S47) (w : World) (i : Int)
    (hp : ∀ (W : World) (x : S47), Below w.heap.size w W → Calls Try.prog 75 (#[.agg #[.int .i64 x.f0, .int .i64 x.f1]] ++ lb) W fun e w' => e = .returned (.bool (p x)) ∧ Below W.heap.size W w')
    (hr : Kd.C k47 w A xs.length xs) (hl : xs.length < 1000000) (hi : FirstAt p z47 xs i) :
    Calls Try.prog 131 #[.slice A xs.length c, .func (.func 75) #[] lb] w fun e w' => e = .returned (.int .i64 i) ∧ Below w.heap.size w w' := by
  have hu47 := Try.underlying47
  have HR := Aside0.mk hr
  have HP := Aside0.mk hp
  have HI := Aside0.mk hi
  clear hr hp hi
  go_enter Try.func131, Try.ntmps131
  go_wp2
  go_loopg [5, 8] xs.length (fun gg _ s8 wr => ∃ kk : Nat, s8 = .int .i64 kk ∧ kk ≤ xs.length ∧ xs.length - kk ≤ gg ∧ Aside0 (Below w.heap.size w wr) ∧ Aside0 (∀ j : Nat, j < kk → p (xs.getD j z47) = false))
  case atStart => exact ⟨0, rfl, Nat.zero_le _, by omega, ⟨Below.refl _ w⟩, ⟨fun j hj => absurd hj (Nat.not_lt_zero _)⟩⟩
  case round =>
    obtain ⟨kk, rfl, hkk, hgg, BW, A0⟩ := hrel
    by_cases hlt : kk < xs.length
    · have hltz : (kk : Int) < (xs.length : Int) := by omega
      have hk0 : (0 : Int) ≤ (kk : Int) := by omega
      obtain ⟨ad, e1, c0, c1⟩ := at_T47 (Kd.C_below HR.out BW.out) (kk : Int) hk0 (by omega)
      cases e1
      have hcall := Aside0.mk (HP.out wr (rd_T47 xs kk) BW.out)
      have hrd : rd_T47 xs kk = xs.getD kk z47 := rfl
      rw [hrd] at hcall c0 c1
      simp only [Int.toNat_natCast] at c0 c1
      have RD := Aside0.mk hrd
      clear hrd
      generalize hx : xs.getD kk z47 = x at hcall c0 c1
      have X := Aside0.mk hx
      clear hx
      cases hq : p x with
      | true =>
        go_wp2_with (go_at_call 75; refine hcall.out.mono ?_; rintro e w5 ⟨rfl, hb5⟩; rw [hq])
        go_ret
        refine ⟨?_, below_step BW.out hb5⟩
        rcases HI.out with ⟨_, ha⟩ | ⟨k0, rfl, h0, h1, h2⟩
        · have := ha kk hlt
          rw [X.out, hq] at this
          cases this
        · rcases Nat.lt_trichotomy k0 kk with h | h | h
          · have := A0.out k0 h
            rw [h1] at this
            cases this
          · subst h; rfl
          · have := h2 kk h
            rw [X.out, hq] at this
            cases this
      | false =>
        go_wp2_with (go_at_call 75; refine hcall.out.mono ?_; rintro e w5 ⟨rfl, hb5⟩; rw [hq])
        go_roundg (xs.length - (kk + 1))
        case measure => omega
        case rel =>
          refine ⟨kk + 1, by go_num, by omega, Nat.le_refl _, ⟨below_step BW.out hb5⟩, ⟨fun j hj => ?_⟩⟩
          by_cases e : j = kk
          · subst e
            rw [X.out]; exact hq
          · exact A0.out j (by omega)
    · have hltz : ¬ (kk : Int) < (xs.length : Int) := by omega
      have : kk = xs.length := by omega
      subst this
      go_wp2
      go_ret
      refine ⟨?_, BW.out⟩
      rcases HI.out with ⟨rfl, _⟩ | ⟨k0, rfl, h0, h1, h2⟩
      · rfl
      · have := A0.out k0 h0
        rw [h1] at this
        cases this
/-- clear(s) on a row of its own block. -/
theorem run_clear_row {P : Program} (w : World) (t e ty : TypeId) (z : Value) (ht : P.underlying t = some (.slice e)) (hv : ∀ w, (zeroValue e).run P w = .ok z w) (b o n c : Nat) (hn : 0 < n)
    (cells : Array Value) (hh : w.heap[b]? = some (.cells cells e (0, 0))) (hfit : o + n * z.cells.size ≤ cells.size) (h1 : ∀ v ∈ z.cells, v.oneCell' = true) :
    (Builtin.clear_ #[t] ty #[.slice (some ⟨b, o, none⟩) n c]).run P w = .ok (.tuple #[]) (w.setCells b o (Builtin.zeroCells z.cells n).toList) := by
  have hsz : (Builtin.zeroCells z.cells n).toList.length = n * z.cells.size := by simp [Builtin.zeroCells]
  have hm : ∀ v ∈ (Builtin.zeroCells z.cells n).toList, v.oneCell' = true := by
    intro v hv'
    simp [Builtin.zeroCells] at hv'
    obtain ⟨i, hi, he⟩ := hv'
    have hpos : 0 < z.cells.size := by
      rcases Nat.eq_zero_or_pos z.cells.size with h | h
      · rw [h] at hi; simp at hi
      · exact h
    have hlt := Nat.mod_lt i hpos
    rw [getElem!_pos z.cells _ hlt] at he
    exact h1 v (by rw [← he]; exact Array.getElem_mem hlt)
  have hst := run_storeCells_cells (P := P) b o (Builtin.zeroCells z.cells n).toList 0 w (fun j hj => by rw [cell_of_row w b _ cells e (0, 0) hh]; simp; omega) (fun j _ => blk_frozen hh _) hm
  simp only [Nat.add_zero] at hst
  obtain ⟨m, rfl⟩ : ∃ m, n = m + 1 := ⟨n - 1, by omega⟩
  simp [Builtin.clear_, run_underlying ht, hv, hst]
/-- A row made shorter: what is written behind it doesn't touch it. -/
theorem R_tail {α : Type} {d : Kd α} {e : Nat} {w : World} {base : Nat} {ok : Nat → Prop} {g n cap o : Nat} {xs : List α} (h : d.R e w base ok (.slice (some ⟨g, 0, none⟩) n cap) xs) (vs : List Value) (ho : n * d.sz ≤ o) (hfit : o + vs.length ≤ cap * d.sz) (hE : ∀ q, q ∈ d.E → False) :
    d.R e (w.setCells g o vs) base ok (.slice (some ⟨g, 0, none⟩) n cap) xs ∧ w.grownBy (w.setCells g o vs) (some g) := by
  obtain ⟨h0, inner, ⟨h1, h2⟩, hr⟩ := h
  rcases h2 with ⟨he, _⟩ | ⟨g', cap', cur, he, hb, hh, hnc, hcm, hcs, ht⟩
  · cases he
  injection he with ha hn hc
  injection ha with ha
  injection ha with hg
  subst hg; subst hc; subst hn
  obtain ⟨cur', h3, h4, h5⟩ := setCells_row vs o w cur hh (by omega)
  obtain ⟨s1, s2, s3, s4⟩ := setCells_same g vs o w
  refine ⟨⟨h0, inner, ⟨h1, .inr ⟨g, cap, cur', rfl, hb, h3, hnc, hcm, by rw [h4, hcs], ?_⟩⟩, ?_⟩, ⟨s1, s2, s3, by rw [s4]; exact Nat.le_refl _, fun k _ hk => setCells_far vs o k (fun he => hk (by rw [he]))⟩⟩
  · have hcl : cur.toList.length = cur.size := Array.length_toList
    have hnc2 : xs.length * d.sz ≤ cap * d.sz := Nat.mul_le_mul_right _ hnc
    rw [h5, ← ht, List.append_assoc, List.take_append_of_le_length (by rw [List.length_take, hcl]; omega), List.take_take, Nat.min_eq_left ho]
  · exact hr.imp_ (fun _ _ hp => d.M_move (fun k hk => setCells_far vs o k (fun he => hk.2 (by rw [he]; simp [Value.ownBlock]))) hp)
/-- The list while elements are struck: i kept so far, out of the first j. -/
def StrikeInv {α : Type} (p : α → Bool) (xs : List α) (i j : Nat) (dk : List α) : Prop := i < j ∧ j ≤ xs.length ∧ dk.length = xs.length ∧ dk.take i = (xs.take j).filter (fun x => !p x) ∧ ∀ m, j ≤ m → dk[m]? = xs[m]?
theorem strike_keep {α : Type} {p : α → Bool} {xs dk : List α} {i j : Nat} {x : α} (h : StrikeInv p xs i j dk) (hj : j < xs.length) (hx : xs[j]? = some x) (hp : p x = false) : StrikeInv p xs (i + 1) (j + 1) (dk.set i x) := by
  obtain ⟨h1, h2, h3, h4, h5⟩ := h
  refine ⟨by omega, by omega, by simp [h3], ?_, fun m hm => ?_⟩
  · have e1 : (dk.set i x).take (i + 1) = dk.take i ++ [x] := by
      rw [List.take_add_one, List.getElem?_set_self (by omega), List.take_set_of_le (Nat.le_refl _)]
      rfl
    rw [e1, h4, List.take_add_one, hx]
    simp [hp]
  · rw [List.getElem?_set_ne (by omega)]
    exact h5 m (by omega)
theorem strike_skip {α : Type} {p : α → Bool} {xs dk : List α} {i j : Nat} {x : α} (h : StrikeInv p xs i j dk) (hj : j < xs.length) (hx : xs[j]? = some x) (hp : p x = true) : StrikeInv p xs i (j + 1) dk := by
  obtain ⟨h1, h2, h3, h4, h5⟩ := h
  refine ⟨by omega, by omega, h3, ?_, fun m hm => h5 m (by omega)⟩
  rw [h4, List.take_add_one, hx]
  simp [hp]
theorem strike_start {α : Type} {p : α → Bool} {z : α} {xs : List α} {k0 : Nat} (h0 : k0 < xs.length) (h1 : p (xs.getD k0 z) = true) (h2 : ∀ j : Nat, j < k0 → p (xs.getD j z) = false) : StrikeInv p xs k0 (k0 + 1) xs := by
  refine ⟨by omega, by omega, rfl, ?_, fun _ _ => rfl⟩
  have hx : xs[k0]? = some (xs.getD k0 z) := by rw [List.getD_eq_getElem?_getD, List.getElem?_eq_getElem h0]; rfl
  rw [List.take_add_one, hx]
  show _ = List.filter _ (_ ++ [xs.getD k0 z])
  rw [List.filter_append, show List.filter (fun x => !p x) [xs.getD k0 z] = [] by simp only [List.filter_cons, h1]; rfl, List.append_nil]
  symm
  rw [List.filter_eq_self]
  intro a ha
  obtain ⟨j, hj, e⟩ := List.mem_iff_getElem.1 ha
  rw [List.length_take] at hj
  rw [List.getElem_take] at e
  have := h2 j (by omega)
  rw [List.getD_eq_getElem?_getD, List.getElem?_eq_getElem (by omega)] at this
  rw [← e]; simpa using this
theorem strike_none {α : Type} {p : α → Bool} {z : α} {xs : List α} (h : ∀ j : Nat, j < xs.length → p (xs.getD j z) = false) : xs.filter (fun x => !p x) = xs := by
  rw [List.filter_eq_self]
  intro a ha
  obtain ⟨j, hj, e⟩ := List.mem_iff_getElem.1 ha
  have := h j hj
  rw [List.getD_eq_getElem?_getD, List.getElem?_eq_getElem hj] at this
  rw [← e]; simpa using this
theorem strike_end {α : Type} {p : α → Bool} {xs dk : List α} {i : Nat} (h : StrikeInv p xs i xs.length dk) : dk.take i = xs.filter (fun x => !p x) := by
  rw [h.2.2.2.1, List.take_length]
theorem first_ex {α : Type} (p : α → Bool) (z : α) (xs : List α) : (∀ j : Nat, j < xs.length → p (xs.getD j z) = false) ∨ ∃ k0 : Nat, k0 < xs.length ∧ p (xs.getD k0 z) = true ∧ ∀ j : Nat, j < k0 → p (xs.getD j z) = false := by
  have key : ∀ n, n ≤ xs.length → (∀ j : Nat, j < n → p (xs.getD j z) = false) ∨ ∃ k0 : Nat, k0 < n ∧ p (xs.getD k0 z) = true ∧ ∀ j : Nat, j < k0 → p (xs.getD j z) = false := by
    intro n
    induction n with
    | zero => exact fun _ => .inl fun j hj => absurd hj (Nat.not_lt_zero _)
    | succ n ih =>
      intro hn
      rcases ih (by omega) with h | ⟨k0, a, b, c⟩
      · cases hq : p (xs.getD n z) with
        | true => exact .inr ⟨n, by omega, hq, h⟩
        | false =>
          refine .inl fun j hj => ?_
          by_cases e : j = n
          · rw [e]; exact hq
          · exact h j (by omega)
      · exact .inr ⟨k0, by omega, b, c⟩
  exact key _ (Nat.le_refl _)
theorem gb_below {w W W2 : World} {r : Option Nat} (h : w.grownBy W r) (k : Below W.heap.size W W2) : w.grownBy W2 r :=
  have hg := grown_of_below k none
  ⟨hg.os.trans h.os, hg.tape.trans h.tape, hg.output.trans h.output, Nat.le_trans h.size hg.size, fun i hi hr => (hg.block i (Nat.lt_of_lt_of_le hi h.size) (by simp)).trans (h.block i hi hr)⟩
theorem gb_grown {w W W2 : World} {r : Option Nat} (h : w.grownBy W r) (hg : W.grownBy W2 r) : w.grownBy W2 r :=
  ⟨hg.os.trans h.os, hg.tape.trans h.tape, hg.output.trans h.output, Nat.le_trans h.size hg.size, fun i hi hr => (hg.block i (Nat.lt_of_lt_of_le hi h.size) hr).trans (h.block i hi hr)⟩
theorem gb_refl (w : World) (r : Option Nat) : w.grownBy w r := ⟨rfl, rfl, rfl, Nat.le_refl _, fun _ _ _ => rfl⟩
theorem R_block {α : Type} {d : Kd α} {e : Nat} {w : World} {base : Nat} {ok : Nat → Prop} {g n cap : Nat} {xs : List α} (h : d.R e w base ok (.slice (some ⟨g, 0, none⟩) n cap) xs) : ∃ cur, w.heap[g]? = some (.cells cur e (0, 0)) ∧ cur.size = cap * d.sz ∧ n ≤ cap ∧ n = xs.length := by
  obtain ⟨h0, inner, ⟨h1, h2⟩, hr⟩ := h
  rcases h2 with ⟨he, _⟩ | ⟨g', cap', cur, he, hb, hh, hnc, hcm, hcs, ht⟩
  · cases he
  injection he with ha hn hc
  injection ha with ha
  injection ha with hg
  subst hg; subst hc; subst hn
  exact ⟨cur, hh, hcs, hnc, rfl⟩
set_option maxHeartbeats 8000000 in
set_option maxRecDepth 100000 in
theorem del73 (p : S47 → Bool) (lb : Array Value) (g n cap base : Nat) (xs : List S47) (w : World)
    (hp : ∀ (W : World) (x : S47), w.grownBy W (some g) → Calls Try.prog 75 (#[.agg #[.int .i64 x.f0, .int .i64 x.f1]] ++ lb) W fun e w' => e = .returned (.bool (p x)) ∧ Below W.heap.size W w')
    (HO : Kd.R k47 47 w base (fun _ => True) (.slice (some ⟨g, 0, none⟩) n cap) xs) (hl : xs.length < 1000000) :
    Calls Try.prog 73 #[.slice (some ⟨g, 0, none⟩) n cap, .func (.func 75) #[] lb] w fun e w' => ∃ v0_ : Value, e = .returned v0_ ∧ Kd.R k47 47 w' base (fun _ => True) v0_ (xs.filter fun x => !p x) ∧ w.grownBy w' (some g) := by
  have hu47 := Try.underlying47
  obtain ⟨hn, hnc, hC⟩ := Kd.R_reads' HO
  subst hn
  have hp' : ∀ (W : World) (x : S47), Below w.heap.size w W → Calls Try.prog 75 (#[.agg #[.int .i64 x.f0, .int .i64 x.f1]] ++ lb) W fun e w' => e = .returned (.bool (p x)) ∧ Below W.heap.size W w' := fun W x hb => hp W x (grown_of_below hb _)
  rcases first_ex p z47 xs with hall | ⟨k0, hk0, hk1, hk2⟩
  · have hcall := Aside0.mk (idx131 p lb (some ⟨g, 0, none⟩) cap xs w (-1) hp' hC hl (.inl ⟨rfl, hall⟩))
    have HO' := Aside0.mk HO
    rw [strike_none (z := z47) hall]
    clear hp hp' HO hC
    go_enter Try.func73, Try.ntmps73
    go_wp2_with (go_at_call 131; refine hcall.out.mono ?_; rintro e w5 ⟨rfl, hb5⟩)
    go_ret
    exact ⟨_, rfl, Kd.R_below HO'.out hb5, grown_of_below hb5 _⟩
  · have hcall := Aside0.mk (idx131 p lb (some ⟨g, 0, none⟩) cap xs w (k0 : Int) hp' hC hl (.inr ⟨k0, rfl, hk0, hk1, hk2⟩))
    have HO' := Aside0.mk HO
    have HP := Aside0.mk hp
    have HS := Aside0.mk (strike_start hk0 hk1 hk2)
    have hne : ((k0 : Int) == -1) = false := beq_eq_false_iff_ne.2 (by omega)
    clear hp hp' HO hC hk1 hk2
    go_enter Try.func73, Try.ntmps73
    go_wp2_with (go_at_call 131; refine hcall.out.mono ?_; rintro e w5 ⟨rfl, hb5⟩)
    go_loopg [5, 6, 7] xs.length (fun gg s5 s6 _ wr => ∃ (i j : Nat) (dk : List S47), s5 = .int .i64 i ∧ s6 = .int .i64 j ∧ j ≤ xs.length ∧ xs.length - j ≤ gg ∧ Aside0 (StrikeInv p xs i j dk) ∧ Aside0 (Kd.R k47 47 wr base (fun _ => True) (.slice (some ⟨g, 0, none⟩) xs.length cap) dk) ∧ Aside0 (w.grownBy wr (some g)))
    case atStart => exact ⟨k0, k0 + 1, xs, rfl, by go_num, by omega, by omega, HS, ⟨Kd.R_below HO'.out hb5⟩, ⟨grown_of_below hb5 _⟩⟩
    case round =>
      obtain ⟨i, j, dk, rfl, rfl, hjd, hgg, SI, RO, GB⟩ := hrel
      have hij := SI.out.1
      have hdl := SI.out.2.2.1
      by_cases hlt : j < xs.length
      · have hltz : (j : Int) < (xs.length : Int) := by omega
        obtain ⟨x, hx⟩ : ∃ x, xs[j]? = some x := ⟨xs[j], List.getElem?_eq_getElem hlt⟩
        have hdx : dk.getD j z47 = x := by rw [List.getD_eq_getElem?_getD, SI.out.2.2.2.2 j (Nat.le_refl _), hx]; rfl
        obtain ⟨cj, hcjl, hcjM, hcj, hfj⟩ := Kd.R_elem RO.out z47 (j : Int) (by omega) (by omega)
        simp only [Int.toNat_natCast] at hcjM hcj hfj
        rw [hdx] at hcjM
        have ecj := k47_openM hcjM
        have cj0 : wr.cell? ⟨g, j * 2, none⟩ = some (.int .i64 x.f0) := hcj 0 _ (by rw [ecj]; rfl)
        have cj1 : wr.cell? ⟨g, j * 2 + 1, none⟩ = some (.int .i64 x.f1) := hcj 1 _ (by rw [ecj]; rfl)
        have HX := Aside0.mk hx
        clear hcjM hcj hfj hdx ecj hcjl hx
        go_wp2_with (first | ((with_reducible refine gate_dst (N := 7) rfl ?_); refine box_event ?hg (N := 7) ?hd (cs := #[.int .i64 0, .int .i64 0]) (t := 47) ?hr ?_; (case hd => rfl); (case hg => rfl); (case hr => first | (go_simp; done) | (go_simp; rfl)); intro gb hgb w11 hbox hb; have hz0 : w11.cell? ⟨gb, 0, none⟩ = some (.int .i64 0) := (blk_cell hbox 0).trans rfl; have hz1 : w11.cell? ⟨gb, 1, none⟩ = some (.int .i64 0) := (blk_cell hbox 1).trans rfl; have hf0 := blk_frozen hbox 0; have hf1 := blk_frozen hbox 1; have hge := Aside0.mk (show wr.heap.size ≤ gb from Nat.le_of_eq hgb.symm); have HBX := Aside0.mk hbox; have HB11 := Aside0.mk hb; clear hgb hbox hb))
        have HBs : Below wr.heap.size wr ((w11.setCell ⟨gb, 0, none⟩ (.int .i64 x.f0)).setCell ⟨gb, 1, none⟩ (.int .i64 x.f1)) := below_set (below_set HB11.out hge.out) hge.out
        have BKs : ((w11.setCell ⟨gb, 0, none⟩ (.int .i64 x.f0)).setCell ⟨gb, 1, none⟩ (.int .i64 x.f1)).heap[gb]? = some (.cells #[.int .i64 x.f0, .int .i64 x.f1] 47) := by simpa using blk_set (blk_set HBX.out 0 (.int .i64 x.f0)) 1 (.int .i64 x.f1)
        generalize ((w11.setCell ⟨gb, 0, none⟩ (.int .i64 x.f0)).setCell ⟨gb, 1, none⟩ (.int .i64 x.f1)) = w12 at HBs BKs ⊢
        have hcl := HP.out w12 x (gb_below GB.out HBs)
        clear hz0 hz1 hf0 hf1 HBX HB11
        cases hq : p x with
        | false =>
          rw [hq] at hcl
          refine hcl.mono ?_
          rintro e w13 ⟨rfl, hb13⟩
          have B13 : Below wr.heap.size wr w13 := below_step HBs hb13
          have RO13 := Aside0.mk (Kd.R_below RO.out B13)
          have GB13 := Aside0.mk (gb_below GB.out B13)
          have BK13 := blk_below BKs hb13
          have hz0 : w13.cell? ⟨gb, 0, none⟩ = some (.int .i64 x.f0) := (blk_cell BK13 0).trans rfl
          have hz1 : w13.cell? ⟨gb, 1, none⟩ = some (.int .i64 x.f1) := (blk_cell BK13 1).trans rfl
          have hil : i < xs.length := by omega
          have hilz : (i : Int) < (xs.length : Int) := by omega
          obtain ⟨ci, hcil, hciM, hci, hfi⟩ := Kd.R_elem RO13.out z47 (i : Int) (by omega) (by omega)
          simp only [Int.toNat_natCast] at hciM hci hfi
          have eci := k47_openM hciM
          have ci0 : w13.cell? ⟨g, i * 2, none⟩ = some (.int .i64 (dk.getD i z47).f0) := hci 0 _ (by rw [eci]; rfl)
          have ci1 : w13.cell? ⟨g, i * 2 + 1, none⟩ = some (.int .i64 (dk.getD i z47).f1) := hci 1 _ (by rw [eci]; rfl)
          have fi0 : w13.frozen? ⟨g, i * 2, none⟩ = false := hfi 0
          have fi1 : w13.frozen? ⟨g, i * 2 + 1, none⟩ = false := hfi 1
          obtain ⟨RO14, hg14⟩ := Kd.R_seg (okp := fun _ => False) (j := 0) (seg := [.int .i64 x.f0, .int .i64 x.f1]) (x' := x) RO13.out (i : Int) (by omega) (by omega) hcil (by simpa using hci) (Nat.le_refl 2) (by simpa [eci] using k47_mkM w13 base (fun _ => False) x) (fun _ h => h.elim)
          have GB14 := Aside0.mk (gb_grown GB13.out hg14)
          have RO14 := Aside0.mk RO14
          clear hb13 BKs HBs hcl B13 BK13 hcil hciM hci hfi cj0 cj1 hge eci hg14
          go_wp2
          go_roundg (xs.length - (j + 1))
          case measure => omega
          case rel => exact ⟨i + 1, j + 1, dk.set i x, by go_num, by go_num, by omega, Nat.le_refl _, ⟨strike_keep SI.out hlt HX.out hq⟩, RO14, GB14⟩
        | true =>
          rw [hq] at hcl
          refine hcl.mono ?_
          rintro e w13 ⟨rfl, hb13⟩
          have B13 := Aside0.mk (below_step HBs hb13)
          clear hb13 BKs HBs hcl cj0 cj1 hge
          go_wp2
          go_roundg (xs.length - (j + 1))
          case measure => omega
          case rel => exact ⟨i, j + 1, dk, rfl, by go_num, by omega, Nat.le_refl _, ⟨strike_skip SI.out hlt HX.out hq⟩, ⟨Kd.R_below RO.out B13.out⟩, ⟨gb_below GB.out B13.out⟩⟩
      · obtain rfl : j = xs.length := by omega
        have hltz : ¬ (xs.length : Int) < (xs.length : Int) := by omega
        have hin : i < xs.length := by omega
        have hcapi : i ≤ cap := by omega
        have hiz : (i : Int) ≤ (xs.length : Int) := by omega
        obtain ⟨cur, hcur, hcsz, -, -⟩ := R_block RO.out
        have hfit : i * 2 + (xs.length - i) * 2 ≤ cur.size := by rw [hcsz]; show _ ≤ cap * 2; omega
        have hcl := fun ty => run_clear_row wr 22 47 ty (.agg #[.int .i64 0, .int .i64 0]) Try.underlying22 Try.zeroValue47 g (i * 2) (xs.length - i) (cap - i) (by omega) cur hcur hfit (by decide)
        have hlen : (Builtin.zeroCells (Value.agg #[.int .i64 0, .int .i64 0]).cells (xs.length - i)).toList.length = (xs.length - i) * 2 := by simp [Builtin.zeroCells, Value.cells]
        obtain ⟨RT, GT⟩ := R_tail (Kd.R_take RO.out (m := i) (by omega)) (Builtin.zeroCells (Value.agg #[.int .i64 0, .int .i64 0]).cells (xs.length - i)).toList (o := i * 2) (Nat.le_refl _) (by rw [hlen]; show _ ≤ cap * 2; omega) (by decide)
        generalize wr.setCells g (i * 2) (Builtin.zeroCells (Value.agg #[.int .i64 0, .int .i64 0]).cells (xs.length - i)).toList = wz at hcl RT GT
        have RT := Aside0.mk RT
        have GT := Aside0.mk (gb_grown GB.out GT)
        clear hcur hcsz hfit hlen
        go_wp2
        go_ret
        exact ⟨_, rfl, by rw [← strike_end SI.out]; exact RT.out, GT.out⟩
namespace NV
def Nf (f x y : Int) : Int := x * x + f * x * y + y * y
def rowF (x y : Int) : Nat → List (Int × Int)
  | 0 => []
  | d + 1 => (x, y) :: rowF x (y + 1) d
def boxF (lo : Int) (w : Nat) (x : Int) : Nat → List (Int × Int)
  | 0 => []
  | d + 1 => rowF x lo w ++ boxF lo w (x + 1) d
theorem mem_rowF (x : Int) : ∀ (d : Nat) (y : Int) (v : Int × Int), v ∈ rowF x y d ↔ v.1 = x ∧ y ≤ v.2 ∧ v.2 < y + d := by
  intro d
  induction d with
  | zero => intro y v; simp only [rowF, List.not_mem_nil, false_iff]; omega
  | succ d ih =>
    intro y v
    obtain ⟨v1, v2⟩ := v
    simp only [rowF, List.mem_cons, ih, Prod.mk.injEq]; omega
theorem mem_boxF (lo : Int) (w : Nat) : ∀ (d : Nat) (x : Int) (v : Int × Int), v ∈ boxF lo w x d ↔ (x ≤ v.1 ∧ v.1 < x + d) ∧ (lo ≤ v.2 ∧ v.2 < lo + w) := by
  intro d
  induction d with
  | zero => intro x v; simp only [boxF, List.not_mem_nil, false_iff]; omega
  | succ d ih =>
    intro x v
    simp only [boxF, List.mem_append, ih, mem_rowF]; omega
theorem rowF_len (x : Int) : ∀ (d : Nat) (y : Int), (rowF x y d).length = d := by
  intro d
  induction d with
  | zero => intro y; rfl
  | succ d ih => intro y; simp [rowF, ih]
/-- All vectors with numbers from -n to n, in order. -/
def box (n : Nat) : List (Int × Int) := boxF (-n) (2 * n + 1) (-n) (2 * n + 1)
theorem wrap_id {x : Int} (h1 : -9223372036854775808 ≤ x) (h2 : x < 9223372036854775808) : wrap64 x = x := by unfold wrap64; omega
theorem prod_bd {a b A B : Int} (ha : -A ≤ a) (ha' : a ≤ A) (hb : -B ≤ b) (hb' : b ≤ B) (hA : 0 ≤ A) : -(A * B) ≤ a * b ∧ a * b ≤ A * B := by
  have h1 : (a * b).natAbs ≤ A.natAbs * B.natAbs := by rw [Int.natAbs_mul]; exact Nat.mul_le_mul (by omega) (by omega)
  have h2 : (A * B).natAbs = A.natAbs * B.natAbs := Int.natAbs_mul A B
  have h3 : 0 ≤ A * B := Int.mul_nonneg hA (by omega)
  omega
def frameB (f : Int) : Bool := decide (f = 0 ∨ f = 1)
theorem impl_within_eq (a b c : Int) : impl_within.f a b c = some (decide (b ≤ a ∧ a ≤ c)) := by
  unfold impl_within.f; split <;> simp <;> omega
theorem spec_IsFrame_eq (f : Int) : spec_IsFrame.f f = some (frameB f) := by
  unfold spec_IsFrame.f frameB
  by_cases h : f = 0
  · simp [h]
  · by_cases h' : f = 1 <;> simp [h, h']
theorem impl_IsFrame_eq (f : Int) : impl_IsFrame.f f = some (frameB f) := by
  unfold impl_IsFrame.f frameB; simp only [impl_within_eq, Option.bind_some]; congr 1; exact decide_eq_decide.mpr (by omega)
theorem spec_l04Norm_eq (f : Int) {x y : Int} (hf : f = 0 ∨ f = 1) (hx : -100000 ≤ x ∧ x ≤ 100000) (hy : -100000 ≤ y ∧ y ≤ 100000) : spec_l04Norm.f f x y = some (Nf f x y) := by
  have h1 := prod_bd hx.1 hx.2 hx.1 hx.2 (by omega)
  have h2 := prod_bd hy.1 hy.2 hy.1 hy.2 (by omega)
  have h3 := prod_bd hx.1 hx.2 hy.1 hy.2 (by omega)
  unfold spec_l04Norm.f Nf
  rw [wrap_id (x := x * x) (by omega) (by omega), wrap_id (x := y * y) (by omega) (by omega), wrap_id (x := x * y) (by omega) (by omega), wrap_id (x := x * x + y * y) (by omega) (by omega)]
  rcases hf with rfl | rfl
  · rw [if_neg (by omega), Int.zero_mul, Int.zero_mul]; congr 1; omega
  · rw [if_pos rfl, wrap_id (by omega) (by omega), Int.one_mul]; congr 1; omega
theorem impl_norm_eq (f : Int) {x y : Int} (hf : f = 0 ∨ f = 1) (hx : -100000 ≤ x ∧ x ≤ 100000) (hy : -100000 ≤ y ∧ y ≤ 100000) : impl_norm.f f x y = some (Nf f x y) := by
  have h1 := prod_bd hx.1 hx.2 hx.1 hx.2 (by omega)
  have h2 := prod_bd hy.1 hy.2 hy.1 hy.2 (by omega)
  have h3 := prod_bd hx.1 hx.2 hy.1 hy.2 (by omega)
  unfold impl_norm.f Nf
  rcases hf with rfl | rfl
  · simp only [Int.zero_mul]
    rw [wrap_id (x := x * x) (by omega) (by omega), wrap_id (x := y * y) (by omega) (by omega), wrap_id (x := 0) (by omega) (by omega), Int.zero_mul, wrap_id (x := 0) (by omega) (by omega), wrap_id (x := x * x + 0) (by omega) (by omega), wrap_id (by omega) (by omega)]
  · simp only [Int.one_mul]
    rw [wrap_id (x := x) (by omega) (by omega), wrap_id (x := x * x) (by omega) (by omega), wrap_id (x := y * y) (by omega) (by omega), wrap_id (x := x * y) (by omega) (by omega), wrap_id (x := x * x + x * y) (by omega) (by omega), wrap_id (by omega) (by omega)]
theorem frameB_iff {f : Int} : frameB f = true ↔ f = 0 ∨ f = 1 := by unfold frameB; exact decide_eq_true_iff
/-- A vector as the printed lists hold it. -/
def mkSV (v : Int × Int) : S47 := ⟨v.1, v.2⟩
theorem impl_around_row (n x : Int) (hn : 0 ≤ n ∧ n ≤ 200) (k : Nat) : ∀ (d : Nat) (y : Int) (out : List S47), y + d = n + 1 → -200 ≤ y → out.length + d ≤ 1000000 →
    impl_vecsAround.l1 (k + d + 1) n out x y = impl_vecsAround.l0 k n (out ++ (rowF x y d).map mkSV) (wrap64 (x + 1)) := by
  intro d
  induction d with
  | zero => intro y out h0 hy hl; rw [impl_vecsAround.l1, if_neg (by omega)]; simp [rowF]
  | succ d ih =>
    intro y out h0 hy hl
    rw [show k + (d + 1) + 1 = (k + d + 1) + 1 by omega, impl_vecsAround.l1, if_pos (by omega), if_pos (by omega), wrap_id (x := y + 1) (by omega) (by omega), ih (y + 1) _ (by omega) (by omega) (by simp; omega)]
    simp [rowF, mkSV]
theorem impl_around_box (n : Nat) (hn : n ≤ 200) (k : Nat) : ∀ (d : Nat) (x : Int) (out : List S47), x + d = n + 1 → -200 ≤ x → out.length + d * (2 * n + 1) ≤ 900000 →
    impl_vecsAround.l0 (k + d * (2 * n + 1 + 2) + 1) n out x = some (out ++ (boxF (-n) (2 * n + 1) x d).map mkSV) := by
  intro d
  induction d with
  | zero => intro x out h0 hx hl; rw [impl_vecsAround.l0, if_neg (by omega)]; simp [boxF]
  | succ d ih =>
    intro x out h0 hx hl
    have e : k + (d + 1) * (2 * n + 1 + 2) + 1 = ((k + d * (2 * n + 1 + 2) + 1) + (2 * n + 1) + 1) + 1 := by rw [Nat.add_mul]; omega
    rw [Nat.add_mul] at hl
    rw [e, impl_vecsAround.l0, if_pos (by omega), wrap_id (x := -(n : Int)) (by omega) (by omega), impl_around_row n x (by omega) _ (2 * n + 1) (-n) out (by omega) (by omega) (by omega), wrap_id (x := x + 1) (by omega) (by omega), ih (x + 1) _ (by omega) (by omega) (by simp [rowF_len]; omega)]
    simp [boxF]
theorem impl_vecsAround_eq (n : Nat) (hn : n ≤ 200) (k : Nat) (hk : 200000 ≤ k) : impl_vecsAround.f k n = some ((box n).map mkSV) := by
  unfold impl_vecsAround.f box
  have h1 : (2 * n + 1) * (2 * n + 1 + 2) ≤ 401 * 403 := Nat.mul_le_mul (by omega) (by omega)
  have h2 : (2 * n + 1) * (2 * n + 1) ≤ 401 * 401 := Nat.mul_le_mul (by omega) (by omega)
  obtain ⟨j, rfl⟩ : ∃ j, k = j + (2 * n + 1) * (2 * n + 1 + 2) + 1 := ⟨k - (2 * n + 1) * (2 * n + 1 + 2) - 1, by omega⟩
  rw [wrap_id (x := -(n : Int)) (by omega) (by omega), impl_around_box n hn j (2 * n + 1) (-n) [] (by omega) (by omega) (by simp; omega)]; simp
def nearP (f N : Int) (v : Int × Int) : Bool := decide (Nf f v.1 v.2 ≤ N)
theorem spec_near_row (f N n x : Int) (hf : f = 0 ∨ f = 1) (hn : 0 ≤ n ∧ n ≤ 200) (hx : -200 ≤ x ∧ x ≤ 200) (k : Nat) : ∀ (d : Nat) (y : Int) (out : List S47), y + d = n + 1 → -200 ≤ y → out.length + d ≤ 1000000 →
    spec_l04Near.l1 (k + d + 1) f N n out x y = spec_l04Near.l0 k f N n (out ++ ((rowF x y d).filter (nearP f N)).map mkSV) (wrap64 (x + 1)) := by
  intro d
  induction d with
  | zero => intro y out h0 hy hl; rw [spec_l04Near.l1, if_neg (by omega)]; simp [rowF]
  | succ d ih =>
    intro y out h0 hy hl
    rw [show k + (d + 1) + 1 = (k + d + 1) + 1 by omega, spec_l04Near.l1, if_pos (by omega), spec_l04Norm_eq f hf (by omega) (by omega)]
    simp only [Option.bind_some]
    rw [wrap_id (x := y + 1) (by omega) (by omega)]
    by_cases hN : Nf f x y ≤ N
    · rw [if_pos hN, if_pos (by omega), ih (y + 1) _ (by omega) (by omega) (by simp; omega)]
      have e : nearP f N (x, y) = true := by simp [nearP, hN]
      simp [rowF, e, mkSV]
    · rw [if_neg hN, ih (y + 1) _ (by omega) (by omega) (by omega)]
      have e : nearP f N (x, y) = false := by simp [nearP, hN]
      simp [rowF, e]
theorem filter_row_len (f N x : Int) (d : Nat) (y : Int) : ((rowF x y d).filter (nearP f N)).length ≤ d := by
  have := List.length_filter_le (nearP f N) (rowF x y d)
  rw [rowF_len] at this; exact this
theorem spec_near_box (f N : Int) (hf : f = 0 ∨ f = 1) (n : Nat) (hn : n ≤ 200) (k : Nat) : ∀ (d : Nat) (x : Int) (out : List S47), x + d = n + 1 → -200 ≤ x → out.length + d * (2 * n + 1) ≤ 900000 →
    spec_l04Near.l0 (k + d * (2 * n + 1 + 2) + 1) f N n out x = some (out ++ ((boxF (-n) (2 * n + 1) x d).filter (nearP f N)).map mkSV) := by
  intro d
  induction d with
  | zero => intro x out h0 hx hl; rw [spec_l04Near.l0, if_neg (by omega)]; simp [boxF]
  | succ d ih =>
    intro x out h0 hx hl
    have e : k + (d + 1) * (2 * n + 1 + 2) + 1 = ((k + d * (2 * n + 1 + 2) + 1) + (2 * n + 1) + 1) + 1 := by rw [Nat.add_mul]; omega
    rw [Nat.add_mul] at hl
    have hr := filter_row_len f N x (2 * n + 1) (-n)
    rw [e, spec_l04Near.l0, if_pos (by omega), wrap_id (x := -(n : Int)) (by omega) (by omega), spec_near_row f N n x hf (by omega) (by omega) _ (2 * n + 1) (-n) out (by omega) (by omega) (by omega), wrap_id (x := x + 1) (by omega) (by omega), ih (x + 1) _ (by omega) (by omega) (by simp; omega)]
    simp [boxF]
theorem spec_l04Near_eq (f N : Int) (hf : f = 0 ∨ f = 1) (n : Nat) (hn : n ≤ 200) (k : Nat) (hk : 200000 ≤ k) : spec_l04Near.f k f N n = some (((box n).filter (nearP f N)).map mkSV) := by
  unfold spec_l04Near.f box
  have h1 : (2 * n + 1) * (2 * n + 1 + 2) ≤ 401 * 403 := Nat.mul_le_mul (by omega) (by omega)
  have h2 : (2 * n + 1) * (2 * n + 1) ≤ 401 * 401 := Nat.mul_le_mul (by omega) (by omega)
  obtain ⟨j, rfl⟩ : ∃ j, k = j + (2 * n + 1) * (2 * n + 1 + 2) + 1 := ⟨k - (2 * n + 1) * (2 * n + 1 + 2) - 1, by omega⟩
  rw [wrap_id (x := -(n : Int)) (by omega) (by omega), spec_near_box f N hf n hn j (2 * n + 1) (-n) [] (by omega) (by omega) (by simp; omega)]; simp
theorem near_mono (k j : Nat) (a b c : Int) (r : List S47) (h : spec_l04Near.f k a b c = some r) : spec_l04Near.f (k + j) a b c = some r := by
  induction j with
  | zero => exact h
  | succ j ih => exact spec_l04Near.mono a b c (k + j) r ih
theorem near_cases (k : Nat) (a0 a1 : Int) (r1 : List S47) (r2 : Int) (h : impl_NearVecs.f k a0 a1 = some (r1, r2)) :
    (impl_IsFrame.f a0 = some false ∧ r1 = [] ∧ r2 = 1) ∨ (impl_IsFrame.f a0 = some true ∧ impl_within.f a1 0 100 = some false ∧ r1 = [] ∧ r2 = 2) ∨ (impl_IsFrame.f a0 = some true ∧ impl_within.f a1 0 100 = some true ∧ r2 = 0 ∧ ∃ k2 ys, impl_vecsAround.f k2 12 = some ys ∧ ys.length < 1000000 ∧ 0 < ys.length ∧ r1 = ys.filter (fun v => !decide ((impl_norm.f a0 v.f0 v.f1).getD 0 > a1))) := by
  have eF : spec_IsFrame.f a0 = some (frameB a0) := spec_IsFrame_eq a0
  have eG : impl_IsFrame.f a0 = some (frameB a0) := impl_IsFrame_eq a0
  have eI : spec_l01In.f a1 0 100 = impl_within.f a1 0 100 := rfl
  unfold impl_NearVecs.f at h
  rw [eF, eI] at h
  rw [eG]
  simp only [Option.bind_some] at h
  cases hf : frameB a0 with
  | false =>
    rw [hf, if_neg (by decide)] at h
    simp only [Option.some.injEq, Prod.mk.injEq] at h
    exact .inl ⟨rfl, h.1.symm, h.2.symm⟩
  | true =>
    have hf' := frameB_iff.mp hf
    rw [hf, if_pos rfl] at h
    obtain ⟨b, hb⟩ : ∃ b, impl_within.f a1 0 100 = some b := by unfold impl_within.f; split <;> exact ⟨_, rfl⟩
    rw [hb] at h ⊢
    simp only [Option.bind_some] at h
    cases b with
    | false =>
      rw [if_neg (by decide)] at h
      simp only [Option.some.injEq, Prod.mk.injEq] at h
      exact .inr (.inl ⟨rfl, rfl, h.1.symm, h.2.symm⟩)
    | true =>
      rw [if_pos rfl] at h
      obtain ⟨t, ht, h⟩ := Option.bind_eq_some_iff.mp h
      simp only [Option.some.injEq, Prod.mk.injEq] at h
      obtain ⟨rfl, rfl⟩ := h
      have h2 := near_mono k 200000 a0 a1 12 t ht
      have h3 := spec_l04Near_eq a0 a1 hf' 12 (by omega) (k + 200000) (by omega)
      rw [show ((12 : Nat) : Int) = 12 from rfl, h2] at h3
      injection h3 with h3
      have hl : (box 12).length = 625 := by kernel_rfl
      have hs : ∀ v ∈ box 12, (-12 ≤ v.1 ∧ v.1 ≤ 12) ∧ (-12 ≤ v.2 ∧ v.2 ≤ 12) := fun v hv => by
        unfold box at hv
        have := (mem_boxF _ _ _ _ v).mp hv
        omega
      refine .inr (.inr ⟨rfl, rfl, rfl, 200000, (box 12).map mkSV, impl_vecsAround_eq 12 (by omega) 200000 (by omega), by rw [List.length_map, hl]; decide, by rw [List.length_map, hl]; decide, ?_⟩)
      rw [h3, List.filter_map]
      congr 1
      refine List.filter_congr fun v hv => ?_
      have hb := hs v hv
      have en : impl_norm.f a0 v.1 v.2 = some (Nf a0 v.1 v.2) := impl_norm_eq a0 hf' (by omega) (by omega)
      show nearP a0 a1 v = !decide ((impl_norm.f a0 v.1 v.2).getD 0 > a1)
      rw [en]
      show decide (Nf a0 v.1 v.2 ≤ a1) = !decide (a1 < Nf a0 v.1 v.2)
      by_cases hc : Nf a0 v.1 v.2 ≤ a1
      · rw [decide_eq_true hc, decide_eq_false (by omega)]; rfl
      · rw [decide_eq_false hc, decide_eq_true (by omega)]; rfl

end NV
theorem R_shape {α : Type} {d : Kd α} {e : Nat} {w : World} {base : Nat} {ok : Nat → Prop} {v : Value} {xs : List α} (h : d.R e w base ok v xs) (hp : 0 < xs.length) : ∃ g cap, v = .slice (some ⟨g, 0, none⟩) xs.length cap ∧ base ≤ g := by
  obtain ⟨h0, inner, ⟨h1, h2⟩, hr⟩ := h
  rcases h2 with ⟨he, hz⟩ | ⟨g, cap, cur, he, hb, _⟩
  · omega
  · exact ⟨g, cap, he, hb⟩
set_option maxHeartbeats 8000000 in
set_option maxRecDepth 100000 in
theorem impl_NearVecs.calls (k : Nat) (a0 : Int) (a1 : Int) (r1 : List (S47)) (r2 : Int) (w : World) (h : impl_NearVecs.f k a0 a1 = some (r1, r2)) :
    Calls Try.prog 11 #[.int .i64 a0, .int .i64 a1] w fun e w' => ∃ v0_ : Value, e = .returned (.tuple #[v0_, .int .i64 r2]) ∧ Kd.R k47 47 w' w.heap.size (fun _ => True) v0_ r1 ∧ Below w.heap.size w w' := by
  have hmf : ∀ (fn : Fn) (first cap : Array Value) (w : World), (Instr.makeFunc fn first cap).run Try.prog w = .ok (.func fn first cap) w := fun _ _ _ _ => rfl
  rcases NV.near_cases k a0 a1 r1 r2 h with ⟨hf, rfl, rfl⟩ | ⟨hf, hw, rfl, rfl⟩ | ⟨hf, hw, rfl, k2, ys, hv, hl, hpos, rfl⟩
  · clear h
    go_enter Try.func11, Try.ntmps11
    go_wp2_with (first | ((with_reducible refine gate_dst (N := 2) rfl ?_); refine box_event ?hg (N := 2) ?hd (cs := #[.int .i64 a0]) (t := 2) ?hr ?_; (case hd => rfl); (case hg => rfl); (case hr => first | (go_simp; done) | (go_simp; rfl)); intro g0 hg_ w3 hx0_ hb3_; have hx0 := Aside0.mk hx0_; have hb3 := Aside0.mk hb3_; have Gg0 := Aside0.mk hg_; clear hg_ hx0_ hb3_) | ((with_reducible refine gate_dst (N := 3) rfl ?_); refine box_event ?hg (N := 3) ?hd (cs := #[.int .i64 a1]) (t := 2) ?hr ?_; (case hd => rfl); (case hg => rfl); (case hr => first | (go_simp; done) | (go_simp; rfl)); intro g1 hg_ w4 hx1_ hb4_; have hx1 := Aside0.mk hx1_; have hb4 := Aside0.mk hb4_; have Gg1 := Aside0.mk hg_; clear hg_ hx1_ hb4_; have hx04 := Aside0.mk (blk_below hx0.out hb4.out); have HB4 := Aside0.mk (below_step hb3.out hb4.out); have z0 : w4.cell? ⟨g0, 0, none⟩ = some (.int .i64 a0) := (blk_cell hx04.out 0).trans rfl) | (go_at_call 62; refine (impl_IsFrame.calls a0 false _ hf).mono ?_; rintro e w5 ⟨rfl, hd5⟩; have B5 := Aside0.mk hd5.below; clear hd5; have hx05 := Aside0.mk (blk_below hx04.out B5.out); have hx15 := Aside0.mk (blk_below hx1.out B5.out); have HB5 := Aside0.mk (below_step HB4.out B5.out); have z1 : w5.cell? ⟨g1, 0, none⟩ = some (.int .i64 a1) := (blk_cell hx15.out 0).trans rfl))
    go_ret2
    exact ⟨_, rfl, Kd.R_nil _ _ _ _ _, HB5.out⟩
  · clear h
    go_enter Try.func11, Try.ntmps11
    go_wp2_with (first | ((with_reducible refine gate_dst (N := 2) rfl ?_); refine box_event ?hg (N := 2) ?hd (cs := #[.int .i64 a0]) (t := 2) ?hr ?_; (case hd => rfl); (case hg => rfl); (case hr => first | (go_simp; done) | (go_simp; rfl)); intro g0 hg_ w3 hx0_ hb3_; have hx0 := Aside0.mk hx0_; have hb3 := Aside0.mk hb3_; have Gg0 := Aside0.mk hg_; clear hg_ hx0_ hb3_) | ((with_reducible refine gate_dst (N := 3) rfl ?_); refine box_event ?hg (N := 3) ?hd (cs := #[.int .i64 a1]) (t := 2) ?hr ?_; (case hd => rfl); (case hg => rfl); (case hr => first | (go_simp; done) | (go_simp; rfl)); intro g1 hg_ w4 hx1_ hb4_; have hx1 := Aside0.mk hx1_; have hb4 := Aside0.mk hb4_; have Gg1 := Aside0.mk hg_; clear hg_ hx1_ hb4_; have hx04 := Aside0.mk (blk_below hx0.out hb4.out); have HB4 := Aside0.mk (below_step hb3.out hb4.out); have z0 : w4.cell? ⟨g0, 0, none⟩ = some (.int .i64 a0) := (blk_cell hx04.out 0).trans rfl) | (go_at_call 62; refine (impl_IsFrame.calls a0 true _ hf).mono ?_; rintro e w5 ⟨rfl, hd5⟩; have B5 := Aside0.mk hd5.below; clear hd5; have hx05 := Aside0.mk (blk_below hx04.out B5.out); have hx15 := Aside0.mk (blk_below hx1.out B5.out); have HB5 := Aside0.mk (below_step HB4.out B5.out); have z1 : w5.cell? ⟨g1, 0, none⟩ = some (.int .i64 a1) := (blk_cell hx15.out 0).trans rfl) | (go_at_call 72; refine (impl_within.calls a1 0 100 false _ hw).mono ?_; rintro e w6 ⟨rfl, hd6⟩; have B6 := Aside0.mk hd6.below; clear hd6; have hx06 := Aside0.mk (blk_below hx05.out B6.out); have hx16 := Aside0.mk (blk_below hx15.out B6.out); have HB6 := Aside0.mk (below_step HB5.out B6.out)))
    go_ret2
    exact ⟨_, rfl, Kd.R_nil _ _ _ _ _, HB6.out⟩
  · clear h
    go_enter Try.func11, Try.ntmps11
    go_wp2_with (first | ((with_reducible refine gate_dst (N := 2) rfl ?_); refine box_event ?hg (N := 2) ?hd (cs := #[.int .i64 a0]) (t := 2) ?hr ?_; (case hd => rfl); (case hg => rfl); (case hr => first | (go_simp; done) | (go_simp; rfl)); intro g0 hg_ w3 hx0_ hb3_; have hx0 := Aside0.mk hx0_; have hb3 := Aside0.mk hb3_; have Gg0 := Aside0.mk hg_; clear hg_ hx0_ hb3_) | ((with_reducible refine gate_dst (N := 3) rfl ?_); refine box_event ?hg (N := 3) ?hd (cs := #[.int .i64 a1]) (t := 2) ?hr ?_; (case hd => rfl); (case hg => rfl); (case hr => first | (go_simp; done) | (go_simp; rfl)); intro g1 hg_ w4 hx1_ hb4_; have hx1 := Aside0.mk hx1_; have hb4 := Aside0.mk hb4_; have Gg1 := Aside0.mk hg_; clear hg_ hx1_ hb4_; have hx04 := Aside0.mk (blk_below hx0.out hb4.out); have HB4 := Aside0.mk (below_step hb3.out hb4.out); have z0 : w4.cell? ⟨g0, 0, none⟩ = some (.int .i64 a0) := (blk_cell hx04.out 0).trans rfl) | (go_at_call 62; refine (impl_IsFrame.calls a0 true _ hf).mono ?_; rintro e w5 ⟨rfl, hd5⟩; have B5 := Aside0.mk hd5.below; clear hd5; have hx05 := Aside0.mk (blk_below hx04.out B5.out); have hx15 := Aside0.mk (blk_below hx1.out B5.out); have HB5 := Aside0.mk (below_step HB4.out B5.out); have z1 : w5.cell? ⟨g1, 0, none⟩ = some (.int .i64 a1) := (blk_cell hx15.out 0).trans rfl) | (go_at_call 72; refine (impl_within.calls a1 0 100 true _ hw).mono ?_; rintro e w6 ⟨rfl, hd6⟩; have B6 := Aside0.mk hd6.below; clear hd6; have hx06 := Aside0.mk (blk_below hx05.out B6.out); have hx16 := Aside0.mk (blk_below hx15.out B6.out); have HB6 := Aside0.mk (below_step HB5.out B6.out)) | (go_at_call 74; refine (impl_vecsAround.calls k2 12 ys _ hv).mono ?_; rintro e w7 ⟨v7, rfl, hR7_, B7_⟩; have hR7 := Aside0.mk hR7_; have B7 := Aside0.mk B7_; clear hR7_ B7_))
    obtain ⟨g, cap, rfl, hgb⟩ := R_shape hR7.out hpos
    have hx07 := blk_below hx06.out B7.out
    have hx17 := blk_below hx16.out B7.out
    have n0 : g0 ≠ g := by have := blk_lt hx06.out; omega
    have n1 : g1 ≠ g := by have := blk_lt hx16.out; omega
    have HD := del73 (fun v => decide ((impl_norm.f a0 v.f0 v.f1).getD 0 > a1)) #[.pointer (some ⟨g0, 0, none⟩), .pointer (some ⟨g1, 0, none⟩)] g ys.length cap w6.heap.size ys w7 (fun W x hW => by
      have q0 := blk_grown hx07 hW (by intro he; injection he with he; exact n0 he)
      have q1 := blk_grown hx17 hW (by intro he; injection he with he; exact n1 he)
      exact near_cl a0 a1 x.f0 x.f1 ((impl_norm.f a0 x.f0 x.f1).getD 0) g0 g1 W (blk_lt q0) (blk_lt q1) ((blk_cell q0 0).trans rfl) ((blk_cell q1 0).trans rfl) rfl) hR7.out hl
    refine HD.mono ?_
    rintro e w8 ⟨v8, rfl, hR8, hg8⟩
    have B8 : Below w6.heap.size w6 w8 := ⟨hg8.os.trans B7.out.os, hg8.tape.trans B7.out.tape, hg8.output.trans B7.out.output, Nat.le_trans B7.out.size hg8.size, fun i hi => (hg8.block i (Nat.lt_of_lt_of_le hi B7.out.size) (by intro he; injection he with he; omega)).trans (B7.out.block i hi)⟩
    have hR8 := Aside0.mk hR8
    have B8 := Aside0.mk (below_step HB6.out B8)
    clear hg8 HD hx07 hx17
    go_wp2
    go_ret2
    exact ⟨_, rfl, Kd.R_lower hR8.out HB6.out.size, B8.out⟩

end Go.Proofs.Ytcjchihnopmplaa.F

import Derived.Test.YtcjchihnopmplaaB0
import Derived.Test.YtcjchihnopmplaaB1
import Derived.Test.YtcjchihnopmplaaB5
namespace Go.Proofs.Ytcjchihnopmplaa.F
open Go.RowKit Go.Proofs.YtcjchihnopmplaaW.PrintWords Go.Proofs.YtcjchihnopmplaaW.PrintLast Go.Proofs.YtcjchihnopmplaaW.PrintMore
attribute [local go_sem] max2_int min2_int max_two min_two max_three min_three max_four min_four   -- for this text's walks alone
set_option linter.unusedVariables false
set_option linter.unusedSimpArgs false

/-! ### impl_pointMats: function 114 -/
def impl_pointMats.l0 : Nat → Int → List (S51) → Int → Option ((List (S51)))
  | 0, _, _, _ => none
  | k + 1, x0, x3, x10 => if x10 < 81 then ((impl_Mat_apply.f (wrap64 ((wrap64 (Int.tdiv x10 27)) - 1)) (wrap64 ((Int.tmod (wrap64 (Int.tdiv x10 9)) 3) - 1)) (wrap64 ((Int.tmod (wrap64 (Int.tdiv x10 3)) 3) - 1)) (wrap64 ((Int.tmod x10 3) - 1)) 1 0).bind fun bt208 => ((impl_Mat_apply.f (wrap64 ((wrap64 (Int.tdiv x10 27)) - 1)) (wrap64 ((Int.tmod (wrap64 (Int.tdiv x10 9)) 3) - 1)) (wrap64 ((Int.tmod (wrap64 (Int.tdiv x10 3)) 3) - 1)) (wrap64 ((Int.tmod x10 3) - 1)) 0 1).bind fun bt210 => ((impl_Mat_apply.f (wrap64 ((wrap64 (Int.tdiv x10 27)) - 1)) (wrap64 ((Int.tmod (wrap64 (Int.tdiv x10 9)) 3) - 1)) (wrap64 ((Int.tmod (wrap64 (Int.tdiv x10 3)) 3) - 1)) (wrap64 ((Int.tmod x10 3) - 1)) 1 1).bind fun bt212 => ((impl_norm.f x0 bt208.1 bt208.2).bind fun t217 => (if t217 = 1 then ((impl_norm.f x0 bt210.1 bt210.2).bind fun t218 => (if t218 = 1 then ((impl_norm.f x0 bt212.1 bt212.2).bind fun t219 => (if t219 = (wrap64 (2 + x0)) then (if x3.length < 4398046511104 then (impl_pointMats.l0 k x0 (x3 ++ [(⟨wrap64 ((wrap64 (Int.tdiv x10 27)) - 1), wrap64 ((Int.tmod (wrap64 (Int.tdiv x10 9)) 3) - 1), wrap64 ((Int.tmod (wrap64 (Int.tdiv x10 3)) 3) - 1), wrap64 ((Int.tmod x10 3) - 1)⟩ : S51)]) (wrap64 (x10 + 1))) else (none)) else (impl_pointMats.l0 k x0 x3 (wrap64 (x10 + 1))))) else (impl_pointMats.l0 k x0 x3 (wrap64 (x10 + 1))))) else (impl_pointMats.l0 k x0 x3 (wrap64 (x10 + 1)))))))) else (some x3)
def impl_pointMats.f (k : Nat) (a0 : Int) : Option ((List (S51))) := impl_pointMats.l0 k a0 (([] : List (S51))) 0
theorem impl_pointMats.mono_l : ∀ k, (∀ y0 y1 y2, LeO (impl_pointMats.l0 k y0 y1 y2) (impl_pointMats.l0 (k + 1) y0 y1 y2))
  | 0 => fun _ _ _ r h => by simp [impl_pointMats.l0] at h
  | k + 1 => by
    have ih0 := impl_pointMats.mono_l k
    · intro y0 y1 y2
      unfold impl_pointMats.l0
      repeat' first
      | (with_reducible exact ih0 _ _ _)
      | (with_reducible exact LeO.refl _)
      | (with_reducible exact LeO.none _)
      | (with_reducible refine LeO.ite ?_ ?_)
      | (with_reducible refine LeO.bind ?_ (fun _ => ?_))
      | exact ih0 _ _ _
      | exact LeO.none _
      | refine LeO.ite ?_ ?_
      | refine LeO.bind ?_ (fun _ => ?_)
theorem impl_pointMats.mono : ∀ a0 k, LeO (impl_pointMats.f k a0) (impl_pointMats.f (k + 1) a0) := by
  intro a0 k
  have ih0 := impl_pointMats.mono_l k
  unfold impl_pointMats.f
  repeat' first
      | (with_reducible exact ih0 _ _ _)
      | (with_reducible exact LeO.refl _)
      | (with_reducible exact LeO.none _)
      | (with_reducible refine LeO.ite ?_ ?_)
      | (with_reducible refine LeO.bind ?_ (fun _ => ?_))
      | exact ih0 _ _ _
      | exact LeO.none _
      | refine LeO.ite ?_ ?_
      | refine LeO.bind ?_ (fun _ => ?_)
def impl_pointMats.T6 : Bool × List (List Nat × List Nat) := (true, [([], []), ([], []), ([0, 1], [0, 1]), ([], []), ([], []), ([3, 4, 2], [3, 4]), ([], []), ([], []), ([6, 7, 5], [6, 7]), ([], []), ([], []), ([], []), ([9, 2, 8, 0, 1, 2, 9, 10, 11], [2, 9]), ([10, 5, 12, 0, 1, 2, 3, 4, 5, 9, 10, 11, 12], [5, 10]), ([11, 8, 13, 0, 1, 2, 3, 4, 5, 6, 7, 8, 9, 10, 11, 12, 13], [8, 11])])
def impl_pointMats.B6 : List Nat := [0, 0, 3, 0, 0, 31, 0, 0, 255, 0, 0, 0, 4095, 8191, 16383]
theorem impl_pointMats.tab6 : rtab .any (opsOf Try.f114 6) = impl_pointMats.T6 := by kernel_rfl
theorem impl_pointMats.bits6 : waitsOk impl_pointMats.T6.2 impl_pointMats.B6 = true := by kernel_rfl
set_option maxHeartbeats 8000000 in
set_option maxRecDepth 100000 in
theorem impl_pointMats.calls (k : Nat) (a0 : Int) (r : List (S51)) (w : World) (h : impl_pointMats.f k a0 = some r) :
    Calls Try.prog 114 #[.int .i64 a0] w fun e w' => ∃ v0_ : Value, e = .returned (v0_) ∧ Kd.R k51 51 w' w.heap.size (fun _ => True) v0_ r ∧ Below w.heap.size w w' := by
  have hu51 := Try.underlying51
  have hu47 := Try.underlying47
  have HB := Aside0.mk (Below.refl w.heap.size w)
  have H : (impl_pointMats.l0 k a0 (([] : List (S51))) 0) = some r := h
  clear h
  obtain ⟨y204, hy204⟩ : ∃ y_ : List (S51), y_ = (([] : List (S51))) := ⟨_, rfl⟩
  replace H : (impl_pointMats.l0 k a0 y204 0) = some r := by first | (rw [hy204]; with_reducible exact H) | (have H2_ := (Option.bind_some _ _).symm.trans H; rw [hy204]; with_reducible exact H2_) | (have H2_ := (Option.bind_some _ _).symm.trans H; with_reducible exact H2_) | with_reducible exact H | (rw [hy204]; exact H) | exact H
  have Ny204 := Aside0.mk hy204
  clear hy204
  have H' := Aside0.mk H
  clear H
  go_enter Try.func114, Try.ntmps114
  go_wp2_with (first | ((with_reducible refine gate_dst (N := 9) rfl ?_); refine Kd.R_lit k51 _ 51 ?hg (N := 9) ?hd (xs := ([] : List (S51))) (inner := []) (ok := fun _ => True) (okp := fun _ => True) ?hr ?hp (fun _ hk => hk) trivial (Below.refl _ _) (Nat.le_refl _) (by simp) ?_; (case hd => rfl); (case hg => rfl); (case hr => first | (go_simp; done) | (go_simp; rfl)); (case hp => exact (Reps.none _ _)); intro v205 w2 ho3 hb hg_ hnew_; clear hg_ hnew_; (first | rw [← Ny204.out] at ho3 | (simp only [Int.reduceToNat] at ho3; rw [← Ny204.out] at ho3)); have n0_ := Aside0.mk (Kd.R_lower ho3 (below_size (by repeat (first | (with_reducible first | exact HB.out | apply below_alloc | apply pw_below_drewN | apply below_drew1) | exact HB.out)))); have n1_ := Aside0.mk (below_step (by repeat (first | (with_reducible first | exact HB.out | apply below_alloc | apply pw_below_drewN | apply below_drew1) | exact HB.out)) hb); clear HB; have HO206 := n0_; have HB := n1_; clear n0_ n1_; clear hb ho3))
  go_loopg [3, 10] k (fun kq v3 v10 w' => ∃ (x3_1 : List (S51)) (x10_1 : Int), v10 = .int .i64 x10_1 ∧ Aside0 (impl_pointMats.l0 kq a0 x3_1 x10_1 = some r) ∧ Aside0 (kq ≤ k) ∧ Aside0 (Kd.R k51 51 w' w.heap.size (fun _ => True) v3 x3_1) ∧ Aside0 (Below w.heap.size w w'))
  case atStart => exact ⟨(y204), (0), (by first | rfl | (simp; done) | (simp [*]; done)), H', ⟨Nat.le_refl _⟩, ⟨by (with_reducible repeat (first | apply Kd.R_alloc | apply Kd.R_drewN | apply Kd.R_drew)); exact HO206.out⟩, ⟨by repeat (first | (with_reducible first | exact HB.out | apply below_alloc | apply pw_below_drewN | apply below_drew1) | exact HB.out)⟩⟩
  case round =>
    clear H'
    try clear c1
    try clear p2
    obtain ⟨x3_1, x10_1, rfl, HA, HK1, HO_3, HB⟩ := hrel
    cases gk with
    | zero => exact absurd HA.out (by simp [impl_pointMats.l0])
    | succ k1 =>
      have H := HA.out
      clear HA
      simp only [impl_pointMats.l0] at H
      by_cases c4 : x10_1 < 81
      · rw [if_pos c4] at H
        have c4b0 : decide (x10_1 < 81) = true := decide_eq_true c4
        clear c4
        replace H := Option.bind_eq_some_iff.mp H
        obtain ⟨⟨t208, t209⟩, A50, H⟩ := H
        replace H : ((impl_Mat_apply.f (wrap64 ((wrap64 (Int.tdiv x10_1 27)) - 1)) (wrap64 ((Int.tmod (wrap64 (Int.tdiv x10_1 9)) 3) - 1)) (wrap64 ((Int.tmod (wrap64 (Int.tdiv x10_1 3)) 3) - 1)) (wrap64 ((Int.tmod x10_1 3) - 1)) 0 1).bind fun bt210 => ((impl_Mat_apply.f (wrap64 ((wrap64 (Int.tdiv x10_1 27)) - 1)) (wrap64 ((Int.tmod (wrap64 (Int.tdiv x10_1 9)) 3) - 1)) (wrap64 ((Int.tmod (wrap64 (Int.tdiv x10_1 3)) 3) - 1)) (wrap64 ((Int.tmod x10_1 3) - 1)) 1 1).bind fun bt212 => ((impl_norm.f a0 t208 t209).bind fun t217 => (if t217 = 1 then ((impl_norm.f a0 bt210.1 bt210.2).bind fun t218 => (if t218 = 1 then ((impl_norm.f a0 bt212.1 bt212.2).bind fun t219 => (if t219 = (wrap64 (2 + a0)) then (if x3_1.length < 4398046511104 then (impl_pointMats.l0 k1 a0 (x3_1 ++ [(⟨wrap64 ((wrap64 (Int.tdiv x10_1 27)) - 1), wrap64 ((Int.tmod (wrap64 (Int.tdiv x10_1 9)) 3) - 1), wrap64 ((Int.tmod (wrap64 (Int.tdiv x10_1 3)) 3) - 1), wrap64 ((Int.tmod x10_1 3) - 1)⟩ : S51)]) (wrap64 (x10_1 + 1))) else (none)) else (impl_pointMats.l0 k1 a0 x3_1 (wrap64 (x10_1 + 1))))) else (impl_pointMats.l0 k1 a0 x3_1 (wrap64 (x10_1 + 1))))) else (impl_pointMats.l0 k1 a0 x3_1 (wrap64 (x10_1 + 1))))))) = some r := H
        have A5 := Aside0.mk A50
        clear A50
        replace H := Option.bind_eq_some_iff.mp H
        obtain ⟨⟨t210, t211⟩, A60, H⟩ := H
        replace H : ((impl_Mat_apply.f (wrap64 ((wrap64 (Int.tdiv x10_1 27)) - 1)) (wrap64 ((Int.tmod (wrap64 (Int.tdiv x10_1 9)) 3) - 1)) (wrap64 ((Int.tmod (wrap64 (Int.tdiv x10_1 3)) 3) - 1)) (wrap64 ((Int.tmod x10_1 3) - 1)) 1 1).bind fun bt212 => ((impl_norm.f a0 t208 t209).bind fun t217 => (if t217 = 1 then ((impl_norm.f a0 t210 t211).bind fun t218 => (if t218 = 1 then ((impl_norm.f a0 bt212.1 bt212.2).bind fun t219 => (if t219 = (wrap64 (2 + a0)) then (if x3_1.length < 4398046511104 then (impl_pointMats.l0 k1 a0 (x3_1 ++ [(⟨wrap64 ((wrap64 (Int.tdiv x10_1 27)) - 1), wrap64 ((Int.tmod (wrap64 (Int.tdiv x10_1 9)) 3) - 1), wrap64 ((Int.tmod (wrap64 (Int.tdiv x10_1 3)) 3) - 1), wrap64 ((Int.tmod x10_1 3) - 1)⟩ : S51)]) (wrap64 (x10_1 + 1))) else (none)) else (impl_pointMats.l0 k1 a0 x3_1 (wrap64 (x10_1 + 1))))) else (impl_pointMats.l0 k1 a0 x3_1 (wrap64 (x10_1 + 1))))) else (impl_pointMats.l0 k1 a0 x3_1 (wrap64 (x10_1 + 1)))))) = some r := H
        have A6 := Aside0.mk A60
        clear A60
        replace H := Option.bind_eq_some_iff.mp H
        obtain ⟨⟨t212, t213⟩, A70, H⟩ := H
        replace H : ((impl_norm.f a0 t208 t209).bind fun t217 => (if t217 = 1 then ((impl_norm.f a0 t210 t211).bind fun t218 => (if t218 = 1 then ((impl_norm.f a0 t212 t213).bind fun t219 => (if t219 = (wrap64 (2 + a0)) then (if x3_1.length < 4398046511104 then (impl_pointMats.l0 k1 a0 (x3_1 ++ [(⟨wrap64 ((wrap64 (Int.tdiv x10_1 27)) - 1), wrap64 ((Int.tmod (wrap64 (Int.tdiv x10_1 9)) 3) - 1), wrap64 ((Int.tmod (wrap64 (Int.tdiv x10_1 3)) 3) - 1), wrap64 ((Int.tmod x10_1 3) - 1)⟩ : S51)]) (wrap64 (x10_1 + 1))) else (none)) else (impl_pointMats.l0 k1 a0 x3_1 (wrap64 (x10_1 + 1))))) else (impl_pointMats.l0 k1 a0 x3_1 (wrap64 (x10_1 + 1))))) else (impl_pointMats.l0 k1 a0 x3_1 (wrap64 (x10_1 + 1))))) = some r := H
        have A7 := Aside0.mk A70
        clear A70
        replace H := Option.bind_eq_some_iff.mp H
        obtain ⟨t217, A80, H⟩ := H
        replace H : (if t217 = 1 then ((impl_norm.f a0 t210 t211).bind fun t218 => (if t218 = 1 then ((impl_norm.f a0 t212 t213).bind fun t219 => (if t219 = (wrap64 (2 + a0)) then (if x3_1.length < 4398046511104 then (impl_pointMats.l0 k1 a0 (x3_1 ++ [(⟨wrap64 ((wrap64 (Int.tdiv x10_1 27)) - 1), wrap64 ((Int.tmod (wrap64 (Int.tdiv x10_1 9)) 3) - 1), wrap64 ((Int.tmod (wrap64 (Int.tdiv x10_1 3)) 3) - 1), wrap64 ((Int.tmod x10_1 3) - 1)⟩ : S51)]) (wrap64 (x10_1 + 1))) else (none)) else (impl_pointMats.l0 k1 a0 x3_1 (wrap64 (x10_1 + 1))))) else (impl_pointMats.l0 k1 a0 x3_1 (wrap64 (x10_1 + 1))))) else (impl_pointMats.l0 k1 a0 x3_1 (wrap64 (x10_1 + 1)))) = some r := H
        have A8 := Aside0.mk A80
        clear A80
        have HH := Aside0.mk H
        clear H
        try go_wp2_with (first | ((with_reducible refine gate_dst (N := 5) rfl ?_); refine box_event ?hg (N := 5) ?hd (cs := #[.int .i64 0, .int .i64 0, .int .i64 0, .int .i64 0]) (t := 51) ?hr ?_; (case hd => rfl); (case hg => rfl); (case hr => first | (go_simp; done) | (go_simp; rfl)); intro gb207 hg w101 hbox hb; have n0_ := Aside0.mk (Kd.R_below (Kd.R_elderB (by (with_reducible repeat (first | apply Kd.R_alloc | apply Kd.R_drewN | apply Kd.R_drew)); exact HO_3.out) gb207 (Nat.le_of_eq hg.symm)) hb); have n1_ := Aside0.mk (below_step (by repeat (first | (with_reducible first | exact HB.out | apply below_alloc | apply pw_below_drewN | apply below_drew1) | exact HB.out)) hb); have n2_ := Aside0.mk (hbox); have n3_ := Aside0.mk ((by rw [hg]; exact (below_size (by repeat (first | (with_reducible first | exact HB.out | apply below_alloc | apply pw_below_drewN | apply below_drew1) | exact HB.out))) : w.heap.size ≤ gb207)); have n4_ := Aside0.mk ((by rw [hg]; exact (below_size (by repeat (first | (with_reducible first | exact HB.out | apply below_alloc | apply pw_below_drewN | apply below_drew1) | exact HB.out))) : w.heap.size ≤ gb207)); clear HO_3; clear HB; have HO_3 := n0_; have HB := n1_; have BK207 := n2_; have GW207 := n3_; have GE207 := n4_; clear n0_ n1_ n2_ n3_ n4_; clear hb hbox hg; have hcz102_0 : w101.cell? ⟨gb207, 0, none⟩ = some (.int .i64 0) := (blk_cell BK207.out 0).trans rfl; have hcz102_1 : w101.cell? ⟨gb207, 1, none⟩ = some (.int .i64 0) := (blk_cell BK207.out 1).trans rfl; have hcz102_2 : w101.cell? ⟨gb207, 2, none⟩ = some (.int .i64 0) := (blk_cell BK207.out 2).trans rfl; have hcz102_3 : w101.cell? ⟨gb207, 3, none⟩ = some (.int .i64 0) := (blk_cell BK207.out 3).trans rfl; have hfz102_0 := blk_frozen BK207.out 0; have hfz102_1 := blk_frozen BK207.out 1; have hfz102_2 := blk_frozen BK207.out 2; have hfz102_3 := blk_frozen BK207.out 3))
        have n0_ : Aside0 (Kd.R k51 51 ((((w101.setCell ⟨gb207, 0, none⟩ (.int .i64 (wrap64 ((wrap64 (Int.tdiv x10_1 27)) - 1)))).setCell ⟨gb207, 1, none⟩ (.int .i64 (wrap64 ((Int.tmod (wrap64 (Int.tdiv x10_1 9)) 3) - 1)))).setCell ⟨gb207, 2, none⟩ (.int .i64 (wrap64 ((Int.tmod (wrap64 (Int.tdiv x10_1 3)) 3) - 1)))).setCell ⟨gb207, 3, none⟩ (.int .i64 (wrap64 ((Int.tmod x10_1 3) - 1)))) w.heap.size (fun k_ => k_ ≠ gb207) u3 x3_1) := ⟨by (with_reducible repeat (first | apply Kd.R_alloc | apply Kd.R_drewN | apply Kd.R_drew)); exact Kd.R_mono (Kd.R_far (p := ⟨gb207, 3, none⟩) (Kd.R_far (p := ⟨gb207, 2, none⟩) (Kd.R_far (p := ⟨gb207, 1, none⟩) (Kd.R_far (p := ⟨gb207, 0, none⟩) (Kd.R_mono HO_3.out (fun k_ hk => (⟨hk, hk.2⟩ : _ ∧ k_ ≠ gb207))) (fun _ hk => hk.2) (.int .i64 (wrap64 ((wrap64 (Int.tdiv x10_1 27)) - 1)))) (fun _ hk => hk.2) (.int .i64 (wrap64 ((Int.tmod (wrap64 (Int.tdiv x10_1 9)) 3) - 1)))) (fun _ hk => hk.2) (.int .i64 (wrap64 ((Int.tmod (wrap64 (Int.tdiv x10_1 3)) 3) - 1)))) (fun _ hk => hk.2) (.int .i64 (wrap64 ((Int.tmod x10_1 3) - 1)))) (fun _ hk => hk.1.2)⟩
        have n1_ : Aside0 (((((w101.setCell ⟨gb207, 0, none⟩ (.int .i64 (wrap64 ((wrap64 (Int.tdiv x10_1 27)) - 1)))).setCell ⟨gb207, 1, none⟩ (.int .i64 (wrap64 ((Int.tmod (wrap64 (Int.tdiv x10_1 9)) 3) - 1)))).setCell ⟨gb207, 2, none⟩ (.int .i64 (wrap64 ((Int.tmod (wrap64 (Int.tdiv x10_1 3)) 3) - 1)))).setCell ⟨gb207, 3, none⟩ (.int .i64 (wrap64 ((Int.tmod x10_1 3) - 1)))).heap[gb207]? = some (.cells #[.int .i64 (wrap64 ((wrap64 (Int.tdiv x10_1 27)) - 1)), .int .i64 (wrap64 ((Int.tmod (wrap64 (Int.tdiv x10_1 9)) 3) - 1)), .int .i64 (wrap64 ((Int.tmod (wrap64 (Int.tdiv x10_1 3)) 3) - 1)), .int .i64 (wrap64 ((Int.tmod x10_1 3) - 1))] 51 (0, 0))) := ⟨by (with_reducible repeat (first | refine blk_drewN ?_ _ | refine blk_drew ?_ | refine blk_alloc ?_ _)); refine blk_put (cs := #[.int .i64 (wrap64 ((wrap64 (Int.tdiv x10_1 27)) - 1)), .int .i64 (wrap64 ((Int.tmod (wrap64 (Int.tdiv x10_1 9)) 3) - 1)), .int .i64 (wrap64 ((Int.tmod (wrap64 (Int.tdiv x10_1 3)) 3) - 1)), .int .i64 0]) ?_ 3 _ rfl; (with_reducible repeat (first | refine blk_drewN ?_ _ | refine blk_drew ?_ | refine blk_alloc ?_ _)); refine blk_put (cs := #[.int .i64 (wrap64 ((wrap64 (Int.tdiv x10_1 27)) - 1)), .int .i64 (wrap64 ((Int.tmod (wrap64 (Int.tdiv x10_1 9)) 3) - 1)), .int .i64 0, .int .i64 0]) ?_ 2 _ rfl; (with_reducible repeat (first | refine blk_drewN ?_ _ | refine blk_drew ?_ | refine blk_alloc ?_ _)); refine blk_put (cs := #[.int .i64 (wrap64 ((wrap64 (Int.tdiv x10_1 27)) - 1)), .int .i64 0, .int .i64 0, .int .i64 0]) ?_ 1 _ rfl; (with_reducible repeat (first | refine blk_drewN ?_ _ | refine blk_drew ?_ | refine blk_alloc ?_ _)); refine blk_put (cs := #[.int .i64 0, .int .i64 0, .int .i64 0, .int .i64 0]) ?_ 0 _ rfl; (with_reducible repeat (first | refine blk_drewN ?_ _ | refine blk_drew ?_ | refine blk_alloc ?_ _)); exact BK207.out⟩
        have n2_ : Aside0 (Below w.heap.size w ((((w101.setCell ⟨gb207, 0, none⟩ (.int .i64 (wrap64 ((wrap64 (Int.tdiv x10_1 27)) - 1)))).setCell ⟨gb207, 1, none⟩ (.int .i64 (wrap64 ((Int.tmod (wrap64 (Int.tdiv x10_1 9)) 3) - 1)))).setCell ⟨gb207, 2, none⟩ (.int .i64 (wrap64 ((Int.tmod (wrap64 (Int.tdiv x10_1 3)) 3) - 1)))).setCell ⟨gb207, 3, none⟩ (.int .i64 (wrap64 ((Int.tmod x10_1 3) - 1))))) := ⟨by repeat (first | (with_reducible first | exact HB.out | apply below_alloc | apply pw_below_drewN | apply below_drew1 | refine below_set ?_ GE207.out) | exact HB.out)⟩
        (try clear HO_3)
        (try clear BK207)
        (try clear HB)
        generalize ((((w101.setCell ⟨gb207, 0, none⟩ (.int .i64 (wrap64 ((wrap64 (Int.tdiv x10_1 27)) - 1)))).setCell ⟨gb207, 1, none⟩ (.int .i64 (wrap64 ((Int.tmod (wrap64 (Int.tdiv x10_1 9)) 3) - 1)))).setCell ⟨gb207, 2, none⟩ (.int .i64 (wrap64 ((Int.tmod (wrap64 (Int.tdiv x10_1 3)) 3) - 1)))).setCell ⟨gb207, 3, none⟩ (.int .i64 (wrap64 ((Int.tmod x10_1 3) - 1)))) = w103 at n0_ n1_ n2_ ⊢
        have HO_3 := n0_
        have BK207 := n1_
        have HB := n2_
        clear n0_ n1_ n2_
        have n0_ := Aside0.mk (Kd.R_drew HO_3.out)
        have n1_ := Aside0.mk (blk_drew BK207.out)
        have n2_ := Aside0.mk (below_drew1 HB.out)
        clear HO_3
        clear BK207
        clear HB
        have HO_3 := n0_
        have BK207 := n1_
        have HB := n2_
        clear n0_ n1_ n2_
        refine start_ (n := 15) (S := fun w' => True) (ds := []) #[false, false, false, false, false, false, false, false, false, false, false, false, false, false, false] (by kernel_rfl) rfl rfl trivial (fun hHeld => ?_); refine with_tabW impl_pointMats.tab6 impl_pointMats.bits6 (fun HT_ HW_ => ?_)
        generalize w103.drew = w104 at HO_3 BK207 HB hHeld ⊢
        refine inv_at [0, 1, 2, 3, 4, 5, 6, 7, 8, 9, 10, 11, 12, 13, 14] (fun a0_ b a w' => ∃ (gb214 : Nat) (gb215 : Nat) (gb216 : Nat) (m9_ : Value) (m10_ : Value) (m11_ : Value), a = putSel a0_ b [(0, 28, .agg #[.int .i64 (wrap64 ((wrap64 (Int.tdiv x10_1 27)) - 1)), .int .i64 (wrap64 ((Int.tmod (wrap64 (Int.tdiv x10_1 9)) 3) - 1)), .int .i64 (wrap64 ((Int.tmod (wrap64 (Int.tdiv x10_1 3)) 3) - 1)), .int .i64 (wrap64 ((Int.tmod x10_1 3) - 1))]), (1, 29, .agg #[.int .i64 1, .int .i64 0]), (2, 30, .agg #[.int .i64 t208, .int .i64 t209]), (3, 31, .agg #[.int .i64 (wrap64 ((wrap64 (Int.tdiv x10_1 27)) - 1)), .int .i64 (wrap64 ((Int.tmod (wrap64 (Int.tdiv x10_1 9)) 3) - 1)), .int .i64 (wrap64 ((Int.tmod (wrap64 (Int.tdiv x10_1 3)) 3) - 1)), .int .i64 (wrap64 ((Int.tmod x10_1 3) - 1))]), (4, 32, .agg #[.int .i64 0, .int .i64 1]), (5, 33, .agg #[.int .i64 t210, .int .i64 t211]), (6, 34, .agg #[.int .i64 (wrap64 ((wrap64 (Int.tdiv x10_1 27)) - 1)), .int .i64 (wrap64 ((Int.tmod (wrap64 (Int.tdiv x10_1 9)) 3) - 1)), .int .i64 (wrap64 ((Int.tmod (wrap64 (Int.tdiv x10_1 3)) 3) - 1)), .int .i64 (wrap64 ((Int.tmod x10_1 3) - 1))]), (7, 35, .agg #[.int .i64 1, .int .i64 1]), (8, 36, .agg #[.int .i64 t212, .int .i64 t213]), (9, 6, m9_), (10, 7, m10_), (11, 8, m11_)] ∧ (Kd.R k51 51 w' w.heap.size (fun k_ => k_ ≠ gb207) u3 x3_1) ∧ (w'.heap[gb207]? = some (.cells #[.int .i64 (wrap64 ((wrap64 (Int.tdiv x10_1 27)) - 1)), .int .i64 (wrap64 ((Int.tmod (wrap64 (Int.tdiv x10_1 9)) 3) - 1)), .int .i64 (wrap64 ((Int.tmod (wrap64 (Int.tdiv x10_1 3)) 3) - 1)), .int .i64 (wrap64 ((Int.tmod x10_1 3) - 1))] 51 (0, 0))) ∧ (Below w.heap.size w w') ∧ (b 9 = true → b 10 = true → gb215 ≠ gb214) ∧ (b 9 = true → b 10 = true → gb214 ≠ gb215) ∧ (b 9 = true → b 11 = true → gb216 ≠ gb214) ∧ (b 9 = true → b 11 = true → gb214 ≠ gb216) ∧ (b 10 = true → b 11 = true → gb216 ≠ gb215) ∧ (b 10 = true → b 11 = true → gb215 ≠ gb216) ∧ (b 9 = true → b 12 = false → w'.heap[gb214]? = some (.cells #[.int .i64 0, .int .i64 0] 47 (0, 0))) ∧ (b 9 = true → w.heap.size ≤ gb214) ∧ (b 9 = true → w.heap.size ≤ gb214) ∧ (b 9 = true → gb207 ≠ gb214) ∧ (b 9 = true → gb214 ≠ gb207) ∧ (b 10 = true → b 13 = false → w'.heap[gb215]? = some (.cells #[.int .i64 0, .int .i64 0] 47 (0, 0))) ∧ (b 10 = true → w.heap.size ≤ gb215) ∧ (b 10 = true → w.heap.size ≤ gb215) ∧ (b 10 = true → gb207 ≠ gb215) ∧ (b 10 = true → gb215 ≠ gb207) ∧ (b 11 = true → b 14 = false → w'.heap[gb216]? = some (.cells #[.int .i64 0, .int .i64 0] 47 (0, 0))) ∧ (b 11 = true → w.heap.size ≤ gb216) ∧ (b 11 = true → w.heap.size ≤ gb216) ∧ (b 11 = true → gb207 ≠ gb216) ∧ (b 11 = true → gb216 ≠ gb207) ∧ (b 12 = true → w'.heap[gb214]? = some (.cells #[.int .i64 t208, .int .i64 t209] 47 (0, 0))) ∧ (b 13 = true → w'.heap[gb215]? = some (.cells #[.int .i64 t210, .int .i64 t211] 47 (0, 0))) ∧ (b 14 = true → w'.heap[gb216]? = some (.cells #[.int .i64 t212, .int .i64 t213] 47 (0, 0))) ∧ (b 9 = true → (m9_ : Value) = .pointer (some ⟨gb214, 0, none⟩)) ∧ (b 10 = true → (m10_ : Value) = .pointer (some ⟨gb215, 0, none⟩)) ∧ (b 11 = true → (m11_ : Value) = .pointer (some ⟨gb216, 0, none⟩))) HT_.out HW_.out (by kernel_rfl) (by kernel_rfl) ?_ ?_ ?_
        · exact ⟨0, 0, 0, .bool false, .bool false, .bool false, by simp only [putSel, Bool.false_eq_true, if_false], HO_3.out, BK207.out, HB.out, fun h_ => absurd h_ (by decide), fun h_ => absurd h_ (by decide), fun h_ => absurd h_ (by decide), fun h_ => absurd h_ (by decide), fun h_ => absurd h_ (by decide), fun h_ => absurd h_ (by decide), fun h_ => absurd h_ (by decide), fun h_ => absurd h_ (by decide), fun h_ => absurd h_ (by decide), fun h_ => absurd h_ (by decide), fun h_ => absurd h_ (by decide), fun h_ => absurd h_ (by decide), fun h_ => absurd h_ (by decide), fun h_ => absurd h_ (by decide), fun h_ => absurd h_ (by decide), fun h_ => absurd h_ (by decide), fun h_ => absurd h_ (by decide), fun h_ => absurd h_ (by decide), fun h_ => absurd h_ (by decide), fun h_ => absurd h_ (by decide), fun h_ => absurd h_ (by decide), fun h_ => absurd h_ (by decide), fun h_ => absurd h_ (by decide), fun h_ => absurd h_ (by decide), fun h_ => absurd h_ (by decide), fun h_ => absurd h_ (by decide), fun h_ => absurd h_ (by decide)⟩
        · skip
          clear BK207 HB HO_3
          refine steps_cons ?_ ?_
          · rintro b a w' ⟨gb214, gb215, gb216, m9_, m10_, m11_, ha, Q_HO_3, Q_BK207, Q_HB, Q_NB215_214, Q_NB214_215, Q_NB216_214, Q_NB214_216, Q_NB216_215, Q_NB215_216, Q_BK214, Q_GW214, Q_GE214, Q_NB207_214, Q_NB214_207, Q_BK215, Q_GW215, Q_GE215, Q_NB207_215, Q_NB215_207, Q_BK216, Q_GW216, Q_GE216, Q_NB207_216, Q_NB216_207, Q_BK214_e12, Q_BK215_e13, Q_BK216_e14, Q_X9_, Q_X10_, Q_X11_⟩ hb_ hon hoff
            refine ⟨_, rfl, fun K hK => ?_⟩
            have e5 : a.tmps[5]? = some (.pointer (some ⟨gb207, 0, none⟩)) := by rw [ha]; exact (putSel_off rfl).trans rfl
            replace ha := Aside0.mk ha
            have HO_3 := Aside0.mk Q_HO_3
            have BK207 := Aside0.mk Q_BK207
            have HB := Aside0.mk Q_HB
            have hc0_ : w'.cell? ⟨gb207, 0, none⟩ = some (.int .i64 (wrap64 ((wrap64 (Int.tdiv x10_1 27)) - 1))) := (blk_cell BK207.out 0).trans rfl
            have hc1_ : w'.cell? ⟨gb207, 1, none⟩ = some (.int .i64 (wrap64 ((Int.tmod (wrap64 (Int.tdiv x10_1 9)) 3) - 1))) := (blk_cell BK207.out 1).trans rfl
            have hc2_ : w'.cell? ⟨gb207, 2, none⟩ = some (.int .i64 (wrap64 ((Int.tmod (wrap64 (Int.tdiv x10_1 3)) 3) - 1))) := (blk_cell BK207.out 2).trans rfl
            have hc3_ : w'.cell? ⟨gb207, 3, none⟩ = some (.int .i64 (wrap64 ((Int.tmod x10_1 3) - 1))) := (blk_cell BK207.out 3).trans rfl
            refine value_ (w1 := w') (v := .agg #[.int .i64 (wrap64 ((wrap64 (Int.tdiv x10_1 27)) - 1)), .int .i64 (wrap64 ((Int.tmod (wrap64 (Int.tdiv x10_1 9)) 3) - 1)), .int .i64 (wrap64 ((Int.tmod (wrap64 (Int.tdiv x10_1 3)) 3) - 1)), .int .i64 (wrap64 ((Int.tmod x10_1 3) - 1))]) (by rfl) rfl ?_ ?_
            · go_simp
              (try simp only [i64_w])
              try rfl
            refine hK.out _ _ ⟨gb214, gb215, gb216, m9_, m10_, m11_, (by rw [ha.out]; exact putSel_upk 0 hb_ rfl rfl rfl), Q_HO_3, Q_BK207, Q_HB, Q_NB215_214, Q_NB214_215, Q_NB216_214, Q_NB214_216, Q_NB216_215, Q_NB215_216, Q_BK214, Q_GW214, Q_GE214, Q_NB207_214, Q_NB214_207, Q_BK215, Q_GW215, Q_GE215, Q_NB207_215, Q_NB215_207, Q_BK216, Q_GW216, Q_GE216, Q_NB207_216, Q_NB216_207, fun h0_ => absurd ((hoff 12 (by kernel_rfl)).symm.trans h0_) (by decide), fun h0_ => absurd ((hoff 13 (by kernel_rfl)).symm.trans h0_) (by decide), fun h0_ => absurd ((hoff 14 (by kernel_rfl)).symm.trans h0_) (by decide), Q_X9_, Q_X10_, Q_X11_⟩
          refine steps_cons ?_ ?_
          · rintro b a w' ⟨gb214, gb215, gb216, m9_, m10_, m11_, ha, Q_HO_3, Q_BK207, Q_HB, Q_NB215_214, Q_NB214_215, Q_NB216_214, Q_NB214_216, Q_NB216_215, Q_NB215_216, Q_BK214, Q_GW214, Q_GE214, Q_NB207_214, Q_NB214_207, Q_BK215, Q_GW215, Q_GE215, Q_NB207_215, Q_NB215_207, Q_BK216, Q_GW216, Q_GE216, Q_NB207_216, Q_NB216_207, Q_BK214_e12, Q_BK215_e13, Q_BK216_e14, Q_X9_, Q_X10_, Q_X11_⟩ hb_ hon hoff
            refine ⟨_, rfl, fun K hK => ?_⟩
            replace ha := Aside0.mk ha
            have HO_3 := Aside0.mk Q_HO_3
            have BK207 := Aside0.mk Q_BK207
            have HB := Aside0.mk Q_HB
            refine value_ (w1 := w') (v := .agg #[.int .i64 1, .int .i64 0]) (by rfl) rfl ?_ ?_
            · go_simp
              (try simp only [i64_w])
              try rfl
            refine hK.out _ _ ⟨gb214, gb215, gb216, m9_, m10_, m11_, (by rw [ha.out]; exact putSel_upk 1 hb_ rfl rfl rfl), Q_HO_3, Q_BK207, Q_HB, Q_NB215_214, Q_NB214_215, Q_NB216_214, Q_NB214_216, Q_NB216_215, Q_NB215_216, Q_BK214, Q_GW214, Q_GE214, Q_NB207_214, Q_NB214_207, Q_BK215, Q_GW215, Q_GE215, Q_NB207_215, Q_NB215_207, Q_BK216, Q_GW216, Q_GE216, Q_NB207_216, Q_NB216_207, fun h0_ => absurd ((hoff 12 (by kernel_rfl)).symm.trans h0_) (by decide), fun h0_ => absurd ((hoff 13 (by kernel_rfl)).symm.trans h0_) (by decide), fun h0_ => absurd ((hoff 14 (by kernel_rfl)).symm.trans h0_) (by decide), Q_X9_, Q_X10_, Q_X11_⟩
          refine steps_cons ?_ ?_
          · rintro b a w' ⟨gb214, gb215, gb216, m9_, m10_, m11_, ha, Q_HO_3, Q_BK207, Q_HB, Q_NB215_214, Q_NB214_215, Q_NB216_214, Q_NB214_216, Q_NB216_215, Q_NB215_216, Q_BK214, Q_GW214, Q_GE214, Q_NB207_214, Q_NB214_207, Q_BK215, Q_GW215, Q_GE215, Q_NB207_215, Q_NB215_207, Q_BK216, Q_GW216, Q_GE216, Q_NB207_216, Q_NB216_207, Q_BK214_e12, Q_BK215_e13, Q_BK216_e14, Q_X9_, Q_X10_, Q_X11_⟩ hb_ hon hoff
            refine ⟨_, rfl, fun K hK => ?_⟩
            have e28 : a.tmps[28]? = some (.agg #[.int .i64 (wrap64 ((wrap64 (Int.tdiv x10_1 27)) - 1)), .int .i64 (wrap64 ((Int.tmod (wrap64 (Int.tdiv x10_1 9)) 3) - 1)), .int .i64 (wrap64 ((Int.tmod (wrap64 (Int.tdiv x10_1 3)) 3) - 1)), .int .i64 (wrap64 ((Int.tmod x10_1 3) - 1))]) := by rw [ha]; exact putSel_on (e := (0, 28, .agg #[.int .i64 (wrap64 ((wrap64 (Int.tdiv x10_1 27)) - 1)), .int .i64 (wrap64 ((Int.tmod (wrap64 (Int.tdiv x10_1 9)) 3) - 1)), .int .i64 (wrap64 ((Int.tmod (wrap64 (Int.tdiv x10_1 3)) 3) - 1)), .int .i64 (wrap64 ((Int.tmod x10_1 3) - 1))])) 0 rfl rfl (hon 0 (by kernel_rfl)) rfl
            have e29 : a.tmps[29]? = some (.agg #[.int .i64 1, .int .i64 0]) := by rw [ha]; exact putSel_on (e := (1, 29, .agg #[.int .i64 1, .int .i64 0])) 1 rfl rfl (hon 1 (by kernel_rfl)) rfl
            replace ha := Aside0.mk ha
            have HO_3 := Aside0.mk Q_HO_3
            have BK207 := Aside0.mk Q_BK207
            have HB := Aside0.mk Q_HB
            refine goes_ Try.func97 (by kernel_rfl) rfl #[.agg #[.int .i64 (wrap64 ((wrap64 (Int.tdiv x10_1 27)) - 1)), .int .i64 (wrap64 ((Int.tmod (wrap64 (Int.tdiv x10_1 9)) 3) - 1)), .int .i64 (wrap64 ((Int.tmod (wrap64 (Int.tdiv x10_1 3)) 3) - 1)), .int .i64 (wrap64 ((Int.tmod x10_1 3) - 1))], .agg #[.int .i64 1, .int .i64 0]] (by rfl) rfl rfl (by first | (simp only [List.map_toArray, List.map_cons, List.map_nil, Act.eval, Array.getD_eq_getD_getElem?, Option.getD_some, e28, e29]; done) | (simp only [List.map_toArray, List.map_cons, List.map_nil, Act.eval, Array.getD_eq_getD_getElem?, Option.getD_some, e28, e29]; rfl)) ?_
            with_reducible refine (impl_Mat_apply.calls (wrap64 ((wrap64 (Int.tdiv x10_1 27)) - 1)) (wrap64 ((Int.tmod (wrap64 (Int.tdiv x10_1 9)) 3) - 1)) (wrap64 ((Int.tmod (wrap64 (Int.tdiv x10_1 3)) 3) - 1)) (wrap64 ((Int.tmod x10_1 3) - 1)) 1 0 t208 t209 _ A5.out).mono ?_
            rintro e w105 ⟨rfl, hb⟩
            refine ⟨_, rfl, ?_⟩
            have n0_ := Aside0.mk (Kd.R_below (by (with_reducible repeat (first | apply Kd.R_alloc | apply Kd.R_drewN | apply Kd.R_drew)); exact HO_3.out) hb)
            have n1_ := Aside0.mk (blk_below (g := gb207) (o := .cells #[.int .i64 (wrap64 ((wrap64 (Int.tdiv x10_1 27)) - 1)), .int .i64 (wrap64 ((Int.tmod (wrap64 (Int.tdiv x10_1 9)) 3) - 1)), .int .i64 (wrap64 ((Int.tmod (wrap64 (Int.tdiv x10_1 3)) 3) - 1)), .int .i64 (wrap64 ((Int.tmod x10_1 3) - 1))] 51 (0, 0)) (by (with_reducible repeat (first | refine blk_drewN ?_ _ | refine blk_drew ?_ | refine blk_alloc ?_ _)); exact BK207.out) hb)
            have n2_ := Aside0.mk (below_step (by repeat (first | (with_reducible first | exact HB.out | apply below_alloc | apply pw_below_drewN | apply below_drew1 | refine below_set ?_ GE207.out) | exact HB.out)) hb)
            have z_BK214 := fun (h0_ : b 9 = true) (h1_ : b 12 = false) => (show w105.heap[gb214]? = some (.cells #[.int .i64 0, .int .i64 0] 47 (0, 0)) from by first | exact (blk_below (g := gb214) (o := .cells #[.int .i64 0, .int .i64 0] 47 (0, 0)) (by (with_reducible repeat (first | refine blk_drewN ?_ _ | refine blk_drew ?_ | refine blk_alloc ?_ _)); exact (Q_BK214 h0_ h1_)) hb))
            have z_BK215 := fun (h0_ : b 10 = true) (h1_ : b 13 = false) => (show w105.heap[gb215]? = some (.cells #[.int .i64 0, .int .i64 0] 47 (0, 0)) from by first | exact (blk_below (g := gb215) (o := .cells #[.int .i64 0, .int .i64 0] 47 (0, 0)) (by (with_reducible repeat (first | refine blk_drewN ?_ _ | refine blk_drew ?_ | refine blk_alloc ?_ _)); exact (Q_BK215 h0_ h1_)) hb))
            have z_BK216 := fun (h0_ : b 11 = true) (h1_ : b 14 = false) => (show w105.heap[gb216]? = some (.cells #[.int .i64 0, .int .i64 0] 47 (0, 0)) from by first | exact (blk_below (g := gb216) (o := .cells #[.int .i64 0, .int .i64 0] 47 (0, 0)) (by (with_reducible repeat (first | refine blk_drewN ?_ _ | refine blk_drew ?_ | refine blk_alloc ?_ _)); exact (Q_BK216 h0_ h1_)) hb))
            clear HO_3
            clear BK207
            clear HB
            have HO_3 := n0_
            have BK207 := n1_
            have HB := n2_
            clear n0_ n1_ n2_
            (try clear hb)
            (try clear hb2)
            (try clear hk)
            (try clear hi)
            refine hK.out _ _ ⟨gb214, gb215, gb216, m9_, m10_, m11_, (by rw [ha.out]; exact putSel_upk 2 hb_ rfl rfl rfl), (by (with_reducible repeat (first | apply Kd.R_alloc | apply Kd.R_drewN | apply Kd.R_drew)); exact HO_3.out), (by (with_reducible repeat (first | refine blk_drewN ?_ _ | refine blk_drew ?_ | refine blk_alloc ?_ _)); exact BK207.out), (by repeat (first | (with_reducible first | exact HB.out | apply below_alloc | apply pw_below_drewN | apply below_drew1 | refine below_set ?_ GE207.out) | exact HB.out)), Q_NB215_214, Q_NB214_215, Q_NB216_214, Q_NB214_216, Q_NB216_215, Q_NB215_216, z_BK214, Q_GW214, Q_GE214, Q_NB207_214, Q_NB214_207, z_BK215, Q_GW215, Q_GE215, Q_NB207_215, Q_NB215_207, z_BK216, Q_GW216, Q_GE216, Q_NB207_216, Q_NB216_207, fun h0_ => absurd ((hoff 12 (by kernel_rfl)).symm.trans h0_) (by decide), fun h0_ => absurd ((hoff 13 (by kernel_rfl)).symm.trans h0_) (by decide), fun h0_ => absurd ((hoff 14 (by kernel_rfl)).symm.trans h0_) (by decide), Q_X9_, Q_X10_, Q_X11_⟩
          refine steps_cons ?_ ?_
          · rintro b a w' ⟨gb214, gb215, gb216, m9_, m10_, m11_, ha, Q_HO_3, Q_BK207, Q_HB, Q_NB215_214, Q_NB214_215, Q_NB216_214, Q_NB214_216, Q_NB216_215, Q_NB215_216, Q_BK214, Q_GW214, Q_GE214, Q_NB207_214, Q_NB214_207, Q_BK215, Q_GW215, Q_GE215, Q_NB207_215, Q_NB215_207, Q_BK216, Q_GW216, Q_GE216, Q_NB207_216, Q_NB216_207, Q_BK214_e12, Q_BK215_e13, Q_BK216_e14, Q_X9_, Q_X10_, Q_X11_⟩ hb_ hon hoff
            refine ⟨_, rfl, fun K hK => ?_⟩
            have e5 : a.tmps[5]? = some (.pointer (some ⟨gb207, 0, none⟩)) := by rw [ha]; exact (putSel_off rfl).trans rfl
            replace ha := Aside0.mk ha
            have HO_3 := Aside0.mk Q_HO_3
            have BK207 := Aside0.mk Q_BK207
            have HB := Aside0.mk Q_HB
            have hc0_ : w'.cell? ⟨gb207, 0, none⟩ = some (.int .i64 (wrap64 ((wrap64 (Int.tdiv x10_1 27)) - 1))) := (blk_cell BK207.out 0).trans rfl
            have hc1_ : w'.cell? ⟨gb207, 1, none⟩ = some (.int .i64 (wrap64 ((Int.tmod (wrap64 (Int.tdiv x10_1 9)) 3) - 1))) := (blk_cell BK207.out 1).trans rfl
            have hc2_ : w'.cell? ⟨gb207, 2, none⟩ = some (.int .i64 (wrap64 ((Int.tmod (wrap64 (Int.tdiv x10_1 3)) 3) - 1))) := (blk_cell BK207.out 2).trans rfl
            have hc3_ : w'.cell? ⟨gb207, 3, none⟩ = some (.int .i64 (wrap64 ((Int.tmod x10_1 3) - 1))) := (blk_cell BK207.out 3).trans rfl
            refine value_ (w1 := w') (v := .agg #[.int .i64 (wrap64 ((wrap64 (Int.tdiv x10_1 27)) - 1)), .int .i64 (wrap64 ((Int.tmod (wrap64 (Int.tdiv x10_1 9)) 3) - 1)), .int .i64 (wrap64 ((Int.tmod (wrap64 (Int.tdiv x10_1 3)) 3) - 1)), .int .i64 (wrap64 ((Int.tmod x10_1 3) - 1))]) (by rfl) rfl ?_ ?_
            · go_simp
              (try simp only [i64_w])
              try rfl
            refine hK.out _ _ ⟨gb214, gb215, gb216, m9_, m10_, m11_, (by rw [ha.out]; exact putSel_upk 3 hb_ rfl rfl rfl), Q_HO_3, Q_BK207, Q_HB, Q_NB215_214, Q_NB214_215, Q_NB216_214, Q_NB214_216, Q_NB216_215, Q_NB215_216, Q_BK214, Q_GW214, Q_GE214, Q_NB207_214, Q_NB214_207, Q_BK215, Q_GW215, Q_GE215, Q_NB207_215, Q_NB215_207, Q_BK216, Q_GW216, Q_GE216, Q_NB207_216, Q_NB216_207, fun h0_ => absurd ((hoff 12 (by kernel_rfl)).symm.trans h0_) (by decide), fun h0_ => absurd ((hoff 13 (by kernel_rfl)).symm.trans h0_) (by decide), fun h0_ => absurd ((hoff 14 (by kernel_rfl)).symm.trans h0_) (by decide), Q_X9_, Q_X10_, Q_X11_⟩
          refine steps_cons ?_ ?_
          · rintro b a w' ⟨gb214, gb215, gb216, m9_, m10_, m11_, ha, Q_HO_3, Q_BK207, Q_HB, Q_NB215_214, Q_NB214_215, Q_NB216_214, Q_NB214_216, Q_NB216_215, Q_NB215_216, Q_BK214, Q_GW214, Q_GE214, Q_NB207_214, Q_NB214_207, Q_BK215, Q_GW215, Q_GE215, Q_NB207_215, Q_NB215_207, Q_BK216, Q_GW216, Q_GE216, Q_NB207_216, Q_NB216_207, Q_BK214_e12, Q_BK215_e13, Q_BK216_e14, Q_X9_, Q_X10_, Q_X11_⟩ hb_ hon hoff
            refine ⟨_, rfl, fun K hK => ?_⟩
            replace ha := Aside0.mk ha
            have HO_3 := Aside0.mk Q_HO_3
            have BK207 := Aside0.mk Q_BK207
            have HB := Aside0.mk Q_HB
            refine value_ (w1 := w') (v := .agg #[.int .i64 0, .int .i64 1]) (by rfl) rfl ?_ ?_
            · go_simp
              (try simp only [i64_w])
              try rfl
            refine hK.out _ _ ⟨gb214, gb215, gb216, m9_, m10_, m11_, (by rw [ha.out]; exact putSel_upk 4 hb_ rfl rfl rfl), Q_HO_3, Q_BK207, Q_HB, Q_NB215_214, Q_NB214_215, Q_NB216_214, Q_NB214_216, Q_NB216_215, Q_NB215_216, Q_BK214, Q_GW214, Q_GE214, Q_NB207_214, Q_NB214_207, Q_BK215, Q_GW215, Q_GE215, Q_NB207_215, Q_NB215_207, Q_BK216, Q_GW216, Q_GE216, Q_NB207_216, Q_NB216_207, fun h0_ => absurd ((hoff 12 (by kernel_rfl)).symm.trans h0_) (by decide), fun h0_ => absurd ((hoff 13 (by kernel_rfl)).symm.trans h0_) (by decide), fun h0_ => absurd ((hoff 14 (by kernel_rfl)).symm.trans h0_) (by decide), Q_X9_, Q_X10_, Q_X11_⟩
          refine steps_cons ?_ ?_
          · rintro b a w' ⟨gb214, gb215, gb216, m9_, m10_, m11_, ha, Q_HO_3, Q_BK207, Q_HB, Q_NB215_214, Q_NB214_215, Q_NB216_214, Q_NB214_216, Q_NB216_215, Q_NB215_216, Q_BK214, Q_GW214, Q_GE214, Q_NB207_214, Q_NB214_207, Q_BK215, Q_GW215, Q_GE215, Q_NB207_215, Q_NB215_207, Q_BK216, Q_GW216, Q_GE216, Q_NB207_216, Q_NB216_207, Q_BK214_e12, Q_BK215_e13, Q_BK216_e14, Q_X9_, Q_X10_, Q_X11_⟩ hb_ hon hoff
            refine ⟨_, rfl, fun K hK => ?_⟩
            have e31 : a.tmps[31]? = some (.agg #[.int .i64 (wrap64 ((wrap64 (Int.tdiv x10_1 27)) - 1)), .int .i64 (wrap64 ((Int.tmod (wrap64 (Int.tdiv x10_1 9)) 3) - 1)), .int .i64 (wrap64 ((Int.tmod (wrap64 (Int.tdiv x10_1 3)) 3) - 1)), .int .i64 (wrap64 ((Int.tmod x10_1 3) - 1))]) := by rw [ha]; exact putSel_on (e := (3, 31, .agg #[.int .i64 (wrap64 ((wrap64 (Int.tdiv x10_1 27)) - 1)), .int .i64 (wrap64 ((Int.tmod (wrap64 (Int.tdiv x10_1 9)) 3) - 1)), .int .i64 (wrap64 ((Int.tmod (wrap64 (Int.tdiv x10_1 3)) 3) - 1)), .int .i64 (wrap64 ((Int.tmod x10_1 3) - 1))])) 3 rfl rfl (hon 3 (by kernel_rfl)) rfl
            have e32 : a.tmps[32]? = some (.agg #[.int .i64 0, .int .i64 1]) := by rw [ha]; exact putSel_on (e := (4, 32, .agg #[.int .i64 0, .int .i64 1])) 4 rfl rfl (hon 4 (by kernel_rfl)) rfl
            replace ha := Aside0.mk ha
            have HO_3 := Aside0.mk Q_HO_3
            have BK207 := Aside0.mk Q_BK207
            have HB := Aside0.mk Q_HB
            refine goes_ Try.func97 (by kernel_rfl) rfl #[.agg #[.int .i64 (wrap64 ((wrap64 (Int.tdiv x10_1 27)) - 1)), .int .i64 (wrap64 ((Int.tmod (wrap64 (Int.tdiv x10_1 9)) 3) - 1)), .int .i64 (wrap64 ((Int.tmod (wrap64 (Int.tdiv x10_1 3)) 3) - 1)), .int .i64 (wrap64 ((Int.tmod x10_1 3) - 1))], .agg #[.int .i64 0, .int .i64 1]] (by rfl) rfl rfl (by first | (simp only [List.map_toArray, List.map_cons, List.map_nil, Act.eval, Array.getD_eq_getD_getElem?, Option.getD_some, e31, e32]; done) | (simp only [List.map_toArray, List.map_cons, List.map_nil, Act.eval, Array.getD_eq_getD_getElem?, Option.getD_some, e31, e32]; rfl)) ?_
            with_reducible refine (impl_Mat_apply.calls (wrap64 ((wrap64 (Int.tdiv x10_1 27)) - 1)) (wrap64 ((Int.tmod (wrap64 (Int.tdiv x10_1 9)) 3) - 1)) (wrap64 ((Int.tmod (wrap64 (Int.tdiv x10_1 3)) 3) - 1)) (wrap64 ((Int.tmod x10_1 3) - 1)) 0 1 t210 t211 _ A6.out).mono ?_
            rintro e w107 ⟨rfl, hb⟩
            refine ⟨_, rfl, ?_⟩
            have n0_ := Aside0.mk (Kd.R_below (by (with_reducible repeat (first | apply Kd.R_alloc | apply Kd.R_drewN | apply Kd.R_drew)); exact HO_3.out) hb)
            have n1_ := Aside0.mk (blk_below (g := gb207) (o := .cells #[.int .i64 (wrap64 ((wrap64 (Int.tdiv x10_1 27)) - 1)), .int .i64 (wrap64 ((Int.tmod (wrap64 (Int.tdiv x10_1 9)) 3) - 1)), .int .i64 (wrap64 ((Int.tmod (wrap64 (Int.tdiv x10_1 3)) 3) - 1)), .int .i64 (wrap64 ((Int.tmod x10_1 3) - 1))] 51 (0, 0)) (by (with_reducible repeat (first | refine blk_drewN ?_ _ | refine blk_drew ?_ | refine blk_alloc ?_ _)); exact BK207.out) hb)
            have n2_ := Aside0.mk (below_step (by repeat (first | (with_reducible first | exact HB.out | apply below_alloc | apply pw_below_drewN | apply below_drew1 | refine below_set ?_ GE207.out) | exact HB.out)) hb)
            have z_BK214 := fun (h0_ : b 9 = true) (h1_ : b 12 = false) => (show w107.heap[gb214]? = some (.cells #[.int .i64 0, .int .i64 0] 47 (0, 0)) from by first | exact (blk_below (g := gb214) (o := .cells #[.int .i64 0, .int .i64 0] 47 (0, 0)) (by (with_reducible repeat (first | refine blk_drewN ?_ _ | refine blk_drew ?_ | refine blk_alloc ?_ _)); exact (Q_BK214 h0_ h1_)) hb))
            have z_BK215 := fun (h0_ : b 10 = true) (h1_ : b 13 = false) => (show w107.heap[gb215]? = some (.cells #[.int .i64 0, .int .i64 0] 47 (0, 0)) from by first | exact (blk_below (g := gb215) (o := .cells #[.int .i64 0, .int .i64 0] 47 (0, 0)) (by (with_reducible repeat (first | refine blk_drewN ?_ _ | refine blk_drew ?_ | refine blk_alloc ?_ _)); exact (Q_BK215 h0_ h1_)) hb))
            have z_BK216 := fun (h0_ : b 11 = true) (h1_ : b 14 = false) => (show w107.heap[gb216]? = some (.cells #[.int .i64 0, .int .i64 0] 47 (0, 0)) from by first | exact (blk_below (g := gb216) (o := .cells #[.int .i64 0, .int .i64 0] 47 (0, 0)) (by (with_reducible repeat (first | refine blk_drewN ?_ _ | refine blk_drew ?_ | refine blk_alloc ?_ _)); exact (Q_BK216 h0_ h1_)) hb))
            clear HO_3
            clear BK207
            clear HB
            have HO_3 := n0_
            have BK207 := n1_
            have HB := n2_
            clear n0_ n1_ n2_
            (try clear hb)
            (try clear hb2)
            (try clear hk)
            (try clear hi)
            refine hK.out _ _ ⟨gb214, gb215, gb216, m9_, m10_, m11_, (by rw [ha.out]; exact putSel_upk 5 hb_ rfl rfl rfl), (by (with_reducible repeat (first | apply Kd.R_alloc | apply Kd.R_drewN | apply Kd.R_drew)); exact HO_3.out), (by (with_reducible repeat (first | refine blk_drewN ?_ _ | refine blk_drew ?_ | refine blk_alloc ?_ _)); exact BK207.out), (by repeat (first | (with_reducible first | exact HB.out | apply below_alloc | apply pw_below_drewN | apply below_drew1 | refine below_set ?_ GE207.out) | exact HB.out)), Q_NB215_214, Q_NB214_215, Q_NB216_214, Q_NB214_216, Q_NB216_215, Q_NB215_216, z_BK214, Q_GW214, Q_GE214, Q_NB207_214, Q_NB214_207, z_BK215, Q_GW215, Q_GE215, Q_NB207_215, Q_NB215_207, z_BK216, Q_GW216, Q_GE216, Q_NB207_216, Q_NB216_207, fun h0_ => absurd ((hoff 12 (by kernel_rfl)).symm.trans h0_) (by decide), fun h0_ => absurd ((hoff 13 (by kernel_rfl)).symm.trans h0_) (by decide), fun h0_ => absurd ((hoff 14 (by kernel_rfl)).symm.trans h0_) (by decide), Q_X9_, Q_X10_, Q_X11_⟩
          refine steps_cons ?_ ?_
          · rintro b a w' ⟨gb214, gb215, gb216, m9_, m10_, m11_, ha, Q_HO_3, Q_BK207, Q_HB, Q_NB215_214, Q_NB214_215, Q_NB216_214, Q_NB214_216, Q_NB216_215, Q_NB215_216, Q_BK214, Q_GW214, Q_GE214, Q_NB207_214, Q_NB214_207, Q_BK215, Q_GW215, Q_GE215, Q_NB207_215, Q_NB215_207, Q_BK216, Q_GW216, Q_GE216, Q_NB207_216, Q_NB216_207, Q_BK214_e12, Q_BK215_e13, Q_BK216_e14, Q_X9_, Q_X10_, Q_X11_⟩ hb_ hon hoff
            refine ⟨_, rfl, fun K hK => ?_⟩
            have e5 : a.tmps[5]? = some (.pointer (some ⟨gb207, 0, none⟩)) := by rw [ha]; exact (putSel_off rfl).trans rfl
            replace ha := Aside0.mk ha
            have HO_3 := Aside0.mk Q_HO_3
            have BK207 := Aside0.mk Q_BK207
            have HB := Aside0.mk Q_HB
            have hc0_ : w'.cell? ⟨gb207, 0, none⟩ = some (.int .i64 (wrap64 ((wrap64 (Int.tdiv x10_1 27)) - 1))) := (blk_cell BK207.out 0).trans rfl
            have hc1_ : w'.cell? ⟨gb207, 1, none⟩ = some (.int .i64 (wrap64 ((Int.tmod (wrap64 (Int.tdiv x10_1 9)) 3) - 1))) := (blk_cell BK207.out 1).trans rfl
            have hc2_ : w'.cell? ⟨gb207, 2, none⟩ = some (.int .i64 (wrap64 ((Int.tmod (wrap64 (Int.tdiv x10_1 3)) 3) - 1))) := (blk_cell BK207.out 2).trans rfl
            have hc3_ : w'.cell? ⟨gb207, 3, none⟩ = some (.int .i64 (wrap64 ((Int.tmod x10_1 3) - 1))) := (blk_cell BK207.out 3).trans rfl
            refine value_ (w1 := w') (v := .agg #[.int .i64 (wrap64 ((wrap64 (Int.tdiv x10_1 27)) - 1)), .int .i64 (wrap64 ((Int.tmod (wrap64 (Int.tdiv x10_1 9)) 3) - 1)), .int .i64 (wrap64 ((Int.tmod (wrap64 (Int.tdiv x10_1 3)) 3) - 1)), .int .i64 (wrap64 ((Int.tmod x10_1 3) - 1))]) (by rfl) rfl ?_ ?_
            · go_simp
              (try simp only [i64_w])
              try rfl
            refine hK.out _ _ ⟨gb214, gb215, gb216, m9_, m10_, m11_, (by rw [ha.out]; exact putSel_upk 6 hb_ rfl rfl rfl), Q_HO_3, Q_BK207, Q_HB, Q_NB215_214, Q_NB214_215, Q_NB216_214, Q_NB214_216, Q_NB216_215, Q_NB215_216, Q_BK214, Q_GW214, Q_GE214, Q_NB207_214, Q_NB214_207, Q_BK215, Q_GW215, Q_GE215, Q_NB207_215, Q_NB215_207, Q_BK216, Q_GW216, Q_GE216, Q_NB207_216, Q_NB216_207, fun h0_ => absurd ((hoff 12 (by kernel_rfl)).symm.trans h0_) (by decide), fun h0_ => absurd ((hoff 13 (by kernel_rfl)).symm.trans h0_) (by decide), fun h0_ => absurd ((hoff 14 (by kernel_rfl)).symm.trans h0_) (by decide), Q_X9_, Q_X10_, Q_X11_⟩
          refine steps_cons ?_ ?_
          · rintro b a w' ⟨gb214, gb215, gb216, m9_, m10_, m11_, ha, Q_HO_3, Q_BK207, Q_HB, Q_NB215_214, Q_NB214_215, Q_NB216_214, Q_NB214_216, Q_NB216_215, Q_NB215_216, Q_BK214, Q_GW214, Q_GE214, Q_NB207_214, Q_NB214_207, Q_BK215, Q_GW215, Q_GE215, Q_NB207_215, Q_NB215_207, Q_BK216, Q_GW216, Q_GE216, Q_NB207_216, Q_NB216_207, Q_BK214_e12, Q_BK215_e13, Q_BK216_e14, Q_X9_, Q_X10_, Q_X11_⟩ hb_ hon hoff
            refine ⟨_, rfl, fun K hK => ?_⟩
            replace ha := Aside0.mk ha
            have HO_3 := Aside0.mk Q_HO_3
            have BK207 := Aside0.mk Q_BK207
            have HB := Aside0.mk Q_HB
            refine value_ (w1 := w') (v := .agg #[.int .i64 1, .int .i64 1]) (by rfl) rfl ?_ ?_
            · go_simp
              (try simp only [i64_w])
              try rfl
            refine hK.out _ _ ⟨gb214, gb215, gb216, m9_, m10_, m11_, (by rw [ha.out]; exact putSel_upk 7 hb_ rfl rfl rfl), Q_HO_3, Q_BK207, Q_HB, Q_NB215_214, Q_NB214_215, Q_NB216_214, Q_NB214_216, Q_NB216_215, Q_NB215_216, Q_BK214, Q_GW214, Q_GE214, Q_NB207_214, Q_NB214_207, Q_BK215, Q_GW215, Q_GE215, Q_NB207_215, Q_NB215_207, Q_BK216, Q_GW216, Q_GE216, Q_NB207_216, Q_NB216_207, fun h0_ => absurd ((hoff 12 (by kernel_rfl)).symm.trans h0_) (by decide), fun h0_ => absurd ((hoff 13 (by kernel_rfl)).symm.trans h0_) (by decide), fun h0_ => absurd ((hoff 14 (by kernel_rfl)).symm.trans h0_) (by decide), Q_X9_, Q_X10_, Q_X11_⟩
          refine steps_cons ?_ ?_
          · rintro b a w' ⟨gb214, gb215, gb216, m9_, m10_, m11_, ha, Q_HO_3, Q_BK207, Q_HB, Q_NB215_214, Q_NB214_215, Q_NB216_214, Q_NB214_216, Q_NB216_215, Q_NB215_216, Q_BK214, Q_GW214, Q_GE214, Q_NB207_214, Q_NB214_207, Q_BK215, Q_GW215, Q_GE215, Q_NB207_215, Q_NB215_207, Q_BK216, Q_GW216, Q_GE216, Q_NB207_216, Q_NB216_207, Q_BK214_e12, Q_BK215_e13, Q_BK216_e14, Q_X9_, Q_X10_, Q_X11_⟩ hb_ hon hoff
            refine ⟨_, rfl, fun K hK => ?_⟩
            have e34 : a.tmps[34]? = some (.agg #[.int .i64 (wrap64 ((wrap64 (Int.tdiv x10_1 27)) - 1)), .int .i64 (wrap64 ((Int.tmod (wrap64 (Int.tdiv x10_1 9)) 3) - 1)), .int .i64 (wrap64 ((Int.tmod (wrap64 (Int.tdiv x10_1 3)) 3) - 1)), .int .i64 (wrap64 ((Int.tmod x10_1 3) - 1))]) := by rw [ha]; exact putSel_on (e := (6, 34, .agg #[.int .i64 (wrap64 ((wrap64 (Int.tdiv x10_1 27)) - 1)), .int .i64 (wrap64 ((Int.tmod (wrap64 (Int.tdiv x10_1 9)) 3) - 1)), .int .i64 (wrap64 ((Int.tmod (wrap64 (Int.tdiv x10_1 3)) 3) - 1)), .int .i64 (wrap64 ((Int.tmod x10_1 3) - 1))])) 6 rfl rfl (hon 6 (by kernel_rfl)) rfl
            have e35 : a.tmps[35]? = some (.agg #[.int .i64 1, .int .i64 1]) := by rw [ha]; exact putSel_on (e := (7, 35, .agg #[.int .i64 1, .int .i64 1])) 7 rfl rfl (hon 7 (by kernel_rfl)) rfl
            replace ha := Aside0.mk ha
            have HO_3 := Aside0.mk Q_HO_3
            have BK207 := Aside0.mk Q_BK207
            have HB := Aside0.mk Q_HB
            refine goes_ Try.func97 (by kernel_rfl) rfl #[.agg #[.int .i64 (wrap64 ((wrap64 (Int.tdiv x10_1 27)) - 1)), .int .i64 (wrap64 ((Int.tmod (wrap64 (Int.tdiv x10_1 9)) 3) - 1)), .int .i64 (wrap64 ((Int.tmod (wrap64 (Int.tdiv x10_1 3)) 3) - 1)), .int .i64 (wrap64 ((Int.tmod x10_1 3) - 1))], .agg #[.int .i64 1, .int .i64 1]] (by rfl) rfl rfl (by first | (simp only [List.map_toArray, List.map_cons, List.map_nil, Act.eval, Array.getD_eq_getD_getElem?, Option.getD_some, e34, e35]; done) | (simp only [List.map_toArray, List.map_cons, List.map_nil, Act.eval, Array.getD_eq_getD_getElem?, Option.getD_some, e34, e35]; rfl)) ?_
            with_reducible refine (impl_Mat_apply.calls (wrap64 ((wrap64 (Int.tdiv x10_1 27)) - 1)) (wrap64 ((Int.tmod (wrap64 (Int.tdiv x10_1 9)) 3) - 1)) (wrap64 ((Int.tmod (wrap64 (Int.tdiv x10_1 3)) 3) - 1)) (wrap64 ((Int.tmod x10_1 3) - 1)) 1 1 t212 t213 _ A7.out).mono ?_
            rintro e w108 ⟨rfl, hb⟩
            refine ⟨_, rfl, ?_⟩
            have n0_ := Aside0.mk (Kd.R_below (by (with_reducible repeat (first | apply Kd.R_alloc | apply Kd.R_drewN | apply Kd.R_drew)); exact HO_3.out) hb)
            have n1_ := Aside0.mk (blk_below (g := gb207) (o := .cells #[.int .i64 (wrap64 ((wrap64 (Int.tdiv x10_1 27)) - 1)), .int .i64 (wrap64 ((Int.tmod (wrap64 (Int.tdiv x10_1 9)) 3) - 1)), .int .i64 (wrap64 ((Int.tmod (wrap64 (Int.tdiv x10_1 3)) 3) - 1)), .int .i64 (wrap64 ((Int.tmod x10_1 3) - 1))] 51 (0, 0)) (by (with_reducible repeat (first | refine blk_drewN ?_ _ | refine blk_drew ?_ | refine blk_alloc ?_ _)); exact BK207.out) hb)
            have n2_ := Aside0.mk (below_step (by repeat (first | (with_reducible first | exact HB.out | apply below_alloc | apply pw_below_drewN | apply below_drew1 | refine below_set ?_ GE207.out) | exact HB.out)) hb)
            have z_BK214 := fun (h0_ : b 9 = true) (h1_ : b 12 = false) => (show w108.heap[gb214]? = some (.cells #[.int .i64 0, .int .i64 0] 47 (0, 0)) from by first | exact (blk_below (g := gb214) (o := .cells #[.int .i64 0, .int .i64 0] 47 (0, 0)) (by (with_reducible repeat (first | refine blk_drewN ?_ _ | refine blk_drew ?_ | refine blk_alloc ?_ _)); exact (Q_BK214 h0_ h1_)) hb))
            have z_BK215 := fun (h0_ : b 10 = true) (h1_ : b 13 = false) => (show w108.heap[gb215]? = some (.cells #[.int .i64 0, .int .i64 0] 47 (0, 0)) from by first | exact (blk_below (g := gb215) (o := .cells #[.int .i64 0, .int .i64 0] 47 (0, 0)) (by (with_reducible repeat (first | refine blk_drewN ?_ _ | refine blk_drew ?_ | refine blk_alloc ?_ _)); exact (Q_BK215 h0_ h1_)) hb))
            have z_BK216 := fun (h0_ : b 11 = true) (h1_ : b 14 = false) => (show w108.heap[gb216]? = some (.cells #[.int .i64 0, .int .i64 0] 47 (0, 0)) from by first | exact (blk_below (g := gb216) (o := .cells #[.int .i64 0, .int .i64 0] 47 (0, 0)) (by (with_reducible repeat (first | refine blk_drewN ?_ _ | refine blk_drew ?_ | refine blk_alloc ?_ _)); exact (Q_BK216 h0_ h1_)) hb))
            clear HO_3
            clear BK207
            clear HB
            have HO_3 := n0_
            have BK207 := n1_
            have HB := n2_
            clear n0_ n1_ n2_
            (try clear hb)
            (try clear hb2)
            (try clear hk)
            (try clear hi)
            refine hK.out _ _ ⟨gb214, gb215, gb216, m9_, m10_, m11_, (by rw [ha.out]; exact putSel_upk 8 hb_ rfl rfl rfl), (by (with_reducible repeat (first | apply Kd.R_alloc | apply Kd.R_drewN | apply Kd.R_drew)); exact HO_3.out), (by (with_reducible repeat (first | refine blk_drewN ?_ _ | refine blk_drew ?_ | refine blk_alloc ?_ _)); exact BK207.out), (by repeat (first | (with_reducible first | exact HB.out | apply below_alloc | apply pw_below_drewN | apply below_drew1 | refine below_set ?_ GE207.out) | exact HB.out)), Q_NB215_214, Q_NB214_215, Q_NB216_214, Q_NB214_216, Q_NB216_215, Q_NB215_216, z_BK214, Q_GW214, Q_GE214, Q_NB207_214, Q_NB214_207, z_BK215, Q_GW215, Q_GE215, Q_NB207_215, Q_NB215_207, z_BK216, Q_GW216, Q_GE216, Q_NB207_216, Q_NB216_207, fun h0_ => absurd ((hoff 12 (by kernel_rfl)).symm.trans h0_) (by decide), fun h0_ => absurd ((hoff 13 (by kernel_rfl)).symm.trans h0_) (by decide), fun h0_ => absurd ((hoff 14 (by kernel_rfl)).symm.trans h0_) (by decide), Q_X9_, Q_X10_, Q_X11_⟩
          refine steps_cons ?_ ?_
          · rintro b a w' ⟨gb214, gb215, gb216, m9_, m10_, m11_, ha, Q_HO_3, Q_BK207, Q_HB, Q_NB215_214, Q_NB214_215, Q_NB216_214, Q_NB214_216, Q_NB216_215, Q_NB215_216, Q_BK214, Q_GW214, Q_GE214, Q_NB207_214, Q_NB214_207, Q_BK215, Q_GW215, Q_GE215, Q_NB207_215, Q_NB215_207, Q_BK216, Q_GW216, Q_GE216, Q_NB207_216, Q_NB216_207, Q_BK214_e12, Q_BK215_e13, Q_BK216_e14, Q_X9_, Q_X10_, Q_X11_⟩ hb_ hon hoff
            refine ⟨_, rfl, fun K hK => ?_⟩
            replace ha := Aside0.mk ha
            have HO_3 := Aside0.mk Q_HO_3
            have BK207 := Aside0.mk Q_BK207
            have HB := Aside0.mk Q_HB
            refine box_step ?hg (N := 6) ?hd (cs := #[.int .i64 0, .int .i64 0]) (t := 47) ?hr ?_; (case hd => rfl); (case hg => rfl); (case hr => first | (go_simp; done) | (go_simp; rfl))
            intro gb214 hg w105 hbox hb
            have n0_ := Aside0.mk (Kd.R_below (by (with_reducible repeat (first | apply Kd.R_alloc | apply Kd.R_drewN | apply Kd.R_drew)); exact HO_3.out) hb)
            have n1_ := Aside0.mk (blk_below (g := gb207) (o := .cells #[.int .i64 (wrap64 ((wrap64 (Int.tdiv x10_1 27)) - 1)), .int .i64 (wrap64 ((Int.tmod (wrap64 (Int.tdiv x10_1 9)) 3) - 1)), .int .i64 (wrap64 ((Int.tmod (wrap64 (Int.tdiv x10_1 3)) 3) - 1)), .int .i64 (wrap64 ((Int.tmod x10_1 3) - 1))] 51 (0, 0)) (by (with_reducible repeat (first | refine blk_drewN ?_ _ | refine blk_drew ?_ | refine blk_alloc ?_ _)); exact BK207.out) hb)
            have n2_ := Aside0.mk (below_step (by repeat (first | (with_reducible first | exact HB.out | apply below_alloc | apply pw_below_drewN | apply below_drew1 | refine below_set ?_ GE207.out) | exact HB.out)) hb)
            have n3_ := Aside0.mk (hbox)
            have n4_ := Aside0.mk ((by rw [hg]; exact (below_size (by repeat (first | (with_reducible first | exact HB.out | apply below_alloc | apply pw_below_drewN | apply below_drew1 | refine below_set ?_ GE207.out) | exact HB.out))) : w.heap.size ≤ gb214))
            have n5_ := Aside0.mk ((by rw [hg]; exact (below_size (by repeat (first | (with_reducible first | exact HB.out | apply below_alloc | apply pw_below_drewN | apply below_drew1 | refine below_set ?_ GE207.out) | exact HB.out))) : w.heap.size ≤ gb214))
            have n6_ := Aside0.mk ((by rw [hg]; exact Nat.ne_of_lt (blk_lt (g := gb207) (o := .cells #[.int .i64 (wrap64 ((wrap64 (Int.tdiv x10_1 27)) - 1)), .int .i64 (wrap64 ((Int.tmod (wrap64 (Int.tdiv x10_1 9)) 3) - 1)), .int .i64 (wrap64 ((Int.tmod (wrap64 (Int.tdiv x10_1 3)) 3) - 1)), .int .i64 (wrap64 ((Int.tmod x10_1 3) - 1))] 51 (0, 0)) (by (with_reducible repeat (first | refine blk_drewN ?_ _ | refine blk_drew ?_ | refine blk_alloc ?_ _)); exact BK207.out)) : gb207 ≠ gb214))
            have n7_ := Aside0.mk ((by rw [hg]; exact Nat.ne_of_gt (blk_lt (g := gb207) (o := .cells #[.int .i64 (wrap64 ((wrap64 (Int.tdiv x10_1 27)) - 1)), .int .i64 (wrap64 ((Int.tmod (wrap64 (Int.tdiv x10_1 9)) 3) - 1)), .int .i64 (wrap64 ((Int.tmod (wrap64 (Int.tdiv x10_1 3)) 3) - 1)), .int .i64 (wrap64 ((Int.tmod x10_1 3) - 1))] 51 (0, 0)) (by (with_reducible repeat (first | refine blk_drewN ?_ _ | refine blk_drew ?_ | refine blk_alloc ?_ _)); exact BK207.out)) : gb214 ≠ gb207))
            have z_NB215_214 := fun (h0_ : up b 9 9 = true) (h1_ : up b 9 10 = true) => (show gb215 ≠ gb214 from (by rw [hg]; have h2_ : b 10 = true := (up_ne (by decide)).symm.trans h1_; rcases hq_ : b 13 with _ | _ <;> first | exact Nat.ne_of_lt (blk_lt (Q_BK215 h2_ hq_)) | exact Nat.ne_of_lt (blk_lt (Q_BK215_e13 hq_))))
            have z_NB214_215 := fun (h0_ : up b 9 9 = true) (h1_ : up b 9 10 = true) => (show gb214 ≠ gb215 from (by rw [hg]; have h2_ : b 10 = true := (up_ne (by decide)).symm.trans h1_; rcases hq_ : b 13 with _ | _ <;> first | exact Nat.ne_of_gt (blk_lt (Q_BK215 h2_ hq_)) | exact Nat.ne_of_gt (blk_lt (Q_BK215_e13 hq_))))
            have z_NB216_214 := fun (h0_ : up b 9 9 = true) (h1_ : up b 9 11 = true) => (show gb216 ≠ gb214 from (by rw [hg]; have h2_ : b 11 = true := (up_ne (by decide)).symm.trans h1_; rcases hq_ : b 14 with _ | _ <;> first | exact Nat.ne_of_lt (blk_lt (Q_BK216 h2_ hq_)) | exact Nat.ne_of_lt (blk_lt (Q_BK216_e14 hq_))))
            have z_NB214_216 := fun (h0_ : up b 9 9 = true) (h1_ : up b 9 11 = true) => (show gb214 ≠ gb216 from (by rw [hg]; have h2_ : b 11 = true := (up_ne (by decide)).symm.trans h1_; rcases hq_ : b 14 with _ | _ <;> first | exact Nat.ne_of_gt (blk_lt (Q_BK216 h2_ hq_)) | exact Nat.ne_of_gt (blk_lt (Q_BK216_e14 hq_))))
            have z_BK215 := fun (h0_ : b 10 = true) (h1_ : b 13 = false) => (show w105.heap[gb215]? = some (.cells #[.int .i64 0, .int .i64 0] 47 (0, 0)) from by first | exact (blk_below (g := gb215) (o := .cells #[.int .i64 0, .int .i64 0] 47 (0, 0)) (by (with_reducible repeat (first | refine blk_drewN ?_ _ | refine blk_drew ?_ | refine blk_alloc ?_ _)); exact (Q_BK215 h0_ h1_)) hb))
            have z_BK216 := fun (h0_ : b 11 = true) (h1_ : b 14 = false) => (show w105.heap[gb216]? = some (.cells #[.int .i64 0, .int .i64 0] 47 (0, 0)) from by first | exact (blk_below (g := gb216) (o := .cells #[.int .i64 0, .int .i64 0] 47 (0, 0)) (by (with_reducible repeat (first | refine blk_drewN ?_ _ | refine blk_drew ?_ | refine blk_alloc ?_ _)); exact (Q_BK216 h0_ h1_)) hb))
            clear HO_3
            clear BK207
            clear HB
            have HO_3 := n0_
            have BK207 := n1_
            have HB := n2_
            have BK214 := n3_
            have GW214 := n4_
            have GE214 := n5_
            have NB207_214 := n6_
            have NB214_207 := n7_
            clear n0_ n1_ n2_ n3_ n4_ n5_ n6_ n7_
            clear hb hbox hg
            refine hK.out _ _ ⟨gb214, gb215, gb216, (.pointer (some ⟨gb214, 0, none⟩)), m10_, m11_, (by rw [ha.out]; exact putSel_upk 9 hb_ rfl rfl rfl), (by (with_reducible repeat (first | apply Kd.R_alloc | apply Kd.R_drewN | apply Kd.R_drew)); exact HO_3.out), (by (with_reducible repeat (first | refine blk_drewN ?_ _ | refine blk_drew ?_ | refine blk_alloc ?_ _)); exact BK207.out), (by repeat (first | (with_reducible first | exact HB.out | apply below_alloc | apply pw_below_drewN | apply below_drew1 | refine below_set ?_ GE207.out | refine below_set ?_ GE214.out) | exact HB.out)), @z_NB215_214, @z_NB214_215, @z_NB216_214, @z_NB214_216, Q_NB216_215, Q_NB215_216, fun _ _ => (by (with_reducible repeat (first | refine blk_drewN ?_ _ | refine blk_drew ?_ | refine blk_alloc ?_ _)); exact BK214.out), fun _ => GW214.out, fun _ => GE214.out, fun _ => NB207_214.out, fun _ => NB214_207.out, z_BK215, Q_GW215, Q_GE215, Q_NB207_215, Q_NB215_207, z_BK216, Q_GW216, Q_GE216, Q_NB207_216, Q_NB216_207, fun h0_ => absurd ((hoff 12 (by kernel_rfl)).symm.trans h0_) (by decide), fun h0_ => absurd ((hoff 13 (by kernel_rfl)).symm.trans h0_) (by decide), fun h0_ => absurd ((hoff 14 (by kernel_rfl)).symm.trans h0_) (by decide), fun _ => rfl, Q_X10_, Q_X11_⟩
          refine steps_cons ?_ ?_
          · rintro b a w' ⟨gb214, gb215, gb216, m9_, m10_, m11_, ha, Q_HO_3, Q_BK207, Q_HB, Q_NB215_214, Q_NB214_215, Q_NB216_214, Q_NB214_216, Q_NB216_215, Q_NB215_216, Q_BK214, Q_GW214, Q_GE214, Q_NB207_214, Q_NB214_207, Q_BK215, Q_GW215, Q_GE215, Q_NB207_215, Q_NB215_207, Q_BK216, Q_GW216, Q_GE216, Q_NB207_216, Q_NB216_207, Q_BK214_e12, Q_BK215_e13, Q_BK216_e14, Q_X9_, Q_X10_, Q_X11_⟩ hb_ hon hoff
            refine ⟨_, rfl, fun K hK => ?_⟩
            replace ha := Aside0.mk ha
            have HO_3 := Aside0.mk Q_HO_3
            have BK207 := Aside0.mk Q_BK207
            have HB := Aside0.mk Q_HB
            refine box_step ?hg (N := 7) ?hd (cs := #[.int .i64 0, .int .i64 0]) (t := 47) ?hr ?_; (case hd => rfl); (case hg => rfl); (case hr => first | (go_simp; done) | (go_simp; rfl))
            intro gb215 hg w105 hbox hb
            have n0_ := Aside0.mk (Kd.R_below (by (with_reducible repeat (first | apply Kd.R_alloc | apply Kd.R_drewN | apply Kd.R_drew)); exact HO_3.out) hb)
            have n1_ := Aside0.mk (blk_below (g := gb207) (o := .cells #[.int .i64 (wrap64 ((wrap64 (Int.tdiv x10_1 27)) - 1)), .int .i64 (wrap64 ((Int.tmod (wrap64 (Int.tdiv x10_1 9)) 3) - 1)), .int .i64 (wrap64 ((Int.tmod (wrap64 (Int.tdiv x10_1 3)) 3) - 1)), .int .i64 (wrap64 ((Int.tmod x10_1 3) - 1))] 51 (0, 0)) (by (with_reducible repeat (first | refine blk_drewN ?_ _ | refine blk_drew ?_ | refine blk_alloc ?_ _)); exact BK207.out) hb)
            have n2_ := Aside0.mk (below_step (by repeat (first | (with_reducible first | exact HB.out | apply below_alloc | apply pw_below_drewN | apply below_drew1 | refine below_set ?_ GE207.out) | exact HB.out)) hb)
            have n3_ := Aside0.mk (hbox)
            have n4_ := Aside0.mk ((by rw [hg]; exact (below_size (by repeat (first | (with_reducible first | exact HB.out | apply below_alloc | apply pw_below_drewN | apply below_drew1 | refine below_set ?_ GE207.out) | exact HB.out))) : w.heap.size ≤ gb215))
            have n5_ := Aside0.mk ((by rw [hg]; exact (below_size (by repeat (first | (with_reducible first | exact HB.out | apply below_alloc | apply pw_below_drewN | apply below_drew1 | refine below_set ?_ GE207.out) | exact HB.out))) : w.heap.size ≤ gb215))
            have n6_ := Aside0.mk ((by rw [hg]; exact Nat.ne_of_lt (blk_lt (g := gb207) (o := .cells #[.int .i64 (wrap64 ((wrap64 (Int.tdiv x10_1 27)) - 1)), .int .i64 (wrap64 ((Int.tmod (wrap64 (Int.tdiv x10_1 9)) 3) - 1)), .int .i64 (wrap64 ((Int.tmod (wrap64 (Int.tdiv x10_1 3)) 3) - 1)), .int .i64 (wrap64 ((Int.tmod x10_1 3) - 1))] 51 (0, 0)) (by (with_reducible repeat (first | refine blk_drewN ?_ _ | refine blk_drew ?_ | refine blk_alloc ?_ _)); exact BK207.out)) : gb207 ≠ gb215))
            have n7_ := Aside0.mk ((by rw [hg]; exact Nat.ne_of_gt (blk_lt (g := gb207) (o := .cells #[.int .i64 (wrap64 ((wrap64 (Int.tdiv x10_1 27)) - 1)), .int .i64 (wrap64 ((Int.tmod (wrap64 (Int.tdiv x10_1 9)) 3) - 1)), .int .i64 (wrap64 ((Int.tmod (wrap64 (Int.tdiv x10_1 3)) 3) - 1)), .int .i64 (wrap64 ((Int.tmod x10_1 3) - 1))] 51 (0, 0)) (by (with_reducible repeat (first | refine blk_drewN ?_ _ | refine blk_drew ?_ | refine blk_alloc ?_ _)); exact BK207.out)) : gb215 ≠ gb207))
            have z_NB215_214 := fun (h0_ : up b 10 9 = true) (h1_ : up b 10 10 = true) => (show gb215 ≠ gb214 from (by rw [hg]; have h2_ : b 9 = true := (up_ne (by decide)).symm.trans h0_; rcases hq_ : b 12 with _ | _ <;> first | exact Nat.ne_of_gt (blk_lt (Q_BK214 h2_ hq_)) | exact Nat.ne_of_gt (blk_lt (Q_BK214_e12 hq_))))
            have z_NB214_215 := fun (h0_ : up b 10 9 = true) (h1_ : up b 10 10 = true) => (show gb214 ≠ gb215 from (by rw [hg]; have h2_ : b 9 = true := (up_ne (by decide)).symm.trans h0_; rcases hq_ : b 12 with _ | _ <;> first | exact Nat.ne_of_lt (blk_lt (Q_BK214 h2_ hq_)) | exact Nat.ne_of_lt (blk_lt (Q_BK214_e12 hq_))))
            have z_NB216_215 := fun (h0_ : up b 10 10 = true) (h1_ : up b 10 11 = true) => (show gb216 ≠ gb215 from (by rw [hg]; have h2_ : b 11 = true := (up_ne (by decide)).symm.trans h1_; rcases hq_ : b 14 with _ | _ <;> first | exact Nat.ne_of_lt (blk_lt (Q_BK216 h2_ hq_)) | exact Nat.ne_of_lt (blk_lt (Q_BK216_e14 hq_))))
            have z_NB215_216 := fun (h0_ : up b 10 10 = true) (h1_ : up b 10 11 = true) => (show gb215 ≠ gb216 from (by rw [hg]; have h2_ : b 11 = true := (up_ne (by decide)).symm.trans h1_; rcases hq_ : b 14 with _ | _ <;> first | exact Nat.ne_of_gt (blk_lt (Q_BK216 h2_ hq_)) | exact Nat.ne_of_gt (blk_lt (Q_BK216_e14 hq_))))
            have z_BK214 := fun (h0_ : b 9 = true) (h1_ : b 12 = false) => (show w105.heap[gb214]? = some (.cells #[.int .i64 0, .int .i64 0] 47 (0, 0)) from by first | exact (blk_below (g := gb214) (o := .cells #[.int .i64 0, .int .i64 0] 47 (0, 0)) (by (with_reducible repeat (first | refine blk_drewN ?_ _ | refine blk_drew ?_ | refine blk_alloc ?_ _)); exact (Q_BK214 h0_ h1_)) hb))
            have z_BK216 := fun (h0_ : b 11 = true) (h1_ : b 14 = false) => (show w105.heap[gb216]? = some (.cells #[.int .i64 0, .int .i64 0] 47 (0, 0)) from by first | exact (blk_below (g := gb216) (o := .cells #[.int .i64 0, .int .i64 0] 47 (0, 0)) (by (with_reducible repeat (first | refine blk_drewN ?_ _ | refine blk_drew ?_ | refine blk_alloc ?_ _)); exact (Q_BK216 h0_ h1_)) hb))
            clear HO_3
            clear BK207
            clear HB
            have HO_3 := n0_
            have BK207 := n1_
            have HB := n2_
            have BK215 := n3_
            have GW215 := n4_
            have GE215 := n5_
            have NB207_215 := n6_
            have NB215_207 := n7_
            clear n0_ n1_ n2_ n3_ n4_ n5_ n6_ n7_
            clear hb hbox hg
            refine hK.out _ _ ⟨gb214, gb215, gb216, m9_, (.pointer (some ⟨gb215, 0, none⟩)), m11_, (by rw [ha.out]; exact putSel_upk 10 hb_ rfl rfl rfl), (by (with_reducible repeat (first | apply Kd.R_alloc | apply Kd.R_drewN | apply Kd.R_drew)); exact HO_3.out), (by (with_reducible repeat (first | refine blk_drewN ?_ _ | refine blk_drew ?_ | refine blk_alloc ?_ _)); exact BK207.out), (by repeat (first | (with_reducible first | exact HB.out | apply below_alloc | apply pw_below_drewN | apply below_drew1 | refine below_set ?_ GE207.out | refine below_set ?_ GE215.out) | exact HB.out)), @z_NB215_214, @z_NB214_215, Q_NB216_214, Q_NB214_216, @z_NB216_215, @z_NB215_216, z_BK214, Q_GW214, Q_GE214, Q_NB207_214, Q_NB214_207, fun _ _ => (by (with_reducible repeat (first | refine blk_drewN ?_ _ | refine blk_drew ?_ | refine blk_alloc ?_ _)); exact BK215.out), fun _ => GW215.out, fun _ => GE215.out, fun _ => NB207_215.out, fun _ => NB215_207.out, z_BK216, Q_GW216, Q_GE216, Q_NB207_216, Q_NB216_207, fun h0_ => absurd ((hoff 12 (by kernel_rfl)).symm.trans h0_) (by decide), fun h0_ => absurd ((hoff 13 (by kernel_rfl)).symm.trans h0_) (by decide), fun h0_ => absurd ((hoff 14 (by kernel_rfl)).symm.trans h0_) (by decide), Q_X9_, fun _ => rfl, Q_X11_⟩
          refine steps_cons ?_ ?_
          · rintro b a w' ⟨gb214, gb215, gb216, m9_, m10_, m11_, ha, Q_HO_3, Q_BK207, Q_HB, Q_NB215_214, Q_NB214_215, Q_NB216_214, Q_NB214_216, Q_NB216_215, Q_NB215_216, Q_BK214, Q_GW214, Q_GE214, Q_NB207_214, Q_NB214_207, Q_BK215, Q_GW215, Q_GE215, Q_NB207_215, Q_NB215_207, Q_BK216, Q_GW216, Q_GE216, Q_NB207_216, Q_NB216_207, Q_BK214_e12, Q_BK215_e13, Q_BK216_e14, Q_X9_, Q_X10_, Q_X11_⟩ hb_ hon hoff
            refine ⟨_, rfl, fun K hK => ?_⟩
            replace ha := Aside0.mk ha
            have HO_3 := Aside0.mk Q_HO_3
            have BK207 := Aside0.mk Q_BK207
            have HB := Aside0.mk Q_HB
            refine box_step ?hg (N := 8) ?hd (cs := #[.int .i64 0, .int .i64 0]) (t := 47) ?hr ?_; (case hd => rfl); (case hg => rfl); (case hr => first | (go_simp; done) | (go_simp; rfl))
            intro gb216 hg w105 hbox hb
            have n0_ := Aside0.mk (Kd.R_below (by (with_reducible repeat (first | apply Kd.R_alloc | apply Kd.R_drewN | apply Kd.R_drew)); exact HO_3.out) hb)
            have n1_ := Aside0.mk (blk_below (g := gb207) (o := .cells #[.int .i64 (wrap64 ((wrap64 (Int.tdiv x10_1 27)) - 1)), .int .i64 (wrap64 ((Int.tmod (wrap64 (Int.tdiv x10_1 9)) 3) - 1)), .int .i64 (wrap64 ((Int.tmod (wrap64 (Int.tdiv x10_1 3)) 3) - 1)), .int .i64 (wrap64 ((Int.tmod x10_1 3) - 1))] 51 (0, 0)) (by (with_reducible repeat (first | refine blk_drewN ?_ _ | refine blk_drew ?_ | refine blk_alloc ?_ _)); exact BK207.out) hb)
            have n2_ := Aside0.mk (below_step (by repeat (first | (with_reducible first | exact HB.out | apply below_alloc | apply pw_below_drewN | apply below_drew1 | refine below_set ?_ GE207.out) | exact HB.out)) hb)
            have n3_ := Aside0.mk (hbox)
            have n4_ := Aside0.mk ((by rw [hg]; exact (below_size (by repeat (first | (with_reducible first | exact HB.out | apply below_alloc | apply pw_below_drewN | apply below_drew1 | refine below_set ?_ GE207.out) | exact HB.out))) : w.heap.size ≤ gb216))
            have n5_ := Aside0.mk ((by rw [hg]; exact (below_size (by repeat (first | (with_reducible first | exact HB.out | apply below_alloc | apply pw_below_drewN | apply below_drew1 | refine below_set ?_ GE207.out) | exact HB.out))) : w.heap.size ≤ gb216))
            have n6_ := Aside0.mk ((by rw [hg]; exact Nat.ne_of_lt (blk_lt (g := gb207) (o := .cells #[.int .i64 (wrap64 ((wrap64 (Int.tdiv x10_1 27)) - 1)), .int .i64 (wrap64 ((Int.tmod (wrap64 (Int.tdiv x10_1 9)) 3) - 1)), .int .i64 (wrap64 ((Int.tmod (wrap64 (Int.tdiv x10_1 3)) 3) - 1)), .int .i64 (wrap64 ((Int.tmod x10_1 3) - 1))] 51 (0, 0)) (by (with_reducible repeat (first | refine blk_drewN ?_ _ | refine blk_drew ?_ | refine blk_alloc ?_ _)); exact BK207.out)) : gb207 ≠ gb216))
            have n7_ := Aside0.mk ((by rw [hg]; exact Nat.ne_of_gt (blk_lt (g := gb207) (o := .cells #[.int .i64 (wrap64 ((wrap64 (Int.tdiv x10_1 27)) - 1)), .int .i64 (wrap64 ((Int.tmod (wrap64 (Int.tdiv x10_1 9)) 3) - 1)), .int .i64 (wrap64 ((Int.tmod (wrap64 (Int.tdiv x10_1 3)) 3) - 1)), .int .i64 (wrap64 ((Int.tmod x10_1 3) - 1))] 51 (0, 0)) (by (with_reducible repeat (first | refine blk_drewN ?_ _ | refine blk_drew ?_ | refine blk_alloc ?_ _)); exact BK207.out)) : gb216 ≠ gb207))
            have z_NB216_214 := fun (h0_ : up b 11 9 = true) (h1_ : up b 11 11 = true) => (show gb216 ≠ gb214 from (by rw [hg]; have h2_ : b 9 = true := (up_ne (by decide)).symm.trans h0_; rcases hq_ : b 12 with _ | _ <;> first | exact Nat.ne_of_gt (blk_lt (Q_BK214 h2_ hq_)) | exact Nat.ne_of_gt (blk_lt (Q_BK214_e12 hq_))))
            have z_NB214_216 := fun (h0_ : up b 11 9 = true) (h1_ : up b 11 11 = true) => (show gb214 ≠ gb216 from (by rw [hg]; have h2_ : b 9 = true := (up_ne (by decide)).symm.trans h0_; rcases hq_ : b 12 with _ | _ <;> first | exact Nat.ne_of_lt (blk_lt (Q_BK214 h2_ hq_)) | exact Nat.ne_of_lt (blk_lt (Q_BK214_e12 hq_))))
            have z_NB216_215 := fun (h0_ : up b 11 10 = true) (h1_ : up b 11 11 = true) => (show gb216 ≠ gb215 from (by rw [hg]; have h2_ : b 10 = true := (up_ne (by decide)).symm.trans h0_; rcases hq_ : b 13 with _ | _ <;> first | exact Nat.ne_of_gt (blk_lt (Q_BK215 h2_ hq_)) | exact Nat.ne_of_gt (blk_lt (Q_BK215_e13 hq_))))
            have z_NB215_216 := fun (h0_ : up b 11 10 = true) (h1_ : up b 11 11 = true) => (show gb215 ≠ gb216 from (by rw [hg]; have h2_ : b 10 = true := (up_ne (by decide)).symm.trans h0_; rcases hq_ : b 13 with _ | _ <;> first | exact Nat.ne_of_lt (blk_lt (Q_BK215 h2_ hq_)) | exact Nat.ne_of_lt (blk_lt (Q_BK215_e13 hq_))))
            have z_BK214 := fun (h0_ : b 9 = true) (h1_ : b 12 = false) => (show w105.heap[gb214]? = some (.cells #[.int .i64 0, .int .i64 0] 47 (0, 0)) from by first | exact (blk_below (g := gb214) (o := .cells #[.int .i64 0, .int .i64 0] 47 (0, 0)) (by (with_reducible repeat (first | refine blk_drewN ?_ _ | refine blk_drew ?_ | refine blk_alloc ?_ _)); exact (Q_BK214 h0_ h1_)) hb))
            have z_BK215 := fun (h0_ : b 10 = true) (h1_ : b 13 = false) => (show w105.heap[gb215]? = some (.cells #[.int .i64 0, .int .i64 0] 47 (0, 0)) from by first | exact (blk_below (g := gb215) (o := .cells #[.int .i64 0, .int .i64 0] 47 (0, 0)) (by (with_reducible repeat (first | refine blk_drewN ?_ _ | refine blk_drew ?_ | refine blk_alloc ?_ _)); exact (Q_BK215 h0_ h1_)) hb))
            clear HO_3
            clear BK207
            clear HB
            have HO_3 := n0_
            have BK207 := n1_
            have HB := n2_
            have BK216 := n3_
            have GW216 := n4_
            have GE216 := n5_
            have NB207_216 := n6_
            have NB216_207 := n7_
            clear n0_ n1_ n2_ n3_ n4_ n5_ n6_ n7_
            clear hb hbox hg
            refine hK.out _ _ ⟨gb214, gb215, gb216, m9_, m10_, (.pointer (some ⟨gb216, 0, none⟩)), (by rw [ha.out]; exact putSel_upk 11 hb_ rfl rfl rfl), (by (with_reducible repeat (first | apply Kd.R_alloc | apply Kd.R_drewN | apply Kd.R_drew)); exact HO_3.out), (by (with_reducible repeat (first | refine blk_drewN ?_ _ | refine blk_drew ?_ | refine blk_alloc ?_ _)); exact BK207.out), (by repeat (first | (with_reducible first | exact HB.out | apply below_alloc | apply pw_below_drewN | apply below_drew1 | refine below_set ?_ GE207.out | refine below_set ?_ GE216.out) | exact HB.out)), Q_NB215_214, Q_NB214_215, @z_NB216_214, @z_NB214_216, @z_NB216_215, @z_NB215_216, z_BK214, Q_GW214, Q_GE214, Q_NB207_214, Q_NB214_207, z_BK215, Q_GW215, Q_GE215, Q_NB207_215, Q_NB215_207, fun _ _ => (by (with_reducible repeat (first | refine blk_drewN ?_ _ | refine blk_drew ?_ | refine blk_alloc ?_ _)); exact BK216.out), fun _ => GW216.out, fun _ => GE216.out, fun _ => NB207_216.out, fun _ => NB216_207.out, fun h0_ => absurd ((hoff 12 (by kernel_rfl)).symm.trans h0_) (by decide), fun h0_ => absurd ((hoff 13 (by kernel_rfl)).symm.trans h0_) (by decide), fun h0_ => absurd ((hoff 14 (by kernel_rfl)).symm.trans h0_) (by decide), Q_X9_, Q_X10_, fun _ => rfl⟩
          refine steps_cons ?_ ?_
          · rintro b a w' ⟨gb214, gb215, gb216, m9_, m10_, m11_, ha, Q_HO_3, Q_BK207, Q_HB, Q_NB215_214, Q_NB214_215, Q_NB216_214, Q_NB214_216, Q_NB216_215, Q_NB215_216, Q_BK214, Q_GW214, Q_GE214, Q_NB207_214, Q_NB214_207, Q_BK215, Q_GW215, Q_GE215, Q_NB207_215, Q_NB215_207, Q_BK216, Q_GW216, Q_GE216, Q_NB207_216, Q_NB216_207, Q_BK214_e12, Q_BK215_e13, Q_BK216_e14, Q_X9_, Q_X10_, Q_X11_⟩ hb_ hon hoff
            refine ⟨_, rfl, fun K hK => ?_⟩
            have e6 : a.tmps[6]? = some (m9_) := by rw [ha]; exact putSel_on (e := (9, 6, m9_)) 9 rfl rfl (hon 9 (by kernel_rfl)) rfl
            rw [Q_X9_ (hon 9 (by kernel_rfl))] at e6
            have e30 : a.tmps[30]? = some (.agg #[.int .i64 t208, .int .i64 t209]) := by rw [ha]; exact putSel_on (e := (2, 30, .agg #[.int .i64 t208, .int .i64 t209])) 2 rfl rfl (hon 2 (by kernel_rfl)) rfl
            replace ha := Aside0.mk ha
            have HO_3 := Aside0.mk Q_HO_3
            have BK207 := Aside0.mk Q_BK207
            have HB := Aside0.mk Q_HB
            have NB215_214 := Aside0.mk (Q_NB215_214 (hon 9 (by kernel_rfl)) (hon 10 (by kernel_rfl)))
            have NB214_215 := Aside0.mk (Q_NB214_215 (hon 9 (by kernel_rfl)) (hon 10 (by kernel_rfl)))
            have NB216_214 := Aside0.mk (Q_NB216_214 (hon 9 (by kernel_rfl)) (hon 11 (by kernel_rfl)))
            have NB214_216 := Aside0.mk (Q_NB214_216 (hon 9 (by kernel_rfl)) (hon 11 (by kernel_rfl)))
            have NB216_215 := Aside0.mk (Q_NB216_215 (hon 10 (by kernel_rfl)) (hon 11 (by kernel_rfl)))
            have NB215_216 := Aside0.mk (Q_NB215_216 (hon 10 (by kernel_rfl)) (hon 11 (by kernel_rfl)))
            have BK214 := Aside0.mk (Q_BK214 (hon 9 (by kernel_rfl)) hb_)
            have GW214 := Aside0.mk (Q_GW214 (hon 9 (by kernel_rfl)))
            have GE214 := Aside0.mk (Q_GE214 (hon 9 (by kernel_rfl)))
            have NB207_214 := Aside0.mk (Q_NB207_214 (hon 9 (by kernel_rfl)))
            have NB214_207 := Aside0.mk (Q_NB214_207 (hon 9 (by kernel_rfl)))
            have BK215 := Aside0.mk (Q_BK215 (hon 10 (by kernel_rfl)) (hoff 13 (by kernel_rfl)))
            have GW215 := Aside0.mk (Q_GW215 (hon 10 (by kernel_rfl)))
            have GE215 := Aside0.mk (Q_GE215 (hon 10 (by kernel_rfl)))
            have NB207_215 := Aside0.mk (Q_NB207_215 (hon 10 (by kernel_rfl)))
            have NB215_207 := Aside0.mk (Q_NB215_207 (hon 10 (by kernel_rfl)))
            have BK216 := Aside0.mk (Q_BK216 (hon 11 (by kernel_rfl)) (hoff 14 (by kernel_rfl)))
            have GW216 := Aside0.mk (Q_GW216 (hon 11 (by kernel_rfl)))
            have GE216 := Aside0.mk (Q_GE216 (hon 11 (by kernel_rfl)))
            have NB207_216 := Aside0.mk (Q_NB207_216 (hon 11 (by kernel_rfl)))
            have NB216_207 := Aside0.mk (Q_NB216_207 (hon 11 (by kernel_rfl)))
            have hs112 : w'.cell? ⟨gb214, 0, none⟩ = some (.int .i64 0) := (blk_cell BK214.out 0).trans rfl
            have hfs112 := blk_frozen BK214.out 0
            have hns112_0 := NB207_214.out
            have hns112_2 := NB215_214.out
            have hns112_3 := NB216_214.out
            have hms112_0 := NB214_207.out
            have hms112_2 := NB214_215.out
            have hms112_3 := NB214_216.out
            have hs113 : w'.cell? ⟨gb214, 1, none⟩ = some (.int .i64 0) := (blk_cell BK214.out 1).trans rfl
            have hfs113 := blk_frozen BK214.out 1
            have hns113_0 := NB207_214.out
            have hns113_2 := NB215_214.out
            have hns113_3 := NB216_214.out
            have hms113_0 := NB214_207.out
            have hms113_2 := NB214_215.out
            have hms113_3 := NB214_216.out
            refine skip_ (w1 := ?_) (by rfl) rfl ?_ ?_
            rotate_left
            · go_simp
              rfl
            refine hK.out _ _ ⟨gb214, gb215, gb216, m9_, m10_, m11_, (by rw [ha.out]; exact putSel_none (v := undef) rfl), (by (with_reducible repeat (first | apply Kd.R_alloc | apply Kd.R_drewN | apply Kd.R_drew)); exact Kd.R_mono (Kd.R_far (p := ⟨gb214, 1, none⟩) (Kd.R_far (p := ⟨gb214, 0, none⟩) (Kd.R_types HO_3.out BK214.out (by decide)) (fun _ hk => hk.2) (.int .i64 t208)) (fun _ hk => hk.2) (.int .i64 t209)) (fun _ hk => hk.1)), (by (with_reducible repeat (first | refine blk_drewN ?_ _ | refine blk_drew ?_ | refine blk_alloc ?_ _)); refine blk_far ?_ NB207_214.out _; (with_reducible repeat (first | refine blk_drewN ?_ _ | refine blk_drew ?_ | refine blk_alloc ?_ _)); refine blk_far ?_ NB207_214.out _; (with_reducible repeat (first | refine blk_drewN ?_ _ | refine blk_drew ?_ | refine blk_alloc ?_ _)); exact BK207.out), (by repeat (first | (with_reducible first | exact HB.out | apply below_alloc | apply pw_below_drewN | apply below_drew1 | refine below_set ?_ GE207.out | refine below_set ?_ GE214.out | refine below_set ?_ GE215.out | refine below_set ?_ GE216.out) | exact HB.out)), fun _ _ => NB215_214.out, fun _ _ => NB214_215.out, fun _ _ => NB216_214.out, fun _ _ => NB214_216.out, fun _ _ => NB216_215.out, fun _ _ => NB215_216.out, fun _ h1_ => absurd ((up_self b 12).symm.trans h1_) (by decide), fun _ => GW214.out, fun _ => GE214.out, fun _ => NB207_214.out, fun _ => NB214_207.out, fun _ _ => (by (with_reducible repeat (first | refine blk_drewN ?_ _ | refine blk_drew ?_ | refine blk_alloc ?_ _)); refine blk_far ?_ NB215_214.out _; (with_reducible repeat (first | refine blk_drewN ?_ _ | refine blk_drew ?_ | refine blk_alloc ?_ _)); refine blk_far ?_ NB215_214.out _; (with_reducible repeat (first | refine blk_drewN ?_ _ | refine blk_drew ?_ | refine blk_alloc ?_ _)); exact BK215.out), fun _ => GW215.out, fun _ => GE215.out, fun _ => NB207_215.out, fun _ => NB215_207.out, fun _ _ => (by (with_reducible repeat (first | refine blk_drewN ?_ _ | refine blk_drew ?_ | refine blk_alloc ?_ _)); refine blk_far ?_ NB216_214.out _; (with_reducible repeat (first | refine blk_drewN ?_ _ | refine blk_drew ?_ | refine blk_alloc ?_ _)); refine blk_far ?_ NB216_214.out _; (with_reducible repeat (first | refine blk_drewN ?_ _ | refine blk_drew ?_ | refine blk_alloc ?_ _)); exact BK216.out), fun _ => GW216.out, fun _ => GE216.out, fun _ => NB207_216.out, fun _ => NB216_207.out, fun _ => (by (with_reducible repeat (first | refine blk_drewN ?_ _ | refine blk_drew ?_ | refine blk_alloc ?_ _)); refine blk_put (cs := #[.int .i64 t208, .int .i64 0]) ?_ 1 _ rfl; (with_reducible repeat (first | refine blk_drewN ?_ _ | refine blk_drew ?_ | refine blk_alloc ?_ _)); refine blk_put (cs := #[.int .i64 0, .int .i64 0]) ?_ 0 _ rfl; (with_reducible repeat (first | refine blk_drewN ?_ _ | refine blk_drew ?_ | refine blk_alloc ?_ _)); exact BK214.out), fun h0_ => absurd ((hoff 13 (by kernel_rfl)).symm.trans h0_) (by decide), fun h0_ => absurd ((hoff 14 (by kernel_rfl)).symm.trans h0_) (by decide), Q_X9_, Q_X10_, Q_X11_⟩
          refine steps_cons ?_ ?_
          · rintro b a w' ⟨gb214, gb215, gb216, m9_, m10_, m11_, ha, Q_HO_3, Q_BK207, Q_HB, Q_NB215_214, Q_NB214_215, Q_NB216_214, Q_NB214_216, Q_NB216_215, Q_NB215_216, Q_BK214, Q_GW214, Q_GE214, Q_NB207_214, Q_NB214_207, Q_BK215, Q_GW215, Q_GE215, Q_NB207_215, Q_NB215_207, Q_BK216, Q_GW216, Q_GE216, Q_NB207_216, Q_NB216_207, Q_BK214_e12, Q_BK215_e13, Q_BK216_e14, Q_X9_, Q_X10_, Q_X11_⟩ hb_ hon hoff
            refine ⟨_, rfl, fun K hK => ?_⟩
            have e7 : a.tmps[7]? = some (m10_) := by rw [ha]; exact putSel_on (e := (10, 7, m10_)) 10 rfl rfl (hon 10 (by kernel_rfl)) rfl
            rw [Q_X10_ (hon 10 (by kernel_rfl))] at e7
            have e33 : a.tmps[33]? = some (.agg #[.int .i64 t210, .int .i64 t211]) := by rw [ha]; exact putSel_on (e := (5, 33, .agg #[.int .i64 t210, .int .i64 t211])) 5 rfl rfl (hon 5 (by kernel_rfl)) rfl
            replace ha := Aside0.mk ha
            have HO_3 := Aside0.mk Q_HO_3
            have BK207 := Aside0.mk Q_BK207
            have HB := Aside0.mk Q_HB
            have NB215_214 := Aside0.mk (Q_NB215_214 (hon 9 (by kernel_rfl)) (hon 10 (by kernel_rfl)))
            have NB214_215 := Aside0.mk (Q_NB214_215 (hon 9 (by kernel_rfl)) (hon 10 (by kernel_rfl)))
            have NB216_214 := Aside0.mk (Q_NB216_214 (hon 9 (by kernel_rfl)) (hon 11 (by kernel_rfl)))
            have NB214_216 := Aside0.mk (Q_NB214_216 (hon 9 (by kernel_rfl)) (hon 11 (by kernel_rfl)))
            have NB216_215 := Aside0.mk (Q_NB216_215 (hon 10 (by kernel_rfl)) (hon 11 (by kernel_rfl)))
            have NB215_216 := Aside0.mk (Q_NB215_216 (hon 10 (by kernel_rfl)) (hon 11 (by kernel_rfl)))
            have GW214 := Aside0.mk (Q_GW214 (hon 9 (by kernel_rfl)))
            have GE214 := Aside0.mk (Q_GE214 (hon 9 (by kernel_rfl)))
            have NB207_214 := Aside0.mk (Q_NB207_214 (hon 9 (by kernel_rfl)))
            have NB214_207 := Aside0.mk (Q_NB214_207 (hon 9 (by kernel_rfl)))
            have BK215 := Aside0.mk (Q_BK215 (hon 10 (by kernel_rfl)) hb_)
            have GW215 := Aside0.mk (Q_GW215 (hon 10 (by kernel_rfl)))
            have GE215 := Aside0.mk (Q_GE215 (hon 10 (by kernel_rfl)))
            have NB207_215 := Aside0.mk (Q_NB207_215 (hon 10 (by kernel_rfl)))
            have NB215_207 := Aside0.mk (Q_NB215_207 (hon 10 (by kernel_rfl)))
            have BK216 := Aside0.mk (Q_BK216 (hon 11 (by kernel_rfl)) (hoff 14 (by kernel_rfl)))
            have GW216 := Aside0.mk (Q_GW216 (hon 11 (by kernel_rfl)))
            have GE216 := Aside0.mk (Q_GE216 (hon 11 (by kernel_rfl)))
            have NB207_216 := Aside0.mk (Q_NB207_216 (hon 11 (by kernel_rfl)))
            have NB216_207 := Aside0.mk (Q_NB216_207 (hon 11 (by kernel_rfl)))
            have BK214 := Aside0.mk (Q_BK214_e12 (hon 12 (by kernel_rfl)))
            have hs114 : w'.cell? ⟨gb215, 0, none⟩ = some (.int .i64 0) := (blk_cell BK215.out 0).trans rfl
            have hfs114 := blk_frozen BK215.out 0
            have hns114_0 := NB207_215.out
            have hns114_1 := NB214_215.out
            have hns114_3 := NB216_215.out
            have hms114_0 := NB215_207.out
            have hms114_1 := NB215_214.out
            have hms114_3 := NB215_216.out
            have hs115 : w'.cell? ⟨gb215, 1, none⟩ = some (.int .i64 0) := (blk_cell BK215.out 1).trans rfl
            have hfs115 := blk_frozen BK215.out 1
            have hns115_0 := NB207_215.out
            have hns115_1 := NB214_215.out
            have hns115_3 := NB216_215.out
            have hms115_0 := NB215_207.out
            have hms115_1 := NB215_214.out
            have hms115_3 := NB215_216.out
            refine skip_ (w1 := ?_) (by rfl) rfl ?_ ?_
            rotate_left
            · go_simp
              rfl
            refine hK.out _ _ ⟨gb214, gb215, gb216, m9_, m10_, m11_, (by rw [ha.out]; exact putSel_none (v := undef) rfl), (by (with_reducible repeat (first | apply Kd.R_alloc | apply Kd.R_drewN | apply Kd.R_drew)); exact Kd.R_mono (Kd.R_far (p := ⟨gb215, 1, none⟩) (Kd.R_far (p := ⟨gb215, 0, none⟩) (Kd.R_types HO_3.out BK215.out (by decide)) (fun _ hk => hk.2) (.int .i64 t210)) (fun _ hk => hk.2) (.int .i64 t211)) (fun _ hk => hk.1)), (by (with_reducible repeat (first | refine blk_drewN ?_ _ | refine blk_drew ?_ | refine blk_alloc ?_ _)); refine blk_far ?_ NB207_215.out _; (with_reducible repeat (first | refine blk_drewN ?_ _ | refine blk_drew ?_ | refine blk_alloc ?_ _)); refine blk_far ?_ NB207_215.out _; (with_reducible repeat (first | refine blk_drewN ?_ _ | refine blk_drew ?_ | refine blk_alloc ?_ _)); exact BK207.out), (by repeat (first | (with_reducible first | exact HB.out | apply below_alloc | apply pw_below_drewN | apply below_drew1 | refine below_set ?_ GE207.out | refine below_set ?_ GE214.out | refine below_set ?_ GE215.out | refine below_set ?_ GE216.out) | exact HB.out)), fun _ _ => NB215_214.out, fun _ _ => NB214_215.out, fun _ _ => NB216_214.out, fun _ _ => NB214_216.out, fun _ _ => NB216_215.out, fun _ _ => NB215_216.out, fun _ h1_ => absurd ((hon 12 (by kernel_rfl)).symm.trans h1_) (by decide), fun _ => GW214.out, fun _ => GE214.out, fun _ => NB207_214.out, fun _ => NB214_207.out, fun _ h1_ => absurd ((up_self b 13).symm.trans h1_) (by decide), fun _ => GW215.out, fun _ => GE215.out, fun _ => NB207_215.out, fun _ => NB215_207.out, fun _ _ => (by (with_reducible repeat (first | refine blk_drewN ?_ _ | refine blk_drew ?_ | refine blk_alloc ?_ _)); refine blk_far ?_ NB216_215.out _; (with_reducible repeat (first | refine blk_drewN ?_ _ | refine blk_drew ?_ | refine blk_alloc ?_ _)); refine blk_far ?_ NB216_215.out _; (with_reducible repeat (first | refine blk_drewN ?_ _ | refine blk_drew ?_ | refine blk_alloc ?_ _)); exact BK216.out), fun _ => GW216.out, fun _ => GE216.out, fun _ => NB207_216.out, fun _ => NB216_207.out, fun _ => (by (with_reducible repeat (first | refine blk_drewN ?_ _ | refine blk_drew ?_ | refine blk_alloc ?_ _)); refine blk_far ?_ NB214_215.out _; (with_reducible repeat (first | refine blk_drewN ?_ _ | refine blk_drew ?_ | refine blk_alloc ?_ _)); refine blk_far ?_ NB214_215.out _; (with_reducible repeat (first | refine blk_drewN ?_ _ | refine blk_drew ?_ | refine blk_alloc ?_ _)); exact BK214.out), fun _ => (by (with_reducible repeat (first | refine blk_drewN ?_ _ | refine blk_drew ?_ | refine blk_alloc ?_ _)); refine blk_put (cs := #[.int .i64 t210, .int .i64 0]) ?_ 1 _ rfl; (with_reducible repeat (first | refine blk_drewN ?_ _ | refine blk_drew ?_ | refine blk_alloc ?_ _)); refine blk_put (cs := #[.int .i64 0, .int .i64 0]) ?_ 0 _ rfl; (with_reducible repeat (first | refine blk_drewN ?_ _ | refine blk_drew ?_ | refine blk_alloc ?_ _)); exact BK215.out), fun h0_ => absurd ((hoff 14 (by kernel_rfl)).symm.trans h0_) (by decide), Q_X9_, Q_X10_, Q_X11_⟩
          refine steps_cons ?_ ?_
          · rintro b a w' ⟨gb214, gb215, gb216, m9_, m10_, m11_, ha, Q_HO_3, Q_BK207, Q_HB, Q_NB215_214, Q_NB214_215, Q_NB216_214, Q_NB214_216, Q_NB216_215, Q_NB215_216, Q_BK214, Q_GW214, Q_GE214, Q_NB207_214, Q_NB214_207, Q_BK215, Q_GW215, Q_GE215, Q_NB207_215, Q_NB215_207, Q_BK216, Q_GW216, Q_GE216, Q_NB207_216, Q_NB216_207, Q_BK214_e12, Q_BK215_e13, Q_BK216_e14, Q_X9_, Q_X10_, Q_X11_⟩ hb_ hon hoff
            refine ⟨_, rfl, fun K hK => ?_⟩
            have e8 : a.tmps[8]? = some (m11_) := by rw [ha]; exact putSel_on (e := (11, 8, m11_)) 11 rfl rfl (hon 11 (by kernel_rfl)) rfl
            rw [Q_X11_ (hon 11 (by kernel_rfl))] at e8
            have e36 : a.tmps[36]? = some (.agg #[.int .i64 t212, .int .i64 t213]) := by rw [ha]; exact putSel_on (e := (8, 36, .agg #[.int .i64 t212, .int .i64 t213])) 8 rfl rfl (hon 8 (by kernel_rfl)) rfl
            replace ha := Aside0.mk ha
            have HO_3 := Aside0.mk Q_HO_3
            have BK207 := Aside0.mk Q_BK207
            have HB := Aside0.mk Q_HB
            have NB215_214 := Aside0.mk (Q_NB215_214 (hon 9 (by kernel_rfl)) (hon 10 (by kernel_rfl)))
            have NB214_215 := Aside0.mk (Q_NB214_215 (hon 9 (by kernel_rfl)) (hon 10 (by kernel_rfl)))
            have NB216_214 := Aside0.mk (Q_NB216_214 (hon 9 (by kernel_rfl)) (hon 11 (by kernel_rfl)))
            have NB214_216 := Aside0.mk (Q_NB214_216 (hon 9 (by kernel_rfl)) (hon 11 (by kernel_rfl)))
            have NB216_215 := Aside0.mk (Q_NB216_215 (hon 10 (by kernel_rfl)) (hon 11 (by kernel_rfl)))
            have NB215_216 := Aside0.mk (Q_NB215_216 (hon 10 (by kernel_rfl)) (hon 11 (by kernel_rfl)))
            have GW214 := Aside0.mk (Q_GW214 (hon 9 (by kernel_rfl)))
            have GE214 := Aside0.mk (Q_GE214 (hon 9 (by kernel_rfl)))
            have NB207_214 := Aside0.mk (Q_NB207_214 (hon 9 (by kernel_rfl)))
            have NB214_207 := Aside0.mk (Q_NB214_207 (hon 9 (by kernel_rfl)))
            have GW215 := Aside0.mk (Q_GW215 (hon 10 (by kernel_rfl)))
            have GE215 := Aside0.mk (Q_GE215 (hon 10 (by kernel_rfl)))
            have NB207_215 := Aside0.mk (Q_NB207_215 (hon 10 (by kernel_rfl)))
            have NB215_207 := Aside0.mk (Q_NB215_207 (hon 10 (by kernel_rfl)))
            have BK216 := Aside0.mk (Q_BK216 (hon 11 (by kernel_rfl)) hb_)
            have GW216 := Aside0.mk (Q_GW216 (hon 11 (by kernel_rfl)))
            have GE216 := Aside0.mk (Q_GE216 (hon 11 (by kernel_rfl)))
            have NB207_216 := Aside0.mk (Q_NB207_216 (hon 11 (by kernel_rfl)))
            have NB216_207 := Aside0.mk (Q_NB216_207 (hon 11 (by kernel_rfl)))
            have BK214 := Aside0.mk (Q_BK214_e12 (hon 12 (by kernel_rfl)))
            have BK215 := Aside0.mk (Q_BK215_e13 (hon 13 (by kernel_rfl)))
            have hs116 : w'.cell? ⟨gb216, 0, none⟩ = some (.int .i64 0) := (blk_cell BK216.out 0).trans rfl
            have hfs116 := blk_frozen BK216.out 0
            have hns116_0 := NB207_216.out
            have hns116_1 := NB214_216.out
            have hns116_2 := NB215_216.out
            have hms116_0 := NB216_207.out
            have hms116_1 := NB216_214.out
            have hms116_2 := NB216_215.out
            have hs117 : w'.cell? ⟨gb216, 1, none⟩ = some (.int .i64 0) := (blk_cell BK216.out 1).trans rfl
            have hfs117 := blk_frozen BK216.out 1
            have hns117_0 := NB207_216.out
            have hns117_1 := NB214_216.out
            have hns117_2 := NB215_216.out
            have hms117_0 := NB216_207.out
            have hms117_1 := NB216_214.out
            have hms117_2 := NB216_215.out
            refine skip_ (w1 := ?_) (by rfl) rfl ?_ ?_
            rotate_left
            · go_simp
              rfl
            refine hK.out _ _ ⟨gb214, gb215, gb216, m9_, m10_, m11_, (by rw [ha.out]; exact putSel_none (v := undef) rfl), (by (with_reducible repeat (first | apply Kd.R_alloc | apply Kd.R_drewN | apply Kd.R_drew)); exact Kd.R_mono (Kd.R_far (p := ⟨gb216, 1, none⟩) (Kd.R_far (p := ⟨gb216, 0, none⟩) (Kd.R_types HO_3.out BK216.out (by decide)) (fun _ hk => hk.2) (.int .i64 t212)) (fun _ hk => hk.2) (.int .i64 t213)) (fun _ hk => hk.1)), (by (with_reducible repeat (first | refine blk_drewN ?_ _ | refine blk_drew ?_ | refine blk_alloc ?_ _)); refine blk_far ?_ NB207_216.out _; (with_reducible repeat (first | refine blk_drewN ?_ _ | refine blk_drew ?_ | refine blk_alloc ?_ _)); refine blk_far ?_ NB207_216.out _; (with_reducible repeat (first | refine blk_drewN ?_ _ | refine blk_drew ?_ | refine blk_alloc ?_ _)); exact BK207.out), (by repeat (first | (with_reducible first | exact HB.out | apply below_alloc | apply pw_below_drewN | apply below_drew1 | refine below_set ?_ GE207.out | refine below_set ?_ GE214.out | refine below_set ?_ GE215.out | refine below_set ?_ GE216.out) | exact HB.out)), fun _ _ => NB215_214.out, fun _ _ => NB214_215.out, fun _ _ => NB216_214.out, fun _ _ => NB214_216.out, fun _ _ => NB216_215.out, fun _ _ => NB215_216.out, fun _ h1_ => absurd ((hon 12 (by kernel_rfl)).symm.trans h1_) (by decide), fun _ => GW214.out, fun _ => GE214.out, fun _ => NB207_214.out, fun _ => NB214_207.out, fun _ h1_ => absurd ((hon 13 (by kernel_rfl)).symm.trans h1_) (by decide), fun _ => GW215.out, fun _ => GE215.out, fun _ => NB207_215.out, fun _ => NB215_207.out, fun _ h1_ => absurd ((up_self b 14).symm.trans h1_) (by decide), fun _ => GW216.out, fun _ => GE216.out, fun _ => NB207_216.out, fun _ => NB216_207.out, fun _ => (by (with_reducible repeat (first | refine blk_drewN ?_ _ | refine blk_drew ?_ | refine blk_alloc ?_ _)); refine blk_far ?_ NB214_216.out _; (with_reducible repeat (first | refine blk_drewN ?_ _ | refine blk_drew ?_ | refine blk_alloc ?_ _)); refine blk_far ?_ NB214_216.out _; (with_reducible repeat (first | refine blk_drewN ?_ _ | refine blk_drew ?_ | refine blk_alloc ?_ _)); exact BK214.out), fun _ => (by (with_reducible repeat (first | refine blk_drewN ?_ _ | refine blk_drew ?_ | refine blk_alloc ?_ _)); refine blk_far ?_ NB215_216.out _; (with_reducible repeat (first | refine blk_drewN ?_ _ | refine blk_drew ?_ | refine blk_alloc ?_ _)); refine blk_far ?_ NB215_216.out _; (with_reducible repeat (first | refine blk_drewN ?_ _ | refine blk_drew ?_ | refine blk_alloc ?_ _)); exact BK215.out), fun _ => (by (with_reducible repeat (first | refine blk_drewN ?_ _ | refine blk_drew ?_ | refine blk_alloc ?_ _)); refine blk_put (cs := #[.int .i64 t212, .int .i64 0]) ?_ 1 _ rfl; (with_reducible repeat (first | refine blk_drewN ?_ _ | refine blk_drew ?_ | refine blk_alloc ?_ _)); refine blk_put (cs := #[.int .i64 0, .int .i64 0]) ?_ 0 _ rfl; (with_reducible repeat (first | refine blk_drewN ?_ _ | refine blk_drew ?_ | refine blk_alloc ?_ _)); exact BK216.out), Q_X9_, Q_X10_, Q_X11_⟩
          exact steps_nil
        rintro b a w117 hall ⟨gb214, gb215, gb216, m9_, m10_, m11_, ha, Q_HO_3, Q_BK207, Q_HB, Q_NB215_214, Q_NB214_215, Q_NB216_214, Q_NB214_216, Q_NB216_215, Q_NB215_216, Q_BK214, Q_GW214, Q_GE214, Q_NB207_214, Q_NB214_207, Q_BK215, Q_GW215, Q_GE215, Q_NB207_215, Q_NB215_207, Q_BK216, Q_GW216, Q_GE216, Q_NB207_216, Q_NB216_207, Q_BK214_e12, Q_BK215_e13, Q_BK216_e14, Q_X9_, Q_X10_, Q_X11_⟩
        clear BK207 HB HO_3
        have hb0_ := hall 0 (by kernel_rfl)
        have hb1_ := hall 1 (by kernel_rfl)
        have hb2_ := hall 2 (by kernel_rfl)
        have hb3_ := hall 3 (by kernel_rfl)
        have hb4_ := hall 4 (by kernel_rfl)
        have hb5_ := hall 5 (by kernel_rfl)
        have hb6_ := hall 6 (by kernel_rfl)
        have hb7_ := hall 7 (by kernel_rfl)
        have hb8_ := hall 8 (by kernel_rfl)
        have hb9_ := hall 9 (by kernel_rfl)
        have hb10_ := hall 10 (by kernel_rfl)
        have hb11_ := hall 11 (by kernel_rfl)
        have hb12_ := hall 12 (by kernel_rfl)
        have hb13_ := hall 13 (by kernel_rfl)
        have hb14_ := hall 14 (by kernel_rfl)
        subst ha
        obtain rfl := Q_X9_ hb9_
        obtain rfl := Q_X10_ hb10_
        obtain rfl := Q_X11_ hb11_
        simp only [putSel, hb0_, hb1_, hb2_, hb3_, hb4_, hb5_, hb6_, hb7_, hb8_, hb9_, hb10_, hb11_, hb12_, hb13_, hb14_, if_true, Act.put, List.setIfInBounds_toArray, List.set_cons_zero, List.set_cons_succ]
        have HO_3 := Aside0.mk Q_HO_3
        clear Q_HO_3
        have BK207 := Aside0.mk Q_BK207
        clear Q_BK207
        have HB := Aside0.mk Q_HB
        clear Q_HB
        have NB215_214 := Aside0.mk (Q_NB215_214 hb9_ hb10_)
        clear Q_NB215_214
        have NB214_215 := Aside0.mk (Q_NB214_215 hb9_ hb10_)
        clear Q_NB214_215
        have NB216_214 := Aside0.mk (Q_NB216_214 hb9_ hb11_)
        clear Q_NB216_214
        have NB214_216 := Aside0.mk (Q_NB214_216 hb9_ hb11_)
        clear Q_NB214_216
        have NB216_215 := Aside0.mk (Q_NB216_215 hb10_ hb11_)
        clear Q_NB216_215
        have NB215_216 := Aside0.mk (Q_NB215_216 hb10_ hb11_)
        clear Q_NB215_216
        clear Q_BK214
        have GW214 := Aside0.mk (Q_GW214 hb9_)
        clear Q_GW214
        have GE214 := Aside0.mk (Q_GE214 hb9_)
        clear Q_GE214
        have NB207_214 := Aside0.mk (Q_NB207_214 hb9_)
        clear Q_NB207_214
        have NB214_207 := Aside0.mk (Q_NB214_207 hb9_)
        clear Q_NB214_207
        clear Q_BK215
        have GW215 := Aside0.mk (Q_GW215 hb10_)
        clear Q_GW215
        have GE215 := Aside0.mk (Q_GE215 hb10_)
        clear Q_GE215
        have NB207_215 := Aside0.mk (Q_NB207_215 hb10_)
        clear Q_NB207_215
        have NB215_207 := Aside0.mk (Q_NB215_207 hb10_)
        clear Q_NB215_207
        clear Q_BK216
        have GW216 := Aside0.mk (Q_GW216 hb11_)
        clear Q_GW216
        have GE216 := Aside0.mk (Q_GE216 hb11_)
        clear Q_GE216
        have NB207_216 := Aside0.mk (Q_NB207_216 hb11_)
        clear Q_NB207_216
        have NB216_207 := Aside0.mk (Q_NB216_207 hb11_)
        clear Q_NB216_207
        have BK214 := Aside0.mk (Q_BK214_e12 hb12_)
        clear Q_BK214_e12
        have BK215 := Aside0.mk (Q_BK215_e13 hb13_)
        clear Q_BK215_e13
        have BK216 := Aside0.mk (Q_BK216_e14 hb14_)
        clear Q_BK216_e14
        clear hall hb0_ hb1_ hb2_ hb3_ hb4_ hb5_ hb6_ hb7_ hb8_ hb9_ hb10_ hb11_ hb12_ hb13_ hb14_
        have hnb118 := NB214_207.out
        have hnc118 := NB207_214.out
        have hnb119 := NB214_215.out
        have hnc119 := NB215_214.out
        have hnb120 := NB214_216.out
        have hnc120 := NB216_214.out
        have hcz121_0 : w117.cell? ⟨gb214, 0, none⟩ = some (.int .i64 t208) := (blk_cell BK214.out 0).trans rfl
        have hcz121_1 : w117.cell? ⟨gb214, 1, none⟩ = some (.int .i64 t209) := (blk_cell BK214.out 1).trans rfl
        have hfz121_0 := blk_frozen BK214.out 0
        have hfz121_1 := blk_frozen BK214.out 1
        have H := HH.out
        clear HH
        by_cases c9 : t217 = 1
        · rw [if_pos c9] at H
          have c9b0 : (t217 == 1) = true := beq_iff_eq.mpr c9
          have c9b1 : (t217 != 1) = false := bne_eq_false_iff_eq.mpr c9
          clear c9
          replace H := Option.bind_eq_some_iff.mp H
          obtain ⟨t218, A100, H⟩ := H
          replace H : (if t218 = 1 then ((impl_norm.f a0 t212 t213).bind fun t219 => (if t219 = (wrap64 (2 + a0)) then (if x3_1.length < 4398046511104 then (impl_pointMats.l0 k1 a0 (x3_1 ++ [(⟨wrap64 ((wrap64 (Int.tdiv x10_1 27)) - 1), wrap64 ((Int.tmod (wrap64 (Int.tdiv x10_1 9)) 3) - 1), wrap64 ((Int.tmod (wrap64 (Int.tdiv x10_1 3)) 3) - 1), wrap64 ((Int.tmod x10_1 3) - 1)⟩ : S51)]) (wrap64 (x10_1 + 1))) else (none)) else (impl_pointMats.l0 k1 a0 x3_1 (wrap64 (x10_1 + 1))))) else (impl_pointMats.l0 k1 a0 x3_1 (wrap64 (x10_1 + 1)))) = some r := H
          have A10 := Aside0.mk A100
          clear A100
          by_cases c11 : t218 = 1
          · rw [if_pos c11] at H
            have c11b0 : (t218 == 1) = true := beq_iff_eq.mpr c11
            have c11b1 : (t218 != 1) = false := bne_eq_false_iff_eq.mpr c11
            clear c11
            replace H := Option.bind_eq_some_iff.mp H
            obtain ⟨t219, A120, H⟩ := H
            replace H : (if t219 = (wrap64 (2 + a0)) then (if x3_1.length < 4398046511104 then (impl_pointMats.l0 k1 a0 (x3_1 ++ [(⟨wrap64 ((wrap64 (Int.tdiv x10_1 27)) - 1), wrap64 ((Int.tmod (wrap64 (Int.tdiv x10_1 9)) 3) - 1), wrap64 ((Int.tmod (wrap64 (Int.tdiv x10_1 3)) 3) - 1), wrap64 ((Int.tmod x10_1 3) - 1)⟩ : S51)]) (wrap64 (x10_1 + 1))) else (none)) else (impl_pointMats.l0 k1 a0 x3_1 (wrap64 (x10_1 + 1)))) = some r := H
            have A12 := Aside0.mk A120
            clear A120
            by_cases c13 : t219 = (wrap64 (2 + a0))
            · rw [if_pos c13] at H
              have c13b0 : (t219 == (wrap64 (2 + a0))) = true := beq_iff_eq.mpr c13
              have c13b1 : (t219 != (wrap64 (2 + a0))) = false := bne_eq_false_iff_eq.mpr c13
              clear c13
              by_cases c14 : x3_1.length < 4398046511104
              · rw [if_pos c14] at H
                have LMc14 := Aside0.mk c14
                clear c14
                obtain ⟨y220, hy220⟩ : ∃ y_ : List (S51), y_ = (x3_1 ++ [(⟨wrap64 ((wrap64 (Int.tdiv x10_1 27)) - 1), wrap64 ((Int.tmod (wrap64 (Int.tdiv x10_1 9)) 3) - 1), wrap64 ((Int.tmod (wrap64 (Int.tdiv x10_1 3)) 3) - 1), wrap64 ((Int.tmod x10_1 3) - 1)⟩ : S51)]) := ⟨_, rfl⟩
                replace H : (impl_pointMats.l0 k1 a0 y220 (wrap64 (x10_1 + 1))) = some r := by first | (rw [hy220]; with_reducible exact H) | (have H2_ := (Option.bind_some _ _).symm.trans H; rw [hy220]; with_reducible exact H2_) | (have H2_ := (Option.bind_some _ _).symm.trans H; with_reducible exact H2_) | with_reducible exact H | (rw [hy220]; exact H) | exact H
                have Ny220 := Aside0.mk hy220
                clear hy220
                have H' := Aside0.mk H
                clear H
                try go_wp2_with (first | ((with_reducible refine gate_callee (f := 76) rfl ?_); refine goesL_ (some 39) rfl rfl Try.func76 (by kernel_rfl) rfl #[.int .i64 a0, .agg #[.int .i64 t208, .int .i64 t209]] rfl (by (try simp only [List.map_toArray, List.map_cons, List.map_nil]); first | done | rfl | (simp only [List.length_drop, List.length_take]; rfl)) ?_; (with_reducible refine (impl_norm.calls a0 t208 t209 t217 _ A8.out).mono ?_); rintro e w36 ⟨rfl, hb⟩; refine ⟨_, rfl, ?_⟩; have n0_ := Aside0.mk (Kd.R_below (by (with_reducible repeat (first | apply Kd.R_alloc | apply Kd.R_drewN | apply Kd.R_drew)); exact HO_3.out) hb); have n1_ := Aside0.mk (blk_below (g := gb207) (o := .cells #[.int .i64 (wrap64 ((wrap64 (Int.tdiv x10_1 27)) - 1)), .int .i64 (wrap64 ((Int.tmod (wrap64 (Int.tdiv x10_1 9)) 3) - 1)), .int .i64 (wrap64 ((Int.tmod (wrap64 (Int.tdiv x10_1 3)) 3) - 1)), .int .i64 (wrap64 ((Int.tmod x10_1 3) - 1))] 51 (0, 0)) (by (with_reducible repeat (first | refine blk_drewN ?_ _ | refine blk_drew ?_ | refine blk_alloc ?_ _)); exact BK207.out) hb); have n2_ := Aside0.mk (blk_below (g := gb214) (o := .cells #[.int .i64 t208, .int .i64 t209] 47 (0, 0)) (by (with_reducible repeat (first | refine blk_drewN ?_ _ | refine blk_drew ?_ | refine blk_alloc ?_ _)); exact BK214.out) hb); have n3_ := Aside0.mk (blk_below (g := gb215) (o := .cells #[.int .i64 t210, .int .i64 t211] 47 (0, 0)) (by (with_reducible repeat (first | refine blk_drewN ?_ _ | refine blk_drew ?_ | refine blk_alloc ?_ _)); exact BK215.out) hb); have n4_ := Aside0.mk (blk_below (g := gb216) (o := .cells #[.int .i64 t212, .int .i64 t213] 47 (0, 0)) (by (with_reducible repeat (first | refine blk_drewN ?_ _ | refine blk_drew ?_ | refine blk_alloc ?_ _)); exact BK216.out) hb); have n5_ := Aside0.mk (below_step (by repeat (first | (with_reducible first | exact HB.out | apply below_alloc | apply pw_below_drewN | apply below_drew1 | refine below_set ?_ GE207.out | refine below_set ?_ GE214.out | refine below_set ?_ GE215.out | refine below_set ?_ GE216.out) | exact HB.out)) hb); clear HO_3; clear BK207; clear BK214; clear BK215; clear BK216; clear HB; have HO_3 := n0_; have BK207 := n1_; have BK214 := n2_; have BK215 := n3_; have BK216 := n4_; have HB := n5_; clear n0_ n1_ n2_ n3_ n4_ n5_; (try clear hb); (try clear hb2); (try clear hk); (try clear hi); have hnb37 := NB215_207.out; have hnc37 := NB207_215.out; have hnb38 := NB215_216.out; have hnc38 := NB216_215.out; have hcz39_0 : w36.cell? ⟨gb215, 0, none⟩ = some (.int .i64 t210) := (blk_cell BK215.out 0).trans rfl; have hcz39_1 : w36.cell? ⟨gb215, 1, none⟩ = some (.int .i64 t211) := (blk_cell BK215.out 1).trans rfl; have hfz39_0 := blk_frozen BK215.out 0; have hfz39_1 := blk_frozen BK215.out 1) | (go_at_call 76; (with_reducible refine (impl_norm.calls a0 t210 t211 t218 _ A10.out).mono ?_); rintro e w40 ⟨rfl, hb⟩; have n0_ := Aside0.mk (Kd.R_below (by (with_reducible repeat (first | apply Kd.R_alloc | apply Kd.R_drewN | apply Kd.R_drew)); exact HO_3.out) hb); have n1_ := Aside0.mk (blk_below (g := gb207) (o := .cells #[.int .i64 (wrap64 ((wrap64 (Int.tdiv x10_1 27)) - 1)), .int .i64 (wrap64 ((Int.tmod (wrap64 (Int.tdiv x10_1 9)) 3) - 1)), .int .i64 (wrap64 ((Int.tmod (wrap64 (Int.tdiv x10_1 3)) 3) - 1)), .int .i64 (wrap64 ((Int.tmod x10_1 3) - 1))] 51 (0, 0)) (by (with_reducible repeat (first | refine blk_drewN ?_ _ | refine blk_drew ?_ | refine blk_alloc ?_ _)); exact BK207.out) hb); have n2_ := Aside0.mk (blk_below (g := gb214) (o := .cells #[.int .i64 t208, .int .i64 t209] 47 (0, 0)) (by (with_reducible repeat (first | refine blk_drewN ?_ _ | refine blk_drew ?_ | refine blk_alloc ?_ _)); exact BK214.out) hb); have n3_ := Aside0.mk (blk_below (g := gb215) (o := .cells #[.int .i64 t210, .int .i64 t211] 47 (0, 0)) (by (with_reducible repeat (first | refine blk_drewN ?_ _ | refine blk_drew ?_ | refine blk_alloc ?_ _)); exact BK215.out) hb); have n4_ := Aside0.mk (blk_below (g := gb216) (o := .cells #[.int .i64 t212, .int .i64 t213] 47 (0, 0)) (by (with_reducible repeat (first | refine blk_drewN ?_ _ | refine blk_drew ?_ | refine blk_alloc ?_ _)); exact BK216.out) hb); have n5_ := Aside0.mk (below_step (by repeat (first | (with_reducible first | exact HB.out | apply below_alloc | apply pw_below_drewN | apply below_drew1 | refine below_set ?_ GE207.out | refine below_set ?_ GE214.out | refine below_set ?_ GE215.out | refine below_set ?_ GE216.out) | exact HB.out)) hb); clear HO_3; clear BK207; clear BK214; clear BK215; clear BK216; clear HB; have HO_3 := n0_; have BK207 := n1_; have BK214 := n2_; have BK215 := n3_; have BK216 := n4_; have HB := n5_; clear n0_ n1_ n2_ n3_ n4_ n5_; (try clear hb); (try clear hb2); (try clear hk); (try clear hi); have hnb41 := NB216_207.out; have hnc41 := NB207_216.out; have hcz42_0 : w40.cell? ⟨gb216, 0, none⟩ = some (.int .i64 t212) := (blk_cell BK216.out 0).trans rfl; have hcz42_1 : w40.cell? ⟨gb216, 1, none⟩ = some (.int .i64 t213) := (blk_cell BK216.out 1).trans rfl; have hfz42_0 := blk_frozen BK216.out 0; have hfz42_1 := blk_frozen BK216.out 1) | (go_at_call 76; (with_reducible refine (impl_norm.calls a0 t212 t213 t219 _ A12.out).mono ?_); rintro e w43 ⟨rfl, hb⟩; have n0_ := Aside0.mk (Kd.R_below (by (with_reducible repeat (first | apply Kd.R_alloc | apply Kd.R_drewN | apply Kd.R_drew)); exact HO_3.out) hb); have n1_ := Aside0.mk (blk_below (g := gb207) (o := .cells #[.int .i64 (wrap64 ((wrap64 (Int.tdiv x10_1 27)) - 1)), .int .i64 (wrap64 ((Int.tmod (wrap64 (Int.tdiv x10_1 9)) 3) - 1)), .int .i64 (wrap64 ((Int.tmod (wrap64 (Int.tdiv x10_1 3)) 3) - 1)), .int .i64 (wrap64 ((Int.tmod x10_1 3) - 1))] 51 (0, 0)) (by (with_reducible repeat (first | refine blk_drewN ?_ _ | refine blk_drew ?_ | refine blk_alloc ?_ _)); exact BK207.out) hb); have n2_ := Aside0.mk (blk_below (g := gb214) (o := .cells #[.int .i64 t208, .int .i64 t209] 47 (0, 0)) (by (with_reducible repeat (first | refine blk_drewN ?_ _ | refine blk_drew ?_ | refine blk_alloc ?_ _)); exact BK214.out) hb); have n3_ := Aside0.mk (blk_below (g := gb215) (o := .cells #[.int .i64 t210, .int .i64 t211] 47 (0, 0)) (by (with_reducible repeat (first | refine blk_drewN ?_ _ | refine blk_drew ?_ | refine blk_alloc ?_ _)); exact BK215.out) hb); have n4_ := Aside0.mk (blk_below (g := gb216) (o := .cells #[.int .i64 t212, .int .i64 t213] 47 (0, 0)) (by (with_reducible repeat (first | refine blk_drewN ?_ _ | refine blk_drew ?_ | refine blk_alloc ?_ _)); exact BK216.out) hb); have n5_ := Aside0.mk (below_step (by repeat (first | (with_reducible first | exact HB.out | apply below_alloc | apply pw_below_drewN | apply below_drew1 | refine below_set ?_ GE207.out | refine below_set ?_ GE214.out | refine below_set ?_ GE215.out | refine below_set ?_ GE216.out) | exact HB.out)) hb); clear HO_3; clear BK207; clear BK214; clear BK215; clear BK216; clear HB; have HO_3 := n0_; have BK207 := n1_; have BK214 := n2_; have BK215 := n3_; have BK216 := n4_; have HB := n5_; clear n0_ n1_ n2_ n3_ n4_ n5_; (try clear hb); (try clear hb2); (try clear hk); (try clear hi); have hcz44_0 : w43.cell? ⟨gb207, 0, none⟩ = some (.int .i64 (wrap64 ((wrap64 (Int.tdiv x10_1 27)) - 1))) := (blk_cell BK207.out 0).trans rfl; have hcz44_1 : w43.cell? ⟨gb207, 1, none⟩ = some (.int .i64 (wrap64 ((Int.tmod (wrap64 (Int.tdiv x10_1 9)) 3) - 1))) := (blk_cell BK207.out 1).trans rfl; have hcz44_2 : w43.cell? ⟨gb207, 2, none⟩ = some (.int .i64 (wrap64 ((Int.tmod (wrap64 (Int.tdiv x10_1 3)) 3) - 1))) := (blk_cell BK207.out 2).trans rfl; have hcz44_3 : w43.cell? ⟨gb207, 3, none⟩ = some (.int .i64 (wrap64 ((Int.tmod x10_1 3) - 1))) := (blk_cell BK207.out 3).trans rfl; have hfz44_0 := blk_frozen BK207.out 0; have hfz44_1 := blk_frozen BK207.out 1; have hfz44_2 := blk_frozen BK207.out 2; have hfz44_3 := blk_frozen BK207.out 3) | ((with_reducible refine gate_builtin (b := .append) (xs := #[.tmp 55, .tmp 57]) rfl ?_); at_builtin; refine Kd.R_append k51 (w0 := w) w.heap.size rfl (.tmp 55) (.tmp 57) 30 51 (.agg #[(.int .i64 0), (.int .i64 0), (.int .i64 0), (.int .i64 0)]) 32 rfl Try.underlying30 info51 rfl (by decide) (by omega) u3 x3_1 (⟨wrap64 ((wrap64 (Int.tdiv x10_1 27)) - 1), wrap64 ((Int.tmod (wrap64 (Int.tdiv x10_1 9)) 3) - 1), wrap64 ((Int.tmod (wrap64 (Int.tdiv x10_1 3)) 3) - 1), wrap64 ((Int.tmod x10_1 3) - 1)⟩ : S51) [.int .i64 (wrap64 ((wrap64 (Int.tdiv x10_1 27)) - 1)), .int .i64 (wrap64 ((Int.tmod (wrap64 (Int.tdiv x10_1 9)) 3) - 1)), .int .i64 (wrap64 ((Int.tmod (wrap64 (Int.tdiv x10_1 3)) 3) - 1)), .int .i64 (wrap64 ((Int.tmod x10_1 3) - 1))] (fun k_ => k_ ≠ gb207) (fun _ => False) rfl rfl ?aP (fun _ hk => hk.elim) ?aF ?aO ?aB ?aS ?aL ?_; (case aP => exact k51_mkM _ _ _ (⟨wrap64 ((wrap64 (Int.tdiv x10_1 27)) - 1), wrap64 ((Int.tmod (wrap64 (Int.tdiv x10_1 9)) 3) - 1), wrap64 ((Int.tmod (wrap64 (Int.tdiv x10_1 3)) 3) - 1), wrap64 ((Int.tmod x10_1 3) - 1)⟩ : S51)); (case aB => exact (by repeat (first | (with_reducible first | exact HB.out | apply below_alloc | apply pw_below_drewN | apply below_drew1 | refine below_set ?_ GE207.out | refine below_set ?_ GE214.out | refine below_set ?_ GE215.out | refine below_set ?_ GE216.out) | exact HB.out))); (case aF => exact (fun k_ hk => Kd.freshB (g := gb207) (o := .cells #[.int .i64 (wrap64 ((wrap64 (Int.tdiv x10_1 27)) - 1)), .int .i64 (wrap64 ((Int.tmod (wrap64 (Int.tdiv x10_1 9)) 3) - 1)), .int .i64 (wrap64 ((Int.tmod (wrap64 (Int.tdiv x10_1 3)) 3) - 1)), .int .i64 (wrap64 ((Int.tmod x10_1 3) - 1))] 51 (0, 0)) (by (with_reducible repeat (first | refine blk_drewN ?_ _ | refine blk_drew ?_ | refine blk_alloc ?_ _)); exact BK207.out) k_ hk)); (case aO => exact (by (with_reducible repeat (first | apply Kd.R_alloc | apply Kd.R_drewN | apply Kd.R_drew)); exact HO_3.out)); (case aS => exact (below_size (by repeat (first | (with_reducible first | exact HB.out | apply below_alloc | apply pw_below_drewN | apply below_drew1 | refine below_set ?_ GE207.out | refine below_set ?_ GE214.out | refine below_set ?_ GE215.out | refine below_set ?_ GE216.out) | exact HB.out)))); (case aL => have := LMc14.out; omega); intro v221 w45 ho hb hg hat; rw [← Ny220.out] at ho; have n0_ := Aside0.mk (blk_grown (g := gb207) (o := .cells #[.int .i64 (wrap64 ((wrap64 (Int.tdiv x10_1 27)) - 1)), .int .i64 (wrap64 ((Int.tmod (wrap64 (Int.tdiv x10_1 9)) 3) - 1)), .int .i64 (wrap64 ((Int.tmod (wrap64 (Int.tdiv x10_1 3)) 3) - 1)), .int .i64 (wrap64 ((Int.tmod x10_1 3) - 1))] 51 (0, 0)) (by (with_reducible repeat (first | refine blk_drewN ?_ _ | refine blk_drew ?_ | refine blk_alloc ?_ _)); exact BK207.out) hg (Kd.R_away HO_3.out (fun _ hk => hk))); have n1_ := Aside0.mk (blk_grown (g := gb214) (o := .cells #[.int .i64 t208, .int .i64 t209] 47 (0, 0)) (by (with_reducible repeat (first | refine blk_drewN ?_ _ | refine blk_drew ?_ | refine blk_alloc ?_ _)); exact BK214.out) hg (Kd.R_ne HO_3.out BK214.out (by decide))); have n2_ := Aside0.mk (blk_grown (g := gb215) (o := .cells #[.int .i64 t210, .int .i64 t211] 47 (0, 0)) (by (with_reducible repeat (first | refine blk_drewN ?_ _ | refine blk_drew ?_ | refine blk_alloc ?_ _)); exact BK215.out) hg (Kd.R_ne HO_3.out BK215.out (by decide))); have n3_ := Aside0.mk (blk_grown (g := gb216) (o := .cells #[.int .i64 t212, .int .i64 t213] 47 (0, 0)) (by (with_reducible repeat (first | refine blk_drewN ?_ _ | refine blk_drew ?_ | refine blk_alloc ?_ _)); exact BK216.out) hg (Kd.R_ne HO_3.out BK216.out (by decide))); have n4_ := Aside0.mk (hb); have n5_ := Aside0.mk (ho); clear BK207; clear BK214; clear BK215; clear BK216; clear HB; clear HO_3; have BK207 := n0_; have BK214 := n1_; have BK215 := n2_; have BK216 := n3_; have HB := n4_; have HO222 := n5_; clear n0_ n1_ n2_ n3_ n4_ n5_; clear ho hb hg hat))
                go_roundg k1
                case measure => have := HK1.out; omega
                case rel => exact ⟨(y220), (wrap64 (x10_1 + 1)), (by first | rfl | (simp; done) | (simp [*]; done)), H', ⟨by have := HK1.out; omega⟩, ⟨by (with_reducible repeat (first | apply Kd.R_alloc | apply Kd.R_drewN | apply Kd.R_drew)); exact Kd.R_mono HO222.out (fun _ hk => trivial)⟩, ⟨by repeat (first | (with_reducible first | exact HB.out | apply below_alloc | apply pw_below_drewN | apply below_drew1 | refine below_set ?_ GE207.out | refine below_set ?_ GE214.out | refine below_set ?_ GE215.out | refine below_set ?_ GE216.out) | exact HB.out)⟩⟩
              · rw [if_neg c14] at H
                exact absurd H (by simp)
            · rw [if_neg c13] at H
              have c13b0 : (t219 == (wrap64 (2 + a0))) = false := beq_eq_false_iff_ne.mpr c13
              have c13b1 : (t219 != (wrap64 (2 + a0))) = true := bne_iff_ne.mpr c13
              have H' := Aside0.mk H
              clear H
              try go_wp2_with (first | ((with_reducible refine gate_callee (f := 76) rfl ?_); refine goesL_ (some 39) rfl rfl Try.func76 (by kernel_rfl) rfl #[.int .i64 a0, .agg #[.int .i64 t208, .int .i64 t209]] rfl (by (try simp only [List.map_toArray, List.map_cons, List.map_nil]); first | done | rfl | (simp only [List.length_drop, List.length_take]; rfl)) ?_; (with_reducible refine (impl_norm.calls a0 t208 t209 t217 _ A8.out).mono ?_); rintro e w67 ⟨rfl, hb⟩; refine ⟨_, rfl, ?_⟩; have n0_ := Aside0.mk (Kd.R_below (by (with_reducible repeat (first | apply Kd.R_alloc | apply Kd.R_drewN | apply Kd.R_drew)); exact HO_3.out) hb); have n1_ := Aside0.mk (blk_below (g := gb207) (o := .cells #[.int .i64 (wrap64 ((wrap64 (Int.tdiv x10_1 27)) - 1)), .int .i64 (wrap64 ((Int.tmod (wrap64 (Int.tdiv x10_1 9)) 3) - 1)), .int .i64 (wrap64 ((Int.tmod (wrap64 (Int.tdiv x10_1 3)) 3) - 1)), .int .i64 (wrap64 ((Int.tmod x10_1 3) - 1))] 51 (0, 0)) (by (with_reducible repeat (first | refine blk_drewN ?_ _ | refine blk_drew ?_ | refine blk_alloc ?_ _)); exact BK207.out) hb); have n2_ := Aside0.mk (blk_below (g := gb214) (o := .cells #[.int .i64 t208, .int .i64 t209] 47 (0, 0)) (by (with_reducible repeat (first | refine blk_drewN ?_ _ | refine blk_drew ?_ | refine blk_alloc ?_ _)); exact BK214.out) hb); have n3_ := Aside0.mk (blk_below (g := gb215) (o := .cells #[.int .i64 t210, .int .i64 t211] 47 (0, 0)) (by (with_reducible repeat (first | refine blk_drewN ?_ _ | refine blk_drew ?_ | refine blk_alloc ?_ _)); exact BK215.out) hb); have n4_ := Aside0.mk (blk_below (g := gb216) (o := .cells #[.int .i64 t212, .int .i64 t213] 47 (0, 0)) (by (with_reducible repeat (first | refine blk_drewN ?_ _ | refine blk_drew ?_ | refine blk_alloc ?_ _)); exact BK216.out) hb); have n5_ := Aside0.mk (below_step (by repeat (first | (with_reducible first | exact HB.out | apply below_alloc | apply pw_below_drewN | apply below_drew1 | refine below_set ?_ GE207.out | refine below_set ?_ GE214.out | refine below_set ?_ GE215.out | refine below_set ?_ GE216.out) | exact HB.out)) hb); clear HO_3; clear BK207; clear BK214; clear BK215; clear BK216; clear HB; have HO_3 := n0_; have BK207 := n1_; have BK214 := n2_; have BK215 := n3_; have BK216 := n4_; have HB := n5_; clear n0_ n1_ n2_ n3_ n4_ n5_; (try clear hb); (try clear hb2); (try clear hk); (try clear hi); have hnb68 := NB215_207.out; have hnc68 := NB207_215.out; have hnb69 := NB215_216.out; have hnc69 := NB216_215.out; have hcz70_0 : w67.cell? ⟨gb215, 0, none⟩ = some (.int .i64 t210) := (blk_cell BK215.out 0).trans rfl; have hcz70_1 : w67.cell? ⟨gb215, 1, none⟩ = some (.int .i64 t211) := (blk_cell BK215.out 1).trans rfl; have hfz70_0 := blk_frozen BK215.out 0; have hfz70_1 := blk_frozen BK215.out 1) | (go_at_call 76; (with_reducible refine (impl_norm.calls a0 t210 t211 t218 _ A10.out).mono ?_); rintro e w71 ⟨rfl, hb⟩; have n0_ := Aside0.mk (Kd.R_below (by (with_reducible repeat (first | apply Kd.R_alloc | apply Kd.R_drewN | apply Kd.R_drew)); exact HO_3.out) hb); have n1_ := Aside0.mk (blk_below (g := gb207) (o := .cells #[.int .i64 (wrap64 ((wrap64 (Int.tdiv x10_1 27)) - 1)), .int .i64 (wrap64 ((Int.tmod (wrap64 (Int.tdiv x10_1 9)) 3) - 1)), .int .i64 (wrap64 ((Int.tmod (wrap64 (Int.tdiv x10_1 3)) 3) - 1)), .int .i64 (wrap64 ((Int.tmod x10_1 3) - 1))] 51 (0, 0)) (by (with_reducible repeat (first | refine blk_drewN ?_ _ | refine blk_drew ?_ | refine blk_alloc ?_ _)); exact BK207.out) hb); have n2_ := Aside0.mk (blk_below (g := gb214) (o := .cells #[.int .i64 t208, .int .i64 t209] 47 (0, 0)) (by (with_reducible repeat (first | refine blk_drewN ?_ _ | refine blk_drew ?_ | refine blk_alloc ?_ _)); exact BK214.out) hb); have n3_ := Aside0.mk (blk_below (g := gb215) (o := .cells #[.int .i64 t210, .int .i64 t211] 47 (0, 0)) (by (with_reducible repeat (first | refine blk_drewN ?_ _ | refine blk_drew ?_ | refine blk_alloc ?_ _)); exact BK215.out) hb); have n4_ := Aside0.mk (blk_below (g := gb216) (o := .cells #[.int .i64 t212, .int .i64 t213] 47 (0, 0)) (by (with_reducible repeat (first | refine blk_drewN ?_ _ | refine blk_drew ?_ | refine blk_alloc ?_ _)); exact BK216.out) hb); have n5_ := Aside0.mk (below_step (by repeat (first | (with_reducible first | exact HB.out | apply below_alloc | apply pw_below_drewN | apply below_drew1 | refine below_set ?_ GE207.out | refine below_set ?_ GE214.out | refine below_set ?_ GE215.out | refine below_set ?_ GE216.out) | exact HB.out)) hb); clear HO_3; clear BK207; clear BK214; clear BK215; clear BK216; clear HB; have HO_3 := n0_; have BK207 := n1_; have BK214 := n2_; have BK215 := n3_; have BK216 := n4_; have HB := n5_; clear n0_ n1_ n2_ n3_ n4_ n5_; (try clear hb); (try clear hb2); (try clear hk); (try clear hi); have hnb72 := NB216_207.out; have hnc72 := NB207_216.out; have hcz73_0 : w71.cell? ⟨gb216, 0, none⟩ = some (.int .i64 t212) := (blk_cell BK216.out 0).trans rfl; have hcz73_1 : w71.cell? ⟨gb216, 1, none⟩ = some (.int .i64 t213) := (blk_cell BK216.out 1).trans rfl; have hfz73_0 := blk_frozen BK216.out 0; have hfz73_1 := blk_frozen BK216.out 1) | (go_at_call 76; (with_reducible refine (impl_norm.calls a0 t212 t213 t219 _ A12.out).mono ?_); rintro e w74 ⟨rfl, hb⟩; have n0_ := Aside0.mk (Kd.R_below (by (with_reducible repeat (first | apply Kd.R_alloc | apply Kd.R_drewN | apply Kd.R_drew)); exact HO_3.out) hb); have n1_ := Aside0.mk (blk_below (g := gb207) (o := .cells #[.int .i64 (wrap64 ((wrap64 (Int.tdiv x10_1 27)) - 1)), .int .i64 (wrap64 ((Int.tmod (wrap64 (Int.tdiv x10_1 9)) 3) - 1)), .int .i64 (wrap64 ((Int.tmod (wrap64 (Int.tdiv x10_1 3)) 3) - 1)), .int .i64 (wrap64 ((Int.tmod x10_1 3) - 1))] 51 (0, 0)) (by (with_reducible repeat (first | refine blk_drewN ?_ _ | refine blk_drew ?_ | refine blk_alloc ?_ _)); exact BK207.out) hb); have n2_ := Aside0.mk (blk_below (g := gb214) (o := .cells #[.int .i64 t208, .int .i64 t209] 47 (0, 0)) (by (with_reducible repeat (first | refine blk_drewN ?_ _ | refine blk_drew ?_ | refine blk_alloc ?_ _)); exact BK214.out) hb); have n3_ := Aside0.mk (blk_below (g := gb215) (o := .cells #[.int .i64 t210, .int .i64 t211] 47 (0, 0)) (by (with_reducible repeat (first | refine blk_drewN ?_ _ | refine blk_drew ?_ | refine blk_alloc ?_ _)); exact BK215.out) hb); have n4_ := Aside0.mk (blk_below (g := gb216) (o := .cells #[.int .i64 t212, .int .i64 t213] 47 (0, 0)) (by (with_reducible repeat (first | refine blk_drewN ?_ _ | refine blk_drew ?_ | refine blk_alloc ?_ _)); exact BK216.out) hb); have n5_ := Aside0.mk (below_step (by repeat (first | (with_reducible first | exact HB.out | apply below_alloc | apply pw_below_drewN | apply below_drew1 | refine below_set ?_ GE207.out | refine below_set ?_ GE214.out | refine below_set ?_ GE215.out | refine below_set ?_ GE216.out) | exact HB.out)) hb); clear HO_3; clear BK207; clear BK214; clear BK215; clear BK216; clear HB; have HO_3 := n0_; have BK207 := n1_; have BK214 := n2_; have BK215 := n3_; have BK216 := n4_; have HB := n5_; clear n0_ n1_ n2_ n3_ n4_ n5_; (try clear hb); (try clear hb2); (try clear hk); (try clear hi)))
              go_roundg k1
              case measure => have := HK1.out; omega
              case rel => exact ⟨(x3_1), (wrap64 (x10_1 + 1)), (by first | rfl | (simp; done) | (simp [*]; done)), H', ⟨by have := HK1.out; omega⟩, ⟨by (with_reducible repeat (first | apply Kd.R_alloc | apply Kd.R_drewN | apply Kd.R_drew)); exact Kd.R_mono HO_3.out (fun _ hk => trivial)⟩, ⟨by repeat (first | (with_reducible first | exact HB.out | apply below_alloc | apply pw_below_drewN | apply below_drew1 | refine below_set ?_ GE207.out | refine below_set ?_ GE214.out | refine below_set ?_ GE215.out | refine below_set ?_ GE216.out) | exact HB.out)⟩⟩
          · rw [if_neg c11] at H
            have c11b0 : (t218 == 1) = false := beq_eq_false_iff_ne.mpr c11
            have c11b1 : (t218 != 1) = true := bne_iff_ne.mpr c11
            have H' := Aside0.mk H
            clear H
            try go_wp2_with (first | ((with_reducible refine gate_callee (f := 76) rfl ?_); refine goesL_ (some 39) rfl rfl Try.func76 (by kernel_rfl) rfl #[.int .i64 a0, .agg #[.int .i64 t208, .int .i64 t209]] rfl (by (try simp only [List.map_toArray, List.map_cons, List.map_nil]); first | done | rfl | (simp only [List.length_drop, List.length_take]; rfl)) ?_; (with_reducible refine (impl_norm.calls a0 t208 t209 t217 _ A8.out).mono ?_); rintro e w96 ⟨rfl, hb⟩; refine ⟨_, rfl, ?_⟩; have n0_ := Aside0.mk (Kd.R_below (by (with_reducible repeat (first | apply Kd.R_alloc | apply Kd.R_drewN | apply Kd.R_drew)); exact HO_3.out) hb); have n1_ := Aside0.mk (blk_below (g := gb207) (o := .cells #[.int .i64 (wrap64 ((wrap64 (Int.tdiv x10_1 27)) - 1)), .int .i64 (wrap64 ((Int.tmod (wrap64 (Int.tdiv x10_1 9)) 3) - 1)), .int .i64 (wrap64 ((Int.tmod (wrap64 (Int.tdiv x10_1 3)) 3) - 1)), .int .i64 (wrap64 ((Int.tmod x10_1 3) - 1))] 51 (0, 0)) (by (with_reducible repeat (first | refine blk_drewN ?_ _ | refine blk_drew ?_ | refine blk_alloc ?_ _)); exact BK207.out) hb); have n2_ := Aside0.mk (blk_below (g := gb214) (o := .cells #[.int .i64 t208, .int .i64 t209] 47 (0, 0)) (by (with_reducible repeat (first | refine blk_drewN ?_ _ | refine blk_drew ?_ | refine blk_alloc ?_ _)); exact BK214.out) hb); have n3_ := Aside0.mk (blk_below (g := gb215) (o := .cells #[.int .i64 t210, .int .i64 t211] 47 (0, 0)) (by (with_reducible repeat (first | refine blk_drewN ?_ _ | refine blk_drew ?_ | refine blk_alloc ?_ _)); exact BK215.out) hb); have n4_ := Aside0.mk (blk_below (g := gb216) (o := .cells #[.int .i64 t212, .int .i64 t213] 47 (0, 0)) (by (with_reducible repeat (first | refine blk_drewN ?_ _ | refine blk_drew ?_ | refine blk_alloc ?_ _)); exact BK216.out) hb); have n5_ := Aside0.mk (below_step (by repeat (first | (with_reducible first | exact HB.out | apply below_alloc | apply pw_below_drewN | apply below_drew1 | refine below_set ?_ GE207.out | refine below_set ?_ GE214.out | refine below_set ?_ GE215.out | refine below_set ?_ GE216.out) | exact HB.out)) hb); clear HO_3; clear BK207; clear BK214; clear BK215; clear BK216; clear HB; have HO_3 := n0_; have BK207 := n1_; have BK214 := n2_; have BK215 := n3_; have BK216 := n4_; have HB := n5_; clear n0_ n1_ n2_ n3_ n4_ n5_; (try clear hb); (try clear hb2); (try clear hk); (try clear hi); have hnb97 := NB215_207.out; have hnc97 := NB207_215.out; have hnb98 := NB215_216.out; have hnc98 := NB216_215.out; have hcz99_0 : w96.cell? ⟨gb215, 0, none⟩ = some (.int .i64 t210) := (blk_cell BK215.out 0).trans rfl; have hcz99_1 : w96.cell? ⟨gb215, 1, none⟩ = some (.int .i64 t211) := (blk_cell BK215.out 1).trans rfl; have hfz99_0 := blk_frozen BK215.out 0; have hfz99_1 := blk_frozen BK215.out 1) | (go_at_call 76; (with_reducible refine (impl_norm.calls a0 t210 t211 t218 _ A10.out).mono ?_); rintro e w100 ⟨rfl, hb⟩; have n0_ := Aside0.mk (Kd.R_below (by (with_reducible repeat (first | apply Kd.R_alloc | apply Kd.R_drewN | apply Kd.R_drew)); exact HO_3.out) hb); have n1_ := Aside0.mk (blk_below (g := gb207) (o := .cells #[.int .i64 (wrap64 ((wrap64 (Int.tdiv x10_1 27)) - 1)), .int .i64 (wrap64 ((Int.tmod (wrap64 (Int.tdiv x10_1 9)) 3) - 1)), .int .i64 (wrap64 ((Int.tmod (wrap64 (Int.tdiv x10_1 3)) 3) - 1)), .int .i64 (wrap64 ((Int.tmod x10_1 3) - 1))] 51 (0, 0)) (by (with_reducible repeat (first | refine blk_drewN ?_ _ | refine blk_drew ?_ | refine blk_alloc ?_ _)); exact BK207.out) hb); have n2_ := Aside0.mk (blk_below (g := gb214) (o := .cells #[.int .i64 t208, .int .i64 t209] 47 (0, 0)) (by (with_reducible repeat (first | refine blk_drewN ?_ _ | refine blk_drew ?_ | refine blk_alloc ?_ _)); exact BK214.out) hb); have n3_ := Aside0.mk (blk_below (g := gb215) (o := .cells #[.int .i64 t210, .int .i64 t211] 47 (0, 0)) (by (with_reducible repeat (first | refine blk_drewN ?_ _ | refine blk_drew ?_ | refine blk_alloc ?_ _)); exact BK215.out) hb); have n4_ := Aside0.mk (blk_below (g := gb216) (o := .cells #[.int .i64 t212, .int .i64 t213] 47 (0, 0)) (by (with_reducible repeat (first | refine blk_drewN ?_ _ | refine blk_drew ?_ | refine blk_alloc ?_ _)); exact BK216.out) hb); have n5_ := Aside0.mk (below_step (by repeat (first | (with_reducible first | exact HB.out | apply below_alloc | apply pw_below_drewN | apply below_drew1 | refine below_set ?_ GE207.out | refine below_set ?_ GE214.out | refine below_set ?_ GE215.out | refine below_set ?_ GE216.out) | exact HB.out)) hb); clear HO_3; clear BK207; clear BK214; clear BK215; clear BK216; clear HB; have HO_3 := n0_; have BK207 := n1_; have BK214 := n2_; have BK215 := n3_; have BK216 := n4_; have HB := n5_; clear n0_ n1_ n2_ n3_ n4_ n5_; (try clear hb); (try clear hb2); (try clear hk); (try clear hi)))
            go_roundg k1
            case measure => have := HK1.out; omega
            case rel => exact ⟨(x3_1), (wrap64 (x10_1 + 1)), (by first | rfl | (simp; done) | (simp [*]; done)), H', ⟨by have := HK1.out; omega⟩, ⟨by (with_reducible repeat (first | apply Kd.R_alloc | apply Kd.R_drewN | apply Kd.R_drew)); exact Kd.R_mono HO_3.out (fun _ hk => trivial)⟩, ⟨by repeat (first | (with_reducible first | exact HB.out | apply below_alloc | apply pw_below_drewN | apply below_drew1 | refine below_set ?_ GE207.out | refine below_set ?_ GE214.out | refine below_set ?_ GE215.out | refine below_set ?_ GE216.out) | exact HB.out)⟩⟩
        · rw [if_neg c9] at H
          have c9b0 : (t217 == 1) = false := beq_eq_false_iff_ne.mpr c9
          have c9b1 : (t217 != 1) = true := bne_iff_ne.mpr c9
          have H' := Aside0.mk H
          clear H
          try go_wp2_with (first | ((with_reducible refine gate_callee (f := 76) rfl ?_); refine goesL_ (some 39) rfl rfl Try.func76 (by kernel_rfl) rfl #[.int .i64 a0, .agg #[.int .i64 t208, .int .i64 t209]] rfl (by (try simp only [List.map_toArray, List.map_cons, List.map_nil]); first | done | rfl | (simp only [List.length_drop, List.length_take]; rfl)) ?_; (with_reducible refine (impl_norm.calls a0 t208 t209 t217 _ A8.out).mono ?_); rintro e w122 ⟨rfl, hb⟩; refine ⟨_, rfl, ?_⟩; have n0_ := Aside0.mk (Kd.R_below (by (with_reducible repeat (first | apply Kd.R_alloc | apply Kd.R_drewN | apply Kd.R_drew)); exact HO_3.out) hb); have n1_ := Aside0.mk (blk_below (g := gb207) (o := .cells #[.int .i64 (wrap64 ((wrap64 (Int.tdiv x10_1 27)) - 1)), .int .i64 (wrap64 ((Int.tmod (wrap64 (Int.tdiv x10_1 9)) 3) - 1)), .int .i64 (wrap64 ((Int.tmod (wrap64 (Int.tdiv x10_1 3)) 3) - 1)), .int .i64 (wrap64 ((Int.tmod x10_1 3) - 1))] 51 (0, 0)) (by (with_reducible repeat (first | refine blk_drewN ?_ _ | refine blk_drew ?_ | refine blk_alloc ?_ _)); exact BK207.out) hb); have n2_ := Aside0.mk (blk_below (g := gb214) (o := .cells #[.int .i64 t208, .int .i64 t209] 47 (0, 0)) (by (with_reducible repeat (first | refine blk_drewN ?_ _ | refine blk_drew ?_ | refine blk_alloc ?_ _)); exact BK214.out) hb); have n3_ := Aside0.mk (blk_below (g := gb215) (o := .cells #[.int .i64 t210, .int .i64 t211] 47 (0, 0)) (by (with_reducible repeat (first | refine blk_drewN ?_ _ | refine blk_drew ?_ | refine blk_alloc ?_ _)); exact BK215.out) hb); have n4_ := Aside0.mk (blk_below (g := gb216) (o := .cells #[.int .i64 t212, .int .i64 t213] 47 (0, 0)) (by (with_reducible repeat (first | refine blk_drewN ?_ _ | refine blk_drew ?_ | refine blk_alloc ?_ _)); exact BK216.out) hb); have n5_ := Aside0.mk (below_step (by repeat (first | (with_reducible first | exact HB.out | apply below_alloc | apply pw_below_drewN | apply below_drew1 | refine below_set ?_ GE207.out | refine below_set ?_ GE214.out | refine below_set ?_ GE215.out | refine below_set ?_ GE216.out) | exact HB.out)) hb); clear HO_3; clear BK207; clear BK214; clear BK215; clear BK216; clear HB; have HO_3 := n0_; have BK207 := n1_; have BK214 := n2_; have BK215 := n3_; have BK216 := n4_; have HB := n5_; clear n0_ n1_ n2_ n3_ n4_ n5_; (try clear hb); (try clear hb2); (try clear hk); (try clear hi)))
          go_roundg k1
          case measure => have := HK1.out; omega
          case rel => exact ⟨(x3_1), (wrap64 (x10_1 + 1)), (by first | rfl | (simp; done) | (simp [*]; done)), H', ⟨by have := HK1.out; omega⟩, ⟨by (with_reducible repeat (first | apply Kd.R_alloc | apply Kd.R_drewN | apply Kd.R_drew)); exact Kd.R_mono HO_3.out (fun _ hk => trivial)⟩, ⟨by repeat (first | (with_reducible first | exact HB.out | apply below_alloc | apply pw_below_drewN | apply below_drew1 | refine below_set ?_ GE207.out | refine below_set ?_ GE214.out | refine below_set ?_ GE215.out | refine below_set ?_ GE216.out) | exact HB.out)⟩⟩
      · rw [if_neg c4] at H
        have c4b0 : decide (x10_1 < 81) = false := decide_eq_false c4
        clear c4
        obtain rfl := Option.some.inj H
        go_wp2
        go_ret
        exact ⟨_, by first | rfl | (simp [errW_none, errW_some] <;> rfl) | (simp [*, errW_none, errW_some] <;> rfl), by (with_reducible repeat (first | apply Kd.R_alloc | apply Kd.R_drewN | apply Kd.R_drew)); exact HO_3.out, by repeat (first | (with_reducible first | exact HB.out | apply below_alloc | apply pw_below_drewN | apply below_drew1) | exact HB.out)⟩

end Go.Proofs.Ytcjchihnopmplaa.F

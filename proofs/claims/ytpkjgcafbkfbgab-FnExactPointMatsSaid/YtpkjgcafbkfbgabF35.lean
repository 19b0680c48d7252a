import Derived.Test.YtpkjgcafbkfbgabF0
import Derived.Test.YtpkjgcafbkfbgabF32
import Derived.Test.YtpkjgcafbkfbgabF34
namespace Go.Proofs.Ytpkjgcafbkfbgab.F
open Go.RowKit Go.Proofs.YtpkjgcafbkfbgabW.PrintWords Go.Proofs.YtpkjgcafbkfbgabW.PrintLast Go.Proofs.YtpkjgcafbkfbgabW.PrintMore
attribute [local go_sem] max2_int min2_int max_two min_two max_three min_three max_four min_four   -- for this text's walks alone
set_option linter.unusedVariables false
set_option linter.unusedSimpArgs false

/-! ### impl_pointMats: function 83 -/
def impl_pointMats.l0 : Nat → Int → List (S24) → Int → Option ((List (S24)))
  | 0, _, _, _ => none
  | k + 1, x0, x3, x10 => if x10 < 81 then ((impl_Mat_apply.f (wrap64 ((wrap64 (Int.tdiv x10 27)) - 1)) (wrap64 ((Int.tmod (wrap64 (Int.tdiv x10 9)) 3) - 1)) (wrap64 ((Int.tmod (wrap64 (Int.tdiv x10 3)) 3) - 1)) (wrap64 ((Int.tmod x10 3) - 1)) 1 0).bind fun bt134 => ((impl_Mat_apply.f (wrap64 ((wrap64 (Int.tdiv x10 27)) - 1)) (wrap64 ((Int.tmod (wrap64 (Int.tdiv x10 9)) 3) - 1)) (wrap64 ((Int.tmod (wrap64 (Int.tdiv x10 3)) 3) - 1)) (wrap64 ((Int.tmod x10 3) - 1)) 0 1).bind fun bt136 => ((impl_Mat_apply.f (wrap64 ((wrap64 (Int.tdiv x10 27)) - 1)) (wrap64 ((Int.tmod (wrap64 (Int.tdiv x10 9)) 3) - 1)) (wrap64 ((Int.tmod (wrap64 (Int.tdiv x10 3)) 3) - 1)) (wrap64 ((Int.tmod x10 3) - 1)) 1 1).bind fun bt138 => ((impl_norm.f x0 bt134.1 bt134.2).bind fun t143 => (if t143 = 1 then ((impl_norm.f x0 bt136.1 bt136.2).bind fun t144 => (if t144 = 1 then ((impl_norm.f x0 bt138.1 bt138.2).bind fun t145 => (if t145 = (wrap64 (2 + x0)) then (if x3.length < 4398046511104 then (impl_pointMats.l0 k x0 (x3 ++ [(⟨wrap64 ((wrap64 (Int.tdiv x10 27)) - 1), wrap64 ((Int.tmod (wrap64 (Int.tdiv x10 9)) 3) - 1), wrap64 ((Int.tmod (wrap64 (Int.tdiv x10 3)) 3) - 1), wrap64 ((Int.tmod x10 3) - 1)⟩ : S24)]) (wrap64 (x10 + 1))) else (none)) else (impl_pointMats.l0 k x0 x3 (wrap64 (x10 + 1))))) else (impl_pointMats.l0 k x0 x3 (wrap64 (x10 + 1))))) else (impl_pointMats.l0 k x0 x3 (wrap64 (x10 + 1)))))))) else (some x3)
def impl_pointMats.f (k : Nat) (a0 : Int) : Option ((List (S24))) := impl_pointMats.l0 k a0 (([] : List (S24))) 0
theorem impl_pointMats.mono_l : ∀ k, (∀ y0 y1 y2, LeO (impl_pointMats.l0 k y0 y1 y2) (impl_pointMats.l0 (k + 1) y0 y1 y2))
  | 0 => fun _ _ _ r h => by simp [impl_pointMats.l0] at h
  | k + 1 => by
    have ih0 := impl_pointMats.mono_l k
    · intro y0 y1 y2
      unfold impl_pointMats.l0
      repeat' first
      | (with_reducible exact ih0 _ _ _)
      | (with_reducible exact LeO.refl _)
      | (with_reducible exact LeO.none _)
      | (with_reducible refine LeO.ite ?_ ?_)
      | (with_reducible refine LeO.bind ?_ (fun _ => ?_))
      | exact ih0 _ _ _
      | exact LeO.none _
      | refine LeO.ite ?_ ?_
      | refine LeO.bind ?_ (fun _ => ?_)
theorem impl_pointMats.mono : ∀ a0 k, LeO (impl_pointMats.f k a0) (impl_pointMats.f (k + 1) a0) := by
  intro a0 k
  have ih0 := impl_pointMats.mono_l k
  unfold impl_pointMats.f
  repeat' first
      | (with_reducible exact ih0 _ _ _)
      | (with_reducible exact LeO.refl _)
      | (with_reducible exact LeO.none _)
      | (with_reducible refine LeO.ite ?_ ?_)
      | (with_reducible refine LeO.bind ?_ (fun _ => ?_))
      | exact ih0 _ _ _
      | exact LeO.none _
      | refine LeO.ite ?_ ?_
      | refine LeO.bind ?_ (fun _ => ?_)
def impl_pointMats.T6 : Bool × List (List Nat × List Nat) := (true, [([], []), ([], []), ([0, 1], [0, 1]), ([], []), ([], []), ([3, 4, 2], [3, 4]), ([], []), ([], []), ([6, 7, 5], [6, 7]), ([], []), ([], []), ([], []), ([9, 2, 8, 0, 1, 2, 9, 10, 11], [2, 9]), ([10, 5, 12, 0, 1, 2, 3, 4, 5, 9, 10, 11, 12], [5, 10]), ([11, 8, 13, 0, 1, 2, 3, 4, 5, 6, 7, 8, 9, 10, 11, 12, 13], [8, 11])])
def impl_pointMats.B6 : List Nat := [0, 0, 3, 0, 0, 31, 0, 0, 255, 0, 0, 0, 4095, 8191, 16383]
theorem impl_pointMats.tab6 : rtab .any (opsOf Try.f83 6) = impl_pointMats.T6 := by kernel_rfl
theorem impl_pointMats.bits6 : waitsOk impl_pointMats.T6.2 impl_pointMats.B6 = true := by kernel_rfl
set_option maxHeartbeats 8000000 in
set_option maxRecDepth 100000 in
theorem impl_pointMats.calls (k : Nat) (a0 : Int) (r : List (S24)) (w : World) (h : impl_pointMats.f k a0 = some r) :
    Calls Try.prog 83 #[.int .i64 a0] w fun e w' => ∃ v0_ : Value, e = .returned (v0_) ∧ Kd.R k24 24 w' w.heap.size (fun _ => True) v0_ r ∧ Below w.heap.size w w' := by
  have hu24 := Try.underlying24
  have hu41 := Try.underlying41
  have HB := Aside0.mk (Below.refl w.heap.size w)
  have H : (impl_pointMats.l0 k a0 (([] : List (S24))) 0) = some r := h
  clear h
  obtain ⟨y130, hy130⟩ : ∃ y_ : List (S24), y_ = (([] : List (S24))) := ⟨_, rfl⟩
  replace H : (impl_pointMats.l0 k a0 y130 0) = some r := by first | (rw [hy130]; with_reducible exact H) | (have H2_ := (Option.bind_some _ _).symm.trans H; rw [hy130]; with_reducible exact H2_) | (have H2_ := (Option.bind_some _ _).symm.trans H; with_reducible exact H2_) | with_reducible exact H | (rw [hy130]; exact H) | exact H
  have Ny130 := Aside0.mk hy130
  clear hy130
  have H' := Aside0.mk H
  clear H
  go_enter Try.func83, Try.ntmps83
  go_wp2_with (first | ((with_reducible refine gate_dst (N := 9) rfl ?_); refine Kd.R_lit k24 _ 24 ?hg (N := 9) ?hd (xs := ([] : List (S24))) (inner := []) (ok := fun _ => True) (okp := fun _ => True) ?hr ?hp (fun _ hk => hk) trivial (Below.refl _ _) (Nat.le_refl _) (by simp) ?_; (case hd => rfl); (case hg => rfl); (case hr => first | (go_simp; done) | (go_simp; rfl)); (case hp => exact (Reps.none _ _)); intro v131 w2 ho3 hb hg_ hnew_; clear hg_ hnew_; (first | rw [← Ny130.out] at ho3 | (simp only [Int.reduceToNat] at ho3; rw [← Ny130.out] at ho3)); have n0_ := Aside0.mk (Kd.R_lower ho3 (below_size (by repeat (first | (with_reducible first | exact HB.out | apply below_alloc | apply pw_below_drewN | apply below_drew1) | exact HB.out)))); have n1_ := Aside0.mk (below_step (by repeat (first | (with_reducible first | exact HB.out | apply below_alloc | apply pw_below_drewN | apply below_drew1) | exact HB.out)) hb); clear HB; have HO132 := n0_; have HB := n1_; clear n0_ n1_; clear hb ho3))
  go_loopg [3, 10] k (fun kq v3 v10 w' => ∃ (x3_1 : List (S24)) (x10_1 : Int), v10 = .int .i64 x10_1 ∧ Aside0 (impl_pointMats.l0 kq a0 x3_1 x10_1 = some r) ∧ Aside0 (kq ≤ k) ∧ Aside0 (Kd.R k24 24 w' w.heap.size (fun _ => True) v3 x3_1) ∧ Aside0 (Below w.heap.size w w'))
  case atStart => exact ⟨(y130), (0), (by first | rfl | (simp; done) | (simp [*]; done)), H', ⟨Nat.le_refl _⟩, ⟨by (with_reducible repeat (first | apply Kd.R_alloc | apply Kd.R_drewN | apply Kd.R_drew)); exact HO132.out⟩, ⟨by repeat (first | (with_reducible first | exact HB.out | apply below_alloc | apply pw_below_drewN | apply below_drew1) | exact HB.out)⟩⟩
  case round =>
    clear H'
    try clear p2
    obtain ⟨x3_1, x10_1, rfl, HA, HK1, HO_3, HB⟩ := hrel
    cases gk with
    | zero => exact absurd HA.out (by simp [impl_pointMats.l0])
    | succ k1 =>
      have H := HA.out
      clear HA
      simp only [impl_pointMats.l0] at H
      by_cases c4 : x10_1 < 81
      · rw [if_pos c4] at H
        have c4b0 : decide (x10_1 < 81) = true := decide_eq_true c4
        clear c4
        replace H := Option.bind_eq_some_iff.mp H
        obtain ⟨⟨t134, t135⟩, A50, H⟩ := H
        replace H : ((impl_Mat_apply.f (wrap64 ((wrap64 (Int.tdiv x10_1 27)) - 1)) (wrap64 ((Int.tmod (wrap64 (Int.tdiv x10_1 9)) 3) - 1)) (wrap64 ((Int.tmod (wrap64 (Int.tdiv x10_1 3)) 3) - 1)) (wrap64 ((Int.tmod x10_1 3) - 1)) 0 1).bind fun bt136 => ((impl_Mat_apply.f (wrap64 ((wrap64 (Int.tdiv x10_1 27)) - 1)) (wrap64 ((Int.tmod (wrap64 (Int.tdiv x10_1 9)) 3) - 1)) (wrap64 ((Int.tmod (wrap64 (Int.tdiv x10_1 3)) 3) - 1)) (wrap64 ((Int.tmod x10_1 3) - 1)) 1 1).bind fun bt138 => ((impl_norm.f a0 t134 t135).bind fun t143 => (if t143 = 1 then ((impl_norm.f a0 bt136.1 bt136.2).bind fun t144 => (if t144 = 1 then ((impl_norm.f a0 bt138.1 bt138.2).bind fun t145 => (if t145 = (wrap64 (2 + a0)) then (if x3_1.length < 4398046511104 then (impl_pointMats.l0 k1 a0 (x3_1 ++ [(⟨wrap64 ((wrap64 (Int.tdiv x10_1 27)) - 1), wrap64 ((Int.tmod (wrap64 (Int.tdiv x10_1 9)) 3) - 1), wrap64 ((Int.tmod (wrap64 (Int.tdiv x10_1 3)) 3) - 1), wrap64 ((Int.tmod x10_1 3) - 1)⟩ : S24)]) (wrap64 (x10_1 + 1))) else (none)) else (impl_pointMats.l0 k1 a0 x3_1 (wrap64 (x10_1 + 1))))) else (impl_pointMats.l0 k1 a0 x3_1 (wrap64 (x10_1 + 1))))) else (impl_pointMats.l0 k1 a0 x3_1 (wrap64 (x10_1 + 1))))))) = some r := H
        have A5 := Aside0.mk A50
        clear A50
        replace H := Option.bind_eq_some_iff.mp H
        obtain ⟨⟨t136, t137⟩, A60, H⟩ := H
        replace H : ((impl_Mat_apply.f (wrap64 ((wrap64 (Int.tdiv x10_1 27)) - 1)) (wrap64 ((Int.tmod (wrap64 (Int.tdiv x10_1 9)) 3) - 1)) (wrap64 ((Int.tmod (wrap64 (Int.tdiv x10_1 3)) 3) - 1)) (wrap64 ((Int.tmod x10_1 3) - 1)) 1 1).bind fun bt138 => ((impl_norm.f a0 t134 t135).bind fun t143 => (if t143 = 1 then ((impl_norm.f a0 t136 t137).bind fun t144 => (if t144 = 1 then ((impl_norm.f a0 bt138.1 bt138.2).bind fun t145 => (if t145 = (wrap64 (2 + a0)) then (if x3_1.length < 4398046511104 then (impl_pointMats.l0 k1 a0 (x3_1 ++ [(⟨wrap64 ((wrap64 (Int.tdiv x10_1 27)) - 1), wrap64 ((Int.tmod (wrap64 (Int.tdiv x10_1 9)) 3) - 1), wrap64 ((Int.tmod (wrap64 (Int.tdiv x10_1 3)) 3) - 1), wrap64 ((Int.tmod x10_1 3) - 1)⟩ : S24)]) (wrap64 (x10_1 + 1))) else (none)) else (impl_pointMats.l0 k1 a0 x3_1 (wrap64 (x10_1 + 1))))) else (impl_pointMats.l0 k1 a0 x3_1 (wrap64 (x10_1 + 1))))) else (impl_pointMats.l0 k1 a0 x3_1 (wrap64 (x10_1 + 1)))))) = some r := H
        have A6 := Aside0.mk A60
        clear A60
        replace H := Option.bind_eq_some_iff.mp H
        obtain ⟨⟨t138, t139⟩, A70, H⟩ := H
        replace H : ((impl_norm.f a0 t134 t135).bind fun t143 => (if t143 = 1 then ((impl_norm.f a0 t136 t137).bind fun t144 => (if t144 = 1 then ((impl_norm.f a0 t138 t139).bind fun t145 => (if t145 = (wrap64 (2 + a0)) then (if x3_1.length < 4398046511104 then (impl_pointMats.l0 k1 a0 (x3_1 ++ [(⟨wrap64 ((wrap64 (Int.tdiv x10_1 27)) - 1), wrap64 ((Int.tmod (wrap64 (Int.tdiv x10_1 9)) 3) - 1), wrap64 ((Int.tmod (wrap64 (Int.tdiv x10_1 3)) 3) - 1), wrap64 ((Int.tmod x10_1 3) - 1)⟩ : S24)]) (wrap64 (x10_1 + 1))) else (none)) else (impl_pointMats.l0 k1 a0 x3_1 (wrap64 (x10_1 + 1))))) else (impl_pointMats.l0 k1 a0 x3_1 (wrap64 (x10_1 + 1))))) else (impl_pointMats.l0 k1 a0 x3_1 (wrap64 (x10_1 + 1))))) = some r := H
        have A7 := Aside0.mk A70
        clear A70
        replace H := Option.bind_eq_some_iff.mp H
        obtain ⟨t143, A80, H⟩ := H
        replace H : (if t143 = 1 then ((impl_norm.f a0 t136 t137).bind fun t144 => (if t144 = 1 then ((impl_norm.f a0 t138 t139).bind fun t145 => (if t145 = (wrap64 (2 + a0)) then (if x3_1.length < 4398046511104 then (impl_pointMats.l0 k1 a0 (x3_1 ++ [(⟨wrap64 ((wrap64 (Int.tdiv x10_1 27)) - 1), wrap64 ((Int.tmod (wrap64 (Int.tdiv x10_1 9)) 3) - 1), wrap64 ((Int.tmod (wrap64 (Int.tdiv x10_1 3)) 3) - 1), wrap64 ((Int.tmod x10_1 3) - 1)⟩ : S24)]) (wrap64 (x10_1 + 1))) else (none)) else (impl_pointMats.l0 k1 a0 x3_1 (wrap64 (x10_1 + 1))))) else (impl_pointMats.l0 k1 a0 x3_1 (wrap64 (x10_1 + 1))))) else (impl_pointMats.l0 k1 a0 x3_1 (wrap64 (x10_1 + 1)))) = some r := H
        have A8 := Aside0.mk A80
        clear A80
        have HH := Aside0.mk H
        clear H
        try go_wp2_with (first | ((with_reducible refine gate_dst (N := 5) rfl ?_); refine box_event ?hg (N := 5) ?hd (cs := #[.int .i64 0, .int .i64 0, .int .i64 0, .int .i64 0]) (t := 24) ?hr ?_; (case hd => rfl); (case hg => rfl); (case hr => first | (go_simp; done) | (go_simp; rfl)); intro gb133 hg w101 hbox hb; have n0_ := Aside0.mk (Kd.R_below (Kd.R_elderB (by (with_reducible repeat (first | apply Kd.R_alloc | apply Kd.R_drewN | apply Kd.R_drew)); exact HO_3.out) gb133 (Nat.le_of_eq hg.symm)) hb); have n1_ := Aside0.mk (below_step (by repeat (first | (with_reducible first | exact HB.out | apply below_alloc | apply pw_below_drewN | apply below_drew1) | exact HB.out)) hb); have n2_ := Aside0.mk (hbox); have n3_ := Aside0.mk ((by rw [hg]; exact (below_size (by repeat (first | (with_reducible first | exact HB.out | apply below_alloc | apply pw_below_drewN | apply below_drew1) | exact HB.out))) : w.heap.size ≤ gb133)); have n4_ := Aside0.mk ((by rw [hg]; exact (below_size (by repeat (first | (with_reducible first | exact HB.out | apply below_alloc | apply pw_below_drewN | apply below_drew1) | exact HB.out))) : w.heap.size ≤ gb133)); clear HO_3; clear HB; have HO_3 := n0_; have HB := n1_; have BK133 := n2_; have GW133 := n3_; have GE133 := n4_; clear n0_ n1_ n2_ n3_ n4_; clear hb hbox hg; have hcz102_0 : w101.cell? ⟨gb133, 0, none⟩ = some (.int .i64 0) := (blk_cell BK133.out 0).trans rfl; have hcz102_1 : w101.cell? ⟨gb133, 1, none⟩ = some (.int .i64 0) := (blk_cell BK133.out 1).trans rfl; have hcz102_2 : w101.cell? ⟨gb133, 2, none⟩ = some (.int .i64 0) := (blk_cell BK133.out 2).trans rfl; have hcz102_3 : w101.cell? ⟨gb133, 3, none⟩ = some (.int .i64 0) := (blk_cell BK133.out 3).trans rfl; have hfz102_0 := blk_frozen BK133.out 0; have hfz102_1 := blk_frozen BK133.out 1; have hfz102_2 := blk_frozen BK133.out 2; have hfz102_3 := blk_frozen BK133.out 3))
        have n0_ : Aside0 (Kd.R k24 24 ((((w101.setCell ⟨gb133, 0, none⟩ (.int .i64 (wrap64 ((wrap64 (Int.tdiv x10_1 27)) - 1)))).setCell ⟨gb133, 1, none⟩ (.int .i64 (wrap64 ((Int.tmod (wrap64 (Int.tdiv x10_1 9)) 3) - 1)))).setCell ⟨gb133, 2, none⟩ (.int .i64 (wrap64 ((Int.tmod (wrap64 (Int.tdiv x10_1 3)) 3) - 1)))).setCell ⟨gb133, 3, none⟩ (.int .i64 (wrap64 ((Int.tmod x10_1 3) - 1)))) w.heap.size (fun k_ => k_ ≠ gb133) u3 x3_1) := ⟨by (with_reducible repeat (first | apply Kd.R_alloc | apply Kd.R_drewN | apply Kd.R_drew)); exact Kd.R_mono (Kd.R_far (p := ⟨gb133, 3, none⟩) (Kd.R_far (p := ⟨gb133, 2, none⟩) (Kd.R_far (p := ⟨gb133, 1, none⟩) (Kd.R_far (p := ⟨gb133, 0, none⟩) (Kd.R_mono HO_3.out (fun k_ hk => (⟨hk, hk.2⟩ : _ ∧ k_ ≠ gb133))) (fun _ hk => hk.2) (.int .i64 (wrap64 ((wrap64 (Int.tdiv x10_1 27)) - 1)))) (fun _ hk => hk.2) (.int .i64 (wrap64 ((Int.tmod (wrap64 (Int.tdiv x10_1 9)) 3) - 1)))) (fun _ hk => hk.2) (.int .i64 (wrap64 ((Int.tmod (wrap64 (Int.tdiv x10_1 3)) 3) - 1)))) (fun _ hk => hk.2) (.int .i64 (wrap64 ((Int.tmod x10_1 3) - 1)))) (fun _ hk => hk.1.2)⟩
        have n1_ : Aside0 (((((w101.setCell ⟨gb133, 0, none⟩ (.int .i64 (wrap64 ((wrap64 (Int.tdiv x10_1 27)) - 1)))).setCell ⟨gb133, 1, none⟩ (.int .i64 (wrap64 ((Int.tmod (wrap64 (Int.tdiv x10_1 9)) 3) - 1)))).setCell ⟨gb133, 2, none⟩ (.int .i64 (wrap64 ((Int.tmod (wrap64 (Int.tdiv x10_1 3)) 3) - 1)))).setCell ⟨gb133, 3, none⟩ (.int .i64 (wrap64 ((Int.tmod x10_1 3) - 1)))).heap[gb133]? = some (.cells #[.int .i64 (wrap64 ((wrap64 (Int.tdiv x10_1 27)) - 1)), .int .i64 (wrap64 ((Int.tmod (wrap64 (Int.tdiv x10_1 9)) 3) - 1)), .int .i64 (wrap64 ((Int.tmod (wrap64 (Int.tdiv x10_1 3)) 3) - 1)), .int .i64 (wrap64 ((Int.tmod x10_1 3) - 1))] 24 (0, 0))) := ⟨by (with_reducible repeat (first | refine blk_drewN ?_ _ | refine blk_drew ?_ | refine blk_alloc ?_ _)); refine blk_put (cs := #[.int .i64 (wrap64 ((wrap64 (Int.tdiv x10_1 27)) - 1)), .int .i64 (wrap64 ((Int.tmod (wrap64 (Int.tdiv x10_1 9)) 3) - 1)), .int .i64 (wrap64 ((Int.tmod (wrap64 (Int.tdiv x10_1 3)) 3) - 1)), .int .i64 0]) ?_ 3 _ rfl; (with_reducible repeat (first | refine blk_drewN ?_ _ | refine blk_drew ?_ | refine blk_alloc ?_ _)); refine blk_put (cs := #[.int .i64 (wrap64 ((wrap64 (Int.tdiv x10_1 27)) - 1)), .int .i64 (wrap64 ((Int.tmod (wrap64 (Int.tdiv x10_1 9)) 3) - 1)), .int .i64 0, .int .i64 0]) ?_ 2 _ rfl; (with_reducible repeat (first | refine blk_drewN ?_ _ | refine blk_drew ?_ | refine blk_alloc ?_ _)); refine blk_put (cs := #[.int .i64 (wrap64 ((wrap64 (Int.tdiv x10_1 27)) - 1)), .int .i64 0, .int .i64 0, .int .i64 0]) ?_ 1 _ rfl; (with_reducible repeat (first | refine blk_drewN ?_ _ | refine blk_drew ?_ | refine blk_alloc ?_ _)); refine blk_put (cs := #[.int .i64 0, .int .i64 0, .int .i64 0, .int .i64 0]) ?_ 0 _ rfl; (with_reducible repeat (first | refine blk_drewN ?_ _ | refine blk_drew ?_ | refine blk_alloc ?_ _)); exact BK133.out⟩
        have n2_ : Aside0 (Below w.heap.size w ((((w101.setCell ⟨gb133, 0, none⟩ (.int .i64 (wrap64 ((wrap64 (Int.tdiv x10_1 27)) - 1)))).setCell ⟨gb133, 1, none⟩ (.int .i64 (wrap64 ((Int.tmod (wrap64 (Int.tdiv x10_1 9)) 3) - 1)))).setCell ⟨gb133, 2, none⟩ (.int .i64 (wrap64 ((Int.tmod (wrap64 (Int.tdiv x10_1 3)) 3) - 1)))).setCell ⟨gb133, 3, none⟩ (.int .i64 (wrap64 ((Int.tmod x10_1 3) - 1))))) := ⟨by repeat (first | (with_reducible first | exact HB.out | apply below_alloc | apply pw_below_drewN | apply below_drew1 | refine below_set ?_ GE133.out) | exact HB.out)⟩
        (try clear HO_3)
        (try clear BK133)
        (try clear HB)
        generalize ((((w101.setCell ⟨gb133, 0, none⟩ (.int .i64 (wrap64 ((wrap64 (Int.tdiv x10_1 27)) - 1)))).setCell ⟨gb133, 1, none⟩ (.int .i64 (wrap64 ((Int.tmod (wrap64 (Int.tdiv x10_1 9)) 3) - 1)))).setCell ⟨gb133, 2, none⟩ (.int .i64 (wrap64 ((Int.tmod (wrap64 (Int.tdiv x10_1 3)) 3) - 1)))).setCell ⟨gb133, 3, none⟩ (.int .i64 (wrap64 ((Int.tmod x10_1 3) - 1)))) = w103 at n0_ n1_ n2_ ⊢
        have HO_3 := n0_
        have BK133 := n1_
        have HB := n2_
        clear n0_ n1_ n2_
        have n0_ := Aside0.mk (Kd.R_drew HO_3.out)
        have n1_ := Aside0.mk (blk_drew BK133.out)
        have n2_ := Aside0.mk (below_drew1 HB.out)
        clear HO_3
        clear BK133
        clear HB
        have HO_3 := n0_
        have BK133 := n1_
        have HB := n2_
        clear n0_ n1_ n2_
        refine start_ (n := 15) (S := fun w' => True) (ds := []) #[false, false, false, false, false, false, false, false, false, false, false, false, false, false, false] (by kernel_rfl) rfl rfl trivial (fun hHeld => ?_); refine with_tabW impl_pointMats.tab6 impl_pointMats.bits6 (fun HT_ HW_ => ?_)
        generalize w103.drew = w104 at HO_3 BK133 HB hHeld ⊢
        refine inv_at [0, 1, 2, 3, 4, 5, 6, 7, 8, 9, 10, 11, 12, 13, 14] (fun a0_ b a w' => ∃ (gb140 : Nat) (gb141 : Nat) (gb142 : Nat) (m9_ : Value) (m10_ : Value) (m11_ : Value), a = putSel a0_ b [(0, 28, .agg #[.int .i64 (wrap64 ((wrap64 (Int.tdiv x10_1 27)) - 1)), .int .i64 (wrap64 ((Int.tmod (wrap64 (Int.tdiv x10_1 9)) 3) - 1)), .int .i64 (wrap64 ((Int.tmod (wrap64 (Int.tdiv x10_1 3)) 3) - 1)), .int .i64 (wrap64 ((Int.tmod x10_1 3) - 1))]), (1, 29, .agg #[.int .i64 1, .int .i64 0]), (2, 30, .agg #[.int .i64 t134, .int .i64 t135]), (3, 31, .agg #[.int .i64 (wrap64 ((wrap64 (Int.tdiv x10_1 27)) - 1)), .int .i64 (wrap64 ((Int.tmod (wrap64 (Int.tdiv x10_1 9)) 3) - 1)), .int .i64 (wrap64 ((Int.tmod (wrap64 (Int.tdiv x10_1 3)) 3) - 1)), .int .i64 (wrap64 ((Int.tmod x10_1 3) - 1))]), (4, 32, .agg #[.int .i64 0, .int .i64 1]), (5, 33, .agg #[.int .i64 t136, .int .i64 t137]), (6, 34, .agg #[.int .i64 (wrap64 ((wrap64 (Int.tdiv x10_1 27)) - 1)), .int .i64 (wrap64 ((Int.tmod (wrap64 (Int.tdiv x10_1 9)) 3) - 1)), .int .i64 (wrap64 ((Int.tmod (wrap64 (Int.tdiv x10_1 3)) 3) - 1)), .int .i64 (wrap64 ((Int.tmod x10_1 3) - 1))]), (7, 35, .agg #[.int .i64 1, .int .i64 1]), (8, 36, .agg #[.int .i64 t138, .int .i64 t139]), (9, 6, m9_), (10, 7, m10_), (11, 8, m11_)] ∧ (Kd.R k24 24 w' w.heap.size (fun k_ => k_ ≠ gb133) u3 x3_1) ∧ (w'.heap[gb133]? = some (.cells #[.int .i64 (wrap64 ((wrap64 (Int.tdiv x10_1 27)) - 1)), .int .i64 (wrap64 ((Int.tmod (wrap64 (Int.tdiv x10_1 9)) 3) - 1)), .int .i64 (wrap64 ((Int.tmod (wrap64 (Int.tdiv x10_1 3)) 3) - 1)), .int .i64 (wrap64 ((Int.tmod x10_1 3) - 1))] 24 (0, 0))) ∧ (Below w.heap.size w w') ∧ (b 9 = true → b 10 = true → gb141 ≠ gb140) ∧ (b 9 = true → b 10 = true → gb140 ≠ gb141) ∧ (b 9 = true → b 11 = true → gb142 ≠ gb140) ∧ (b 9 = true → b 11 = true → gb140 ≠ gb142) ∧ (b 10 = true → b 11 = true → gb142 ≠ gb141) ∧ (b 10 = true → b 11 = true → gb141 ≠ gb142) ∧ (b 9 = true → b 12 = false → w'.heap[gb140]? = some (.cells #[.int .i64 0, .int .i64 0] 41 (0, 0))) ∧ (b 9 = true → w.heap.size ≤ gb140) ∧ (b 9 = true → w.heap.size ≤ gb140) ∧ (b 9 = true → gb133 ≠ gb140) ∧ (b 9 = true → gb140 ≠ gb133) ∧ (b 10 = true → b 13 = false → w'.heap[gb141]? = some (.cells #[.int .i64 0, .int .i64 0] 41 (0, 0))) ∧ (b 10 = true → w.heap.size ≤ gb141) ∧ (b 10 = true → w.heap.size ≤ gb141) ∧ (b 10 = true → gb133 ≠ gb141) ∧ (b 10 = true → gb141 ≠ gb133) ∧ (b 11 = true → b 14 = false → w'.heap[gb142]? = some (.cells #[.int .i64 0, .int .i64 0] 41 (0, 0))) ∧ (b 11 = true → w.heap.size ≤ gb142) ∧ (b 11 = true → w.heap.size ≤ gb142) ∧ (b 11 = true → gb133 ≠ gb142) ∧ (b 11 = true → gb142 ≠ gb133) ∧ (b 12 = true → w'.heap[gb140]? = some (.cells #[.int .i64 t134, .int .i64 t135] 41 (0, 0))) ∧ (b 13 = true → w'.heap[gb141]? = some (.cells #[.int .i64 t136, .int .i64 t137] 41 (0, 0))) ∧ (b 14 = true → w'.heap[gb142]? = some (.cells #[.int .i64 t138, .int .i64 t139] 41 (0, 0))) ∧ (b 9 = true → (m9_ : Value) = .pointer (some ⟨gb140, 0, none⟩)) ∧ (b 10 = true → (m10_ : Value) = .pointer (some ⟨gb141, 0, none⟩)) ∧ (b 11 = true → (m11_ : Value) = .pointer (some ⟨gb142, 0, none⟩))) HT_.out HW_.out (by kernel_rfl) (by kernel_rfl) ?_ ?_ ?_
        · exact ⟨0, 0, 0, .bool false, .bool false, .bool false, by simp only [putSel, Bool.false_eq_true, if_false], HO_3.out, BK133.out, HB.out, fun h_ => absurd h_ (by decide), fun h_ => absurd h_ (by decide), fun h_ => absurd h_ (by decide), fun h_ => absurd h_ (by decide), fun h_ => absurd h_ (by decide), fun h_ => absurd h_ (by decide), fun h_ => absurd h_ (by decide), fun h_ => absurd h_ (by decide), fun h_ => absurd h_ (by decide), fun h_ => absurd h_ (by decide), fun h_ => absurd h_ (by decide), fun h_ => absurd h_ (by decide), fun h_ => absurd h_ (by decide), fun h_ => absurd h_ (by decide), fun h_ => absurd h_ (by decide), fun h_ => absurd h_ (by decide), fun h_ => absurd h_ (by decide), fun h_ => absurd h_ (by decide), fun h_ => absurd h_ (by decide), fun h_ => absurd h_ (by decide), fun h_ => absurd h_ (by decide), fun h_ => absurd h_ (by decide), fun h_ => absurd h_ (by decide), fun h_ => absurd h_ (by decide), fun h_ => absurd h_ (by decide), fun h_ => absurd h_ (by decide), fun h_ => absurd h_ (by decide)⟩
        · skip
          clear BK133 HB HO_3
          refine steps_cons ?_ ?_
          · rintro b a w' ⟨gb140, gb141, gb142, m9_, m10_, m11_, ha, Q_HO_3, Q_BK133, Q_HB, Q_NB141_140, Q_NB140_141, Q_NB142_140, Q_NB140_142, Q_NB142_141, Q_NB141_142, Q_BK140, Q_GW140, Q_GE140, Q_NB133_140, Q_NB140_133, Q_BK141, Q_GW141, Q_GE141, Q_NB133_141, Q_NB141_133, Q_BK142, Q_GW142, Q_GE142, Q_NB133_142, Q_NB142_133, Q_BK140_e12, Q_BK141_e13, Q_BK142_e14, Q_X9_, Q_X10_, Q_X11_⟩ hb_ hon hoff
            refine ⟨_, rfl, fun K hK => ?_⟩
            have e5 : a.tmps[5]? = some (.pointer (some ⟨gb133, 0, none⟩)) := by rw [ha]; exact (putSel_off rfl).trans rfl
            replace ha := Aside0.mk ha
            have HO_3 := Aside0.mk Q_HO_3
            have BK133 := Aside0.mk Q_BK133
            have HB := Aside0.mk Q_HB
            have hc0_ : w'.cell? ⟨gb133, 0, none⟩ = some (.int .i64 (wrap64 ((wrap64 (Int.tdiv x10_1 27)) - 1))) := (blk_cell BK133.out 0).trans rfl
            have hc1_ : w'.cell? ⟨gb133, 1, none⟩ = some (.int .i64 (wrap64 ((Int.tmod (wrap64 (Int.tdiv x10_1 9)) 3) - 1))) := (blk_cell BK133.out 1).trans rfl
            have hc2_ : w'.cell? ⟨gb133, 2, none⟩ = some (.int .i64 (wrap64 ((Int.tmod (wrap64 (Int.tdiv x10_1 3)) 3) - 1))) := (blk_cell BK133.out 2).trans rfl
            have hc3_ : w'.cell? ⟨gb133, 3, none⟩ = some (.int .i64 (wrap64 ((Int.tmod x10_1 3) - 1))) := (blk_cell BK133.out 3).trans rfl
            refine value_ (w1 := w') (v := .agg #[.int .i64 (wrap64 ((wrap64 (Int.tdiv x10_1 27)) - 1)), .int .i64 (wrap64 ((Int.tmod (wrap64 (Int.tdiv x10_1 9)) 3) - 1)), .int .i64 (wrap64 ((Int.tmod (wrap64 (Int.tdiv x10_1 3)) 3) - 1)), .int .i64 (wrap64 ((Int.tmod x10_1 3) - 1))]) (by rfl) rfl ?_ ?_
            · go_simp
              (try simp only [i64_w])
              try rfl
            refine hK.out _ _ ⟨gb140, gb141, gb142, m9_, m10_, m11_, (by rw [ha.out]; exact putSel_upk 0 hb_ rfl rfl rfl), Q_HO_3, Q_BK133, Q_HB, Q_NB141_140, Q_NB140_141, Q_NB142_140, Q_NB140_142, Q_NB142_141, Q_NB141_142, Q_BK140, Q_GW140, Q_GE140, Q_NB133_140, Q_NB140_133, Q_BK141, Q_GW141, Q_GE141, Q_NB133_141, Q_NB141_133, Q_BK142, Q_GW142, Q_GE142, Q_NB133_142, Q_NB142_133, fun h0_ => absurd ((hoff 12 (by kernel_rfl)).symm.trans h0_) (by decide), fun h0_ => absurd ((hoff 13 (by kernel_rfl)).symm.trans h0_) (by decide), fun h0_ => absurd ((hoff 14 (by kernel_rfl)).symm.trans h0_) (by decide), Q_X9_, Q_X10_, Q_X11_⟩
          refine steps_cons ?_ ?_
          · rintro b a w' ⟨gb140, gb141, gb142, m9_, m10_, m11_, ha, Q_HO_3, Q_BK133, Q_HB, Q_NB141_140, Q_NB140_141, Q_NB142_140, Q_NB140_142, Q_NB142_141, Q_NB141_142, Q_BK140, Q_GW140, Q_GE140, Q_NB133_140, Q_NB140_133, Q_BK141, Q_GW141, Q_GE141, Q_NB133_141, Q_NB141_133, Q_BK142, Q_GW142, Q_GE142, Q_NB133_142, Q_NB142_133, Q_BK140_e12, Q_BK141_e13, Q_BK142_e14, Q_X9_, Q_X10_, Q_X11_⟩ hb_ hon hoff
            refine ⟨_, rfl, fun K hK => ?_⟩
            replace ha := Aside0.mk ha
            have HO_3 := Aside0.mk Q_HO_3
            have BK133 := Aside0.mk Q_BK133
            have HB := Aside0.mk Q_HB
            refine value_ (w1 := w') (v := .agg #[.int .i64 1, .int .i64 0]) (by rfl) rfl ?_ ?_
            · go_simp
              (try simp only [i64_w])
              try rfl
            refine hK.out _ _ ⟨gb140, gb141, gb142, m9_, m10_, m11_, (by rw [ha.out]; exact putSel_upk 1 hb_ rfl rfl rfl), Q_HO_3, Q_BK133, Q_HB, Q_NB141_140, Q_NB140_141, Q_NB142_140, Q_NB140_142, Q_NB142_141, Q_NB141_142, Q_BK140, Q_GW140, Q_GE140, Q_NB133_140, Q_NB140_133, Q_BK141, Q_GW141, Q_GE141, Q_NB133_141, Q_NB141_133, Q_BK142, Q_GW142, Q_GE142, Q_NB133_142, Q_NB142_133, fun h0_ => absurd ((hoff 12 (by kernel_rfl)).symm.trans h0_) (by decide), fun h0_ => absurd ((hoff 13 (by kernel_rfl)).symm.trans h0_) (by decide), fun h0_ => absurd ((hoff 14 (by kernel_rfl)).symm.trans h0_) (by decide), Q_X9_, Q_X10_, Q_X11_⟩
          refine steps_cons ?_ ?_
          · rintro b a w' ⟨gb140, gb141, gb142, m9_, m10_, m11_, ha, Q_HO_3, Q_BK133, Q_HB, Q_NB141_140, Q_NB140_141, Q_NB142_140, Q_NB140_142, Q_NB142_141, Q_NB141_142, Q_BK140, Q_GW140, Q_GE140, Q_NB133_140, Q_NB140_133, Q_BK141, Q_GW141, Q_GE141, Q_NB133_141, Q_NB141_133, Q_BK142, Q_GW142, Q_GE142, Q_NB133_142, Q_NB142_133, Q_BK140_e12, Q_BK141_e13, Q_BK142_e14, Q_X9_, Q_X10_, Q_X11_⟩ hb_ hon hoff
            refine ⟨_, rfl, fun K hK => ?_⟩
            have e28 : a.tmps[28]? = some (.agg #[.int .i64 (wrap64 ((wrap64 (Int.tdiv x10_1 27)) - 1)), .int .i64 (wrap64 ((Int.tmod (wrap64 (Int.tdiv x10_1 9)) 3) - 1)), .int .i64 (wrap64 ((Int.tmod (wrap64 (Int.tdiv x10_1 3)) 3) - 1)), .int .i64 (wrap64 ((Int.tmod x10_1 3) - 1))]) := by rw [ha]; exact putSel_on (e := (0, 28, .agg #[.int .i64 (wrap64 ((wrap64 (Int.tdiv x10_1 27)) - 1)), .int .i64 (wrap64 ((Int.tmod (wrap64 (Int.tdiv x10_1 9)) 3) - 1)), .int .i64 (wrap64 ((Int.tmod (wrap64 (Int.tdiv x10_1 3)) 3) - 1)), .int .i64 (wrap64 ((Int.tmod x10_1 3) - 1))])) 0 rfl rfl (hon 0 (by kernel_rfl)) rfl
            have e29 : a.tmps[29]? = some (.agg #[.int .i64 1, .int .i64 0]) := by rw [ha]; exact putSel_on (e := (1, 29, .agg #[.int .i64 1, .int .i64 0])) 1 rfl rfl (hon 1 (by kernel_rfl)) rfl
            replace ha := Aside0.mk ha
            have HO_3 := Aside0.mk Q_HO_3
            have BK133 := Aside0.mk Q_BK133
            have HB := Aside0.mk Q_HB
            refine goes_ Try.func111 (by kernel_rfl) rfl #[.agg #[.int .i64 (wrap64 ((wrap64 (Int.tdiv x10_1 27)) - 1)), .int .i64 (wrap64 ((Int.tmod (wrap64 (Int.tdiv x10_1 9)) 3) - 1)), .int .i64 (wrap64 ((Int.tmod (wrap64 (Int.tdiv x10_1 3)) 3) - 1)), .int .i64 (wrap64 ((Int.tmod x10_1 3) - 1))], .agg #[.int .i64 1, .int .i64 0]] (by rfl) rfl rfl (by first | (simp only [List.map_toArray, List.map_cons, List.map_nil, Act.eval, Array.getD_eq_getD_getElem?, Option.getD_some, e28, e29]; done) | (simp only [List.map_toArray, List.map_cons, List.map_nil, Act.eval, Array.getD_eq_getD_getElem?, Option.getD_some, e28, e29]; rfl)) ?_
            with_reducible refine (impl_Mat_apply.calls (wrap64 ((wrap64 (Int.tdiv x10_1 27)) - 1)) (wrap64 ((Int.tmod (wrap64 (Int.tdiv x10_1 9)) 3) - 1)) (wrap64 ((Int.tmod (wrap64 (Int.tdiv x10_1 3)) 3) - 1)) (wrap64 ((Int.tmod x10_1 3) - 1)) 1 0 t134 t135 _ A5.out).mono ?_
            rintro e w105 ⟨rfl, hb⟩
            refine ⟨_, rfl, ?_⟩
            have n0_ := Aside0.mk (Kd.R_below (by (with_reducible repeat (first | apply Kd.R_alloc | apply Kd.R_drewN | apply Kd.R_drew)); exact HO_3.out) hb)
            have n1_ := Aside0.mk (blk_below (g := gb133) (o := .cells #[.int .i64 (wrap64 ((wrap64 (Int.tdiv x10_1 27)) - 1)), .int .i64 (wrap64 ((Int.tmod (wrap64 (Int.tdiv x10_1 9)) 3) - 1)), .int .i64 (wrap64 ((Int.tmod (wrap64 (Int.tdiv x10_1 3)) 3) - 1)), .int .i64 (wrap64 ((Int.tmod x10_1 3) - 1))] 24 (0, 0)) (by (with_reducible repeat (first | refine blk_drewN ?_ _ | refine blk_drew ?_ | refine blk_alloc ?_ _)); exact BK133.out) hb)
            have n2_ := Aside0.mk (below_step (by repeat (first | (with_reducible first | exact HB.out | apply below_alloc | apply pw_below_drewN | apply below_drew1 | refine below_set ?_ GE133.out) | exact HB.out)) hb)
            have z_BK140 := fun (h0_ : b 9 = true) (h1_ : b 12 = false) => (show w105.heap[gb140]? = some (.cells #[.int .i64 0, .int .i64 0] 41 (0, 0)) from by first | exact (blk_below (g := gb140) (o := .cells #[.int .i64 0, .int .i64 0] 41 (0, 0)) (by (with_reducible repeat (first | refine blk_drewN ?_ _ | refine blk_drew ?_ | refine blk_alloc ?_ _)); exact (Q_BK140 h0_ h1_)) hb))
            have z_BK141 := fun (h0_ : b 10 = true) (h1_ : b 13 = false) => (show w105.heap[gb141]? = some (.cells #[.int .i64 0, .int .i64 0] 41 (0, 0)) from by first | exact (blk_below (g := gb141) (o := .cells #[.int .i64 0, .int .i64 0] 41 (0, 0)) (by (with_reducible repeat (first | refine blk_drewN ?_ _ | refine blk_drew ?_ | refine blk_alloc ?_ _)); exact (Q_BK141 h0_ h1_)) hb))
            have z_BK142 := fun (h0_ : b 11 = true) (h1_ : b 14 = false) => (show w105.heap[gb142]? = some (.cells #[.int .i64 0, .int .i64 0] 41 (0, 0)) from by first | exact (blk_below (g := gb142) (o := .cells #[.int .i64 0, .int .i64 0] 41 (0, 0)) (by (with_reducible repeat (first | refine blk_drewN ?_ _ | refine blk_drew ?_ | refine blk_alloc ?_ _)); exact (Q_BK142 h0_ h1_)) hb))
            clear HO_3
            clear BK133
            clear HB
            have HO_3 := n0_
            have BK133 := n1_
            have HB := n2_
            clear n0_ n1_ n2_
            (try clear hb)
            (try clear hb2)
            (try clear hk)
            (try clear hi)
            refine hK.out _ _ ⟨gb140, gb141, gb142, m9_, m10_, m11_, (by rw [ha.out]; exact putSel_upk 2 hb_ rfl rfl rfl), (by (with_reducible repeat (first | apply Kd.R_alloc | apply Kd.R_drewN | apply Kd.R_drew)); exact HO_3.out), (by (with_reducible repeat (first | refine blk_drewN ?_ _ | refine blk_drew ?_ | refine blk_alloc ?_ _)); exact BK133.out), (by repeat (first | (with_reducible first | exact HB.out | apply below_alloc | apply pw_below_drewN | apply below_drew1 | refine below_set ?_ GE133.out) | exact HB.out)), Q_NB141_140, Q_NB140_141, Q_NB142_140, Q_NB140_142, Q_NB142_141, Q_NB141_142, z_BK140, Q_GW140, Q_GE140, Q_NB133_140, Q_NB140_133, z_BK141, Q_GW141, Q_GE141, Q_NB133_141, Q_NB141_133, z_BK142, Q_GW142, Q_GE142, Q_NB133_142, Q_NB142_133, fun h0_ => absurd ((hoff 12 (by kernel_rfl)).symm.trans h0_) (by decide), fun h0_ => absurd ((hoff 13 (by kernel_rfl)).symm.trans h0_) (by decide), fun h0_ => absurd ((hoff 14 (by kernel_rfl)).symm.trans h0_) (by decide), Q_X9_, Q_X10_, Q_X11_⟩
          refine steps_cons ?_ ?_
          · rintro b a w' ⟨gb140, gb141, gb142, m9_, m10_, m11_, ha, Q_HO_3, Q_BK133, Q_HB, Q_NB141_140, Q_NB140_141, Q_NB142_140, Q_NB140_142, Q_NB142_141, Q_NB141_142, Q_BK140, Q_GW140, Q_GE140, Q_NB133_140, Q_NB140_133, Q_BK141, Q_GW141, Q_GE141, Q_NB133_141, Q_NB141_133, Q_BK142, Q_GW142, Q_GE142, Q_NB133_142, Q_NB142_133, Q_BK140_e12, Q_BK141_e13, Q_BK142_e14, Q_X9_, Q_X10_, Q_X11_⟩ hb_ hon hoff
            refine ⟨_, rfl, fun K hK => ?_⟩
            have e5 : a.tmps[5]? = some (.pointer (some ⟨gb133, 0, none⟩)) := by rw [ha]; exact (putSel_off rfl).trans rfl
            replace ha := Aside0.mk ha
            have HO_3 := Aside0.mk Q_HO_3
            have BK133 := Aside0.mk Q_BK133
            have HB := Aside0.mk Q_HB
            have hc0_ : w'.cell? ⟨gb133, 0, none⟩ = some (.int .i64 (wrap64 ((wrap64 (Int.tdiv x10_1 27)) - 1))) := (blk_cell BK133.out 0).trans rfl
            have hc1_ : w'.cell? ⟨gb133, 1, none⟩ = some (.int .i64 (wrap64 ((Int.tmod (wrap64 (Int.tdiv x10_1 9)) 3) - 1))) := (blk_cell BK133.out 1).trans rfl
            have hc2_ : w'.cell? ⟨gb133, 2, none⟩ = some (.int .i64 (wrap64 ((Int.tmod (wrap64 (Int.tdiv x10_1 3)) 3) - 1))) := (blk_cell BK133.out 2).trans rfl
            have hc3_ : w'.cell? ⟨gb133, 3, none⟩ = some (.int .i64 (wrap64 ((Int.tmod x10_1 3) - 1))) := (blk_cell BK133.out 3).trans rfl
            refine value_ (w1 := w') (v := .agg #[.int .i64 (wrap64 ((wrap64 (Int.tdiv x10_1 27)) - 1)), .int .i64 (wrap64 ((Int.tmod (wrap64 (Int.tdiv x10_1 9)) 3) - 1)), .int .i64 (wrap64 ((Int.tmod (wrap64 (Int.tdiv x10_1 3)) 3) - 1)), .int .i64 (wrap64 ((Int.tmod x10_1 3) - 1))]) (by rfl) rfl ?_ ?_
            · go_simp
              (try simp only [i64_w])
              try rfl
            refine hK.out _ _ ⟨gb140, gb141, gb142, m9_, m10_, m11_, (by rw [ha.out]; exact putSel_upk 3 hb_ rfl rfl rfl), Q_HO_3, Q_BK133, Q_HB, Q_NB141_140, Q_NB140_141, Q_NB142_140, Q_NB140_142, Q_NB142_141, Q_NB141_142, Q_BK140, Q_GW140, Q_GE140, Q_NB133_140, Q_NB140_133, Q_BK141, Q_GW141, Q_GE141, Q_NB133_141, Q_NB141_133, Q_BK142, Q_GW142, Q_GE142, Q_NB133_142, Q_NB142_133, fun h0_ => absurd ((hoff 12 (by kernel_rfl)).symm.trans h0_) (by decide), fun h0_ => absurd ((hoff 13 (by kernel_rfl)).symm.trans h0_) (by decide), fun h0_ => absurd ((hoff 14 (by kernel_rfl)).symm.trans h0_) (by decide), Q_X9_, Q_X10_, Q_X11_⟩
          refine steps_cons ?_ ?_
          · rintro b a w' ⟨gb140, gb141, gb142, m9_, m10_, m11_, ha, Q_HO_3, Q_BK133, Q_HB, Q_NB141_140, Q_NB140_141, Q_NB142_140, Q_NB140_142, Q_NB142_141, Q_NB141_142, Q_BK140, Q_GW140, Q_GE140, Q_NB133_140, Q_NB140_133, Q_BK141, Q_GW141, Q_GE141, Q_NB133_141, Q_NB141_133, Q_BK142, Q_GW142, Q_GE142, Q_NB133_142, Q_NB142_133, Q_BK140_e12, Q_BK141_e13, Q_BK142_e14, Q_X9_, Q_X10_, Q_X11_⟩ hb_ hon hoff
            refine ⟨_, rfl, fun K hK => ?_⟩
            replace ha := Aside0.mk ha
            have HO_3 := Aside0.mk Q_HO_3
            have BK133 := Aside0.mk Q_BK133
            have HB := Aside0.mk Q_HB
            refine value_ (w1 := w') (v := .agg #[.int .i64 0, .int .i64 1]) (by rfl) rfl ?_ ?_
            · go_simp
              (try simp only [i64_w])
              try rfl
            refine hK.out _ _ ⟨gb140, gb141, gb142, m9_, m10_, m11_, (by rw [ha.out]; exact putSel_upk 4 hb_ rfl rfl rfl), Q_HO_3, Q_BK133, Q_HB, Q_NB141_140, Q_NB140_141, Q_NB142_140, Q_NB140_142, Q_NB142_141, Q_NB141_142, Q_BK140, Q_GW140, Q_GE140, Q_NB133_140, Q_NB140_133, Q_BK141, Q_GW141, Q_GE141, Q_NB133_141, Q_NB141_133, Q_BK142, Q_GW142, Q_GE142, Q_NB133_142, Q_NB142_133, fun h0_ => absurd ((hoff 12 (by kernel_rfl)).symm.trans h0_) (by decide), fun h0_ => absurd ((hoff 13 (by kernel_rfl)).symm.trans h0_) (by decide), fun h0_ => absurd ((hoff 14 (by kernel_rfl)).symm.trans h0_) (by decide), Q_X9_, Q_X10_, Q_X11_⟩
          refine steps_cons ?_ ?_
          · rintro b a w' ⟨gb140, gb141, gb142, m9_, m10_, m11_, ha, Q_HO_3, Q_BK133, Q_HB, Q_NB141_140, Q_NB140_141, Q_NB142_140, Q_NB140_142, Q_NB142_141, Q_NB141_142, Q_BK140, Q_GW140, Q_GE140, Q_NB133_140, Q_NB140_133, Q_BK141, Q_GW141, Q_GE141, Q_NB133_141, Q_NB141_133, Q_BK142, Q_GW142, Q_GE142, Q_NB133_142, Q_NB142_133, Q_BK140_e12, Q_BK141_e13, Q_BK142_e14, Q_X9_, Q_X10_, Q_X11_⟩ hb_ hon hoff
            refine ⟨_, rfl, fun K hK => ?_⟩
            have e31 : a.tmps[31]? = some (.agg #[.int .i64 (wrap64 ((wrap64 (Int.tdiv x10_1 27)) - 1)), .int .i64 (wrap64 ((Int.tmod (wrap64 (Int.tdiv x10_1 9)) 3) - 1)), .int .i64 (wrap64 ((Int.tmod (wrap64 (Int.tdiv x10_1 3)) 3) - 1)), .int .i64 (wrap64 ((Int.tmod x10_1 3) - 1))]) := by rw [ha]; exact putSel_on (e := (3, 31, .agg #[.int .i64 (wrap64 ((wrap64 (Int.tdiv x10_1 27)) - 1)), .int .i64 (wrap64 ((Int.tmod (wrap64 (Int.tdiv x10_1 9)) 3) - 1)), .int .i64 (wrap64 ((Int.tmod (wrap64 (Int.tdiv x10_1 3)) 3) - 1)), .int .i64 (wrap64 ((Int.tmod x10_1 3) - 1))])) 3 rfl rfl (hon 3 (by kernel_rfl)) rfl
            have e32 : a.tmps[32]? = some (.agg #[.int .i64 0, .int .i64 1]) := by rw [ha]; exact putSel_on (e := (4, 32, .agg #[.int .i64 0, .int .i64 1])) 4 rfl rfl (hon 4 (by kernel_rfl)) rfl
            replace ha := Aside0.mk ha
            have HO_3 := Aside0.mk Q_HO_3
            have BK133 := Aside0.mk Q_BK133
            have HB := Aside0.mk Q_HB
            refine goes_ Try.func111 (by kernel_rfl) rfl #[.agg #[.int .i64 (wrap64 ((wrap64 (Int.tdiv x10_1 27)) - 1)), .int .i64 (wrap64 ((Int.tmod (wrap64 (Int.tdiv x10_1 9)) 3) - 1)), .int .i64 (wrap64 ((Int.tmod (wrap64 (Int.tdiv x10_1 3)) 3) - 1)), .int .i64 (wrap64 ((Int.tmod x10_1 3) - 1))], .agg #[.int .i64 0, .int .i64 1]] (by rfl) rfl rfl (by first | (simp only [List.map_toArray, List.map_cons, List.map_nil, Act.eval, Array.getD_eq_getD_getElem?, Option.getD_some, e31, e32]; done) | (simp only [List.map_toArray, List.map_cons, List.map_nil, Act.eval, Array.getD_eq_getD_getElem?, Option.getD_some, e31, e32]; rfl)) ?_
            with_reducible refine (impl_Mat_apply.calls (wrap64 ((wrap64 (Int.tdiv x10_1 27)) - 1)) (wrap64 ((Int.tmod (wrap64 (Int.tdiv x10_1 9)) 3) - 1)) (wrap64 ((Int.tmod (wrap64 (Int.tdiv x10_1 3)) 3) - 1)) (wrap64 ((Int.tmod x10_1 3) - 1)) 0 1 t136 t137 _ A6.out).mono ?_
            rintro e w107 ⟨rfl, hb⟩
            refine ⟨_, rfl, ?_⟩
            have n0_ := Aside0.mk (Kd.R_below (by (with_reducible repeat (first | apply Kd.R_alloc | apply Kd.R_drewN | apply Kd.R_drew)); exact HO_3.out) hb)
            have n1_ := Aside0.mk (blk_below (g := gb133) (o := .cells #[.int .i64 (wrap64 ((wrap64 (Int.tdiv x10_1 27)) - 1)), .int .i64 (wrap64 ((Int.tmod (wrap64 (Int.tdiv x10_1 9)) 3) - 1)), .int .i64 (wrap64 ((Int.tmod (wrap64 (Int.tdiv x10_1 3)) 3) - 1)), .int .i64 (wrap64 ((Int.tmod x10_1 3) - 1))] 24 (0, 0)) (by (with_reducible repeat (first | refine blk_drewN ?_ _ | refine blk_drew ?_ | refine blk_alloc ?_ _)); exact BK133.out) hb)
            have n2_ := Aside0.mk (below_step (by repeat (first | (with_reducible first | exact HB.out | apply below_alloc | apply pw_below_drewN | apply below_drew1 | refine below_set ?_ GE133.out) | exact HB.out)) hb)
            have z_BK140 := fun (h0_ : b 9 = true) (h1_ : b 12 = false) => (show w107.heap[gb140]? = some (.cells #[.int .i64 0, .int .i64 0] 41 (0, 0)) from by first | exact (blk_below (g := gb140) (o := .cells #[.int .i64 0, .int .i64 0] 41 (0, 0)) (by (with_reducible repeat (first | refine blk_drewN ?_ _ | refine blk_drew ?_ | refine blk_alloc ?_ _)); exact (Q_BK140 h0_ h1_)) hb))
            have z_BK141 := fun (h0_ : b 10 = true) (h1_ : b 13 = false) => (show w107.heap[gb141]? = some (.cells #[.int .i64 0, .int .i64 0] 41 (0, 0)) from by first | exact (blk_below (g := gb141) (o := .cells #[.int .i64 0, .int .i64 0] 41 (0, 0)) (by (with_reducible repeat (first | refine blk_drewN ?_ _ | refine blk_drew ?_ | refine blk_alloc ?_ _)); exact (Q_BK141 h0_ h1_)) hb))
            have z_BK142 := fun (h0_ : b 11 = true) (h1_ : b 14 = false) => (show w107.heap[gb142]? = some (.cells #[.int .i64 0, .int .i64 0] 41 (0, 0)) from by first | exact (blk_below (g := gb142) (o := .cells #[.int .i64 0, .int .i64 0] 41 (0, 0)) (by (with_reducible repeat (first | refine blk_drewN ?_ _ | refine blk_drew ?_ | refine blk_alloc ?_ _)); exact (Q_BK142 h0_ h1_)) hb))
            clear HO_3
            clear BK133
            clear HB
            have HO_3 := n0_
            have BK133 := n1_
            have HB := n2_
            clear n0_ n1_ n2_
            (try clear hb)
            (try clear hb2)
            (try clear hk)
            (try clear hi)
            refine hK.out _ _ ⟨gb140, gb141, gb142, m9_, m10_, m11_, (by rw [ha.out]; exact putSel_upk 5 hb_ rfl rfl rfl), (by (with_reducible repeat (first | apply Kd.R_alloc | apply Kd.R_drewN | apply Kd.R_drew)); exact HO_3.out), (by (with_reducible repeat (first | refine blk_drewN ?_ _ | refine blk_drew ?_ | refine blk_alloc ?_ _)); exact BK133.out), (by repeat (first | (with_reducible first | exact HB.out | apply below_alloc | apply pw_below_drewN | apply below_drew1 | refine below_set ?_ GE133.out) | exact HB.out)), Q_NB141_140, Q_NB140_141, Q_NB142_140, Q_NB140_142, Q_NB142_141, Q_NB141_142, z_BK140, Q_GW140, Q_GE140, Q_NB133_140, Q_NB140_133, z_BK141, Q_GW141, Q_GE141, Q_NB133_141, Q_NB141_133, z_BK142, Q_GW142, Q_GE142, Q_NB133_142, Q_NB142_133, fun h0_ => absurd ((hoff 12 (by kernel_rfl)).symm.trans h0_) (by decide), fun h0_ => absurd ((hoff 13 (by kernel_rfl)).symm.trans h0_) (by decide), fun h0_ => absurd ((hoff 14 (by kernel_rfl)).symm.trans h0_) (by decide), Q_X9_, Q_X10_, Q_X11_⟩
          refine steps_cons ?_ ?_
          · rintro b a w' ⟨gb140, gb141, gb142, m9_, m10_, m11_, ha, Q_HO_3, Q_BK133, Q_HB, Q_NB141_140, Q_NB140_141, Q_NB142_140, Q_NB140_142, Q_NB142_141, Q_NB141_142, Q_BK140, Q_GW140, Q_GE140, Q_NB133_140, Q_NB140_133, Q_BK141, Q_GW141, Q_GE141, Q_NB133_141, Q_NB141_133, Q_BK142, Q_GW142, Q_GE142, Q_NB133_142, Q_NB142_133, Q_BK140_e12, Q_BK141_e13, Q_BK142_e14, Q_X9_, Q_X10_, Q_X11_⟩ hb_ hon hoff
            refine ⟨_, rfl, fun K hK => ?_⟩
            have e5 : a.tmps[5]? = some (.pointer (some ⟨gb133, 0, none⟩)) := by rw [ha]; exact (putSel_off rfl).trans rfl
            replace ha := Aside0.mk ha
            have HO_3 := Aside0.mk Q_HO_3
            have BK133 := Aside0.mk Q_BK133
            have HB := Aside0.mk Q_HB
            have hc0_ : w'.cell? ⟨gb133, 0, none⟩ = some (.int .i64 (wrap64 ((wrap64 (Int.tdiv x10_1 27)) - 1))) := (blk_cell BK133.out 0).trans rfl
            have hc1_ : w'.cell? ⟨gb133, 1, none⟩ = some (.int .i64 (wrap64 ((Int.tmod (wrap64 (Int.tdiv x10_1 9)) 3) - 1))) := (blk_cell BK133.out 1).trans rfl
            have hc2_ : w'.cell? ⟨gb133, 2, none⟩ = some (.int .i64 (wrap64 ((Int.tmod (wrap64 (Int.tdiv x10_1 3)) 3) - 1))) := (blk_cell BK133.out 2).trans rfl
            have hc3_ : w'.cell? ⟨gb133, 3, none⟩ = some (.int .i64 (wrap64 ((Int.tmod x10_1 3) - 1))) := (blk_cell BK133.out 3).trans rfl
            refine value_ (w1 := w') (v := .agg #[.int .i64 (wrap64 ((wrap64 (Int.tdiv x10_1 27)) - 1)), .int .i64 (wrap64 ((Int.tmod (wrap64 (Int.tdiv x10_1 9)) 3) - 1)), .int .i64 (wrap64 ((Int.tmod (wrap64 (Int.tdiv x10_1 3)) 3) - 1)), .int .i64 (wrap64 ((Int.tmod x10_1 3) - 1))]) (by rfl) rfl ?_ ?_
            · go_simp
              (try simp only [i64_w])
              try rfl
            refine hK.out _ _ ⟨gb140, gb141, gb142, m9_, m10_, m11_, (by rw [ha.out]; exact putSel_upk 6 hb_ rfl rfl rfl), Q_HO_3, Q_BK133, Q_HB, Q_NB141_140, Q_NB140_141, Q_NB142_140, Q_NB140_142, Q_NB142_141, Q_NB141_142, Q_BK140, Q_GW140, Q_GE140, Q_NB133_140, Q_NB140_133, Q_BK141, Q_GW141, Q_GE141, Q_NB133_141, Q_NB141_133, Q_BK142, Q_GW142, Q_GE142, Q_NB133_142, Q_NB142_133, fun h0_ => absurd ((hoff 12 (by kernel_rfl)).symm.trans h0_) (by decide), fun h0_ => absurd ((hoff 13 (by kernel_rfl)).symm.trans h0_) (by decide), fun h0_ => absurd ((hoff 14 (by kernel_rfl)).symm.trans h0_) (by decide), Q_X9_, Q_X10_, Q_X11_⟩
          refine steps_cons ?_ ?_
          · rintro b a w' ⟨gb140, gb141, gb142, m9_, m10_, m11_, ha, Q_HO_3, Q_BK133, Q_HB, Q_NB141_140, Q_NB140_141, Q_NB142_140, Q_NB140_142, Q_NB142_141, Q_NB141_142, Q_BK140, Q_GW140, Q_GE140, Q_NB133_140, Q_NB140_133, Q_BK141, Q_GW141, Q_GE141, Q_NB133_141, Q_NB141_133, Q_BK142, Q_GW142, Q_GE142, Q_NB133_142, Q_NB142_133, Q_BK140_e12, Q_BK141_e13, Q_BK142_e14, Q_X9_, Q_X10_, Q_X11_⟩ hb_ hon hoff
            refine ⟨_, rfl, fun K hK => ?_⟩
            replace ha := Aside0.mk ha
            have HO_3 := Aside0.mk Q_HO_3
            have BK133 := Aside0.mk Q_BK133
            have HB := Aside0.mk Q_HB
            refine value_ (w1 := w') (v := .agg #[.int .i64 1, .int .i64 1]) (by rfl) rfl ?_ ?_
            · go_simp
              (try simp only [i64_w])
              try rfl
            refine hK.out _ _ ⟨gb140, gb141, gb142, m9_, m10_, m11_, (by rw [ha.out]; exact putSel_upk 7 hb_ rfl rfl rfl), Q_HO_3, Q_BK133, Q_HB, Q_NB141_140, Q_NB140_141, Q_NB142_140, Q_NB140_142, Q_NB142_141, Q_NB141_142, Q_BK140, Q_GW140, Q_GE140, Q_NB133_140, Q_NB140_133, Q_BK141, Q_GW141, Q_GE141, Q_NB133_141, Q_NB141_133, Q_BK142, Q_GW142, Q_GE142, Q_NB133_142, Q_NB142_133, fun h0_ => absurd ((hoff 12 (by kernel_rfl)).symm.trans h0_) (by decide), fun h0_ => absurd ((hoff 13 (by kernel_rfl)).symm.trans h0_) (by decide), fun h0_ => absurd ((hoff 14 (by kernel_rfl)).symm.trans h0_) (by decide), Q_X9_, Q_X10_, Q_X11_⟩
          refine steps_cons ?_ ?_
          · rintro b a w' ⟨gb140, gb141, gb142, m9_, m10_, m11_, ha, Q_HO_3, Q_BK133, Q_HB, Q_NB141_140, Q_NB140_141, Q_NB142_140, Q_NB140_142, Q_NB142_141, Q_NB141_142, Q_BK140, Q_GW140, Q_GE140, Q_NB133_140, Q_NB140_133, Q_BK141, Q_GW141, Q_GE141, Q_NB133_141, Q_NB141_133, Q_BK142, Q_GW142, Q_GE142, Q_NB133_142, Q_NB142_133, Q_BK140_e12, Q_BK141_e13, Q_BK142_e14, Q_X9_, Q_X10_, Q_X11_⟩ hb_ hon hoff
            refine ⟨_, rfl, fun K hK => ?_⟩
            have e34 : a.tmps[34]? = some (.agg #[.int .i64 (wrap64 ((wrap64 (Int.tdiv x10_1 27)) - 1)), .int .i64 (wrap64 ((Int.tmod (wrap64 (Int.tdiv x10_1 9)) 3) - 1)), .int .i64 (wrap64 ((Int.tmod (wrap64 (Int.tdiv x10_1 3)) 3) - 1)), .int .i64 (wrap64 ((Int.tmod x10_1 3) - 1))]) := by rw [ha]; exact putSel_on (e := (6, 34, .agg #[.int .i64 (wrap64 ((wrap64 (Int.tdiv x10_1 27)) - 1)), .int .i64 (wrap64 ((Int.tmod (wrap64 (Int.tdiv x10_1 9)) 3) - 1)), .int .i64 (wrap64 ((Int.tmod (wrap64 (Int.tdiv x10_1 3)) 3) - 1)), .int .i64 (wrap64 ((Int.tmod x10_1 3) - 1))])) 6 rfl rfl (hon 6 (by kernel_rfl)) rfl
            have e35 : a.tmps[35]? = some (.agg #[.int .i64 1, .int .i64 1]) := by rw [ha]; exact putSel_on (e := (7, 35, .agg #[.int .i64 1, .int .i64 1])) 7 rfl rfl (hon 7 (by kernel_rfl)) rfl
            replace ha := Aside0.mk ha
            have HO_3 := Aside0.mk Q_HO_3
            have BK133 := Aside0.mk Q_BK133
            have HB := Aside0.mk Q_HB
            refine goes_ Try.func111 (by kernel_rfl) rfl #[.agg #[.int .i64 (wrap64 ((wrap64 (Int.tdiv x10_1 27)) - 1)), .int .i64 (wrap64 ((Int.tmod (wrap64 (Int.tdiv x10_1 9)) 3) - 1)), .int .i64 (wrap64 ((Int.tmod (wrap64 (Int.tdiv x10_1 3)) 3) - 1)), .int .i64 (wrap64 ((Int.tmod x10_1 3) - 1))], .agg #[.int .i64 1, .int .i64 1]] (by rfl) rfl rfl (by first | (simp only [List.map_toArray, List.map_cons, List.map_nil, Act.eval, Array.getD_eq_getD_getElem?, Option.getD_some, e34, e35]; done) | (simp only [List.map_toArray, List.map_cons, List.map_nil, Act.eval, Array.getD_eq_getD_getElem?, Option.getD_some, e34, e35]; rfl)) ?_
            with_reducible refine (impl_Mat_apply.calls (wrap64 ((wrap64 (Int.tdiv x10_1 27)) - 1)) (wrap64 ((Int.tmod (wrap64 (Int.tdiv x10_1 9)) 3) - 1)) (wrap64 ((Int.tmod (wrap64 (Int.tdiv x10_1 3)) 3) - 1)) (wrap64 ((Int.tmod x10_1 3) - 1)) 1 1 t138 t139 _ A7.out).mono ?_
            rintro e w108 ⟨rfl, hb⟩
            refine ⟨_, rfl, ?_⟩
            have n0_ := Aside0.mk (Kd.R_below (by (with_reducible repeat (first | apply Kd.R_alloc | apply Kd.R_drewN | apply Kd.R_drew)); exact HO_3.out) hb)
            have n1_ := Aside0.mk (blk_below (g := gb133) (o := .cells #[.int .i64 (wrap64 ((wrap64 (Int.tdiv x10_1 27)) - 1)), .int .i64 (wrap64 ((Int.tmod (wrap64 (Int.tdiv x10_1 9)) 3) - 1)), .int .i64 (wrap64 ((Int.tmod (wrap64 (Int.tdiv x10_1 3)) 3) - 1)), .int .i64 (wrap64 ((Int.tmod x10_1 3) - 1))] 24 (0, 0)) (by (with_reducible repeat (first | refine blk_drewN ?_ _ | refine blk_drew ?_ | refine blk_alloc ?_ _)); exact BK133.out) hb)
            have n2_ := Aside0.mk (below_step (by repeat (first | (with_reducible first | exact HB.out | apply below_alloc | apply pw_below_drewN | apply below_drew1 | refine below_set ?_ GE133.out) | exact HB.out)) hb)
            have z_BK140 := fun (h0_ : b 9 = true) (h1_ : b 12 = false) => (show w108.heap[gb140]? = some (.cells #[.int .i64 0, .int .i64 0] 41 (0, 0)) from by first | exact (blk_below (g := gb140) (o := .cells #[.int .i64 0, .int .i64 0] 41 (0, 0)) (by (with_reducible repeat (first | refine blk_drewN ?_ _ | refine blk_drew ?_ | refine blk_alloc ?_ _)); exact (Q_BK140 h0_ h1_)) hb))
            have z_BK141 := fun (h0_ : b 10 = true) (h1_ : b 13 = false) => (show w108.heap[gb141]? = some (.cells #[.int .i64 0, .int .i64 0] 41 (0, 0)) from by first | exact (blk_below (g := gb141) (o := .cells #[.int .i64 0, .int .i64 0] 41 (0, 0)) (by (with_reducible repeat (first | refine blk_drewN ?_ _ | refine blk_drew ?_ | refine blk_alloc ?_ _)); exact (Q_BK141 h0_ h1_)) hb))
            have z_BK142 := fun (h0_ : b 11 = true) (h1_ : b 14 = false) => (show w108.heap[gb142]? = some (.cells #[.int .i64 0, .int .i64 0] 41 (0, 0)) from by first | exact (blk_below (g := gb142) (o := .cells #[.int .i64 0, .int .i64 0] 41 (0, 0)) (by (with_reducible repeat (first | refine blk_drewN ?_ _ | refine blk_drew ?_ | refine blk_alloc ?_ _)); exact (Q_BK142 h0_ h1_)) hb))
            clear HO_3
            clear BK133
            clear HB
            have HO_3 := n0_
            have BK133 := n1_
            have HB := n2_
            clear n0_ n1_ n2_
            (try clear hb)
            (try clear hb2)
            (try clear hk)
            (try clear hi)
            refine hK.out _ _ ⟨gb140, gb141, gb142, m9_, m10_, m11_, (by rw [ha.out]; exact putSel_upk 8 hb_ rfl rfl rfl), (by (with_reducible repeat (first | apply Kd.R_alloc | apply Kd.R_drewN | apply Kd.R_drew)); exact HO_3.out), (by (with_reducible repeat (first | refine blk_drewN ?_ _ | refine blk_drew ?_ | refine blk_alloc ?_ _)); exact BK133.out), (by repeat (first | (with_reducible first | exact HB.out | apply below_alloc | apply pw_below_drewN | apply below_drew1 | refine below_set ?_ GE133.out) | exact HB.out)), Q_NB141_140, Q_NB140_141, Q_NB142_140, Q_NB140_142, Q_NB142_141, Q_NB141_142, z_BK140, Q_GW140, Q_GE140, Q_NB133_140, Q_NB140_133, z_BK141, Q_GW141, Q_GE141, Q_NB133_141, Q_NB141_133, z_BK142, Q_GW142, Q_GE142, Q_NB133_142, Q_NB142_133, fun h0_ => absurd ((hoff 12 (by kernel_rfl)).symm.trans h0_) (by decide), fun h0_ => absurd ((hoff 13 (by kernel_rfl)).symm.trans h0_) (by decide), fun h0_ => absurd ((hoff 14 (by kernel_rfl)).symm.trans h0_) (by decide), Q_X9_, Q_X10_, Q_X11_⟩
          refine steps_cons ?_ ?_
          · rintro b a w' ⟨gb140, gb141, gb142, m9_, m10_, m11_, ha, Q_HO_3, Q_BK133, Q_HB, Q_NB141_140, Q_NB140_141, Q_NB142_140, Q_NB140_142, Q_NB142_141, Q_NB141_142, Q_BK140, Q_GW140, Q_GE140, Q_NB133_140, Q_NB140_133, Q_BK141, Q_GW141, Q_GE141, Q_NB133_141, Q_NB141_133, Q_BK142, Q_GW142, Q_GE142, Q_NB133_142, Q_NB142_133, Q_BK140_e12, Q_BK141_e13, Q_BK142_e14, Q_X9_, Q_X10_, Q_X11_⟩ hb_ hon hoff
            refine ⟨_, rfl, fun K hK => ?_⟩
            replace ha := Aside0.mk ha
            have HO_3 := Aside0.mk Q_HO_3
            have BK133 := Aside0.mk Q_BK133
            have HB := Aside0.mk Q_HB
            refine box_step ?hg (N := 6) ?hd (cs := #[.int .i64 0, .int .i64 0]) (t := 41) ?hr ?_; (case hd => rfl); (case hg => rfl); (case hr => first | (go_simp; done) | (go_simp; rfl))
            intro gb140 hg w105 hbox hb
            have n0_ := Aside0.mk (Kd.R_below (by (with_reducible repeat (first | apply Kd.R_alloc | apply Kd.R_drewN | apply Kd.R_drew)); exact HO_3.out) hb)
            have n1_ := Aside0.mk (blk_below (g := gb133) (o := .cells #[.int .i64 (wrap64 ((wrap64 (Int.tdiv x10_1 27)) - 1)), .int .i64 (wrap64 ((Int.tmod (wrap64 (Int.tdiv x10_1 9)) 3) - 1)), .int .i64 (wrap64 ((Int.tmod (wrap64 (Int.tdiv x10_1 3)) 3) - 1)), .int .i64 (wrap64 ((Int.tmod x10_1 3) - 1))] 24 (0, 0)) (by (with_reducible repeat (first | refine blk_drewN ?_ _ | refine blk_drew ?_ | refine blk_alloc ?_ _)); exact BK133.out) hb)
            have n2_ := Aside0.mk (below_step (by repeat (first | (with_reducible first | exact HB.out | apply below_alloc | apply pw_below_drewN | apply below_drew1 | refine below_set ?_ GE133.out) | exact HB.out)) hb)
            have n3_ := Aside0.mk (hbox)
            have n4_ := Aside0.mk ((by rw [hg]; exact (below_size (by repeat (first | (with_reducible first | exact HB.out | apply below_alloc | apply pw_below_drewN | apply below_drew1 | refine below_set ?_ GE133.out) | exact HB.out))) : w.heap.size ≤ gb140))
            have n5_ := Aside0.mk ((by rw [hg]; exact (below_size (by repeat (first | (with_reducible first | exact HB.out | apply below_alloc | apply pw_below_drewN | apply below_drew1 | refine below_set ?_ GE133.out) | exact HB.out))) : w.heap.size ≤ gb140))
            have n6_ := Aside0.mk ((by rw [hg]; exact Nat.ne_of_lt (blk_lt (g := gb133) (o := .cells #[.int .i64 (wrap64 ((wrap64 (Int.tdiv x10_1 27)) - 1)), .int .i64 (wrap64 ((Int.tmod (wrap64 (Int.tdiv x10_1 9)) 3) - 1)), .int .i64 (wrap64 ((Int.tmod (wrap64 (Int.tdiv x10_1 3)) 3) - 1)), .int .i64 (wrap64 ((Int.tmod x10_1 3) - 1))] 24 (0, 0)) (by (with_reducible repeat (first | refine blk_drewN ?_ _ | refine blk_drew ?_ | refine blk_alloc ?_ _)); exact BK133.out)) : gb133 ≠ gb140))
            have n7_ := Aside0.mk ((by rw [hg]; exact Nat.ne_of_gt (blk_lt (g := gb133) (o := .cells #[.int .i64 (wrap64 ((wrap64 (Int.tdiv x10_1 27)) - 1)), .int .i64 (wrap64 ((Int.tmod (wrap64 (Int.tdiv x10_1 9)) 3) - 1)), .int .i64 (wrap64 ((Int.tmod (wrap64 (Int.tdiv x10_1 3)) 3) - 1)), .int .i64 (wrap64 ((Int.tmod x10_1 3) - 1))] 24 (0, 0)) (by (with_reducible repeat (first | refine blk_drewN ?_ _ | refine blk_drew ?_ | refine blk_alloc ?_ _)); exact BK133.out)) : gb140 ≠ gb133))
            have z_NB141_140 := fun (h0_ : up b 9 9 = true) (h1_ : up b 9 10 = true) => (show gb141 ≠ gb140 from (by rw [hg]; have h2_ : b 10 = true := (up_ne (by decide)).symm.trans h1_; rcases hq_ : b 13 with _ | _ <;> first | exact Nat.ne_of_lt (blk_lt (Q_BK141 h2_ hq_)) | exact Nat.ne_of_lt (blk_lt (Q_BK141_e13 hq_))))
            have z_NB140_141 := fun (h0_ : up b 9 9 = true) (h1_ : up b 9 10 = true) => (show gb140 ≠ gb141 from (by rw [hg]; have h2_ : b 10 = true := (up_ne (by decide)).symm.trans h1_; rcases hq_ : b 13 with _ | _ <;> first | exact Nat.ne_of_gt (blk_lt (Q_BK141 h2_ hq_)) | exact Nat.ne_of_gt (blk_lt (Q_BK141_e13 hq_))))
            have z_NB142_140 := fun (h0_ : up b 9 9 = true) (h1_ : up b 9 11 = true) => (show gb142 ≠ gb140 from (by rw [hg]; have h2_ : b 11 = true := (up_ne (by decide)).symm.trans h1_; rcases hq_ : b 14 with _ | _ <;> first | exact Nat.ne_of_lt (blk_lt (Q_BK142 h2_ hq_)) | exact Nat.ne_of_lt (blk_lt (Q_BK142_e14 hq_))))
            have z_NB140_142 := fun (h0_ : up b 9 9 = true) (h1_ : up b 9 11 = true) => (show gb140 ≠ gb142 from (by rw [hg]; have h2_ : b 11 = true := (up_ne (by decide)).symm.trans h1_; rcases hq_ : b 14 with _ | _ <;> first | exact Nat.ne_of_gt (blk_lt (Q_BK142 h2_ hq_)) | exact Nat.ne_of_gt (blk_lt (Q_BK142_e14 hq_))))
            have z_BK141 := fun (h0_ : b 10 = true) (h1_ : b 13 = false) => (show w105.heap[gb141]? = some (.cells #[.int .i64 0, .int .i64 0] 41 (0, 0)) from by first | exact (blk_below (g := gb141) (o := .cells #[.int .i64 0, .int .i64 0] 41 (0, 0)) (by (with_reducible repeat (first | refine blk_drewN ?_ _ | refine blk_drew ?_ | refine blk_alloc ?_ _)); exact (Q_BK141 h0_ h1_)) hb))
            have z_BK142 := fun (h0_ : b 11 = true) (h1_ : b 14 = false) => (show w105.heap[gb142]? = some (.cells #[.int .i64 0, .int .i64 0] 41 (0, 0)) from by first | exact (blk_below (g := gb142) (o := .cells #[.int .i64 0, .int .i64 0] 41 (0, 0)) (by (with_reducible repeat (first | refine blk_drewN ?_ _ | refine blk_drew ?_ | refine blk_alloc ?_ _)); exact (Q_BK142 h0_ h1_)) hb))
            clear HO_3
            clear BK133
            clear HB
            have HO_3 := n0_
            have BK133 := n1_
            have HB := n2_
            have BK140 := n3_
            have GW140 := n4_
            have GE140 := n5_
            have NB133_140 := n6_
            have NB140_133 := n7_
            clear n0_ n1_ n2_ n3_ n4_ n5_ n6_ n7_
            clear hb hbox hg
            refine hK.out _ _ ⟨gb140, gb141, gb142, (.pointer (some ⟨gb140, 0, none⟩)), m10_, m11_, (by rw [ha.out]; exact putSel_upk 9 hb_ rfl rfl rfl), (by (with_reducible repeat (first | apply Kd.R_alloc | apply Kd.R_drewN | apply Kd.R_drew)); exact HO_3.out), (by (with_reducible repeat (first | refine blk_drewN ?_ _ | refine blk_drew ?_ | refine blk_alloc ?_ _)); exact BK133.out), (by repeat (first | (with_reducible first | exact HB.out | apply below_alloc | apply pw_below_drewN | apply below_drew1 | refine below_set ?_ GE133.out | refine below_set ?_ GE140.out) | exact HB.out)), @z_NB141_140, @z_NB140_141, @z_NB142_140, @z_NB140_142, Q_NB142_141, Q_NB141_142, fun _ _ => (by (with_reducible repeat (first | refine blk_drewN ?_ _ | refine blk_drew ?_ | refine blk_alloc ?_ _)); exact BK140.out), fun _ => GW140.out, fun _ => GE140.out, fun _ => NB133_140.out, fun _ => NB140_133.out, z_BK141, Q_GW141, Q_GE141, Q_NB133_141, Q_NB141_133, z_BK142, Q_GW142, Q_GE142, Q_NB133_142, Q_NB142_133, fun h0_ => absurd ((hoff 12 (by kernel_rfl)).symm.trans h0_) (by decide), fun h0_ => absurd ((hoff 13 (by kernel_rfl)).symm.trans h0_) (by decide), fun h0_ => absurd ((hoff 14 (by kernel_rfl)).symm.trans h0_) (by decide), fun _ => rfl, Q_X10_, Q_X11_⟩
          refine steps_cons ?_ ?_
          · rintro b a w' ⟨gb140, gb141, gb142, m9_, m10_, m11_, ha, Q_HO_3, Q_BK133, Q_HB, Q_NB141_140, Q_NB140_141, Q_NB142_140, Q_NB140_142, Q_NB142_141, Q_NB141_142, Q_BK140, Q_GW140, Q_GE140, Q_NB133_140, Q_NB140_133, Q_BK141, Q_GW141, Q_GE141, Q_NB133_141, Q_NB141_133, Q_BK142, Q_GW142, Q_GE142, Q_NB133_142, Q_NB142_133, Q_BK140_e12, Q_BK141_e13, Q_BK142_e14, Q_X9_, Q_X10_, Q_X11_⟩ hb_ hon hoff
            refine ⟨_, rfl, fun K hK => ?_⟩
            replace ha := Aside0.mk ha
            have HO_3 := Aside0.mk Q_HO_3
            have BK133 := Aside0.mk Q_BK133
            have HB := Aside0.mk Q_HB
            refine box_step ?hg (N := 7) ?hd (cs := #[.int .i64 0, .int .i64 0]) (t := 41) ?hr ?_; (case hd => rfl); (case hg => rfl); (case hr => first | (go_simp; done) | (go_simp; rfl))
            intro gb141 hg w105 hbox hb
            have n0_ := Aside0.mk (Kd.R_below (by (with_reducible repeat (first | apply Kd.R_alloc | apply Kd.R_drewN | apply Kd.R_drew)); exact HO_3.out) hb)
            have n1_ := Aside0.mk (blk_below (g := gb133) (o := .cells #[.int .i64 (wrap64 ((wrap64 (Int.tdiv x10_1 27)) - 1)), .int .i64 (wrap64 ((Int.tmod (wrap64 (Int.tdiv x10_1 9)) 3) - 1)), .int .i64 (wrap64 ((Int.tmod (wrap64 (Int.tdiv x10_1 3)) 3) - 1)), .int .i64 (wrap64 ((Int.tmod x10_1 3) - 1))] 24 (0, 0)) (by (with_reducible repeat (first | refine blk_drewN ?_ _ | refine blk_drew ?_ | refine blk_alloc ?_ _)); exact BK133.out) hb)
            have n2_ := Aside0.mk (below_step (by repeat (first | (with_reducible first | exact HB.out | apply below_alloc | apply pw_below_drewN | apply below_drew1 | refine below_set ?_ GE133.out) | exact HB.out)) hb)
            have n3_ := Aside0.mk (hbox)
            have n4_ := Aside0.mk ((by rw [hg]; exact (below_size (by repeat (first | (with_reducible first | exact HB.out | apply below_alloc | apply pw_below_drewN | apply below_drew1 | refine below_set ?_ GE133.out) | exact HB.out))) : w.heap.size ≤ gb141))
            have n5_ := Aside0.mk ((by rw [hg]; exact (below_size (by repeat (first | (with_reducible first | exact HB.out | apply below_alloc | apply pw_below_drewN | apply below_drew1 | refine below_set ?_ GE133.out) | exact HB.out))) : w.heap.size ≤ gb141))
            have n6_ := Aside0.mk ((by rw [hg]; exact Nat.ne_of_lt (blk_lt (g := gb133) (o := .cells #[.int .i64 (wrap64 ((wrap64 (Int.tdiv x10_1 27)) - 1)), .int .i64 (wrap64 ((Int.tmod (wrap64 (Int.tdiv x10_1 9)) 3) - 1)), .int .i64 (wrap64 ((Int.tmod (wrap64 (Int.tdiv x10_1 3)) 3) - 1)), .int .i64 (wrap64 ((Int.tmod x10_1 3) - 1))] 24 (0, 0)) (by (with_reducible repeat (first | refine blk_drewN ?_ _ | refine blk_drew ?_ | refine blk_alloc ?_ _)); exact BK133.out)) : gb133 ≠ gb141))
            have n7_ := Aside0.mk ((by rw [hg]; exact Nat.ne_of_gt (blk_lt (g := gb133) (o := .cells #[.int .i64 (wrap64 ((wrap64 (Int.tdiv x10_1 27)) - 1)), .int .i64 (wrap64 ((Int.tmod (wrap64 (Int.tdiv x10_1 9)) 3) - 1)), .int .i64 (wrap64 ((Int.tmod (wrap64 (Int.tdiv x10_1 3)) 3) - 1)), .int .i64 (wrap64 ((Int.tmod x10_1 3) - 1))] 24 (0, 0)) (by (with_reducible repeat (first | refine blk_drewN ?_ _ | refine blk_drew ?_ | refine blk_alloc ?_ _)); exact BK133.out)) : gb141 ≠ gb133))
            have z_NB141_140 := fun (h0_ : up b 10 9 = true) (h1_ : up b 10 10 = true) => (show gb141 ≠ gb140 from (by rw [hg]; have h2_ : b 9 = true := (up_ne (by decide)).symm.trans h0_; rcases hq_ : b 12 with _ | _ <;> first | exact Nat.ne_of_gt (blk_lt (Q_BK140 h2_ hq_)) | exact Nat.ne_of_gt (blk_lt (Q_BK140_e12 hq_))))
            have z_NB140_141 := fun (h0_ : up b 10 9 = true) (h1_ : up b 10 10 = true) => (show gb140 ≠ gb141 from (by rw [hg]; have h2_ : b 9 = true := (up_ne (by decide)).symm.trans h0_; rcases hq_ : b 12 with _ | _ <;> first | exact Nat.ne_of_lt (blk_lt (Q_BK140 h2_ hq_)) | exact Nat.ne_of_lt (blk_lt (Q_BK140_e12 hq_))))
            have z_NB142_141 := fun (h0_ : up b 10 10 = true) (h1_ : up b 10 11 = true) => (show gb142 ≠ gb141 from (by rw [hg]; have h2_ : b 11 = true := (up_ne (by decide)).symm.trans h1_; rcases hq_ : b 14 with _ | _ <;> first | exact Nat.ne_of_lt (blk_lt (Q_BK142 h2_ hq_)) | exact Nat.ne_of_lt (blk_lt (Q_BK142_e14 hq_))))
            have z_NB141_142 := fun (h0_ : up b 10 10 = true) (h1_ : up b 10 11 = true) => (show gb141 ≠ gb142 from (by rw [hg]; have h2_ : b 11 = true := (up_ne (by decide)).symm.trans h1_; rcases hq_ : b 14 with _ | _ <;> first | exact Nat.ne_of_gt (blk_lt (Q_BK142 h2_ hq_)) | exact Nat.ne_of_gt (blk_lt (Q_BK142_e14 hq_))))
            have z_BK140 := fun (h0_ : b 9 = true) (h1_ : b 12 = false) => (show w105.heap[gb140]? = some (.cells #[.int .i64 0, .int .i64 0] 41 (0, 0)) from by first | exact (blk_below (g := gb140) (o := .cells #[.int .i64 0, .int .i64 0] 41 (0, 0)) (by (with_reducible repeat (first | refine blk_drewN ?_ _ | refine blk_drew ?_ | refine blk_alloc ?_ _)); exact (Q_BK140 h0_ h1_)) hb))
            have z_BK142 := fun (h0_ : b 11 = true) (h1_ : b 14 = false) => (show w105.heap[gb142]? = some (.cells #[.int .i64 0, .int .i64 0] 41 (0, 0)) from by first | exact (blk_below (g := gb142) (o := .cells #[.int .i64 0, .int .i64 0] 41 (0, 0)) (by (with_reducible repeat (first | refine blk_drewN ?_ _ | refine blk_drew ?_ | refine blk_alloc ?_ _)); exact (Q_BK142 h0_ h1_)) hb))
            clear HO_3
            clear BK133
            clear HB
            have HO_3 := n0_
            have BK133 := n1_
            have HB := n2_
            have BK141 := n3_
            have GW141 := n4_
            have GE141 := n5_
            have NB133_141 := n6_
            have NB141_133 := n7_
            clear n0_ n1_ n2_ n3_ n4_ n5_ n6_ n7_
            clear hb hbox hg
            refine hK.out _ _ ⟨gb140, gb141, gb142, m9_, (.pointer (some ⟨gb141, 0, none⟩)), m11_, (by rw [ha.out]; exact putSel_upk 10 hb_ rfl rfl rfl), (by (with_reducible repeat (first | apply Kd.R_alloc | apply Kd.R_drewN | apply Kd.R_drew)); exact HO_3.out), (by (with_reducible repeat (first | refine blk_drewN ?_ _ | refine blk_drew ?_ | refine blk_alloc ?_ _)); exact BK133.out), (by repeat (first | (with_reducible first | exact HB.out | apply below_alloc | apply pw_below_drewN | apply below_drew1 | refine below_set ?_ GE133.out | refine below_set ?_ GE141.out) | exact HB.out)), @z_NB141_140, @z_NB140_141, Q_NB142_140, Q_NB140_142, @z_NB142_141, @z_NB141_142, z_BK140, Q_GW140, Q_GE140, Q_NB133_140, Q_NB140_133, fun _ _ => (by (with_reducible repeat (first | refine blk_drewN ?_ _ | refine blk_drew ?_ | refine blk_alloc ?_ _)); exact BK141.out), fun _ => GW141.out, fun _ => GE141.out, fun _ => NB133_141.out, fun _ => NB141_133.out, z_BK142, Q_GW142, Q_GE142, Q_NB133_142, Q_NB142_133, fun h0_ => absurd ((hoff 12 (by kernel_rfl)).symm.trans h0_) (by decide), fun h0_ => absurd ((hoff 13 (by kernel_rfl)).symm.trans h0_) (by decide), fun h0_ => absurd ((hoff 14 (by kernel_rfl)).symm.trans h0_) (by decide), Q_X9_, fun _ => rfl, Q_X11_⟩
          refine steps_cons ?_ ?_
          · rintro b a w' ⟨gb140, gb141, gb142, m9_, m10_, m11_, ha, Q_HO_3, Q_BK133, Q_HB, Q_NB141_140, Q_NB140_141, Q_NB142_140, Q_NB140_142, Q_NB142_141, Q_NB141_142, Q_BK140, Q_GW140, Q_GE140, Q_NB133_140, Q_NB140_133, Q_BK141, Q_GW141, Q_GE141, Q_NB133_141, Q_NB141_133, Q_BK142, Q_GW142, Q_GE142, Q_NB133_142, Q_NB142_133, Q_BK140_e12, Q_BK141_e13, Q_BK142_e14, Q_X9_, Q_X10_, Q_X11_⟩ hb_ hon hoff
            refine ⟨_, rfl, fun K hK => ?_⟩
            replace ha := Aside0.mk ha
            have HO_3 := Aside0.mk Q_HO_3
            have BK133 := Aside0.mk Q_BK133
            have HB := Aside0.mk Q_HB
            refine box_step ?hg (N := 8) ?hd (cs := #[.int .i64 0, .int .i64 0]) (t := 41) ?hr ?_; (case hd => rfl); (case hg => rfl); (case hr => first | (go_simp; done) | (go_simp; rfl))
            intro gb142 hg w105 hbox hb
            have n0_ := Aside0.mk (Kd.R_below (by (with_reducible repeat (first | apply Kd.R_alloc | apply Kd.R_drewN | apply Kd.R_drew)); exact HO_3.out) hb)
            have n1_ := Aside0.mk (blk_below (g := gb133) (o := .cells #[.int .i64 (wrap64 ((wrap64 (Int.tdiv x10_1 27)) - 1)), .int .i64 (wrap64 ((Int.tmod (wrap64 (Int.tdiv x10_1 9)) 3) - 1)), .int .i64 (wrap64 ((Int.tmod (wrap64 (Int.tdiv x10_1 3)) 3) - 1)), .int .i64 (wrap64 ((Int.tmod x10_1 3) - 1))] 24 (0, 0)) (by (with_reducible repeat (first | refine blk_drewN ?_ _ | refine blk_drew ?_ | refine blk_alloc ?_ _)); exact BK133.out) hb)
            have n2_ := Aside0.mk (below_step (by repeat (first | (with_reducible first | exact HB.out | apply below_alloc | apply pw_below_drewN | apply below_drew1 | refine below_set ?_ GE133.out) | exact HB.out)) hb)
            have n3_ := Aside0.mk (hbox)
            have n4_ := Aside0.mk ((by rw [hg]; exact (below_size (by repeat (first | (with_reducible first | exact HB.out | apply below_alloc | apply pw_below_drewN | apply below_drew1 | refine below_set ?_ GE133.out) | exact HB.out))) : w.heap.size ≤ gb142))
            have n5_ := Aside0.mk ((by rw [hg]; exact (below_size (by repeat (first | (with_reducible first | exact HB.out | apply below_alloc | apply pw_below_drewN | apply below_drew1 | refine below_set ?_ GE133.out) | exact HB.out))) : w.heap.size ≤ gb142))
            have n6_ := Aside0.mk ((by rw [hg]; exact Nat.ne_of_lt (blk_lt (g := gb133) (o := .cells #[.int .i64 (wrap64 ((wrap64 (Int.tdiv x10_1 27)) - 1)), .int .i64 (wrap64 ((Int.tmod (wrap64 (Int.tdiv x10_1 9)) 3) - 1)), .int .i64 (wrap64 ((Int.tmod (wrap64 (Int.tdiv x10_1 3)) 3) - 1)), .int .i64 (wrap64 ((Int.tmod x10_1 3) - 1))] 24 (0, 0)) (by (with_reducible repeat (first | refine blk_drewN ?_ _ | refine blk_drew ?_ | refine blk_alloc ?_ _)); exact BK133.out)) : gb133 ≠ gb142))
            have n7_ := Aside0.mk ((by rw [hg]; exact Nat.ne_of_gt (blk_lt (g := gb133) (o := .cells #[.int .i64 (wrap64 ((wrap64 (Int.tdiv x10_1 27)) - 1)), .int .i64 (wrap64 ((Int.tmod (wrap64 (Int.tdiv x10_1 9)) 3) - 1)), .int .i64 (wrap64 ((Int.tmod (wrap64 (Int.tdiv x10_1 3)) 3) - 1)), .int .i64 (wrap64 ((Int.tmod x10_1 3) - 1))] 24 (0, 0)) (by (with_reducible repeat (first | refine blk_drewN ?_ _ | refine blk_drew ?_ | refine blk_alloc ?_ _)); exact BK133.out)) : gb142 ≠ gb133))
            have z_NB142_140 := fun (h0_ : up b 11 9 = true) (h1_ : up b 11 11 = true) => (show gb142 ≠ gb140 from (by rw [hg]; have h2_ : b 9 = true := (up_ne (by decide)).symm.trans h0_; rcases hq_ : b 12 with _ | _ <;> first | exact Nat.ne_of_gt (blk_lt (Q_BK140 h2_ hq_)) | exact Nat.ne_of_gt (blk_lt (Q_BK140_e12 hq_))))
            have z_NB140_142 := fun (h0_ : up b 11 9 = true) (h1_ : up b 11 11 = true) => (show gb140 ≠ gb142 from (by rw [hg]; have h2_ : b 9 = true := (up_ne (by decide)).symm.trans h0_; rcases hq_ : b 12 with _ | _ <;> first | exact Nat.ne_of_lt (blk_lt (Q_BK140 h2_ hq_)) | exact Nat.ne_of_lt (blk_lt (Q_BK140_e12 hq_))))
            have z_NB142_141 := fun (h0_ : up b 11 10 = true) (h1_ : up b 11 11 = true) => (show gb142 ≠ gb141 from (by rw [hg]; have h2_ : b 10 = true := (up_ne (by decide)).symm.trans h0_; rcases hq_ : b 13 with _ | _ <;> first | exact Nat.ne_of_gt (blk_lt (Q_BK141 h2_ hq_)) | exact Nat.ne_of_gt (blk_lt (Q_BK141_e13 hq_))))
            have z_NB141_142 := fun (h0_ : up b 11 10 = true) (h1_ : up b 11 11 = true) => (show gb141 ≠ gb142 from (by rw [hg]; have h2_ : b 10 = true := (up_ne (by decide)).symm.trans h0_; rcases hq_ : b 13 with _ | _ <;> first | exact Nat.ne_of_lt (blk_lt (Q_BK141 h2_ hq_)) | exact Nat.ne_of_lt (blk_lt (Q_BK141_e13 hq_))))
            have z_BK140 := fun (h0_ : b 9 = true) (h1_ : b 12 = false) => (show w105.heap[gb140]? = some (.cells #[.int .i64 0, .int .i64 0] 41 (0, 0)) from by first | exact (blk_below (g := gb140) (o := .cells #[.int .i64 0, .int .i64 0] 41 (0, 0)) (by (with_reducible repeat (first | refine blk_drewN ?_ _ | refine blk_drew ?_ | refine blk_alloc ?_ _)); exact (Q_BK140 h0_ h1_)) hb))
            have z_BK141 := fun (h0_ : b 10 = true) (h1_ : b 13 = false) => (show w105.heap[gb141]? = some (.cells #[.int .i64 0, .int .i64 0] 41 (0, 0)) from by first | exact (blk_below (g := gb141) (o := .cells #[.int .i64 0, .int .i64 0] 41 (0, 0)) (by (with_reducible repeat (first | refine blk_drewN ?_ _ | refine blk_drew ?_ | refine blk_alloc ?_ _)); exact (Q_BK141 h0_ h1_)) hb))
            clear HO_3
            clear BK133
            clear HB
            have HO_3 := n0_
            have BK133 := n1_
            have HB := n2_
            have BK142 := n3_
            have GW142 := n4_
            have GE142 := n5_
            have NB133_142 := n6_
            have NB142_133 := n7_
            clear n0_ n1_ n2_ n3_ n4_ n5_ n6_ n7_
            clear hb hbox hg
            refine hK.out _ _ ⟨gb140, gb141, gb142, m9_, m10_, (.pointer (some ⟨gb142, 0, none⟩)), (by rw [ha.out]; exact putSel_upk 11 hb_ rfl rfl rfl), (by (with_reducible repeat (first | apply Kd.R_alloc | apply Kd.R_drewN | apply Kd.R_drew)); exact HO_3.out), (by (with_reducible repeat (first | refine blk_drewN ?_ _ | refine blk_drew ?_ | refine blk_alloc ?_ _)); exact BK133.out), (by repeat (first | (with_reducible first | exact HB.out | apply below_alloc | apply pw_below_drewN | apply below_drew1 | refine below_set ?_ GE133.out | refine below_set ?_ GE142.out) | exact HB.out)), Q_NB141_140, Q_NB140_141, @z_NB142_140, @z_NB140_142, @z_NB142_141, @z_NB141_142, z_BK140, Q_GW140, Q_GE140, Q_NB133_140, Q_NB140_133, z_BK141, Q_GW141, Q_GE141, Q_NB133_141, Q_NB141_133, fun _ _ => (by (with_reducible repeat (first | refine blk_drewN ?_ _ | refine blk_drew ?_ | refine blk_alloc ?_ _)); exact BK142.out), fun _ => GW142.out, fun _ => GE142.out, fun _ => NB133_142.out, fun _ => NB142_133.out, fun h0_ => absurd ((hoff 12 (by kernel_rfl)).symm.trans h0_) (by decide), fun h0_ => absurd ((hoff 13 (by kernel_rfl)).symm.trans h0_) (by decide), fun h0_ => absurd ((hoff 14 (by kernel_rfl)).symm.trans h0_) (by decide), Q_X9_, Q_X10_, fun _ => rfl⟩
          refine steps_cons ?_ ?_
          · rintro b a w' ⟨gb140, gb141, gb142, m9_, m10_, m11_, ha, Q_HO_3, Q_BK133, Q_HB, Q_NB141_140, Q_NB140_141, Q_NB142_140, Q_NB140_142, Q_NB142_141, Q_NB141_142, Q_BK140, Q_GW140, Q_GE140, Q_NB133_140, Q_NB140_133, Q_BK141, Q_GW141, Q_GE141, Q_NB133_141, Q_NB141_133, Q_BK142, Q_GW142, Q_GE142, Q_NB133_142, Q_NB142_133, Q_BK140_e12, Q_BK141_e13, Q_BK142_e14, Q_X9_, Q_X10_, Q_X11_⟩ hb_ hon hoff
            refine ⟨_, rfl, fun K hK => ?_⟩
            have e6 : a.tmps[6]? = some (m9_) := by rw [ha]; exact putSel_on (e := (9, 6, m9_)) 9 rfl rfl (hon 9 (by kernel_rfl)) rfl
            rw [Q_X9_ (hon 9 (by kernel_rfl))] at e6
            have e30 : a.tmps[30]? = some (.agg #[.int .i64 t134, .int .i64 t135]) := by rw [ha]; exact putSel_on (e := (2, 30, .agg #[.int .i64 t134, .int .i64 t135])) 2 rfl rfl (hon 2 (by kernel_rfl)) rfl
            replace ha := Aside0.mk ha
            have HO_3 := Aside0.mk Q_HO_3
            have BK133 := Aside0.mk Q_BK133
            have HB := Aside0.mk Q_HB
            have NB141_140 := Aside0.mk (Q_NB141_140 (hon 9 (by kernel_rfl)) (hon 10 (by kernel_rfl)))
            have NB140_141 := Aside0.mk (Q_NB140_141 (hon 9 (by kernel_rfl)) (hon 10 (by kernel_rfl)))
            have NB142_140 := Aside0.mk (Q_NB142_140 (hon 9 (by kernel_rfl)) (hon 11 (by kernel_rfl)))
            have NB140_142 := Aside0.mk (Q_NB140_142 (hon 9 (by kernel_rfl)) (hon 11 (by kernel_rfl)))
            have NB142_141 := Aside0.mk (Q_NB142_141 (hon 10 (by kernel_rfl)) (hon 11 (by kernel_rfl)))
            have NB141_142 := Aside0.mk (Q_NB141_142 (hon 10 (by kernel_rfl)) (hon 11 (by kernel_rfl)))
            have BK140 := Aside0.mk (Q_BK140 (hon 9 (by kernel_rfl)) hb_)
            have GW140 := Aside0.mk (Q_GW140 (hon 9 (by kernel_rfl)))
            have GE140 := Aside0.mk (Q_GE140 (hon 9 (by kernel_rfl)))
            have NB133_140 := Aside0.mk (Q_NB133_140 (hon 9 (by kernel_rfl)))
            have NB140_133 := Aside0.mk (Q_NB140_133 (hon 9 (by kernel_rfl)))
            have BK141 := Aside0.mk (Q_BK141 (hon 10 (by kernel_rfl)) (hoff 13 (by kernel_rfl)))
            have GW141 := Aside0.mk (Q_GW141 (hon 10 (by kernel_rfl)))
            have GE141 := Aside0.mk (Q_GE141 (hon 10 (by kernel_rfl)))
            have NB133_141 := Aside0.mk (Q_NB133_141 (hon 10 (by kernel_rfl)))
            have NB141_133 := Aside0.mk (Q_NB141_133 (hon 10 (by kernel_rfl)))
            have BK142 := Aside0.mk (Q_BK142 (hon 11 (by kernel_rfl)) (hoff 14 (by kernel_rfl)))
            have GW142 := Aside0.mk (Q_GW142 (hon 11 (by kernel_rfl)))
            have GE142 := Aside0.mk (Q_GE142 (hon 11 (by kernel_rfl)))
            have NB133_142 := Aside0.mk (Q_NB133_142 (hon 11 (by kernel_rfl)))
            have NB142_133 := Aside0.mk (Q_NB142_133 (hon 11 (by kernel_rfl)))
            have hs112 : w'.cell? ⟨gb140, 0, none⟩ = some (.int .i64 0) := (blk_cell BK140.out 0).trans rfl
            have hfs112 := blk_frozen BK140.out 0
            have hns112_0 := NB133_140.out
            have hns112_2 := NB141_140.out
            have hns112_3 := NB142_140.out
            have hms112_0 := NB140_133.out
            have hms112_2 := NB140_141.out
            have hms112_3 := NB140_142.out
            have hs113 : w'.cell? ⟨gb140, 1, none⟩ = some (.int .i64 0) := (blk_cell BK140.out 1).trans rfl
            have hfs113 := blk_frozen BK140.out 1
            have hns113_0 := NB133_140.out
            have hns113_2 := NB141_140.out
            have hns113_3 := NB142_140.out
            have hms113_0 := NB140_133.out
            have hms113_2 := NB140_141.out
            have hms113_3 := NB140_142.out
            refine skip_ (w1 := ?_) (by rfl) rfl ?_ ?_
            rotate_left
            · go_simp
              rfl
            refine hK.out _ _ ⟨gb140, gb141, gb142, m9_, m10_, m11_, (by rw [ha.out]; exact putSel_none (v := undef) rfl), (by (with_reducible repeat (first | apply Kd.R_alloc | apply Kd.R_drewN | apply Kd.R_drew)); exact Kd.R_mono (Kd.R_far (p := ⟨gb140, 1, none⟩) (Kd.R_far (p := ⟨gb140, 0, none⟩) (Kd.R_types HO_3.out BK140.out (by decide)) (fun _ hk => hk.2) (.int .i64 t134)) (fun _ hk => hk.2) (.int .i64 t135)) (fun _ hk => hk.1)), (by (with_reducible repeat (first | refine blk_drewN ?_ _ | refine blk_drew ?_ | refine blk_alloc ?_ _)); refine blk_far ?_ NB133_140.out _; (with_reducible repeat (first | refine blk_drewN ?_ _ | refine blk_drew ?_ | refine blk_alloc ?_ _)); refine blk_far ?_ NB133_140.out _; (with_reducible repeat (first | refine blk_drewN ?_ _ | refine blk_drew ?_ | refine blk_alloc ?_ _)); exact BK133.out), (by repeat (first | (with_reducible first | exact HB.out | apply below_alloc | apply pw_below_drewN | apply below_drew1 | refine below_set ?_ GE133.out | refine below_set ?_ GE140.out | refine below_set ?_ GE141.out | refine below_set ?_ GE142.out) | exact HB.out)), fun _ _ => NB141_140.out, fun _ _ => NB140_141.out, fun _ _ => NB142_140.out, fun _ _ => NB140_142.out, fun _ _ => NB142_141.out, fun _ _ => NB141_142.out, fun _ h1_ => absurd ((up_self b 12).symm.trans h1_) (by decide), fun _ => GW140.out, fun _ => GE140.out, fun _ => NB133_140.out, fun _ => NB140_133.out, fun _ _ => (by (with_reducible repeat (first | refine blk_drewN ?_ _ | refine blk_drew ?_ | refine blk_alloc ?_ _)); refine blk_far ?_ NB141_140.out _; (with_reducible repeat (first | refine blk_drewN ?_ _ | refine blk_drew ?_ | refine blk_alloc ?_ _)); refine blk_far ?_ NB141_140.out _; (with_reducible repeat (first | refine blk_drewN ?_ _ | refine blk_drew ?_ | refine blk_alloc ?_ _)); exact BK141.out), fun _ => GW141.out, fun _ => GE141.out, fun _ => NB133_141.out, fun _ => NB141_133.out, fun _ _ => (by (with_reducible repeat (first | refine blk_drewN ?_ _ | refine blk_drew ?_ | refine blk_alloc ?_ _)); refine blk_far ?_ NB142_140.out _; (with_reducible repeat (first | refine blk_drewN ?_ _ | refine blk_drew ?_ | refine blk_alloc ?_ _)); refine blk_far ?_ NB142_140.out _; (with_reducible repeat (first | refine blk_drewN ?_ _ | refine blk_drew ?_ | refine blk_alloc ?_ _)); exact BK142.out), fun _ => GW142.out, fun _ => GE142.out, fun _ => NB133_142.out, fun _ => NB142_133.out, fun _ => (by (with_reducible repeat (first | refine blk_drewN ?_ _ | refine blk_drew ?_ | refine blk_alloc ?_ _)); refine blk_put (cs := #[.int .i64 t134, .int .i64 0]) ?_ 1 _ rfl; (with_reducible repeat (first | refine blk_drewN ?_ _ | refine blk_drew ?_ | refine blk_alloc ?_ _)); refine blk_put (cs := #[.int .i64 0, .int .i64 0]) ?_ 0 _ rfl; (with_reducible repeat (first | refine blk_drewN ?_ _ | refine blk_drew ?_ | refine blk_alloc ?_ _)); exact BK140.out), fun h0_ => absurd ((hoff 13 (by kernel_rfl)).symm.trans h0_) (by decide), fun h0_ => absurd ((hoff 14 (by kernel_rfl)).symm.trans h0_) (by decide), Q_X9_, Q_X10_, Q_X11_⟩
          refine steps_cons ?_ ?_
          · rintro b a w' ⟨gb140, gb141, gb142, m9_, m10_, m11_, ha, Q_HO_3, Q_BK133, Q_HB, Q_NB141_140, Q_NB140_141, Q_NB142_140, Q_NB140_142, Q_NB142_141, Q_NB141_142, Q_BK140, Q_GW140, Q_GE140, Q_NB133_140, Q_NB140_133, Q_BK141, Q_GW141, Q_GE141, Q_NB133_141, Q_NB141_133, Q_BK142, Q_GW142, Q_GE142, Q_NB133_142, Q_NB142_133, Q_BK140_e12, Q_BK141_e13, Q_BK142_e14, Q_X9_, Q_X10_, Q_X11_⟩ hb_ hon hoff
            refine ⟨_, rfl, fun K hK => ?_⟩
            have e7 : a.tmps[7]? = some (m10_) := by rw [ha]; exact putSel_on (e := (10, 7, m10_)) 10 rfl rfl (hon 10 (by kernel_rfl)) rfl
            rw [Q_X10_ (hon 10 (by kernel_rfl))] at e7
            have e33 : a.tmps[33]? = some (.agg #[.int .i64 t136, .int .i64 t137]) := by rw [ha]; exact putSel_on (e := (5, 33, .agg #[.int .i64 t136, .int .i64 t137])) 5 rfl rfl (hon 5 (by kernel_rfl)) rfl
            replace ha := Aside0.mk ha
            have HO_3 := Aside0.mk Q_HO_3
            have BK133 := Aside0.mk Q_BK133
            have HB := Aside0.mk Q_HB
            have NB141_140 := Aside0.mk (Q_NB141_140 (hon 9 (by kernel_rfl)) (hon 10 (by kernel_rfl)))
            have NB140_141 := Aside0.mk (Q_NB140_141 (hon 9 (by kernel_rfl)) (hon 10 (by kernel_rfl)))
            have NB142_140 := Aside0.mk (Q_NB142_140 (hon 9 (by kernel_rfl)) (hon 11 (by kernel_rfl)))
            have NB140_142 := Aside0.mk (Q_NB140_142 (hon 9 (by kernel_rfl)) (hon 11 (by kernel_rfl)))
            have NB142_141 := Aside0.mk (Q_NB142_141 (hon 10 (by kernel_rfl)) (hon 11 (by kernel_rfl)))
            have NB141_142 := Aside0.mk (Q_NB141_142 (hon 10 (by kernel_rfl)) (hon 11 (by kernel_rfl)))
            have GW140 := Aside0.mk (Q_GW140 (hon 9 (by kernel_rfl)))
            have GE140 := Aside0.mk (Q_GE140 (hon 9 (by kernel_rfl)))
            have NB133_140 := Aside0.mk (Q_NB133_140 (hon 9 (by kernel_rfl)))
            have NB140_133 := Aside0.mk (Q_NB140_133 (hon 9 (by kernel_rfl)))
            have BK141 := Aside0.mk (Q_BK141 (hon 10 (by kernel_rfl)) hb_)
            have GW141 := Aside0.mk (Q_GW141 (hon 10 (by kernel_rfl)))
            have GE141 := Aside0.mk (Q_GE141 (hon 10 (by kernel_rfl)))
            have NB133_141 := Aside0.mk (Q_NB133_141 (hon 10 (by kernel_rfl)))
            have NB141_133 := Aside0.mk (Q_NB141_133 (hon 10 (by kernel_rfl)))
            have BK142 := Aside0.mk (Q_BK142 (hon 11 (by kernel_rfl)) (hoff 14 (by kernel_rfl)))
            have GW142 := Aside0.mk (Q_GW142 (hon 11 (by kernel_rfl)))
            have GE142 := Aside0.mk (Q_GE142 (hon 11 (by kernel_rfl)))
            have NB133_142 := Aside0.mk (Q_NB133_142 (hon 11 (by kernel_rfl)))
            have NB142_133 := Aside0.mk (Q_NB142_133 (hon 11 (by kernel_rfl)))
            have BK140 := Aside0.mk (Q_BK140_e12 (hon 12 (by kernel_rfl)))
            have hs114 : w'.cell? ⟨gb141, 0, none⟩ = some (.int .i64 0) := (blk_cell BK141.out 0).trans rfl
            have hfs114 := blk_frozen BK141.out 0
            have hns114_0 := NB133_141.out
            have hns114_1 := NB140_141.out
            have hns114_3 := NB142_141.out
            have hms114_0 := NB141_133.out
            have hms114_1 := NB141_140.out
            have hms114_3 := NB141_142.out
            have hs115 : w'.cell? ⟨gb141, 1, none⟩ = some (.int .i64 0) := (blk_cell BK141.out 1).trans rfl
            have hfs115 := blk_frozen BK141.out 1
            have hns115_0 := NB133_141.out
            have hns115_1 := NB140_141.out
            have hns115_3 := NB142_141.out
            have hms115_0 := NB141_133.out
            have hms115_1 := NB141_140.out
            have hms115_3 := NB141_142.out
            refine skip_ (w1 := ?_) (by rfl) rfl ?_ ?_
            rotate_left
            · go_simp
              rfl
            refine hK.out _ _ ⟨gb140, gb141, gb142, m9_, m10_, m11_, (by rw [ha.out]; exact putSel_none (v := undef) rfl), (by (with_reducible repeat (first | apply Kd.R_alloc | apply Kd.R_drewN | apply Kd.R_drew)); exact Kd.R_mono (Kd.R_far (p := ⟨gb141, 1, none⟩) (Kd.R_far (p := ⟨gb141, 0, none⟩) (Kd.R_types HO_3.out BK141.out (by decide)) (fun _ hk => hk.2) (.int .i64 t136)) (fun _ hk => hk.2) (.int .i64 t137)) (fun _ hk => hk.1)), (by (with_reducible repeat (first | refine blk_drewN ?_ _ | refine blk_drew ?_ | refine blk_alloc ?_ _)); refine blk_far ?_ NB133_141.out _; (with_reducible repeat (first | refine blk_drewN ?_ _ | refine blk_drew ?_ | refine blk_alloc ?_ _)); refine blk_far ?_ NB133_141.out _; (with_reducible repeat (first | refine blk_drewN ?_ _ | refine blk_drew ?_ | refine blk_alloc ?_ _)); exact BK133.out), (by repeat (first | (with_reducible first | exact HB.out | apply below_alloc | apply pw_below_drewN | apply below_drew1 | refine below_set ?_ GE133.out | refine below_set ?_ GE140.out | refine below_set ?_ GE141.out | refine below_set ?_ GE142.out) | exact HB.out)), fun _ _ => NB141_140.out, fun _ _ => NB140_141.out, fun _ _ => NB142_140.out, fun _ _ => NB140_142.out, fun _ _ => NB142_141.out, fun _ _ => NB141_142.out, fun _ h1_ => absurd ((hon 12 (by kernel_rfl)).symm.trans h1_) (by decide), fun _ => GW140.out, fun _ => GE140.out, fun _ => NB133_140.out, fun _ => NB140_133.out, fun _ h1_ => absurd ((up_self b 13).symm.trans h1_) (by decide), fun _ => GW141.out, fun _ => GE141.out, fun _ => NB133_141.out, fun _ => NB141_133.out, fun _ _ => (by (with_reducible repeat (first | refine blk_drewN ?_ _ | refine blk_drew ?_ | refine blk_alloc ?_ _)); refine blk_far ?_ NB142_141.out _; (with_reducible repeat (first | refine blk_drewN ?_ _ | refine blk_drew ?_ | refine blk_alloc ?_ _)); refine blk_far ?_ NB142_141.out _; (with_reducible repeat (first | refine blk_drewN ?_ _ | refine blk_drew ?_ | refine blk_alloc ?_ _)); exact BK142.out), fun _ => GW142.out, fun _ => GE142.out, fun _ => NB133_142.out, fun _ => NB142_133.out, fun _ => (by (with_reducible repeat (first | refine blk_drewN ?_ _ | refine blk_drew ?_ | refine blk_alloc ?_ _)); refine blk_far ?_ NB140_141.out _; (with_reducible repeat (first | refine blk_drewN ?_ _ | refine blk_drew ?_ | refine blk_alloc ?_ _)); refine blk_far ?_ NB140_141.out _; (with_reducible repeat (first | refine blk_drewN ?_ _ | refine blk_drew ?_ | refine blk_alloc ?_ _)); exact BK140.out), fun _ => (by (with_reducible repeat (first | refine blk_drewN ?_ _ | refine blk_drew ?_ | refine blk_alloc ?_ _)); refine blk_put (cs := #[.int .i64 t136, .int .i64 0]) ?_ 1 _ rfl; (with_reducible repeat (first | refine blk_drewN ?_ _ | refine blk_drew ?_ | refine blk_alloc ?_ _)); refine blk_put (cs := #[.int .i64 0, .int .i64 0]) ?_ 0 _ rfl; (with_reducible repeat (first | refine blk_drewN ?_ _ | refine blk_drew ?_ | refine blk_alloc ?_ _)); exact BK141.out), fun h0_ => absurd ((hoff 14 (by kernel_rfl)).symm.trans h0_) (by decide), Q_X9_, Q_X10_, Q_X11_⟩
          refine steps_cons ?_ ?_
          · rintro b a w' ⟨gb140, gb141, gb142, m9_, m10_, m11_, ha, Q_HO_3, Q_BK133, Q_HB, Q_NB141_140, Q_NB140_141, Q_NB142_140, Q_NB140_142, Q_NB142_141, Q_NB141_142, Q_BK140, Q_GW140, Q_GE140, Q_NB133_140, Q_NB140_133, Q_BK141, Q_GW141, Q_GE141, Q_NB133_141, Q_NB141_133, Q_BK142, Q_GW142, Q_GE142, Q_NB133_142, Q_NB142_133, Q_BK140_e12, Q_BK141_e13, Q_BK142_e14, Q_X9_, Q_X10_, Q_X11_⟩ hb_ hon hoff
            refine ⟨_, rfl, fun K hK => ?_⟩
            have e8 : a.tmps[8]? = some (m11_) := by rw [ha]; exact putSel_on (e := (11, 8, m11_)) 11 rfl rfl (hon 11 (by kernel_rfl)) rfl
            rw [Q_X11_ (hon 11 (by kernel_rfl))] at e8
            have e36 : a.tmps[36]? = some (.agg #[.int .i64 t138, .int .i64 t139]) := by rw [ha]; exact putSel_on (e := (8, 36, .agg #[.int .i64 t138, .int .i64 t139])) 8 rfl rfl (hon 8 (by kernel_rfl)) rfl
            replace ha := Aside0.mk ha
            have HO_3 := Aside0.mk Q_HO_3
            have BK133 := Aside0.mk Q_BK133
            have HB := Aside0.mk Q_HB
            have NB141_140 := Aside0.mk (Q_NB141_140 (hon 9 (by kernel_rfl)) (hon 10 (by kernel_rfl)))
            have NB140_141 := Aside0.mk (Q_NB140_141 (hon 9 (by kernel_rfl)) (hon 10 (by kernel_rfl)))
            have NB142_140 := Aside0.mk (Q_NB142_140 (hon 9 (by kernel_rfl)) (hon 11 (by kernel_rfl)))
            have NB140_142 := Aside0.mk (Q_NB140_142 (hon 9 (by kernel_rfl)) (hon 11 (by kernel_rfl)))
            have NB142_141 := Aside0.mk (Q_NB142_141 (hon 10 (by kernel_rfl)) (hon 11 (by kernel_rfl)))
            have NB141_142 := Aside0.mk (Q_NB141_142 (hon 10 (by kernel_rfl)) (hon 11 (by kernel_rfl)))
            have GW140 := Aside0.mk (Q_GW140 (hon 9 (by kernel_rfl)))
            have GE140 := Aside0.mk (Q_GE140 (hon 9 (by kernel_rfl)))
            have NB133_140 := Aside0.mk (Q_NB133_140 (hon 9 (by kernel_rfl)))
            have NB140_133 := Aside0.mk (Q_NB140_133 (hon 9 (by kernel_rfl)))
            have GW141 := Aside0.mk (Q_GW141 (hon 10 (by kernel_rfl)))
            have GE141 := Aside0.mk (Q_GE141 (hon 10 (by kernel_rfl)))
            have NB133_141 := Aside0.mk (Q_NB133_141 (hon 10 (by kernel_rfl)))
            have NB141_133 := Aside0.mk (Q_NB141_133 (hon 10 (by kernel_rfl)))
            have BK142 := Aside0.mk (Q_BK142 (hon 11 (by kernel_rfl)) hb_)
            have GW142 := Aside0.mk (Q_GW142 (hon 11 (by kernel_rfl)))
            have GE142 := Aside0.mk (Q_GE142 (hon 11 (by kernel_rfl)))
            have NB133_142 := Aside0.mk (Q_NB133_142 (hon 11 (by kernel_rfl)))
            have NB142_133 := Aside0.mk (Q_NB142_133 (hon 11 (by kernel_rfl)))
            have BK140 := Aside0.mk (Q_BK140_e12 (hon 12 (by kernel_rfl)))
            have BK141 := Aside0.mk (Q_BK141_e13 (hon 13 (by kernel_rfl)))
            have hs116 : w'.cell? ⟨gb142, 0, none⟩ = some (.int .i64 0) := (blk_cell BK142.out 0).trans rfl
            have hfs116 := blk_frozen BK142.out 0
            have hns116_0 := NB133_142.out
            have hns116_1 := NB140_142.out
            have hns116_2 := NB141_142.out
            have hms116_0 := NB142_133.out
            have hms116_1 := NB142_140.out
            have hms116_2 := NB142_141.out
            have hs117 : w'.cell? ⟨gb142, 1, none⟩ = some (.int .i64 0) := (blk_cell BK142.out 1).trans rfl
            have hfs117 := blk_frozen BK142.out 1
            have hns117_0 := NB133_142.out
            have hns117_1 := NB140_142.out
            have hns117_2 := NB141_142.out
            have hms117_0 := NB142_133.out
            have hms117_1 := NB142_140.out
            have hms117_2 := NB142_141.out
            refine skip_ (w1 := ?_) (by rfl) rfl ?_ ?_
            rotate_left
            · go_simp
              rfl
            refine hK.out _ _ ⟨gb140, gb141, gb142, m9_, m10_, m11_, (by rw [ha.out]; exact putSel_none (v := undef) rfl), (by (with_reducible repeat (first | apply Kd.R_alloc | apply Kd.R_drewN | apply Kd.R_drew)); exact Kd.R_mono (Kd.R_far (p := ⟨gb142, 1, none⟩) (Kd.R_far (p := ⟨gb142, 0, none⟩) (Kd.R_types HO_3.out BK142.out (by decide)) (fun _ hk => hk.2) (.int .i64 t138)) (fun _ hk => hk.2) (.int .i64 t139)) (fun _ hk => hk.1)), (by (with_reducible repeat (first | refine blk_drewN ?_ _ | refine blk_drew ?_ | refine blk_alloc ?_ _)); refine blk_far ?_ NB133_142.out _; (with_reducible repeat (first | refine blk_drewN ?_ _ | refine blk_drew ?_ | refine blk_alloc ?_ _)); refine blk_far ?_ NB133_142.out _; (with_reducible repeat (first | refine blk_drewN ?_ _ | refine blk_drew ?_ | refine blk_alloc ?_ _)); exact BK133.out), (by repeat (first | (with_reducible first | exact HB.out | apply below_alloc | apply pw_below_drewN | apply below_drew1 | refine below_set ?_ GE133.out | refine below_set ?_ GE140.out | refine below_set ?_ GE141.out | refine below_set ?_ GE142.out) | exact HB.out)), fun _ _ => NB141_140.out, fun _ _ => NB140_141.out, fun _ _ => NB142_140.out, fun _ _ => NB140_142.out, fun _ _ => NB142_141.out, fun _ _ => NB141_142.out, fun _ h1_ => absurd ((hon 12 (by kernel_rfl)).symm.trans h1_) (by decide), fun _ => GW140.out, fun _ => GE140.out, fun _ => NB133_140.out, fun _ => NB140_133.out, fun _ h1_ => absurd ((hon 13 (by kernel_rfl)).symm.trans h1_) (by decide), fun _ => GW141.out, fun _ => GE141.out, fun _ => NB133_141.out, fun _ => NB141_133.out, fun _ h1_ => absurd ((up_self b 14).symm.trans h1_) (by decide), fun _ => GW142.out, fun _ => GE142.out, fun _ => NB133_142.out, fun _ => NB142_133.out, fun _ => (by (with_reducible repeat (first | refine blk_drewN ?_ _ | refine blk_drew ?_ | refine blk_alloc ?_ _)); refine blk_far ?_ NB140_142.out _; (with_reducible repeat (first | refine blk_drewN ?_ _ | refine blk_drew ?_ | refine blk_alloc ?_ _)); refine blk_far ?_ NB140_142.out _; (with_reducible repeat (first | refine blk_drewN ?_ _ | refine blk_drew ?_ | refine blk_alloc ?_ _)); exact BK140.out), fun _ => (by (with_reducible repeat (first | refine blk_drewN ?_ _ | refine blk_drew ?_ | refine blk_alloc ?_ _)); refine blk_far ?_ NB141_142.out _; (with_reducible repeat (first | refine blk_drewN ?_ _ | refine blk_drew ?_ | refine blk_alloc ?_ _)); refine blk_far ?_ NB141_142.out _; (with_reducible repeat (first | refine blk_drewN ?_ _ | refine blk_drew ?_ | refine blk_alloc ?_ _)); exact BK141.out), fun _ => (by (with_reducible repeat (first | refine blk_drewN ?_ _ | refine blk_drew ?_ | refine blk_alloc ?_ _)); refine blk_put (cs := #[.int .i64 t138, .int .i64 0]) ?_ 1 _ rfl; (with_reducible repeat (first | refine blk_drewN ?_ _ | refine blk_drew ?_ | refine blk_alloc ?_ _)); refine blk_put (cs := #[.int .i64 0, .int .i64 0]) ?_ 0 _ rfl; (with_reducible repeat (first | refine blk_drewN ?_ _ | refine blk_drew ?_ | refine blk_alloc ?_ _)); exact BK142.out), Q_X9_, Q_X10_, Q_X11_⟩
          exact steps_nil
        rintro b a w117 hall ⟨gb140, gb141, gb142, m9_, m10_, m11_, ha, Q_HO_3, Q_BK133, Q_HB, Q_NB141_140, Q_NB140_141, Q_NB142_140, Q_NB140_142, Q_NB142_141, Q_NB141_142, Q_BK140, Q_GW140, Q_GE140, Q_NB133_140, Q_NB140_133, Q_BK141, Q_GW141, Q_GE141, Q_NB133_141, Q_NB141_133, Q_BK142, Q_GW142, Q_GE142, Q_NB133_142, Q_NB142_133, Q_BK140_e12, Q_BK141_e13, Q_BK142_e14, Q_X9_, Q_X10_, Q_X11_⟩
        clear BK133 HB HO_3
        have hb0_ := hall 0 (by kernel_rfl)
        have hb1_ := hall 1 (by kernel_rfl)
        have hb2_ := hall 2 (by kernel_rfl)
        have hb3_ := hall 3 (by kernel_rfl)
        have hb4_ := hall 4 (by kernel_rfl)
        have hb5_ := hall 5 (by kernel_rfl)
        have hb6_ := hall 6 (by kernel_rfl)
        have hb7_ := hall 7 (by kernel_rfl)
        have hb8_ := hall 8 (by kernel_rfl)
        have hb9_ := hall 9 (by kernel_rfl)
        have hb10_ := hall 10 (by kernel_rfl)
        have hb11_ := hall 11 (by kernel_rfl)
        have hb12_ := hall 12 (by kernel_rfl)
        have hb13_ := hall 13 (by kernel_rfl)
        have hb14_ := hall 14 (by kernel_rfl)
        subst ha
        obtain rfl := Q_X9_ hb9_
        obtain rfl := Q_X10_ hb10_
        obtain rfl := Q_X11_ hb11_
        simp only [putSel, hb0_, hb1_, hb2_, hb3_, hb4_, hb5_, hb6_, hb7_, hb8_, hb9_, hb10_, hb11_, hb12_, hb13_, hb14_, if_true, Act.put, List.setIfInBounds_toArray, List.set_cons_zero, List.set_cons_succ]
        have HO_3 := Aside0.mk Q_HO_3
        clear Q_HO_3
        have BK133 := Aside0.mk Q_BK133
        clear Q_BK133
        have HB := Aside0.mk Q_HB
        clear Q_HB
        have NB141_140 := Aside0.mk (Q_NB141_140 hb9_ hb10_)
        clear Q_NB141_140
        have NB140_141 := Aside0.mk (Q_NB140_141 hb9_ hb10_)
        clear Q_NB140_141
        have NB142_140 := Aside0.mk (Q_NB142_140 hb9_ hb11_)
        clear Q_NB142_140
        have NB140_142 := Aside0.mk (Q_NB140_142 hb9_ hb11_)
        clear Q_NB140_142
        have NB142_141 := Aside0.mk (Q_NB142_141 hb10_ hb11_)
        clear Q_NB142_141
        have NB141_142 := Aside0.mk (Q_NB141_142 hb10_ hb11_)
        clear Q_NB141_142
        clear Q_BK140
        have GW140 := Aside0.mk (Q_GW140 hb9_)
        clear Q_GW140
        have GE140 := Aside0.mk (Q_GE140 hb9_)
        clear Q_GE140
        have NB133_140 := Aside0.mk (Q_NB133_140 hb9_)
        clear Q_NB133_140
        have NB140_133 := Aside0.mk (Q_NB140_133 hb9_)
        clear Q_NB140_133
        clear Q_BK141
        have GW141 := Aside0.mk (Q_GW141 hb10_)
        clear Q_GW141
        have GE141 := Aside0.mk (Q_GE141 hb10_)
        clear Q_GE141
        have NB133_141 := Aside0.mk (Q_NB133_141 hb10_)
        clear Q_NB133_141
        have NB141_133 := Aside0.mk (Q_NB141_133 hb10_)
        clear Q_NB141_133
        clear Q_BK142
        have GW142 := Aside0.mk (Q_GW142 hb11_)
        clear Q_GW142
        have GE142 := Aside0.mk (Q_GE142 hb11_)
        clear Q_GE142
        have NB133_142 := Aside0.mk (Q_NB133_142 hb11_)
        clear Q_NB133_142
        have NB142_133 := Aside0.mk (Q_NB142_133 hb11_)
        clear Q_NB142_133
        have BK140 := Aside0.mk (Q_BK140_e12 hb12_)
        clear Q_BK140_e12
        have BK141 := Aside0.mk (Q_BK141_e13 hb13_)
        clear Q_BK141_e13
        have BK142 := Aside0.mk (Q_BK142_e14 hb14_)
        clear Q_BK142_e14
        clear hall hb0_ hb1_ hb2_ hb3_ hb4_ hb5_ hb6_ hb7_ hb8_ hb9_ hb10_ hb11_ hb12_ hb13_ hb14_
        have hnb118 := NB140_133.out
        have hnc118 := NB133_140.out
        have hnb119 := NB140_141.out
        have hnc119 := NB141_140.out
        have hnb120 := NB140_142.out
        have hnc120 := NB142_140.out
        have hcz121_0 : w117.cell? ⟨gb140, 0, none⟩ = some (.int .i64 t134) := (blk_cell BK140.out 0).trans rfl
        have hcz121_1 : w117.cell? ⟨gb140, 1, none⟩ = some (.int .i64 t135) := (blk_cell BK140.out 1).trans rfl
        have hfz121_0 := blk_frozen BK140.out 0
        have hfz121_1 := blk_frozen BK140.out 1
        have H := HH.out
        clear HH
        by_cases c9 : t143 = 1
        · rw [if_pos c9] at H
          have c9b0 : (t143 == 1) = true := beq_iff_eq.mpr c9
          have c9b1 : (t143 != 1) = false := bne_eq_false_iff_eq.mpr c9
          clear c9
          replace H := Option.bind_eq_some_iff.mp H
          obtain ⟨t144, A100, H⟩ := H
          replace H : (if t144 = 1 then ((impl_norm.f a0 t138 t139).bind fun t145 => (if t145 = (wrap64 (2 + a0)) then (if x3_1.length < 4398046511104 then (impl_pointMats.l0 k1 a0 (x3_1 ++ [(⟨wrap64 ((wrap64 (Int.tdiv x10_1 27)) - 1), wrap64 ((Int.tmod (wrap64 (Int.tdiv x10_1 9)) 3) - 1), wrap64 ((Int.tmod (wrap64 (Int.tdiv x10_1 3)) 3) - 1), wrap64 ((Int.tmod x10_1 3) - 1)⟩ : S24)]) (wrap64 (x10_1 + 1))) else (none)) else (impl_pointMats.l0 k1 a0 x3_1 (wrap64 (x10_1 + 1))))) else (impl_pointMats.l0 k1 a0 x3_1 (wrap64 (x10_1 + 1)))) = some r := H
          have A10 := Aside0.mk A100
          clear A100
          by_cases c11 : t144 = 1
          · rw [if_pos c11] at H
            have c11b0 : (t144 == 1) = true := beq_iff_eq.mpr c11
            have c11b1 : (t144 != 1) = false := bne_eq_false_iff_eq.mpr c11
            clear c11
            replace H := Option.bind_eq_some_iff.mp H
            obtain ⟨t145, A120, H⟩ := H
            replace H : (if t145 = (wrap64 (2 + a0)) then (if x3_1.length < 4398046511104 then (impl_pointMats.l0 k1 a0 (x3_1 ++ [(⟨wrap64 ((wrap64 (Int.tdiv x10_1 27)) - 1), wrap64 ((Int.tmod (wrap64 (Int.tdiv x10_1 9)) 3) - 1), wrap64 ((Int.tmod (wrap64 (Int.tdiv x10_1 3)) 3) - 1), wrap64 ((Int.tmod x10_1 3) - 1)⟩ : S24)]) (wrap64 (x10_1 + 1))) else (none)) else (impl_pointMats.l0 k1 a0 x3_1 (wrap64 (x10_1 + 1)))) = some r := H
            have A12 := Aside0.mk A120
            clear A120
            by_cases c13 : t145 = (wrap64 (2 + a0))
            · rw [if_pos c13] at H
              have c13b0 : (t145 == (wrap64 (2 + a0))) = true := beq_iff_eq.mpr c13
              have c13b1 : (t145 != (wrap64 (2 + a0))) = false := bne_eq_false_iff_eq.mpr c13
              clear c13
              by_cases c14 : x3_1.length < 4398046511104
              · rw [if_pos c14] at H
                have LMc14 := Aside0.mk c14
                clear c14
                obtain ⟨y146, hy146⟩ : ∃ y_ : List (S24), y_ = (x3_1 ++ [(⟨wrap64 ((wrap64 (Int.tdiv x10_1 27)) - 1), wrap64 ((Int.tmod (wrap64 (Int.tdiv x10_1 9)) 3) - 1), wrap64 ((Int.tmod (wrap64 (Int.tdiv x10_1 3)) 3) - 1), wrap64 ((Int.tmod x10_1 3) - 1)⟩ : S24)]) := ⟨_, rfl⟩
                replace H : (impl_pointMats.l0 k1 a0 y146 (wrap64 (x10_1 + 1))) = some r := by first | (rw [hy146]; with_reducible exact H) | (have H2_ := (Option.bind_some _ _).symm.trans H; rw [hy146]; with_reducible exact H2_) | (have H2_ := (Option.bind_some _ _).symm.trans H; with_reducible exact H2_) | with_reducible exact H | (rw [hy146]; exact H) | exact H
                have Ny146 := Aside0.mk hy146
                clear hy146
                have H' := Aside0.mk H
                clear H
                try go_wp2_with (first | ((with_reducible refine gate_callee (f := 88) rfl ?_); refine goesL_ (some 39) rfl rfl Try.func88 (by kernel_rfl) rfl #[.int .i64 a0, .agg #[.int .i64 t134, .int .i64 t135]] rfl (by (try simp only [List.map_toArray, List.map_cons, List.map_nil]); first | done | rfl | (simp only [List.length_drop, List.length_take]; rfl)) ?_; (with_reducible refine (impl_norm.calls a0 t134 t135 t143 _ A8.out).mono ?_); rintro e w36 ⟨rfl, hb⟩; refine ⟨_, rfl, ?_⟩; have n0_ := Aside0.mk (Kd.R_below (by (with_reducible repeat (first | apply Kd.R_alloc | apply Kd.R_drewN | apply Kd.R_drew)); exact HO_3.out) hb); have n1_ := Aside0.mk (blk_below (g := gb133) (o := .cells #[.int .i64 (wrap64 ((wrap64 (Int.tdiv x10_1 27)) - 1)), .int .i64 (wrap64 ((Int.tmod (wrap64 (Int.tdiv x10_1 9)) 3) - 1)), .int .i64 (wrap64 ((Int.tmod (wrap64 (Int.tdiv x10_1 3)) 3) - 1)), .int .i64 (wrap64 ((Int.tmod x10_1 3) - 1))] 24 (0, 0)) (by (with_reducible repeat (first | refine blk_drewN ?_ _ | refine blk_drew ?_ | refine blk_alloc ?_ _)); exact BK133.out) hb); have n2_ := Aside0.mk (blk_below (g := gb140) (o := .cells #[.int .i64 t134, .int .i64 t135] 41 (0, 0)) (by (with_reducible repeat (first | refine blk_drewN ?_ _ | refine blk_drew ?_ | refine blk_alloc ?_ _)); exact BK140.out) hb); have n3_ := Aside0.mk (blk_below (g := gb141) (o := .cells #[.int .i64 t136, .int .i64 t137] 41 (0, 0)) (by (with_reducible repeat (first | refine blk_drewN ?_ _ | refine blk_drew ?_ | refine blk_alloc ?_ _)); exact BK141.out) hb); have n4_ := Aside0.mk (blk_below (g := gb142) (o := .cells #[.int .i64 t138, .int .i64 t139] 41 (0, 0)) (by (with_reducible repeat (first | refine blk_drewN ?_ _ | refine blk_drew ?_ | refine blk_alloc ?_ _)); exact BK142.out) hb); have n5_ := Aside0.mk (below_step (by repeat (first | (with_reducible first | exact HB.out | apply below_alloc | apply pw_below_drewN | apply below_drew1 | refine below_set ?_ GE133.out | refine below_set ?_ GE140.out | refine below_set ?_ GE141.out | refine below_set ?_ GE142.out) | exact HB.out)) hb); clear HO_3; clear BK133; clear BK140; clear BK141; clear BK142; clear HB; have HO_3 := n0_; have BK133 := n1_; have BK140 := n2_; have BK141 := n3_; have BK142 := n4_; have HB := n5_; clear n0_ n1_ n2_ n3_ n4_ n5_; (try clear hb); (try clear hb2); (try clear hk); (try clear hi); have hnb37 := NB141_133.out; have hnc37 := NB133_141.out; have hnb38 := NB141_142.out; have hnc38 := NB142_141.out; have hcz39_0 : w36.cell? ⟨gb141, 0, none⟩ = some (.int .i64 t136) := (blk_cell BK141.out 0).trans rfl; have hcz39_1 : w36.cell? ⟨gb141, 1, none⟩ = some (.int .i64 t137) := (blk_cell BK141.out 1).trans rfl; have hfz39_0 := blk_frozen BK141.out 0; have hfz39_1 := blk_frozen BK141.out 1) | (go_at_call 88; (with_reducible refine (impl_norm.calls a0 t136 t137 t144 _ A10.out).mono ?_); rintro e w40 ⟨rfl, hb⟩; have n0_ := Aside0.mk (Kd.R_below (by (with_reducible repeat (first | apply Kd.R_alloc | apply Kd.R_drewN | apply Kd.R_drew)); exact HO_3.out) hb); have n1_ := Aside0.mk (blk_below (g := gb133) (o := .cells #[.int .i64 (wrap64 ((wrap64 (Int.tdiv x10_1 27)) - 1)), .int .i64 (wrap64 ((Int.tmod (wrap64 (Int.tdiv x10_1 9)) 3) - 1)), .int .i64 (wrap64 ((Int.tmod (wrap64 (Int.tdiv x10_1 3)) 3) - 1)), .int .i64 (wrap64 ((Int.tmod x10_1 3) - 1))] 24 (0, 0)) (by (with_reducible repeat (first | refine blk_drewN ?_ _ | refine blk_drew ?_ | refine blk_alloc ?_ _)); exact BK133.out) hb); have n2_ := Aside0.mk (blk_below (g := gb140) (o := .cells #[.int .i64 t134, .int .i64 t135] 41 (0, 0)) (by (with_reducible repeat (first | refine blk_drewN ?_ _ | refine blk_drew ?_ | refine blk_alloc ?_ _)); exact BK140.out) hb); have n3_ := Aside0.mk (blk_below (g := gb141) (o := .cells #[.int .i64 t136, .int .i64 t137] 41 (0, 0)) (by (with_reducible repeat (first | refine blk_drewN ?_ _ | refine blk_drew ?_ | refine blk_alloc ?_ _)); exact BK141.out) hb); have n4_ := Aside0.mk (blk_below (g := gb142) (o := .cells #[.int .i64 t138, .int .i64 t139] 41 (0, 0)) (by (with_reducible repeat (first | refine blk_drewN ?_ _ | refine blk_drew ?_ | refine blk_alloc ?_ _)); exact BK142.out) hb); have n5_ := Aside0.mk (below_step (by repeat (first | (with_reducible first | exact HB.out | apply below_alloc | apply pw_below_drewN | apply below_drew1 | refine below_set ?_ GE133.out | refine below_set ?_ GE140.out | refine below_set ?_ GE141.out | refine below_set ?_ GE142.out) | exact HB.out)) hb); clear HO_3; clear BK133; clear BK140; clear BK141; clear BK142; clear HB; have HO_3 := n0_; have BK133 := n1_; have BK140 := n2_; have BK141 := n3_; have BK142 := n4_; have HB := n5_; clear n0_ n1_ n2_ n3_ n4_ n5_; (try clear hb); (try clear hb2); (try clear hk); (try clear hi); have hnb41 := NB142_133.out; have hnc41 := NB133_142.out; have hcz42_0 : w40.cell? ⟨gb142, 0, none⟩ = some (.int .i64 t138) := (blk_cell BK142.out 0).trans rfl; have hcz42_1 : w40.cell? ⟨gb142, 1, none⟩ = some (.int .i64 t139) := (blk_cell BK142.out 1).trans rfl; have hfz42_0 := blk_frozen BK142.out 0; have hfz42_1 := blk_frozen BK142.out 1) | (go_at_call 88; (with_reducible refine (impl_norm.calls a0 t138 t139 t145 _ A12.out).mono ?_); rintro e w43 ⟨rfl, hb⟩; have n0_ := Aside0.mk (Kd.R_below (by (with_reducible repeat (first | apply Kd.R_alloc | apply Kd.R_drewN | apply Kd.R_drew)); exact HO_3.out) hb); have n1_ := Aside0.mk (blk_below (g := gb133) (o := .cells #[.int .i64 (wrap64 ((wrap64 (Int.tdiv x10_1 27)) - 1)), .int .i64 (wrap64 ((Int.tmod (wrap64 (Int.tdiv x10_1 9)) 3) - 1)), .int .i64 (wrap64 ((Int.tmod (wrap64 (Int.tdiv x10_1 3)) 3) - 1)), .int .i64 (wrap64 ((Int.tmod x10_1 3) - 1))] 24 (0, 0)) (by (with_reducible repeat (first | refine blk_drewN ?_ _ | refine blk_drew ?_ | refine blk_alloc ?_ _)); exact BK133.out) hb); have n2_ := Aside0.mk (blk_below (g := gb140) (o := .cells #[.int .i64 t134, .int .i64 t135] 41 (0, 0)) (by (with_reducible repeat (first | refine blk_drewN ?_ _ | refine blk_drew ?_ | refine blk_alloc ?_ _)); exact BK140.out) hb); have n3_ := Aside0.mk (blk_below (g := gb141) (o := .cells #[.int .i64 t136, .int .i64 t137] 41 (0, 0)) (by (with_reducible repeat (first | refine blk_drewN ?_ _ | refine blk_drew ?_ | refine blk_alloc ?_ _)); exact BK141.out) hb); have n4_ := Aside0.mk (blk_below (g := gb142) (o := .cells #[.int .i64 t138, .int .i64 t139] 41 (0, 0)) (by (with_reducible repeat (first | refine blk_drewN ?_ _ | refine blk_drew ?_ | refine blk_alloc ?_ _)); exact BK142.out) hb); have n5_ := Aside0.mk (below_step (by repeat (first | (with_reducible first | exact HB.out | apply below_alloc | apply pw_below_drewN | apply below_drew1 | refine below_set ?_ GE133.out | refine below_set ?_ GE140.out | refine below_set ?_ GE141.out | refine below_set ?_ GE142.out) | exact HB.out)) hb); clear HO_3; clear BK133; clear BK140; clear BK141; clear BK142; clear HB; have HO_3 := n0_; have BK133 := n1_; have BK140 := n2_; have BK141 := n3_; have BK142 := n4_; have HB := n5_; clear n0_ n1_ n2_ n3_ n4_ n5_; (try clear hb); (try clear hb2); (try clear hk); (try clear hi); have hcz44_0 : w43.cell? ⟨gb133, 0, none⟩ = some (.int .i64 (wrap64 ((wrap64 (Int.tdiv x10_1 27)) - 1))) := (blk_cell BK133.out 0).trans rfl; have hcz44_1 : w43.cell? ⟨gb133, 1, none⟩ = some (.int .i64 (wrap64 ((Int.tmod (wrap64 (Int.tdiv x10_1 9)) 3) - 1))) := (blk_cell BK133.out 1).trans rfl; have hcz44_2 : w43.cell? ⟨gb133, 2, none⟩ = some (.int .i64 (wrap64 ((Int.tmod (wrap64 (Int.tdiv x10_1 3)) 3) - 1))) := (blk_cell BK133.out 2).trans rfl; have hcz44_3 : w43.cell? ⟨gb133, 3, none⟩ = some (.int .i64 (wrap64 ((Int.tmod x10_1 3) - 1))) := (blk_cell BK133.out 3).trans rfl; have hfz44_0 := blk_frozen BK133.out 0; have hfz44_1 := blk_frozen BK133.out 1; have hfz44_2 := blk_frozen BK133.out 2; have hfz44_3 := blk_frozen BK133.out 3) | ((with_reducible refine gate_builtin (b := .append) (xs := #[.tmp 55, .tmp 57]) rfl ?_); at_builtin; refine Kd.R_append k24 (w0 := w) w.heap.size rfl (.tmp 55) (.tmp 57) 63 24 (.agg #[(.int .i64 0), (.int .i64 0), (.int .i64 0), (.int .i64 0)]) 32 rfl Try.underlying63 info24 rfl (by decide) (by omega) u3 x3_1 (⟨wrap64 ((wrap64 (Int.tdiv x10_1 27)) - 1), wrap64 ((Int.tmod (wrap64 (Int.tdiv x10_1 9)) 3) - 1), wrap64 ((Int.tmod (wrap64 (Int.tdiv x10_1 3)) 3) - 1), wrap64 ((Int.tmod x10_1 3) - 1)⟩ : S24) [.int .i64 (wrap64 ((wrap64 (Int.tdiv x10_1 27)) - 1)), .int .i64 (wrap64 ((Int.tmod (wrap64 (Int.tdiv x10_1 9)) 3) - 1)), .int .i64 (wrap64 ((Int.tmod (wrap64 (Int.tdiv x10_1 3)) 3) - 1)), .int .i64 (wrap64 ((Int.tmod x10_1 3) - 1))] (fun k_ => k_ ≠ gb133) (fun _ => False) rfl rfl ?aP (fun _ hk => hk.elim) ?aF ?aO ?aB ?aS ?aL ?_; (case aP => exact k24_mkM _ _ _ (⟨wrap64 ((wrap64 (Int.tdiv x10_1 27)) - 1), wrap64 ((Int.tmod (wrap64 (Int.tdiv x10_1 9)) 3) - 1), wrap64 ((Int.tmod (wrap64 (Int.tdiv x10_1 3)) 3) - 1), wrap64 ((Int.tmod x10_1 3) - 1)⟩ : S24)); (case aB => exact (by repeat (first | (with_reducible first | exact HB.out | apply below_alloc | apply pw_below_drewN | apply below_drew1 | refine below_set ?_ GE133.out | refine below_set ?_ GE140.out | refine below_set ?_ GE141.out | refine below_set ?_ GE142.out) | exact HB.out))); (case aF => exact (fun k_ hk => Kd.freshB (g := gb133) (o := .cells #[.int .i64 (wrap64 ((wrap64 (Int.tdiv x10_1 27)) - 1)), .int .i64 (wrap64 ((Int.tmod (wrap64 (Int.tdiv x10_1 9)) 3) - 1)), .int .i64 (wrap64 ((Int.tmod (wrap64 (Int.tdiv x10_1 3)) 3) - 1)), .int .i64 (wrap64 ((Int.tmod x10_1 3) - 1))] 24 (0, 0)) (by (with_reducible repeat (first | refine blk_drewN ?_ _ | refine blk_drew ?_ | refine blk_alloc ?_ _)); exact BK133.out) k_ hk)); (case aO => exact (by (with_reducible repeat (first | apply Kd.R_alloc | apply Kd.R_drewN | apply Kd.R_drew)); exact HO_3.out)); (case aS => exact (below_size (by repeat (first | (with_reducible first | exact HB.out | apply below_alloc | apply pw_below_drewN | apply below_drew1 | refine below_set ?_ GE133.out | refine below_set ?_ GE140.out | refine below_set ?_ GE141.out | refine below_set ?_ GE142.out) | exact HB.out)))); (case aL => have := LMc14.out; omega); intro v147 w45 ho hb hg hat; rw [← Ny146.out] at ho; have n0_ := Aside0.mk (blk_grown (g := gb133) (o := .cells #[.int .i64 (wrap64 ((wrap64 (Int.tdiv x10_1 27)) - 1)), .int .i64 (wrap64 ((Int.tmod (wrap64 (Int.tdiv x10_1 9)) 3) - 1)), .int .i64 (wrap64 ((Int.tmod (wrap64 (Int.tdiv x10_1 3)) 3) - 1)), .int .i64 (wrap64 ((Int.tmod x10_1 3) - 1))] 24 (0, 0)) (by (with_reducible repeat (first | refine blk_drewN ?_ _ | refine blk_drew ?_ | refine blk_alloc ?_ _)); exact BK133.out) hg (Kd.R_away HO_3.out (fun _ hk => hk))); have n1_ := Aside0.mk (blk_grown (g := gb140) (o := .cells #[.int .i64 t134, .int .i64 t135] 41 (0, 0)) (by (with_reducible repeat (first | refine blk_drewN ?_ _ | refine blk_drew ?_ | refine blk_alloc ?_ _)); exact BK140.out) hg (Kd.R_ne HO_3.out BK140.out (by decide))); have n2_ := Aside0.mk (blk_grown (g := gb141) (o := .cells #[.int .i64 t136, .int .i64 t137] 41 (0, 0)) (by (with_reducible repeat (first | refine blk_drewN ?_ _ | refine blk_drew ?_ | refine blk_alloc ?_ _)); exact BK141.out) hg (Kd.R_ne HO_3.out BK141.out (by decide))); have n3_ := Aside0.mk (blk_grown (g := gb142) (o := .cells #[.int .i64 t138, .int .i64 t139] 41 (0, 0)) (by (with_reducible repeat (first | refine blk_drewN ?_ _ | refine blk_drew ?_ | refine blk_alloc ?_ _)); exact BK142.out) hg (Kd.R_ne HO_3.out BK142.out (by decide))); have n4_ := Aside0.mk (hb); have n5_ := Aside0.mk (ho); clear BK133; clear BK140; clear BK141; clear BK142; clear HB; clear HO_3; have BK133 := n0_; have BK140 := n1_; have BK141 := n2_; have BK142 := n3_; have HB := n4_; have HO148 := n5_; clear n0_ n1_ n2_ n3_ n4_ n5_; clear ho hb hg hat))
                go_roundg k1
                case measure => have := HK1.out; omega
                case rel => exact ⟨(y146), (wrap64 (x10_1 + 1)), (by first | rfl | (simp; done) | (simp [*]; done)), H', ⟨by have := HK1.out; omega⟩, ⟨by (with_reducible repeat (first | apply Kd.R_alloc | apply Kd.R_drewN | apply Kd.R_drew)); exact Kd.R_mono HO148.out (fun _ hk => trivial)⟩, ⟨by repeat (first | (with_reducible first | exact HB.out | apply below_alloc | apply pw_below_drewN | apply below_drew1 | refine below_set ?_ GE133.out | refine below_set ?_ GE140.out | refine below_set ?_ GE141.out | refine below_set ?_ GE142.out) | exact HB.out)⟩⟩
              · rw [if_neg c14] at H
                exact absurd H (by simp)
            · rw [if_neg c13] at H
              have c13b0 : (t145 == (wrap64 (2 + a0))) = false := beq_eq_false_iff_ne.mpr c13
              have c13b1 : (t145 != (wrap64 (2 + a0))) = true := bne_iff_ne.mpr c13
              have H' := Aside0.mk H
              clear H
              try go_wp2_with (first | ((with_reducible refine gate_callee (f := 88) rfl ?_); refine goesL_ (some 39) rfl rfl Try.func88 (by kernel_rfl) rfl #[.int .i64 a0, .agg #[.int .i64 t134, .int .i64 t135]] rfl (by (try simp only [List.map_toArray, List.map_cons, List.map_nil]); first | done | rfl | (simp only [List.length_drop, List.length_take]; rfl)) ?_; (with_reducible refine (impl_norm.calls a0 t134 t135 t143 _ A8.out).mono ?_); rintro e w67 ⟨rfl, hb⟩; refine ⟨_, rfl, ?_⟩; have n0_ := Aside0.mk (Kd.R_below (by (with_reducible repeat (first | apply Kd.R_alloc | apply Kd.R_drewN | apply Kd.R_drew)); exact HO_3.out) hb); have n1_ := Aside0.mk (blk_below (g := gb133) (o := .cells #[.int .i64 (wrap64 ((wrap64 (Int.tdiv x10_1 27)) - 1)), .int .i64 (wrap64 ((Int.tmod (wrap64 (Int.tdiv x10_1 9)) 3) - 1)), .int .i64 (wrap64 ((Int.tmod (wrap64 (Int.tdiv x10_1 3)) 3) - 1)), .int .i64 (wrap64 ((Int.tmod x10_1 3) - 1))] 24 (0, 0)) (by (with_reducible repeat (first | refine blk_drewN ?_ _ | refine blk_drew ?_ | refine blk_alloc ?_ _)); exact BK133.out) hb); have n2_ := Aside0.mk (blk_below (g := gb140) (o := .cells #[.int .i64 t134, .int .i64 t135] 41 (0, 0)) (by (with_reducible repeat (first | refine blk_drewN ?_ _ | refine blk_drew ?_ | refine blk_alloc ?_ _)); exact BK140.out) hb); have n3_ := Aside0.mk (blk_below (g := gb141) (o := .cells #[.int .i64 t136, .int .i64 t137] 41 (0, 0)) (by (with_reducible repeat (first | refine blk_drewN ?_ _ | refine blk_drew ?_ | refine blk_alloc ?_ _)); exact BK141.out) hb); have n4_ := Aside0.mk (blk_below (g := gb142) (o := .cells #[.int .i64 t138, .int .i64 t139] 41 (0, 0)) (by (with_reducible repeat (first | refine blk_drewN ?_ _ | refine blk_drew ?_ | refine blk_alloc ?_ _)); exact BK142.out) hb); have n5_ := Aside0.mk (below_step (by repeat (first | (with_reducible first | exact HB.out | apply below_alloc | apply pw_below_drewN | apply below_drew1 | refine below_set ?_ GE133.out | refine below_set ?_ GE140.out | refine below_set ?_ GE141.out | refine below_set ?_ GE142.out) | exact HB.out)) hb); clear HO_3; clear BK133; clear BK140; clear BK141; clear BK142; clear HB; have HO_3 := n0_; have BK133 := n1_; have BK140 := n2_; have BK141 := n3_; have BK142 := n4_; have HB := n5_; clear n0_ n1_ n2_ n3_ n4_ n5_; (try clear hb); (try clear hb2); (try clear hk); (try clear hi); have hnb68 := NB141_133.out; have hnc68 := NB133_141.out; have hnb69 := NB141_142.out; have hnc69 := NB142_141.out; have hcz70_0 : w67.cell? ⟨gb141, 0, none⟩ = some (.int .i64 t136) := (blk_cell BK141.out 0).trans rfl; have hcz70_1 : w67.cell? ⟨gb141, 1, none⟩ = some (.int .i64 t137) := (blk_cell BK141.out 1).trans rfl; have hfz70_0 := blk_frozen BK141.out 0; have hfz70_1 := blk_frozen BK141.out 1) | (go_at_call 88; (with_reducible refine (impl_norm.calls a0 t136 t137 t144 _ A10.out).mono ?_); rintro e w71 ⟨rfl, hb⟩; have n0_ := Aside0.mk (Kd.R_below (by (with_reducible repeat (first | apply Kd.R_alloc | apply Kd.R_drewN | apply Kd.R_drew)); exact HO_3.out) hb); have n1_ := Aside0.mk (blk_below (g := gb133) (o := .cells #[.int .i64 (wrap64 ((wrap64 (Int.tdiv x10_1 27)) - 1)), .int .i64 (wrap64 ((Int.tmod (wrap64 (Int.tdiv x10_1 9)) 3) - 1)), .int .i64 (wrap64 ((Int.tmod (wrap64 (Int.tdiv x10_1 3)) 3) - 1)), .int .i64 (wrap64 ((Int.tmod x10_1 3) - 1))] 24 (0, 0)) (by (with_reducible repeat (first | refine blk_drewN ?_ _ | refine blk_drew ?_ | refine blk_alloc ?_ _)); exact BK133.out) hb); have n2_ := Aside0.mk (blk_below (g := gb140) (o := .cells #[.int .i64 t134, .int .i64 t135] 41 (0, 0)) (by (with_reducible repeat (first | refine blk_drewN ?_ _ | refine blk_drew ?_ | refine blk_alloc ?_ _)); exact BK140.out) hb); have n3_ := Aside0.mk (blk_below (g := gb141) (o := .cells #[.int .i64 t136, .int .i64 t137] 41 (0, 0)) (by (with_reducible repeat (first | refine blk_drewN ?_ _ | refine blk_drew ?_ | refine blk_alloc ?_ _)); exact BK141.out) hb); have n4_ := Aside0.mk (blk_below (g := gb142) (o := .cells #[.int .i64 t138, .int .i64 t139] 41 (0, 0)) (by (with_reducible repeat (first | refine blk_drewN ?_ _ | refine blk_drew ?_ | refine blk_alloc ?_ _)); exact BK142.out) hb); have n5_ := Aside0.mk (below_step (by repeat (first | (with_reducible first | exact HB.out | apply below_alloc | apply pw_below_drewN | apply below_drew1 | refine below_set ?_ GE133.out | refine below_set ?_ GE140.out | refine below_set ?_ GE141.out | refine below_set ?_ GE142.out) | exact HB.out)) hb); clear HO_3; clear BK133; clear BK140; clear BK141; clear BK142; clear HB; have HO_3 := n0_; have BK133 := n1_; have BK140 := n2_; have BK141 := n3_; have BK142 := n4_; have HB := n5_; clear n0_ n1_ n2_ n3_ n4_ n5_; (try clear hb); (try clear hb2); (try clear hk); (try clear hi); have hnb72 := NB142_133.out; have hnc72 := NB133_142.out; have hcz73_0 : w71.cell? ⟨gb142, 0, none⟩ = some (.int .i64 t138) := (blk_cell BK142.out 0).trans rfl; have hcz73_1 : w71.cell? ⟨gb142, 1, none⟩ = some (.int .i64 t139) := (blk_cell BK142.out 1).trans rfl; have hfz73_0 := blk_frozen BK142.out 0; have hfz73_1 := blk_frozen BK142.out 1) | (go_at_call 88; (with_reducible refine (impl_norm.calls a0 t138 t139 t145 _ A12.out).mono ?_); rintro e w74 ⟨rfl, hb⟩; have n0_ := Aside0.mk (Kd.R_below (by (with_reducible repeat (first | apply Kd.R_alloc | apply Kd.R_drewN | apply Kd.R_drew)); exact HO_3.out) hb); have n1_ := Aside0.mk (blk_below (g := gb133) (o := .cells #[.int .i64 (wrap64 ((wrap64 (Int.tdiv x10_1 27)) - 1)), .int .i64 (wrap64 ((Int.tmod (wrap64 (Int.tdiv x10_1 9)) 3) - 1)), .int .i64 (wrap64 ((Int.tmod (wrap64 (Int.tdiv x10_1 3)) 3) - 1)), .int .i64 (wrap64 ((Int.tmod x10_1 3) - 1))] 24 (0, 0)) (by (with_reducible repeat (first | refine blk_drewN ?_ _ | refine blk_drew ?_ | refine blk_alloc ?_ _)); exact BK133.out) hb); have n2_ := Aside0.mk (blk_below (g := gb140) (o := .cells #[.int .i64 t134, .int .i64 t135] 41 (0, 0)) (by (with_reducible repeat (first | refine blk_drewN ?_ _ | refine blk_drew ?_ | refine blk_alloc ?_ _)); exact BK140.out) hb); have n3_ := Aside0.mk (blk_below (g := gb141) (o := .cells #[.int .i64 t136, .int .i64 t137] 41 (0, 0)) (by (with_reducible repeat (first | refine blk_drewN ?_ _ | refine blk_drew ?_ | refine blk_alloc ?_ _)); exact BK141.out) hb); have n4_ := Aside0.mk (blk_below (g := gb142) (o := .cells #[.int .i64 t138, .int .i64 t139] 41 (0, 0)) (by (with_reducible repeat (first | refine blk_drewN ?_ _ | refine blk_drew ?_ | refine blk_alloc ?_ _)); exact BK142.out) hb); have n5_ := Aside0.mk (below_step (by repeat (first | (with_reducible first | exact HB.out | apply below_alloc | apply pw_below_drewN | apply below_drew1 | refine below_set ?_ GE133.out | refine below_set ?_ GE140.out | refine below_set ?_ GE141.out | refine below_set ?_ GE142.out) | exact HB.out)) hb); clear HO_3; clear BK133; clear BK140; clear BK141; clear BK142; clear HB; have HO_3 := n0_; have BK133 := n1_; have BK140 := n2_; have BK141 := n3_; have BK142 := n4_; have HB := n5_; clear n0_ n1_ n2_ n3_ n4_ n5_; (try clear hb); (try clear hb2); (try clear hk); (try clear hi)))
              go_roundg k1
              case measure => have := HK1.out; omega
              case rel => exact ⟨(x3_1), (wrap64 (x10_1 + 1)), (by first | rfl | (simp; done) | (simp [*]; done)), H', ⟨by have := HK1.out; omega⟩, ⟨by (with_reducible repeat (first | apply Kd.R_alloc | apply Kd.R_drewN | apply Kd.R_drew)); exact Kd.R_mono HO_3.out (fun _ hk => trivial)⟩, ⟨by repeat (first | (with_reducible first | exact HB.out | apply below_alloc | apply pw_below_drewN | apply below_drew1 | refine below_set ?_ GE133.out | refine below_set ?_ GE140.out | refine below_set ?_ GE141.out | refine below_set ?_ GE142.out) | exact HB.out)⟩⟩
          · rw [if_neg c11] at H
            have c11b0 : (t144 == 1) = false := beq_eq_false_iff_ne.mpr c11
            have c11b1 : (t144 != 1) = true := bne_iff_ne.mpr c11
            have H' := Aside0.mk H
            clear H
            try go_wp2_with (first | ((with_reducible refine gate_callee (f := 88) rfl ?_); refine goesL_ (some 39) rfl rfl Try.func88 (by kernel_rfl) rfl #[.int .i64 a0, .agg #[.int .i64 t134, .int .i64 t135]] rfl (by (try simp only [List.map_toArray, List.map_cons, List.map_nil]); first | done | rfl | (simp only [List.length_drop, List.length_take]; rfl)) ?_; (with_reducible refine (impl_norm.calls a0 t134 t135 t143 _ A8.out).mono ?_); rintro e w96 ⟨rfl, hb⟩; refine ⟨_, rfl, ?_⟩; have n0_ := Aside0.mk (Kd.R_below (by (with_reducible repeat (first | apply Kd.R_alloc | apply Kd.R_drewN | apply Kd.R_drew)); exact HO_3.out) hb); have n1_ := Aside0.mk (blk_below (g := gb133) (o := .cells #[.int .i64 (wrap64 ((wrap64 (Int.tdiv x10_1 27)) - 1)), .int .i64 (wrap64 ((Int.tmod (wrap64 (Int.tdiv x10_1 9)) 3) - 1)), .int .i64 (wrap64 ((Int.tmod (wrap64 (Int.tdiv x10_1 3)) 3) - 1)), .int .i64 (wrap64 ((Int.tmod x10_1 3) - 1))] 24 (0, 0)) (by (with_reducible repeat (first | refine blk_drewN ?_ _ | refine blk_drew ?_ | refine blk_alloc ?_ _)); exact BK133.out) hb); have n2_ := Aside0.mk (blk_below (g := gb140) (o := .cells #[.int .i64 t134, .int .i64 t135] 41 (0, 0)) (by (with_reducible repeat (first | refine blk_drewN ?_ _ | refine blk_drew ?_ | refine blk_alloc ?_ _)); exact BK140.out) hb); have n3_ := Aside0.mk (blk_below (g := gb141) (o := .cells #[.int .i64 t136, .int .i64 t137] 41 (0, 0)) (by (with_reducible repeat (first | refine blk_drewN ?_ _ | refine blk_drew ?_ | refine blk_alloc ?_ _)); exact BK141.out) hb); have n4_ := Aside0.mk (blk_below (g := gb142) (o := .cells #[.int .i64 t138, .int .i64 t139] 41 (0, 0)) (by (with_reducible repeat (first | refine blk_drewN ?_ _ | refine blk_drew ?_ | refine blk_alloc ?_ _)); exact BK142.out) hb); have n5_ := Aside0.mk (below_step (by repeat (first | (with_reducible first | exact HB.out | apply below_alloc | apply pw_below_drewN | apply below_drew1 | refine below_set ?_ GE133.out | refine below_set ?_ GE140.out | refine below_set ?_ GE141.out | refine below_set ?_ GE142.out) | exact HB.out)) hb); clear HO_3; clear BK133; clear BK140; clear BK141; clear BK142; clear HB; have HO_3 := n0_; have BK133 := n1_; have BK140 := n2_; have BK141 := n3_; have BK142 := n4_; have HB := n5_; clear n0_ n1_ n2_ n3_ n4_ n5_; (try clear hb); (try clear hb2); (try clear hk); (try clear hi); have hnb97 := NB141_133.out; have hnc97 := NB133_141.out; have hnb98 := NB141_142.out; have hnc98 := NB142_141.out; have hcz99_0 : w96.cell? ⟨gb141, 0, none⟩ = some (.int .i64 t136) := (blk_cell BK141.out 0).trans rfl; have hcz99_1 : w96.cell? ⟨gb141, 1, none⟩ = some (.int .i64 t137) := (blk_cell BK141.out 1).trans rfl; have hfz99_0 := blk_frozen BK141.out 0; have hfz99_1 := blk_frozen BK141.out 1) | (go_at_call 88; (with_reducible refine (impl_norm.calls a0 t136 t137 t144 _ A10.out).mono ?_); rintro e w100 ⟨rfl, hb⟩; have n0_ := Aside0.mk (Kd.R_below (by (with_reducible repeat (first | apply Kd.R_alloc | apply Kd.R_drewN | apply Kd.R_drew)); exact HO_3.out) hb); have n1_ := Aside0.mk (blk_below (g := gb133) (o := .cells #[.int .i64 (wrap64 ((wrap64 (Int.tdiv x10_1 27)) - 1)), .int .i64 (wrap64 ((Int.tmod (wrap64 (Int.tdiv x10_1 9)) 3) - 1)), .int .i64 (wrap64 ((Int.tmod (wrap64 (Int.tdiv x10_1 3)) 3) - 1)), .int .i64 (wrap64 ((Int.tmod x10_1 3) - 1))] 24 (0, 0)) (by (with_reducible repeat (first | refine blk_drewN ?_ _ | refine blk_drew ?_ | refine blk_alloc ?_ _)); exact BK133.out) hb); have n2_ := Aside0.mk (blk_below (g := gb140) (o := .cells #[.int .i64 t134, .int .i64 t135] 41 (0, 0)) (by (with_reducible repeat (first | refine blk_drewN ?_ _ | refine blk_drew ?_ | refine blk_alloc ?_ _)); exact BK140.out) hb); have n3_ := Aside0.mk (blk_below (g := gb141) (o := .cells #[.int .i64 t136, .int .i64 t137] 41 (0, 0)) (by (with_reducible repeat (first | refine blk_drewN ?_ _ | refine blk_drew ?_ | refine blk_alloc ?_ _)); exact BK141.out) hb); have n4_ := Aside0.mk (blk_below (g := gb142) (o := .cells #[.int .i64 t138, .int .i64 t139] 41 (0, 0)) (by (with_reducible repeat (first | refine blk_drewN ?_ _ | refine blk_drew ?_ | refine blk_alloc ?_ _)); exact BK142.out) hb); have n5_ := Aside0.mk (below_step (by repeat (first | (with_reducible first | exact HB.out | apply below_alloc | apply pw_below_drewN | apply below_drew1 | refine below_set ?_ GE133.out | refine below_set ?_ GE140.out | refine below_set ?_ GE141.out | refine below_set ?_ GE142.out) | exact HB.out)) hb); clear HO_3; clear BK133; clear BK140; clear BK141; clear BK142; clear HB; have HO_3 := n0_; have BK133 := n1_; have BK140 := n2_; have BK141 := n3_; have BK142 := n4_; have HB := n5_; clear n0_ n1_ n2_ n3_ n4_ n5_; (try clear hb); (try clear hb2); (try clear hk); (try clear hi)))
            go_roundg k1
            case measure => have := HK1.out; omega
            case rel => exact ⟨(x3_1), (wrap64 (x10_1 + 1)), (by first | rfl | (simp; done) | (simp [*]; done)), H', ⟨by have := HK1.out; omega⟩, ⟨by (with_reducible repeat (first | apply Kd.R_alloc | apply Kd.R_drewN | apply Kd.R_drew)); exact Kd.R_mono HO_3.out (fun _ hk => trivial)⟩, ⟨by repeat (first | (with_reducible first | exact HB.out | apply below_alloc | apply pw_below_drewN | apply below_drew1 | refine below_set ?_ GE133.out | refine below_set ?_ GE140.out | refine below_set ?_ GE141.out | refine below_set ?_ GE142.out) | exact HB.out)⟩⟩
        · rw [if_neg c9] at H
          have c9b0 : (t143 == 1) = false := beq_eq_false_iff_ne.mpr c9
          have c9b1 : (t143 != 1) = true := bne_iff_ne.mpr c9
          have H' := Aside0.mk H
          clear H
          try go_wp2_with (first | ((with_reducible refine gate_callee (f := 88) rfl ?_); refine goesL_ (some 39) rfl rfl Try.func88 (by kernel_rfl) rfl #[.int .i64 a0, .agg #[.int .i64 t134, .int .i64 t135]] rfl (by (try simp only [List.map_toArray, List.map_cons, List.map_nil]); first | done | rfl | (simp only [List.length_drop, List.length_take]; rfl)) ?_; (with_reducible refine (impl_norm.calls a0 t134 t135 t143 _ A8.out).mono ?_); rintro e w122 ⟨rfl, hb⟩; refine ⟨_, rfl, ?_⟩; have n0_ := Aside0.mk (Kd.R_below (by (with_reducible repeat (first | apply Kd.R_alloc | apply Kd.R_drewN | apply Kd.R_drew)); exact HO_3.out) hb); have n1_ := Aside0.mk (blk_below (g := gb133) (o := .cells #[.int .i64 (wrap64 ((wrap64 (Int.tdiv x10_1 27)) - 1)), .int .i64 (wrap64 ((Int.tmod (wrap64 (Int.tdiv x10_1 9)) 3) - 1)), .int .i64 (wrap64 ((Int.tmod (wrap64 (Int.tdiv x10_1 3)) 3) - 1)), .int .i64 (wrap64 ((Int.tmod x10_1 3) - 1))] 24 (0, 0)) (by (with_reducible repeat (first | refine blk_drewN ?_ _ | refine blk_drew ?_ | refine blk_alloc ?_ _)); exact BK133.out) hb); have n2_ := Aside0.mk (blk_below (g := gb140) (o := .cells #[.int .i64 t134, .int .i64 t135] 41 (0, 0)) (by (with_reducible repeat (first | refine blk_drewN ?_ _ | refine blk_drew ?_ | refine blk_alloc ?_ _)); exact BK140.out) hb); have n3_ := Aside0.mk (blk_below (g := gb141) (o := .cells #[.int .i64 t136, .int .i64 t137] 41 (0, 0)) (by (with_reducible repeat (first | refine blk_drewN ?_ _ | refine blk_drew ?_ | refine blk_alloc ?_ _)); exact BK141.out) hb); have n4_ := Aside0.mk (blk_below (g := gb142) (o := .cells #[.int .i64 t138, .int .i64 t139] 41 (0, 0)) (by (with_reducible repeat (first | refine blk_drewN ?_ _ | refine blk_drew ?_ | refine blk_alloc ?_ _)); exact BK142.out) hb); have n5_ := Aside0.mk (below_step (by repeat (first | (with_reducible first | exact HB.out | apply below_alloc | apply pw_below_drewN | apply below_drew1 | refine below_set ?_ GE133.out | refine below_set ?_ GE140.out | refine below_set ?_ GE141.out | refine below_set ?_ GE142.out) | exact HB.out)) hb); clear HO_3; clear BK133; clear BK140; clear BK141; clear BK142; clear HB; have HO_3 := n0_; have BK133 := n1_; have BK140 := n2_; have BK141 := n3_; have BK142 := n4_; have HB := n5_; clear n0_ n1_ n2_ n3_ n4_ n5_; (try clear hb); (try clear hb2); (try clear hk); (try clear hi)))
          go_roundg k1
          case measure => have := HK1.out; omega
          case rel => exact ⟨(x3_1), (wrap64 (x10_1 + 1)), (by first | rfl | (simp; done) | (simp [*]; done)), H', ⟨by have := HK1.out; omega⟩, ⟨by (with_reducible repeat (first | apply Kd.R_alloc | apply Kd.R_drewN | apply Kd.R_drew)); exact Kd.R_mono HO_3.out (fun _ hk => trivial)⟩, ⟨by repeat (first | (with_reducible first | exact HB.out | apply below_alloc | apply pw_below_drewN | apply below_drew1 | refine below_set ?_ GE133.out | refine below_set ?_ GE140.out | refine below_set ?_ GE141.out | refine below_set ?_ GE142.out) | exact HB.out)⟩⟩
      · rw [if_neg c4] at H
        have c4b0 : decide (x10_1 < 81) = false := decide_eq_false c4
        clear c4
        obtain rfl := Option.some.inj H
        go_wp2
        go_ret
        exact ⟨_, by first | rfl | (simp [errW_none, errW_some] <;> rfl) | (simp [*, errW_none, errW_some] <;> rfl), by (with_reducible repeat (first | apply Kd.R_alloc | apply Kd.R_drewN | apply Kd.R_drew)); exact HO_3.out, by repeat (first | (with_reducible first | exact HB.out | apply below_alloc | apply pw_below_drewN | apply below_drew1) | exact HB.out)⟩

end Go.Proofs.Ytpkjgcafbkfbgab.F

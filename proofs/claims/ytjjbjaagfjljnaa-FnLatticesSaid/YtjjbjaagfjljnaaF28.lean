import Derived.Test.YtjjbjaagfjljnaaF0
import Derived.Test.YtjjbjaagfjljnaaF3
import Derived.Test.YtjjbjaagfjljnaaF8
import Derived.Test.YtjjbjaagfjljnaaF26
namespace Go.Proofs.Ytjjbjaagfjljnaa.F
open Go.RowKit Go.Proofs.YtjjbjaagfjljnaaW.PrintWords Go.Proofs.YtjjbjaagfjljnaaW.PrintLast Go.Proofs.YtjjbjaagfjljnaaW.PrintMore
attribute [local go_sem] max2_int min2_int max_two min_two max_three min_three max_four min_four   -- for this text's walks alone
set_option linter.unusedVariables false
set_option linter.unusedSimpArgs false
attribute [local go_sem high] eqA25

/-! ### spec_l03Hermite: function 168 -/
mutual
def spec_l03Hermite.l0 : Nat → List (S25) → Int → Int → Int → Int → Option (Int × Int × Int)
  | 0, _, _, _, _, _ => none
  | k + 1, x0, x4, x5, x914000, x914001 => if x5 < (x0.length : Int) then (if 0 ≤ x5 then (spec_l03Hermite.l1 k x0 x4 x5 x914000 x914001 ((rd_T25 x0 x5).f0) ((rd_T25 x0 x5).f1)) else (none)) else (if x914001 < 0 then ((spec_l01Scale.f x914000 x914001 (-1)).bind fun bt919 => (if x4 > 0 then ((spec_l01Mod.f bt919.1 x4).bind fun t921 => (some (x4, t921, bt919.2))) else (some (x4, bt919.1, bt919.2)))) else (if x4 > 0 then ((spec_l01Mod.f x914000 x4).bind fun t922 => (some (x4, t922, x914001))) else (some (x4, x914000, x914001))))
def spec_l03Hermite.l1 : Nat → List (S25) → Int → Int → Int → Int → Int → Int → Option (Int × Int × Int)
  | 0, _, _, _, _, _, _, _ => none
  | k + 1, x0, x4, x5, x914000, x914001, x916000, x916001 => if x916001 = 0 then ((spec_l01Divisor.f k x4 x916000).bind fun t917 => (if t917 > 0 then ((spec_l01Mod.f x914000 t917).bind fun t918 => (spec_l03Hermite.l0 k x0 t917 (wrap64 (x5 + 1)) t918 x914001)) else (spec_l03Hermite.l0 k x0 t917 (wrap64 (x5 + 1)) x914000 x914001))) else (spec_l03Hermite.l1 k x0 x4 x5 x916000 x916001 (wrap64 (x914000 - (wrap64 ((wrap64 (Int.tdiv x914001 x916001)) * x916000)))) (wrap64 (x914001 - (wrap64 ((wrap64 (Int.tdiv x914001 x916001)) * x916001)))))
end
def spec_l03Hermite.f (k : Nat) (l0 : List (S25)) : Option (Int × Int × Int) := spec_l03Hermite.l0 k l0 0 0 0 0
theorem spec_l03Hermite.mono_l : ∀ k, (∀ y0 y1 y2 y3 y4, LeO (spec_l03Hermite.l0 k y0 y1 y2 y3 y4) (spec_l03Hermite.l0 (k + 1) y0 y1 y2 y3 y4)) ∧ (∀ y0 y1 y2 y3 y4 y5 y6, LeO (spec_l03Hermite.l1 k y0 y1 y2 y3 y4 y5 y6) (spec_l03Hermite.l1 (k + 1) y0 y1 y2 y3 y4 y5 y6))
  | 0 => ⟨fun _ _ _ _ _ r h => by simp [spec_l03Hermite.l0] at h, fun _ _ _ _ _ _ _ r h => by simp [spec_l03Hermite.l1] at h⟩
  | k + 1 => by
    obtain ⟨ih0, ih1⟩ := spec_l03Hermite.mono_l k
    refine ⟨?_, ?_⟩
    · intro y0 y1 y2 y3 y4
      unfold spec_l03Hermite.l0
      repeat' first
      | (with_reducible exact ih0 _ _ _ _ _)
      | (with_reducible exact ih1 _ _ _ _ _ _ _)
      | (with_reducible exact spec_l01Divisor.mono _ _ _)
      | (with_reducible exact LeO.refl _)
      | (with_reducible exact LeO.none _)
      | (with_reducible refine LeO.ite ?_ ?_)
      | (with_reducible refine LeO.bind ?_ (fun _ => ?_))
      | exact ih0 _ _ _ _ _
      | exact ih1 _ _ _ _ _ _ _
      | exact spec_l01Divisor.mono _ _ _
      | exact LeO.none _
      | refine LeO.ite ?_ ?_
      | refine LeO.bind ?_ (fun _ => ?_)
    · intro y0 y1 y2 y3 y4 y5 y6
      unfold spec_l03Hermite.l1
      repeat' first
      | (with_reducible exact ih0 _ _ _ _ _)
      | (with_reducible exact ih1 _ _ _ _ _ _ _)
      | (with_reducible exact spec_l01Divisor.mono _ _ _)
      | (with_reducible exact LeO.refl _)
      | (with_reducible exact LeO.none _)
      | (with_reducible refine LeO.ite ?_ ?_)
      | (with_reducible refine LeO.bind ?_ (fun _ => ?_))
      | exact ih0 _ _ _ _ _
      | exact ih1 _ _ _ _ _ _ _
      | exact spec_l01Divisor.mono _ _ _
      | exact LeO.none _
      | refine LeO.ite ?_ ?_
      | refine LeO.bind ?_ (fun _ => ?_)
theorem spec_l03Hermite.mono : ∀ a0 k, LeO (spec_l03Hermite.f k a0) (spec_l03Hermite.f (k + 1) a0) := by
  intro a0 k
  obtain ⟨ih0, ih1⟩ := spec_l03Hermite.mono_l k
  unfold spec_l03Hermite.f
  repeat' first
      | (with_reducible exact ih0 _ _ _ _ _)
      | (with_reducible exact ih1 _ _ _ _ _ _ _)
      | (with_reducible exact spec_l01Divisor.mono _ _ _)
      | (with_reducible exact LeO.refl _)
      | (with_reducible exact LeO.none _)
      | (with_reducible refine LeO.ite ?_ ?_)
      | (with_reducible refine LeO.bind ?_ (fun _ => ?_))
      | exact ih0 _ _ _ _ _
      | exact ih1 _ _ _ _ _ _ _
      | exact spec_l01Divisor.mono _ _ _
      | exact LeO.none _
      | refine LeO.ite ?_ ?_
      | refine LeO.bind ?_ (fun _ => ?_)
set_option maxHeartbeats 8000000 in
set_option maxRecDepth 100000 in
theorem spec_l03Hermite.calls (k : Nat) (A0 : Option Addr) (c0 : Nat) (l0 : List (S25)) (r1 : Int) (r2 : Int) (r3 : Int) (w : World) (hr0 : Kd.C k25 w A0 l0.length l0) (hc0 : l0.length ≤ c0) (h : spec_l03Hermite.f k l0 = some (r1, r2, r3)) :
    Calls Try.prog 168 #[.slice A0 l0.length c0] w fun e w' => e = .returned (.agg #[.int .i64 r1, .int .i64 r2, .int .i64 r3]) ∧ Below w.heap.size w w' := by
  have hu66 := Try.underlying66
  have hu25 := Try.underlying25
  have HR0 := Aside0.mk hr0
  have HC0 := Aside0.mk hc0
  clear hr0 hc0
  have HB := Aside0.mk (Below.refl w.heap.size w)
  have H : (spec_l03Hermite.l0 k l0 0 0 0 0) = some (r1, r2, r3) := h
  clear h
  have H' := Aside0.mk H
  clear H
  go_enter Try.func168, Try.ntmps168
  go_wp2_with (first | ((with_reducible refine gate_dst (N := 2) rfl ?_); refine box_event ?hg (N := 2) ?hd (cs := #[.int .i64 0, .int .i64 0, .int .i64 0]) (t := 66) ?hr ?_; (case hd => rfl); (case hg => rfl); (case hr => first | (go_simp; done) | (go_simp; rfl)); intro gb912 hg w2 hbox hb; have n0_ := Aside0.mk (below_step (by repeat (first | (with_reducible first | exact HB.out | apply below_alloc | apply pw_below_drewN | apply below_drew1) | exact HB.out)) hb); have n1_ := Aside0.mk (hbox); have n2_ := Aside0.mk ((by rw [hg]; exact (below_size (by repeat (first | (with_reducible first | exact HB.out | apply below_alloc | apply pw_below_drewN | apply below_drew1) | exact HB.out))) : w.heap.size ≤ gb912)); have n3_ := Aside0.mk ((by rw [hg]; exact (below_size (by repeat (first | (with_reducible first | exact HB.out | apply below_alloc | apply pw_below_drewN | apply below_drew1) | exact HB.out))) : w.heap.size ≤ gb912)); clear HB; have HB := n0_; have BK912 := n1_; have GW912 := n2_; have GE912 := n3_; clear n0_ n1_ n2_ n3_; clear hb hbox hg) | ((with_reducible refine gate_dst (N := 3) rfl ?_); refine box_event ?hg (N := 3) ?hd (cs := #[.int .i64 0, .int .i64 0]) (t := 25) ?hr ?_; (case hd => rfl); (case hg => rfl); (case hr => first | (go_simp; done) | (go_simp; rfl)); intro gb913 hg w3 hbox hb; have n0_ := Aside0.mk (blk_below (g := gb912) (o := .cells #[.int .i64 0, .int .i64 0, .int .i64 0] 66 (0, 0)) (by (with_reducible repeat (first | refine blk_drewN ?_ _ | refine blk_drew ?_ | refine blk_alloc ?_ _)); exact BK912.out) hb); have n1_ := Aside0.mk (below_step (by repeat (first | (with_reducible first | exact HB.out | apply below_alloc | apply pw_below_drewN | apply below_drew1 | refine below_set ?_ GE912.out) | exact HB.out)) hb); have n2_ := Aside0.mk (hbox); have n3_ := Aside0.mk ((by rw [hg]; exact (below_size (by repeat (first | (with_reducible first | exact HB.out | apply below_alloc | apply pw_below_drewN | apply below_drew1 | refine below_set ?_ GE912.out) | exact HB.out))) : w.heap.size ≤ gb913)); have n4_ := Aside0.mk ((by rw [hg]; exact (below_size (by repeat (first | (with_reducible first | exact HB.out | apply below_alloc | apply pw_below_drewN | apply below_drew1 | refine below_set ?_ GE912.out) | exact HB.out))) : w.heap.size ≤ gb913)); have n5_ := Aside0.mk ((by rw [hg]; exact Nat.ne_of_lt (blk_lt (g := gb912) (o := .cells #[.int .i64 0, .int .i64 0, .int .i64 0] 66 (0, 0)) (by (with_reducible repeat (first | refine blk_drewN ?_ _ | refine blk_drew ?_ | refine blk_alloc ?_ _)); exact BK912.out)) : gb912 ≠ gb913)); have n6_ := Aside0.mk ((by rw [hg]; exact Nat.ne_of_gt (blk_lt (g := gb912) (o := .cells #[.int .i64 0, .int .i64 0, .int .i64 0] 66 (0, 0)) (by (with_reducible repeat (first | refine blk_drewN ?_ _ | refine blk_drew ?_ | refine blk_alloc ?_ _)); exact BK912.out)) : gb913 ≠ gb912)); clear BK912; clear HB; have BK912 := n0_; have HB := n1_; have BK913 := n2_; have GW913 := n3_; have GE913 := n4_; have NB912_913 := n5_; have NB913_912 := n6_; clear n0_ n1_ n2_ n3_ n4_ n5_ n6_; clear hb hbox hg; have hnb4 := NB913_912.out; have hnc4 := NB912_913.out; have hcz5_0 : w3.cell? ⟨gb913, 0, none⟩ = some (.int .i64 0) := (blk_cell BK913.out 0).trans rfl; have hcz5_1 : w3.cell? ⟨gb913, 1, none⟩ = some (.int .i64 0) := (blk_cell BK913.out 1).trans rfl; have hfz5_0 := blk_frozen BK913.out 0; have hfz5_1 := blk_frozen BK913.out 1))
  go_loopg [4, 5] k (fun kq v4 v5 w' => ∃ (x4_1 : Int) (x5_1 : Int) (x914000_1 : Int) (x914001_1 : Int), v4 = .int .i64 x4_1 ∧ v5 = .int .i64 x5_1 ∧ Aside0 (spec_l03Hermite.l0 kq l0 x4_1 x5_1 x914000_1 x914001_1 = some (r1, r2, r3)) ∧ Aside0 (kq ≤ k) ∧ Aside0 (w'.heap[gb912]? = some (.cells #[.int .i64 0, .int .i64 0, .int .i64 0] 66 (0, 0))) ∧ Aside0 (w'.heap[gb913]? = some (.cells #[.int .i64 x914000_1, .int .i64 x914001_1] 25 (0, 0))) ∧ Aside0 (Below w.heap.size w w'))
  case atStart => exact ⟨(0), (0), (0), (0), (by first | rfl | (simp; done) | (simp [*]; done)), (by first | rfl | (simp; done) | (simp [*]; done)), H', ⟨Nat.le_refl _⟩, ⟨by (with_reducible repeat (first | refine blk_drewN ?_ _ | refine blk_drew ?_ | refine blk_alloc ?_ _)); refine blk_far ?_ NB912_913.out _; (with_reducible repeat (first | refine blk_drewN ?_ _ | refine blk_drew ?_ | refine blk_alloc ?_ _)); refine blk_far ?_ NB912_913.out _; (with_reducible repeat (first | refine blk_drewN ?_ _ | refine blk_drew ?_ | refine blk_alloc ?_ _)); exact BK912.out⟩, ⟨by (with_reducible repeat (first | refine blk_drewN ?_ _ | refine blk_drew ?_ | refine blk_alloc ?_ _)); refine blk_put (cs := #[.int .i64 0, .int .i64 0]) ?_ 1 _ rfl; (with_reducible repeat (first | refine blk_drewN ?_ _ | refine blk_drew ?_ | refine blk_alloc ?_ _)); refine blk_put (cs := #[.int .i64 0, .int .i64 0]) ?_ 0 _ rfl; (with_reducible repeat (first | refine blk_drewN ?_ _ | refine blk_drew ?_ | refine blk_alloc ?_ _)); exact BK913.out⟩, ⟨by repeat (first | (with_reducible first | exact HB.out | apply below_alloc | apply pw_below_drewN | apply below_drew1 | refine below_set ?_ GE912.out | refine below_set ?_ GE913.out) | exact HB.out)⟩⟩
  case round =>
    clear H'
    try clear c1
    try clear p2
    try clear c4
    try clear hcz5_0
    try clear hcz5_1
    try clear hfz5_0
    try clear hfz5_1
    obtain ⟨x4_1, x5_1, x914000_1, x914001_1, rfl, rfl, HA, HK1, BK912, BK913, HB⟩ := hrel
    cases gk with
    | zero => exact absurd HA.out (by simp [spec_l03Hermite.l0])
    | succ k1 =>
      have H := HA.out
      clear HA
      simp only [spec_l03Hermite.l0] at H
      by_cases c6 : x5_1 < (l0.length : Int)
      · rw [if_pos c6] at H
        have c6b0 : decide (x5_1 < (l0.length : Int)) = true := decide_eq_true c6
        clear c6
        by_cases c7 : 0 ≤ x5_1
        · rw [if_pos c7] at H
          have c7b0 : decide (0 ≤ x5_1) = true := decide_eq_true c7
          clear c7
          have H' := Aside0.mk H
          clear H
          have p914 : 0 ≤ (x5_1 : Int) := of_decide_eq_true (by first | (with_reducible assumption) | assumption)
          have q914 : x5_1 < (l0.length : Int) := of_decide_eq_true (by first | (with_reducible assumption) | assumption)
          obtain ⟨ad914, e914, hx914_0, hx914_1⟩ := at_T25 HR0.out x5_1 p914 q914
          cases e914
          replace hx914_0 := (HB.out.cell (World.block_lt_of_cell? w _ hx914_0)).trans hx914_0
          replace hx914_1 := (HB.out.cell (World.block_lt_of_cell? w _ hx914_1)).trans hx914_1
          replace p914 := eq_true p914
          replace q914 := eq_true q914
          go_wp2_with (first | ((with_reducible refine gate_dst (N := 6) rfl ?_); refine box_event ?hg (N := 6) ?hd (cs := #[.int .i64 0, .int .i64 0]) (t := 25) ?hr ?_; (case hd => rfl); (case hg => rfl); (case hr => first | (go_simp; done) | (go_simp; rfl)); intro gb915 hg w8 hbox hb; have n0_ := Aside0.mk (blk_below (g := gb912) (o := .cells #[.int .i64 0, .int .i64 0, .int .i64 0] 66 (0, 0)) (by (with_reducible repeat (first | refine blk_drewN ?_ _ | refine blk_drew ?_ | refine blk_alloc ?_ _)); exact BK912.out) hb); have n1_ := Aside0.mk (blk_below (g := gb913) (o := .cells #[.int .i64 x914000_1, .int .i64 x914001_1] 25 (0, 0)) (by (with_reducible repeat (first | refine blk_drewN ?_ _ | refine blk_drew ?_ | refine blk_alloc ?_ _)); exact BK913.out) hb); have n2_ := Aside0.mk (below_step (by repeat (first | (with_reducible first | exact HB.out | apply below_alloc | apply pw_below_drewN | apply below_drew1 | refine below_set ?_ GE912.out | refine below_set ?_ GE913.out) | exact HB.out)) hb); have n3_ := Aside0.mk (hbox); have n4_ := Aside0.mk ((by rw [hg]; exact (below_size (by repeat (first | (with_reducible first | exact HB.out | apply below_alloc | apply pw_below_drewN | apply below_drew1 | refine below_set ?_ GE912.out | refine below_set ?_ GE913.out) | exact HB.out))) : w.heap.size ≤ gb915)); have n5_ := Aside0.mk ((by rw [hg]; exact (below_size (by repeat (first | (with_reducible first | exact HB.out | apply below_alloc | apply pw_below_drewN | apply below_drew1 | refine below_set ?_ GE912.out | refine below_set ?_ GE913.out) | exact HB.out))) : w.heap.size ≤ gb915)); have n6_ := Aside0.mk ((by rw [hg]; exact Nat.ne_of_lt (blk_lt (g := gb912) (o := .cells #[.int .i64 0, .int .i64 0, .int .i64 0] 66 (0, 0)) (by (with_reducible repeat (first | refine blk_drewN ?_ _ | refine blk_drew ?_ | refine blk_alloc ?_ _)); exact BK912.out)) : gb912 ≠ gb915)); have n7_ := Aside0.mk ((by rw [hg]; exact Nat.ne_of_gt (blk_lt (g := gb912) (o := .cells #[.int .i64 0, .int .i64 0, .int .i64 0] 66 (0, 0)) (by (with_reducible repeat (first | refine blk_drewN ?_ _ | refine blk_drew ?_ | refine blk_alloc ?_ _)); exact BK912.out)) : gb915 ≠ gb912)); have n8_ := Aside0.mk ((by rw [hg]; exact Nat.ne_of_lt (blk_lt (g := gb913) (o := .cells #[.int .i64 x914000_1, .int .i64 x914001_1] 25 (0, 0)) (by (with_reducible repeat (first | refine blk_drewN ?_ _ | refine blk_drew ?_ | refine blk_alloc ?_ _)); exact BK913.out)) : gb913 ≠ gb915)); have n9_ := Aside0.mk ((by rw [hg]; exact Nat.ne_of_gt (blk_lt (g := gb913) (o := .cells #[.int .i64 x914000_1, .int .i64 x914001_1] 25 (0, 0)) (by (with_reducible repeat (first | refine blk_drewN ?_ _ | refine blk_drew ?_ | refine blk_alloc ?_ _)); exact BK913.out)) : gb915 ≠ gb913)); clear BK912; clear BK913; clear HB; have BK912 := n0_; have BK913 := n1_; have HB := n2_; have BK915 := n3_; have GW915 := n4_; have GE915 := n5_; have NB912_915 := n6_; have NB915_912 := n7_; have NB913_915 := n8_; have NB915_913 := n9_; clear n0_ n1_ n2_ n3_ n4_ n5_ n6_ n7_ n8_ n9_; clear hb hbox hg; have hnb9 := NB915_912.out; have hnc9 := NB912_915.out; have hnb10 := NB915_913.out; have hnc10 := NB913_915.out; have hcz11_0 : w8.cell? ⟨gb915, 0, none⟩ = some (.int .i64 0) := (blk_cell BK915.out 0).trans rfl; have hcz11_1 : w8.cell? ⟨gb915, 1, none⟩ = some (.int .i64 0) := (blk_cell BK915.out 1).trans rfl; have hfz11_0 := blk_frozen BK915.out 0; have hfz11_1 := blk_frozen BK915.out 1))
          go_loopg [] k1 (fun kq w' => ∃ (x914000_2 : Int) (x914001_2 : Int) (x916000_2 : Int) (x916001_2 : Int), Aside0 (spec_l03Hermite.l1 kq l0 x4_1 x5_1 x914000_2 x914001_2 x916000_2 x916001_2 = some (r1, r2, r3)) ∧ Aside0 (kq ≤ k1) ∧ Aside0 (w'.heap[gb912]? = some (.cells #[.int .i64 0, .int .i64 0, .int .i64 0] 66 (0, 0))) ∧ Aside0 (w'.heap[gb913]? = some (.cells #[.int .i64 x914000_2, .int .i64 x914001_2] 25 (0, 0))) ∧ Aside0 (w'.heap[gb915]? = some (.cells #[.int .i64 x916000_2, .int .i64 x916001_2] 25 (0, 0))) ∧ Aside0 (Below w.heap.size w w'))
          case atStart => exact ⟨(x914000_1), (x914001_1), ((rd_T25 l0 x5_1).f0), ((rd_T25 l0 x5_1).f1), H', ⟨Nat.le_refl _⟩, ⟨by (with_reducible repeat (first | refine blk_drewN ?_ _ | refine blk_drew ?_ | refine blk_alloc ?_ _)); refine blk_far ?_ NB912_915.out _; (with_reducible repeat (first | refine blk_drewN ?_ _ | refine blk_drew ?_ | refine blk_alloc ?_ _)); refine blk_far ?_ NB912_915.out _; (with_reducible repeat (first | refine blk_drewN ?_ _ | refine blk_drew ?_ | refine blk_alloc ?_ _)); exact BK912.out⟩, ⟨by (with_reducible repeat (first | refine blk_drewN ?_ _ | refine blk_drew ?_ | refine blk_alloc ?_ _)); refine blk_far ?_ NB913_915.out _; (with_reducible repeat (first | refine blk_drewN ?_ _ | refine blk_drew ?_ | refine blk_alloc ?_ _)); refine blk_far ?_ NB913_915.out _; (with_reducible repeat (first | refine blk_drewN ?_ _ | refine blk_drew ?_ | refine blk_alloc ?_ _)); exact BK913.out⟩, ⟨by (with_reducible repeat (first | refine blk_drewN ?_ _ | refine blk_drew ?_ | refine blk_alloc ?_ _)); refine blk_put (cs := #[.int .i64 ((rd_T25 l0 x5_1).f0), .int .i64 0]) ?_ 1 _ rfl; (with_reducible repeat (first | refine blk_drewN ?_ _ | refine blk_drew ?_ | refine blk_alloc ?_ _)); refine blk_put (cs := #[.int .i64 0, .int .i64 0]) ?_ 0 _ rfl; (with_reducible repeat (first | refine blk_drewN ?_ _ | refine blk_drew ?_ | refine blk_alloc ?_ _)); exact BK915.out⟩, ⟨by repeat (first | (with_reducible first | exact HB.out | apply below_alloc | apply pw_below_drewN | apply below_drew1 | refine below_set ?_ GE912.out | refine below_set ?_ GE913.out | refine below_set ?_ GE915.out) | exact HB.out)⟩⟩
          case round =>
            clear H'
            try clear c1
            try clear p2
            try clear c4
            try clear c6
            try clear c6b0
            try clear c7
            try clear c7b0
            try clear c9
            try clear p9
            try clear q9
            try clear hx9
            try clear c10
            try clear hcz11_0
            try clear hcz11_1
            try clear hcz5_0
            try clear hcz5_1
            try clear hfz11_0
            try clear hfz11_1
            try clear hfz5_0
            try clear hfz5_1
            try clear hx914_0
            try clear hx914_1
            try clear p2
            try clear p914
            try clear q914
            obtain ⟨x914000_2, x914001_2, x916000_2, x916001_2, HA, HK2, BK912, BK913, BK915, HB⟩ := hrel
            cases gk with
            | zero => exact absurd HA.out (by simp [spec_l03Hermite.l1])
            | succ k2 =>
              have H := HA.out
              clear HA
              simp only [spec_l03Hermite.l1] at H
              by_cases c12 : x916001_2 = 0
              · rw [if_pos c12] at H
                have c12b0 : (x916001_2 == 0) = true := beq_iff_eq.mpr c12
                have c12b1 : (x916001_2 != 0) = false := bne_eq_false_iff_eq.mpr c12
                clear c12
                replace H := Option.bind_eq_some_iff.mp H
                obtain ⟨t917, A130, H⟩ := H
                replace H : (if t917 > 0 then ((spec_l01Mod.f x914000_2 t917).bind fun t918 => (spec_l03Hermite.l0 k2 l0 t917 (wrap64 (x5_1 + 1)) t918 x914001_2)) else (spec_l03Hermite.l0 k2 l0 t917 (wrap64 (x5_1 + 1)) x914000_2 x914001_2)) = some (r1, r2, r3) := H
                have A13 := Aside0.mk A130
                clear A130
                by_cases c14 : t917 > 0
                · rw [if_pos c14] at H
                  have c14b0 : decide (0 < t917) = true := decide_eq_true c14
                  clear c14
                  replace H := Option.bind_eq_some_iff.mp H
                  obtain ⟨t918, A150, H⟩ := H
                  replace H : (spec_l03Hermite.l0 k2 l0 t917 (wrap64 (x5_1 + 1)) t918 x914001_2) = some (r1, r2, r3) := H
                  have A15 := Aside0.mk A150
                  clear A150
                  have H' := Aside0.mk H
                  clear H
                  have hnb16 := NB915_912.out
                  have hnc16 := NB912_915.out
                  have hnb17 := NB915_913.out
                  have hnc17 := NB913_915.out
                  have hcz18_0 : wr.cell? ⟨gb915, 0, none⟩ = some (.int .i64 x916000_2) := (blk_cell BK915.out 0).trans rfl
                  have hcz18_1 : wr.cell? ⟨gb915, 1, none⟩ = some (.int .i64 x916001_2) := (blk_cell BK915.out 1).trans rfl
                  have hfz18_0 := blk_frozen BK915.out 0
                  have hfz18_1 := blk_frozen BK915.out 1
                  go_wp2_with (first | ((with_reducible refine gate_callee (f := 126) rfl ?_); refine goesL_ (some 48) rfl rfl Try.func126 (by kernel_rfl) rfl #[.int .i64 x4_1, .int .i64 x916000_2] rfl (by (try simp only [List.map_toArray, List.map_cons, List.map_nil]); first | done | rfl | (simp only [List.length_drop, List.length_take]; rfl)) ?_; (with_reducible refine (spec_l01Divisor.calls k2 x4_1 x916000_2 t917 _ A13.out).mono ?_); rintro e w19 ⟨rfl, hb⟩; refine ⟨_, rfl, ?_⟩; have n0_ := Aside0.mk (blk_below (g := gb912) (o := .cells #[.int .i64 0, .int .i64 0, .int .i64 0] 66 (0, 0)) (by (with_reducible repeat (first | refine blk_drewN ?_ _ | refine blk_drew ?_ | refine blk_alloc ?_ _)); exact BK912.out) hb); have n1_ := Aside0.mk (blk_below (g := gb913) (o := .cells #[.int .i64 x914000_2, .int .i64 x914001_2] 25 (0, 0)) (by (with_reducible repeat (first | refine blk_drewN ?_ _ | refine blk_drew ?_ | refine blk_alloc ?_ _)); exact BK913.out) hb); have n2_ := Aside0.mk (blk_below (g := gb915) (o := .cells #[.int .i64 x916000_2, .int .i64 x916001_2] 25 (0, 0)) (by (with_reducible repeat (first | refine blk_drewN ?_ _ | refine blk_drew ?_ | refine blk_alloc ?_ _)); exact BK915.out) hb); have n3_ := Aside0.mk (below_step (by repeat (first | (with_reducible first | exact HB.out | apply below_alloc | apply pw_below_drewN | apply below_drew1 | refine below_set ?_ GE912.out | refine below_set ?_ GE913.out | refine below_set ?_ GE915.out) | exact HB.out)) hb); clear BK912; clear BK913; clear BK915; clear HB; have BK912 := n0_; have BK913 := n1_; have BK915 := n2_; have HB := n3_; clear n0_ n1_ n2_ n3_; (try clear hb); (try clear hb2); (try clear hk); (try clear hi); have hnb20 := NB913_912.out; have hnc20 := NB912_913.out; have hcz21_0 : w19.cell? ⟨gb913, 0, none⟩ = some (.int .i64 x914000_2) := (blk_cell BK913.out 0).trans rfl; have hcz21_1 : w19.cell? ⟨gb913, 1, none⟩ = some (.int .i64 x914001_2) := (blk_cell BK913.out 1).trans rfl; have hfz21_0 := blk_frozen BK913.out 0; have hfz21_1 := blk_frozen BK913.out 1) | ((with_reducible refine gate_callee (f := 212) rfl ?_); refine goesL_ (some 54) rfl rfl Try.func212 (by kernel_rfl) rfl #[.int .i64 x914000_2, .int .i64 t917] rfl (by (try simp only [List.map_toArray, List.map_cons, List.map_nil]); first | done | rfl | (simp only [List.length_drop, List.length_take]; rfl)) ?_; (with_reducible refine (spec_l01Mod.calls x914000_2 t917 t918 _ A15.out).mono ?_); rintro e w' ⟨rfl, ⟨nd, rfl⟩⟩; refine ⟨_, rfl, ?_⟩; (try (rw [drewN_self w19]; generalize hq_ : World.drewN w19 _ = w19; have n0_ : Aside0 (w19.heap[gb912]? = some (.cells #[.int .i64 0, .int .i64 0, .int .i64 0] 66 (0, 0))) := ⟨by rw [← hq_]; exact (by (with_reducible repeat (first | refine blk_drewN ?_ _ | refine blk_drew ?_ | refine blk_alloc ?_ _)); exact BK912.out)⟩; have n1_ : Aside0 (w19.heap[gb913]? = some (.cells #[.int .i64 x914000_2, .int .i64 x914001_2] 25 (0, 0))) := ⟨by rw [← hq_]; exact (by (with_reducible repeat (first | refine blk_drewN ?_ _ | refine blk_drew ?_ | refine blk_alloc ?_ _)); exact BK913.out)⟩; have n2_ : Aside0 (w19.heap[gb915]? = some (.cells #[.int .i64 x916000_2, .int .i64 x916001_2] 25 (0, 0))) := ⟨by rw [← hq_]; exact (by (with_reducible repeat (first | refine blk_drewN ?_ _ | refine blk_drew ?_ | refine blk_alloc ?_ _)); exact BK915.out)⟩; have n3_ : Aside0 (Below w.heap.size w w19) := ⟨by rw [← hq_]; exact (by repeat (first | (with_reducible first | exact HB.out | apply below_alloc | apply pw_below_drewN | apply below_drew1 | refine below_set ?_ GE912.out | refine below_set ?_ GE913.out | refine below_set ?_ GE915.out) | exact HB.out))⟩; clear BK912 BK913 BK915 HB hq_; have BK912 := n0_; have BK913 := n1_; have BK915 := n2_; have HB := n3_; clear n0_ n1_ n2_ n3_; have hcz18_0 : wr.cell? ⟨gb915, 0, none⟩ = some (.int .i64 x916000_2) := (blk_cell BK915.out 0).trans rfl; have hcz18_1 : wr.cell? ⟨gb915, 1, none⟩ = some (.int .i64 x916001_2) := (blk_cell BK915.out 1).trans rfl; have hfz18_0 := blk_frozen BK915.out 0; have hfz18_1 := blk_frozen BK915.out 1; have hcz21_0 : w19.cell? ⟨gb913, 0, none⟩ = some (.int .i64 x914000_2) := (blk_cell BK913.out 0).trans rfl; have hcz21_1 : w19.cell? ⟨gb913, 1, none⟩ = some (.int .i64 x914001_2) := (blk_cell BK913.out 1).trans rfl; have hfz21_0 := blk_frozen BK913.out 0; have hfz21_1 := blk_frozen BK913.out 1))))
                  go_roundg k2
                  case measure => have := HK1.out; have := HK2.out; omega
                  case rel => exact ⟨(t917), (wrap64 (x5_1 + 1)), (t918), (x914001_2), (by first | rfl | (simp; done) | (simp [*]; done)), (by first | rfl | (simp; done) | (simp [*]; done)), H', ⟨by have := HK1.out; have := HK2.out; omega⟩, ⟨by (with_reducible repeat (first | refine blk_drewN ?_ _ | refine blk_drew ?_ | refine blk_alloc ?_ _)); refine blk_far ?_ NB912_913.out _; (with_reducible repeat (first | refine blk_drewN ?_ _ | refine blk_drew ?_ | refine blk_alloc ?_ _)); exact BK912.out⟩, ⟨by (with_reducible repeat (first | refine blk_drewN ?_ _ | refine blk_drew ?_ | refine blk_alloc ?_ _)); refine blk_put (cs := #[.int .i64 x914000_2, .int .i64 x914001_2]) ?_ 0 _ rfl; (with_reducible repeat (first | refine blk_drewN ?_ _ | refine blk_drew ?_ | refine blk_alloc ?_ _)); exact BK913.out⟩, ⟨by repeat (first | (with_reducible first | exact HB.out | apply below_alloc | apply pw_below_drewN | apply below_drew1 | refine below_set ?_ GE912.out | refine below_set ?_ GE913.out | refine below_set ?_ GE915.out) | exact HB.out)⟩⟩
                · rw [if_neg c14] at H
                  have c14b0 : decide (0 < t917) = false := decide_eq_false c14
                  clear c14
                  have H' := Aside0.mk H
                  clear H
                  have hnb22 := NB915_912.out
                  have hnc22 := NB912_915.out
                  have hnb23 := NB915_913.out
                  have hnc23 := NB913_915.out
                  have hcz24_0 : wr.cell? ⟨gb915, 0, none⟩ = some (.int .i64 x916000_2) := (blk_cell BK915.out 0).trans rfl
                  have hcz24_1 : wr.cell? ⟨gb915, 1, none⟩ = some (.int .i64 x916001_2) := (blk_cell BK915.out 1).trans rfl
                  have hfz24_0 := blk_frozen BK915.out 0
                  have hfz24_1 := blk_frozen BK915.out 1
                  go_wp2_with (first | ((with_reducible refine gate_callee (f := 126) rfl ?_); refine goesL_ (some 48) rfl rfl Try.func126 (by kernel_rfl) rfl #[.int .i64 x4_1, .int .i64 x916000_2] rfl (by (try simp only [List.map_toArray, List.map_cons, List.map_nil]); first | done | rfl | (simp only [List.length_drop, List.length_take]; rfl)) ?_; (with_reducible refine (spec_l01Divisor.calls k2 x4_1 x916000_2 t917 _ A13.out).mono ?_); rintro e w25 ⟨rfl, hb⟩; refine ⟨_, rfl, ?_⟩; have n0_ := Aside0.mk (blk_below (g := gb912) (o := .cells #[.int .i64 0, .int .i64 0, .int .i64 0] 66 (0, 0)) (by (with_reducible repeat (first | refine blk_drewN ?_ _ | refine blk_drew ?_ | refine blk_alloc ?_ _)); exact BK912.out) hb); have n1_ := Aside0.mk (blk_below (g := gb913) (o := .cells #[.int .i64 x914000_2, .int .i64 x914001_2] 25 (0, 0)) (by (with_reducible repeat (first | refine blk_drewN ?_ _ | refine blk_drew ?_ | refine blk_alloc ?_ _)); exact BK913.out) hb); have n2_ := Aside0.mk (blk_below (g := gb915) (o := .cells #[.int .i64 x916000_2, .int .i64 x916001_2] 25 (0, 0)) (by (with_reducible repeat (first | refine blk_drewN ?_ _ | refine blk_drew ?_ | refine blk_alloc ?_ _)); exact BK915.out) hb); have n3_ := Aside0.mk (below_step (by repeat (first | (with_reducible first | exact HB.out | apply below_alloc | apply pw_below_drewN | apply below_drew1 | refine below_set ?_ GE912.out | refine below_set ?_ GE913.out | refine below_set ?_ GE915.out) | exact HB.out)) hb); clear BK912; clear BK913; clear BK915; clear HB; have BK912 := n0_; have BK913 := n1_; have BK915 := n2_; have HB := n3_; clear n0_ n1_ n2_ n3_; (try clear hb); (try clear hb2); (try clear hk); (try clear hi)))
                  go_roundg k2
                  case measure => have := HK1.out; have := HK2.out; omega
                  case rel => exact ⟨(t917), (wrap64 (x5_1 + 1)), (x914000_2), (x914001_2), (by first | rfl | (simp; done) | (simp [*]; done)), (by first | rfl | (simp; done) | (simp [*]; done)), H', ⟨by have := HK1.out; have := HK2.out; omega⟩, ⟨by (with_reducible repeat (first | refine blk_drewN ?_ _ | refine blk_drew ?_ | refine blk_alloc ?_ _)); exact BK912.out⟩, ⟨by (with_reducible repeat (first | refine blk_drewN ?_ _ | refine blk_drew ?_ | refine blk_alloc ?_ _)); exact BK913.out⟩, ⟨by repeat (first | (with_reducible first | exact HB.out | apply below_alloc | apply pw_below_drewN | apply below_drew1 | refine below_set ?_ GE912.out | refine below_set ?_ GE913.out | refine below_set ?_ GE915.out) | exact HB.out)⟩⟩
              · rw [if_neg c12] at H
                have c12b0 : (x916001_2 == 0) = false := beq_eq_false_iff_ne.mpr c12
                have c12b1 : (x916001_2 != 0) = true := bne_iff_ne.mpr c12
                have H' := Aside0.mk H
                clear H
                have hnb26 := NB915_912.out
                have hnc26 := NB912_915.out
                have hnb27 := NB915_913.out
                have hnc27 := NB913_915.out
                have hcz28_0 : wr.cell? ⟨gb915, 0, none⟩ = some (.int .i64 x916000_2) := (blk_cell BK915.out 0).trans rfl
                have hcz28_1 : wr.cell? ⟨gb915, 1, none⟩ = some (.int .i64 x916001_2) := (blk_cell BK915.out 1).trans rfl
                have hfz28_0 := blk_frozen BK915.out 0
                have hfz28_1 := blk_frozen BK915.out 1
                have hnb29 := NB913_912.out
                have hnc29 := NB912_913.out
                have hcz30_0 : wr.cell? ⟨gb913, 0, none⟩ = some (.int .i64 x914000_2) := (blk_cell BK913.out 0).trans rfl
                have hcz30_1 : wr.cell? ⟨gb913, 1, none⟩ = some (.int .i64 x914001_2) := (blk_cell BK913.out 1).trans rfl
                have hfz30_0 := blk_frozen BK913.out 0
                have hfz30_1 := blk_frozen BK913.out 1
                go_wp2_with (first | ((with_reducible refine gate_dst (N := 8) rfl ?_); refine box_event ?hg (N := 8) ?hd (cs := #[.int .i64 0, .int .i64 0]) (t := 25) ?hr ?_; (case hd => rfl); (case hg => rfl); (case hr => first | (go_simp; done) | (go_simp; rfl)); intro gb916 hg w31 hbox hb; have n0_ := Aside0.mk (blk_below (g := gb912) (o := .cells #[.int .i64 0, .int .i64 0, .int .i64 0] 66 (0, 0)) (by (with_reducible repeat (first | refine blk_drewN ?_ _ | refine blk_drew ?_ | refine blk_alloc ?_ _)); exact BK912.out) hb); have n1_ := Aside0.mk (blk_below (g := gb913) (o := .cells #[.int .i64 x914000_2, .int .i64 x914001_2] 25 (0, 0)) (by (with_reducible repeat (first | refine blk_drewN ?_ _ | refine blk_drew ?_ | refine blk_alloc ?_ _)); exact BK913.out) hb); have n2_ := Aside0.mk (blk_below (g := gb915) (o := .cells #[.int .i64 x916000_2, .int .i64 x916001_2] 25 (0, 0)) (by (with_reducible repeat (first | refine blk_drewN ?_ _ | refine blk_drew ?_ | refine blk_alloc ?_ _)); exact BK915.out) hb); have n3_ := Aside0.mk (below_step (by repeat (first | (with_reducible first | exact HB.out | apply below_alloc | apply pw_below_drewN | apply below_drew1 | refine below_set ?_ GE912.out | refine below_set ?_ GE913.out | refine below_set ?_ GE915.out) | exact HB.out)) hb); have n4_ := Aside0.mk (hbox); have n5_ := Aside0.mk ((by rw [hg]; exact (below_size (by repeat (first | (with_reducible first | exact HB.out | apply below_alloc | apply pw_below_drewN | apply below_drew1 | refine below_set ?_ GE912.out | refine below_set ?_ GE913.out | refine below_set ?_ GE915.out) | exact HB.out))) : w.heap.size ≤ gb916)); have n6_ := Aside0.mk ((by rw [hg]; exact (below_size (by repeat (first | (with_reducible first | exact HB.out | apply below_alloc | apply pw_below_drewN | apply below_drew1 | refine below_set ?_ GE912.out | refine below_set ?_ GE913.out | refine below_set ?_ GE915.out) | exact HB.out))) : w.heap.size ≤ gb916)); have n7_ := Aside0.mk ((by rw [hg]; exact Nat.ne_of_lt (blk_lt (g := gb912) (o := .cells #[.int .i64 0, .int .i64 0, .int .i64 0] 66 (0, 0)) (by (with_reducible repeat (first | refine blk_drewN ?_ _ | refine blk_drew ?_ | refine blk_alloc ?_ _)); exact BK912.out)) : gb912 ≠ gb916)); have n8_ := Aside0.mk ((by rw [hg]; exact Nat.ne_of_gt (blk_lt (g := gb912) (o := .cells #[.int .i64 0, .int .i64 0, .int .i64 0] 66 (0, 0)) (by (with_reducible repeat (first | refine blk_drewN ?_ _ | refine blk_drew ?_ | refine blk_alloc ?_ _)); exact BK912.out)) : gb916 ≠ gb912)); have n9_ := Aside0.mk ((by rw [hg]; exact Nat.ne_of_lt (blk_lt (g := gb913) (o := .cells #[.int .i64 x914000_2, .int .i64 x914001_2] 25 (0, 0)) (by (with_reducible repeat (first | refine blk_drewN ?_ _ | refine blk_drew ?_ | refine blk_alloc ?_ _)); exact BK913.out)) : gb913 ≠ gb916)); have n10_ := Aside0.mk ((by rw [hg]; exact Nat.ne_of_gt (blk_lt (g := gb913) (o := .cells #[.int .i64 x914000_2, .int .i64 x914001_2] 25 (0, 0)) (by (with_reducible repeat (first | refine blk_drewN ?_ _ | refine blk_drew ?_ | refine blk_alloc ?_ _)); exact BK913.out)) : gb916 ≠ gb913)); have n11_ := Aside0.mk ((by rw [hg]; exact Nat.ne_of_lt (blk_lt (g := gb915) (o := .cells #[.int .i64 x916000_2, .int .i64 x916001_2] 25 (0, 0)) (by (with_reducible repeat (first | refine blk_drewN ?_ _ | refine blk_drew ?_ | refine blk_alloc ?_ _)); exact BK915.out)) : gb915 ≠ gb916)); have n12_ := Aside0.mk ((by rw [hg]; exact Nat.ne_of_gt (blk_lt (g := gb915) (o := .cells #[.int .i64 x916000_2, .int .i64 x916001_2] 25 (0, 0)) (by (with_reducible repeat (first | refine blk_drewN ?_ _ | refine blk_drew ?_ | refine blk_alloc ?_ _)); exact BK915.out)) : gb916 ≠ gb915)); clear BK912; clear BK913; clear BK915; clear HB; have BK912 := n0_; have BK913 := n1_; have BK915 := n2_; have HB := n3_; have BK916 := n4_; have GW916 := n5_; have GE916 := n6_; have NB912_916 := n7_; have NB916_912 := n8_; have NB913_916 := n9_; have NB916_913 := n10_; have NB915_916 := n11_; have NB916_915 := n12_; clear n0_ n1_ n2_ n3_ n4_ n5_ n6_ n7_ n8_ n9_ n10_ n11_ n12_; clear hb hbox hg; have hnb32 := NB916_912.out; have hnc32 := NB912_916.out; have hnb33 := NB916_913.out; have hnc33 := NB913_916.out; have hnb34 := NB916_915.out; have hnc34 := NB915_916.out; have hcz35_0 : w31.cell? ⟨gb916, 0, none⟩ = some (.int .i64 0) := (blk_cell BK916.out 0).trans rfl; have hcz35_1 : w31.cell? ⟨gb916, 1, none⟩ = some (.int .i64 0) := (blk_cell BK916.out 1).trans rfl; have hfz35_0 := blk_frozen BK916.out 0; have hfz35_1 := blk_frozen BK916.out 1; have hcz36_0 : w31.cell? ⟨gb915, 0, none⟩ = some (.int .i64 x916000_2) := (blk_cell BK915.out 0).trans rfl; have hcz36_1 : w31.cell? ⟨gb915, 1, none⟩ = some (.int .i64 x916001_2) := (blk_cell BK915.out 1).trans rfl; have hfz36_0 := blk_frozen BK915.out 0; have hfz36_1 := blk_frozen BK915.out 1; have hcz37_0 : w31.cell? ⟨gb913, 0, none⟩ = some (.int .i64 x914000_2) := (blk_cell BK913.out 0).trans rfl; have hcz37_1 : w31.cell? ⟨gb913, 1, none⟩ = some (.int .i64 x914001_2) := (blk_cell BK913.out 1).trans rfl; have hfz37_0 := blk_frozen BK913.out 0; have hfz37_1 := blk_frozen BK913.out 1))
                go_roundg k2
                case measure => have := HK1.out; have := HK2.out; omega
                case rel => exact ⟨(x916000_2), (x916001_2), (wrap64 (x914000_2 - (wrap64 ((wrap64 (Int.tdiv x914001_2 x916001_2)) * x916000_2)))), (wrap64 (x914001_2 - (wrap64 ((wrap64 (Int.tdiv x914001_2 x916001_2)) * x916001_2)))), H', ⟨by have := HK1.out; have := HK2.out; omega⟩, ⟨by (with_reducible repeat (first | refine blk_drewN ?_ _ | refine blk_drew ?_ | refine blk_alloc ?_ _)); refine blk_far ?_ NB912_915.out _; (with_reducible repeat (first | refine blk_drewN ?_ _ | refine blk_drew ?_ | refine blk_alloc ?_ _)); refine blk_far ?_ NB912_915.out _; (with_reducible repeat (first | refine blk_drewN ?_ _ | refine blk_drew ?_ | refine blk_alloc ?_ _)); refine blk_far ?_ NB912_913.out _; (with_reducible repeat (first | refine blk_drewN ?_ _ | refine blk_drew ?_ | refine blk_alloc ?_ _)); refine blk_far ?_ NB912_913.out _; (with_reducible repeat (first | refine blk_drewN ?_ _ | refine blk_drew ?_ | refine blk_alloc ?_ _)); refine blk_far ?_ NB912_916.out _; (with_reducible repeat (first | refine blk_drewN ?_ _ | refine blk_drew ?_ | refine blk_alloc ?_ _)); refine blk_far ?_ NB912_916.out _; (with_reducible repeat (first | refine blk_drewN ?_ _ | refine blk_drew ?_ | refine blk_alloc ?_ _)); exact BK912.out⟩, ⟨by (with_reducible repeat (first | refine blk_drewN ?_ _ | refine blk_drew ?_ | refine blk_alloc ?_ _)); refine blk_far ?_ NB913_915.out _; (with_reducible repeat (first | refine blk_drewN ?_ _ | refine blk_drew ?_ | refine blk_alloc ?_ _)); refine blk_far ?_ NB913_915.out _; (with_reducible repeat (first | refine blk_drewN ?_ _ | refine blk_drew ?_ | refine blk_alloc ?_ _)); refine blk_put (cs := #[.int .i64 x916000_2, .int .i64 x914001_2]) ?_ 1 _ rfl; (with_reducible repeat (first | refine blk_drewN ?_ _ | refine blk_drew ?_ | refine blk_alloc ?_ _)); refine blk_put (cs := #[.int .i64 x914000_2, .int .i64 x914001_2]) ?_ 0 _ rfl; (with_reducible repeat (first | refine blk_drewN ?_ _ | refine blk_drew ?_ | refine blk_alloc ?_ _)); refine blk_far ?_ NB913_916.out _; (with_reducible repeat (first | refine blk_drewN ?_ _ | refine blk_drew ?_ | refine blk_alloc ?_ _)); refine blk_far ?_ NB913_916.out _; (with_reducible repeat (first | refine blk_drewN ?_ _ | refine blk_drew ?_ | refine blk_alloc ?_ _)); exact BK913.out⟩, ⟨by (with_reducible repeat (first | refine blk_drewN ?_ _ | refine blk_drew ?_ | refine blk_alloc ?_ _)); refine blk_put (cs := #[.int .i64 (wrap64 (x914000_2 - (wrap64 ((wrap64 (Int.tdiv x914001_2 x916001_2)) * x916000_2)))), .int .i64 x916001_2]) ?_ 1 _ rfl; (with_reducible repeat (first | refine blk_drewN ?_ _ | refine blk_drew ?_ | refine blk_alloc ?_ _)); refine blk_put (cs := #[.int .i64 x916000_2, .int .i64 x916001_2]) ?_ 0 _ rfl; (with_reducible repeat (first | refine blk_drewN ?_ _ | refine blk_drew ?_ | refine blk_alloc ?_ _)); refine blk_far ?_ NB915_913.out _; (with_reducible repeat (first | refine blk_drewN ?_ _ | refine blk_drew ?_ | refine blk_alloc ?_ _)); refine blk_far ?_ NB915_913.out _; (with_reducible repeat (first | refine blk_drewN ?_ _ | refine blk_drew ?_ | refine blk_alloc ?_ _)); refine blk_far ?_ NB915_916.out _; (with_reducible repeat (first | refine blk_drewN ?_ _ | refine blk_drew ?_ | refine blk_alloc ?_ _)); refine blk_far ?_ NB915_916.out _; (with_reducible repeat (first | refine blk_drewN ?_ _ | refine blk_drew ?_ | refine blk_alloc ?_ _)); exact BK915.out⟩, ⟨by repeat (first | (with_reducible first | exact HB.out | apply below_alloc | apply pw_below_drewN | apply below_drew1 | refine below_set ?_ GE912.out | refine below_set ?_ GE913.out | refine below_set ?_ GE915.out | refine below_set ?_ GE916.out) | exact HB.out)⟩⟩
        · rw [if_neg c7] at H
          exact absurd H (by simp)
      · rw [if_neg c6] at H
        have c6b0 : decide (x5_1 < (l0.length : Int)) = false := decide_eq_false c6
        clear c6
        by_cases c38 : x914001_1 < 0
        · rw [if_pos c38] at H
          have c38b0 : decide (x914001_1 < 0) = true := decide_eq_true c38
          clear c38
          replace H := Option.bind_eq_some_iff.mp H
          obtain ⟨⟨t919, t920⟩, A390, H⟩ := H
          replace H : (if x4_1 > 0 then ((spec_l01Mod.f t919 x4_1).bind fun t921 => (some (x4_1, t921, t920))) else (some (x4_1, t919, t920))) = some (r1, r2, r3) := H
          have A39 := Aside0.mk A390
          clear A390
          by_cases c40 : x4_1 > 0
          · rw [if_pos c40] at H
            have c40b0 : decide (0 < x4_1) = true := decide_eq_true c40
            clear c40
            replace H := Option.bind_eq_some_iff.mp H
            obtain ⟨t921, A410, H⟩ := H
            replace H : (some (x4_1, t921, t920)) = some (r1, r2, r3) := H
            have A41 := Aside0.mk A410
            clear A410
            simp only [Option.some.injEq, Prod.mk.injEq] at H
            obtain ⟨rfl, rfl, rfl⟩ := H
            have hnb42 := NB913_912.out
            have hnc42 := NB912_913.out
            have hcz43_0 : wr.cell? ⟨gb913, 0, none⟩ = some (.int .i64 x914000_1) := (blk_cell BK913.out 0).trans rfl
            have hcz43_1 : wr.cell? ⟨gb913, 1, none⟩ = some (.int .i64 x914001_1) := (blk_cell BK913.out 1).trans rfl
            have hfz43_0 := blk_frozen BK913.out 0
            have hfz43_1 := blk_frozen BK913.out 1
            go_wp2_with (first | ((with_reducible refine gate_callee (f := 136) rfl ?_); refine goesL_ (some 60) rfl rfl Try.func136 (by kernel_rfl) rfl #[.agg #[.int .i64 x914000_1, .int .i64 x914001_1], .int .i64 (-1)] rfl (by (try simp only [List.map_toArray, List.map_cons, List.map_nil]); first | done | rfl | (simp only [List.length_drop, List.length_take]; rfl)) ?_; (with_reducible refine (spec_l01Scale.calls x914000_1 x914001_1 (-1) t919 t920 _ A39.out).mono ?_); rintro e w44 ⟨rfl, hb⟩; refine ⟨_, rfl, ?_⟩; have n0_ := Aside0.mk (blk_below (g := gb912) (o := .cells #[.int .i64 0, .int .i64 0, .int .i64 0] 66 (0, 0)) (by (with_reducible repeat (first | refine blk_drewN ?_ _ | refine blk_drew ?_ | refine blk_alloc ?_ _)); exact BK912.out) hb); have n1_ := Aside0.mk (blk_below (g := gb913) (o := .cells #[.int .i64 x914000_1, .int .i64 x914001_1] 25 (0, 0)) (by (with_reducible repeat (first | refine blk_drewN ?_ _ | refine blk_drew ?_ | refine blk_alloc ?_ _)); exact BK913.out) hb); have n2_ := Aside0.mk (below_step (by repeat (first | (with_reducible first | exact HB.out | apply below_alloc | apply pw_below_drewN | apply below_drew1 | refine below_set ?_ GE912.out | refine below_set ?_ GE913.out) | exact HB.out)) hb); clear BK912; clear BK913; clear HB; have BK912 := n0_; have BK913 := n1_; have HB := n2_; clear n0_ n1_ n2_; (try clear hb); (try clear hb2); (try clear hk); (try clear hi); have hcz45_0 : w44.cell? ⟨gb913, 0, none⟩ = some (.int .i64 x914000_1) := (blk_cell BK913.out 0).trans rfl; have hcz45_1 : w44.cell? ⟨gb913, 1, none⟩ = some (.int .i64 x914001_1) := (blk_cell BK913.out 1).trans rfl; have hfz45_0 := blk_frozen BK913.out 0; have hfz45_1 := blk_frozen BK913.out 1) | ((with_reducible refine gate_callee (f := 212) rfl ?_); refine goesL_ (some 66) rfl rfl Try.func212 (by kernel_rfl) rfl #[.int .i64 t919, .int .i64 x4_1] rfl (by (try simp only [List.map_toArray, List.map_cons, List.map_nil]); first | done | rfl | (simp only [List.length_drop, List.length_take]; rfl)) ?_; (with_reducible refine (spec_l01Mod.calls t919 x4_1 t921 _ A41.out).mono ?_); rintro e w' ⟨rfl, ⟨nd, rfl⟩⟩; refine ⟨_, rfl, ?_⟩; have hcz46_0 : w44.cell? ⟨gb912, 0, none⟩ = some (.int .i64 0) := (blk_cell BK912.out 0).trans rfl; have hcz46_1 : w44.cell? ⟨gb912, 1, none⟩ = some (.int .i64 0) := (blk_cell BK912.out 1).trans rfl; have hcz46_2 : w44.cell? ⟨gb912, 2, none⟩ = some (.int .i64 0) := (blk_cell BK912.out 2).trans rfl; have hfz46_0 := blk_frozen BK912.out 0; have hfz46_1 := blk_frozen BK912.out 1; have hfz46_2 := blk_frozen BK912.out 2))
            refine bodyPost_ret (results_cell_row rfl _ _ gb912 66 #[.int .i64 x4_1, .int .i64 t921, .int .i64 t920] (0, 0) _ rfl (by (with_reducible repeat (first | refine blk_drewN ?_ _ | refine blk_drew ?_ | refine blk_alloc ?_ _)); refine blk_put (cs := #[.int .i64 x4_1, .int .i64 t921, .int .i64 0]) ?_ 2 _ rfl; (with_reducible repeat (first | refine blk_drewN ?_ _ | refine blk_drew ?_ | refine blk_alloc ?_ _)); refine blk_put (cs := #[.int .i64 x4_1, .int .i64 0, .int .i64 0]) ?_ 1 _ rfl; (with_reducible repeat (first | refine blk_drewN ?_ _ | refine blk_drew ?_ | refine blk_alloc ?_ _)); refine blk_put (cs := #[.int .i64 0, .int .i64 0, .int .i64 0]) ?_ 0 _ rfl; (with_reducible repeat (first | refine blk_drewN ?_ _ | refine blk_drew ?_ | refine blk_alloc ?_ _)); refine blk_far ?_ NB912_913.out _; (with_reducible repeat (first | refine blk_drewN ?_ _ | refine blk_drew ?_ | refine blk_alloc ?_ _)); refine blk_far ?_ NB912_913.out _; (with_reducible repeat (first | refine blk_drewN ?_ _ | refine blk_drew ?_ | refine blk_alloc ?_ _)); refine blk_far ?_ NB912_913.out _; (with_reducible repeat (first | refine blk_drewN ?_ _ | refine blk_drew ?_ | refine blk_alloc ?_ _)); exact BK912.out) Try.underlying66 rfl (by kernel_rfl)) rfl ?_
            exact ⟨by first | rfl | (simp [errW_none, errW_some] <;> rfl) | (simp [*, errW_none, errW_some] <;> rfl), by repeat (first | (with_reducible first | exact HB.out | apply below_alloc | apply pw_below_drewN | apply below_drew1 | refine below_set ?_ GE912.out | refine below_set ?_ GE913.out) | exact HB.out)⟩
          · rw [if_neg c40] at H
            have c40b0 : decide (0 < x4_1) = false := decide_eq_false c40
            clear c40
            simp only [Option.some.injEq, Prod.mk.injEq] at H
            obtain ⟨rfl, rfl, rfl⟩ := H
            have hnb47 := NB913_912.out
            have hnc47 := NB912_913.out
            have hcz48_0 : wr.cell? ⟨gb913, 0, none⟩ = some (.int .i64 x914000_1) := (blk_cell BK913.out 0).trans rfl
            have hcz48_1 : wr.cell? ⟨gb913, 1, none⟩ = some (.int .i64 x914001_1) := (blk_cell BK913.out 1).trans rfl
            have hfz48_0 := blk_frozen BK913.out 0
            have hfz48_1 := blk_frozen BK913.out 1
            go_wp2_with (first | ((with_reducible refine gate_callee (f := 136) rfl ?_); refine goesL_ (some 60) rfl rfl Try.func136 (by kernel_rfl) rfl #[.agg #[.int .i64 x914000_1, .int .i64 x914001_1], .int .i64 (-1)] rfl (by (try simp only [List.map_toArray, List.map_cons, List.map_nil]); first | done | rfl | (simp only [List.length_drop, List.length_take]; rfl)) ?_; (with_reducible refine (spec_l01Scale.calls x914000_1 x914001_1 (-1) t919 t920 _ A39.out).mono ?_); rintro e w49 ⟨rfl, hb⟩; refine ⟨_, rfl, ?_⟩; have n0_ := Aside0.mk (blk_below (g := gb912) (o := .cells #[.int .i64 0, .int .i64 0, .int .i64 0] 66 (0, 0)) (by (with_reducible repeat (first | refine blk_drewN ?_ _ | refine blk_drew ?_ | refine blk_alloc ?_ _)); exact BK912.out) hb); have n1_ := Aside0.mk (blk_below (g := gb913) (o := .cells #[.int .i64 x914000_1, .int .i64 x914001_1] 25 (0, 0)) (by (with_reducible repeat (first | refine blk_drewN ?_ _ | refine blk_drew ?_ | refine blk_alloc ?_ _)); exact BK913.out) hb); have n2_ := Aside0.mk (below_step (by repeat (first | (with_reducible first | exact HB.out | apply below_alloc | apply pw_below_drewN | apply below_drew1 | refine below_set ?_ GE912.out | refine below_set ?_ GE913.out) | exact HB.out)) hb); clear BK912; clear BK913; clear HB; have BK912 := n0_; have BK913 := n1_; have HB := n2_; clear n0_ n1_ n2_; (try clear hb); (try clear hb2); (try clear hk); (try clear hi); have hcz50_0 : w49.cell? ⟨gb913, 0, none⟩ = some (.int .i64 x914000_1) := (blk_cell BK913.out 0).trans rfl; have hcz50_1 : w49.cell? ⟨gb913, 1, none⟩ = some (.int .i64 x914001_1) := (blk_cell BK913.out 1).trans rfl; have hfz50_0 := blk_frozen BK913.out 0; have hfz50_1 := blk_frozen BK913.out 1; have hcz51_0 : w49.cell? ⟨gb912, 0, none⟩ = some (.int .i64 0) := (blk_cell BK912.out 0).trans rfl; have hcz51_1 : w49.cell? ⟨gb912, 1, none⟩ = some (.int .i64 0) := (blk_cell BK912.out 1).trans rfl; have hcz51_2 : w49.cell? ⟨gb912, 2, none⟩ = some (.int .i64 0) := (blk_cell BK912.out 2).trans rfl; have hfz51_0 := blk_frozen BK912.out 0; have hfz51_1 := blk_frozen BK912.out 1; have hfz51_2 := blk_frozen BK912.out 2))
            refine bodyPost_ret (results_cell_row rfl _ _ gb912 66 #[.int .i64 x4_1, .int .i64 t919, .int .i64 t920] (0, 0) _ rfl (by (with_reducible repeat (first | refine blk_drewN ?_ _ | refine blk_drew ?_ | refine blk_alloc ?_ _)); refine blk_put (cs := #[.int .i64 x4_1, .int .i64 t919, .int .i64 0]) ?_ 2 _ rfl; (with_reducible repeat (first | refine blk_drewN ?_ _ | refine blk_drew ?_ | refine blk_alloc ?_ _)); refine blk_put (cs := #[.int .i64 x4_1, .int .i64 0, .int .i64 0]) ?_ 1 _ rfl; (with_reducible repeat (first | refine blk_drewN ?_ _ | refine blk_drew ?_ | refine blk_alloc ?_ _)); refine blk_put (cs := #[.int .i64 0, .int .i64 0, .int .i64 0]) ?_ 0 _ rfl; (with_reducible repeat (first | refine blk_drewN ?_ _ | refine blk_drew ?_ | refine blk_alloc ?_ _)); refine blk_far ?_ NB912_913.out _; (with_reducible repeat (first | refine blk_drewN ?_ _ | refine blk_drew ?_ | refine blk_alloc ?_ _)); refine blk_far ?_ NB912_913.out _; (with_reducible repeat (first | refine blk_drewN ?_ _ | refine blk_drew ?_ | refine blk_alloc ?_ _)); exact BK912.out) Try.underlying66 rfl (by kernel_rfl)) rfl ?_
            exact ⟨by first | rfl | (simp [errW_none, errW_some] <;> rfl) | (simp [*, errW_none, errW_some] <;> rfl), by repeat (first | (with_reducible first | exact HB.out | apply below_alloc | apply pw_below_drewN | apply below_drew1 | refine below_set ?_ GE912.out | refine below_set ?_ GE913.out) | exact HB.out)⟩
        · rw [if_neg c38] at H
          have c38b0 : decide (x914001_1 < 0) = false := decide_eq_false c38
          clear c38
          by_cases c52 : x4_1 > 0
          · rw [if_pos c52] at H
            have c52b0 : decide (0 < x4_1) = true := decide_eq_true c52
            clear c52
            replace H := Option.bind_eq_some_iff.mp H
            obtain ⟨t922, A530, H⟩ := H
            replace H : (some (x4_1, t922, x914001_1)) = some (r1, r2, r3) := H
            have A53 := Aside0.mk A530
            clear A530
            simp only [Option.some.injEq, Prod.mk.injEq] at H
            obtain ⟨rfl, rfl, rfl⟩ := H
            have hnb54 := NB913_912.out
            have hnc54 := NB912_913.out
            have hcz55_0 : wr.cell? ⟨gb913, 0, none⟩ = some (.int .i64 x914000_1) := (blk_cell BK913.out 0).trans rfl
            have hcz55_1 : wr.cell? ⟨gb913, 1, none⟩ = some (.int .i64 x914001_1) := (blk_cell BK913.out 1).trans rfl
            have hfz55_0 := blk_frozen BK913.out 0
            have hfz55_1 := blk_frozen BK913.out 1
            go_wp2_with (first | ((with_reducible refine gate_callee (f := 212) rfl ?_); refine goesL_ (some 66) rfl rfl Try.func212 (by kernel_rfl) rfl #[.int .i64 x914000_1, .int .i64 x4_1] rfl (by (try simp only [List.map_toArray, List.map_cons, List.map_nil]); first | done | rfl | (simp only [List.length_drop, List.length_take]; rfl)) ?_; (with_reducible refine (spec_l01Mod.calls x914000_1 x4_1 t922 _ A53.out).mono ?_); rintro e w' ⟨rfl, ⟨nd, rfl⟩⟩; refine ⟨_, rfl, ?_⟩; (try (rw [drewN_self wr]; generalize hq_ : World.drewN wr _ = wr; have n0_ : Aside0 (wr.heap[gb912]? = some (.cells #[.int .i64 0, .int .i64 0, .int .i64 0] 66 (0, 0))) := ⟨by rw [← hq_]; exact (by (with_reducible repeat (first | refine blk_drewN ?_ _ | refine blk_drew ?_ | refine blk_alloc ?_ _)); exact BK912.out)⟩; have n1_ : Aside0 (wr.heap[gb913]? = some (.cells #[.int .i64 x914000_1, .int .i64 x914001_1] 25 (0, 0))) := ⟨by rw [← hq_]; exact (by (with_reducible repeat (first | refine blk_drewN ?_ _ | refine blk_drew ?_ | refine blk_alloc ?_ _)); exact BK913.out)⟩; have n2_ : Aside0 (Below w.heap.size w wr) := ⟨by rw [← hq_]; exact (by repeat (first | (with_reducible first | exact HB.out | apply below_alloc | apply pw_below_drewN | apply below_drew1 | refine below_set ?_ GE912.out | refine below_set ?_ GE913.out) | exact HB.out))⟩; clear BK912 BK913 HB hq_; have BK912 := n0_; have BK913 := n1_; have HB := n2_; clear n0_ n1_ n2_; have hcz55_0 : wr.cell? ⟨gb913, 0, none⟩ = some (.int .i64 x914000_1) := (blk_cell BK913.out 0).trans rfl; have hcz55_1 : wr.cell? ⟨gb913, 1, none⟩ = some (.int .i64 x914001_1) := (blk_cell BK913.out 1).trans rfl; have hfz55_0 := blk_frozen BK913.out 0; have hfz55_1 := blk_frozen BK913.out 1)); have hcz56_0 : wr.cell? ⟨gb912, 0, none⟩ = some (.int .i64 0) := (blk_cell BK912.out 0).trans rfl; have hcz56_1 : wr.cell? ⟨gb912, 1, none⟩ = some (.int .i64 0) := (blk_cell BK912.out 1).trans rfl; have hcz56_2 : wr.cell? ⟨gb912, 2, none⟩ = some (.int .i64 0) := (blk_cell BK912.out 2).trans rfl; have hfz56_0 := blk_frozen BK912.out 0; have hfz56_1 := blk_frozen BK912.out 1; have hfz56_2 := blk_frozen BK912.out 2))
            refine bodyPost_ret (results_cell_row rfl _ _ gb912 66 #[.int .i64 x4_1, .int .i64 t922, .int .i64 x914001_1] (0, 0) _ rfl (by (with_reducible repeat (first | refine blk_drewN ?_ _ | refine blk_drew ?_ | refine blk_alloc ?_ _)); refine blk_put (cs := #[.int .i64 x4_1, .int .i64 t922, .int .i64 0]) ?_ 2 _ rfl; (with_reducible repeat (first | refine blk_drewN ?_ _ | refine blk_drew ?_ | refine blk_alloc ?_ _)); refine blk_put (cs := #[.int .i64 x4_1, .int .i64 0, .int .i64 0]) ?_ 1 _ rfl; (with_reducible repeat (first | refine blk_drewN ?_ _ | refine blk_drew ?_ | refine blk_alloc ?_ _)); refine blk_put (cs := #[.int .i64 0, .int .i64 0, .int .i64 0]) ?_ 0 _ rfl; (with_reducible repeat (first | refine blk_drewN ?_ _ | refine blk_drew ?_ | refine blk_alloc ?_ _)); refine blk_far ?_ NB912_913.out _; (with_reducible repeat (first | refine blk_drewN ?_ _ | refine blk_drew ?_ | refine blk_alloc ?_ _)); exact BK912.out) Try.underlying66 rfl (by kernel_rfl)) rfl ?_
            exact ⟨by first | rfl | (simp [errW_none, errW_some] <;> rfl) | (simp [*, errW_none, errW_some] <;> rfl), by repeat (first | (with_reducible first | exact HB.out | apply below_alloc | apply pw_below_drewN | apply below_drew1 | refine below_set ?_ GE912.out | refine below_set ?_ GE913.out) | exact HB.out)⟩
          · rw [if_neg c52] at H
            have c52b0 : decide (0 < x4_1) = false := decide_eq_false c52
            clear c52
            simp only [Option.some.injEq, Prod.mk.injEq] at H
            obtain ⟨rfl, rfl, rfl⟩ := H
            have hnb57 := NB913_912.out
            have hnc57 := NB912_913.out
            have hcz58_0 : wr.cell? ⟨gb913, 0, none⟩ = some (.int .i64 x914000_1) := (blk_cell BK913.out 0).trans rfl
            have hcz58_1 : wr.cell? ⟨gb913, 1, none⟩ = some (.int .i64 x914001_1) := (blk_cell BK913.out 1).trans rfl
            have hfz58_0 := blk_frozen BK913.out 0
            have hfz58_1 := blk_frozen BK913.out 1
            have hcz59_0 : wr.cell? ⟨gb912, 0, none⟩ = some (.int .i64 0) := (blk_cell BK912.out 0).trans rfl
            have hcz59_1 : wr.cell? ⟨gb912, 1, none⟩ = some (.int .i64 0) := (blk_cell BK912.out 1).trans rfl
            have hcz59_2 : wr.cell? ⟨gb912, 2, none⟩ = some (.int .i64 0) := (blk_cell BK912.out 2).trans rfl
            have hfz59_0 := blk_frozen BK912.out 0
            have hfz59_1 := blk_frozen BK912.out 1
            have hfz59_2 := blk_frozen BK912.out 2
            go_wp2
            refine bodyPost_ret (results_cell_row rfl _ _ gb912 66 #[.int .i64 x4_1, .int .i64 x914000_1, .int .i64 x914001_1] (0, 0) _ rfl (by (with_reducible repeat (first | refine blk_drewN ?_ _ | refine blk_drew ?_ | refine blk_alloc ?_ _)); refine blk_put (cs := #[.int .i64 x4_1, .int .i64 x914000_1, .int .i64 0]) ?_ 2 _ rfl; (with_reducible repeat (first | refine blk_drewN ?_ _ | refine blk_drew ?_ | refine blk_alloc ?_ _)); refine blk_put (cs := #[.int .i64 x4_1, .int .i64 0, .int .i64 0]) ?_ 1 _ rfl; (with_reducible repeat (first | refine blk_drewN ?_ _ | refine blk_drew ?_ | refine blk_alloc ?_ _)); refine blk_put (cs := #[.int .i64 0, .int .i64 0, .int .i64 0]) ?_ 0 _ rfl; (with_reducible repeat (first | refine blk_drewN ?_ _ | refine blk_drew ?_ | refine blk_alloc ?_ _)); exact BK912.out) Try.underlying66 rfl (by kernel_rfl)) rfl ?_
            exact ⟨by first | rfl | (simp [errW_none, errW_some] <;> rfl) | (simp [*, errW_none, errW_some] <;> rfl), by repeat (first | (with_reducible first | exact HB.out | apply below_alloc | apply pw_below_drewN | apply below_drew1 | refine below_set ?_ GE912.out | refine below_set ?_ GE913.out) | exact HB.out)⟩

/-! ### impl_Lattice_reduce: function 177 -/
def impl_Lattice_reduce.f (a0_0 : Int) (a0_1 : Int) (a0_2 : Int) (a1_0 : Int) (a1_1 : Int) : Option (Int × Int) := (impl_mod.f a1_1 a0_2).bind fun t947 => (if a0_2 = 0 then (none) else ((impl_mod.f (wrap64 (a1_0 - (wrap64 ((wrap64 (Int.tdiv (wrap64 (a1_1 - t947)) a0_2)) * a0_1)))) a0_0).bind fun t948 => (some (t948, t947))))
def impl_Lattice_reduce.T2 : Bool × List (List Nat × List Nat) := (true, [([], []), ([0], [0]), ([], []), ([2], [2]), ([], []), ([3, 4], [3, 4]), ([], []), ([6], [6]), ([5, 7], [5, 7]), ([], []), ([9], [9]), ([8, 10], [8, 10]), ([1, 11], [1, 11]), ([], []), ([13], [13]), ([12, 14], [12, 14]), ([], []), ([15, 16], [15, 16]), ([17, 15, 0, 1, 2, 3, 4, 5, 6, 7, 8, 9, 10, 11, 12, 13, 14, 15, 16, 17], [17])])
def impl_Lattice_reduce.B2 : List Nat := [0, 1, 0, 4, 0, 28, 0, 64, 252, 0, 512, 2044, 4095, 0, 8192, 32767, 0, 131071, 262143]
theorem impl_Lattice_reduce.tab2 : rtab .any (opsOf Try.f177 2) = impl_Lattice_reduce.T2 := by kernel_rfl
theorem impl_Lattice_reduce.bits2 : waitsOk impl_Lattice_reduce.T2.2 impl_Lattice_reduce.B2 = true := by kernel_rfl
set_option maxHeartbeats 8000000 in
set_option maxRecDepth 100000 in
theorem impl_Lattice_reduce.calls (a0_0 : Int) (a0_1 : Int) (a0_2 : Int) (a1_0 : Int) (a1_1 : Int) (r1 : Int) (r2 : Int) (w : World) (h : impl_Lattice_reduce.f a0_0 a0_1 a0_2 a1_0 a1_1 = some (r1, r2)) :
    Calls Try.prog 177 #[.agg #[.int .i64 a0_0, .int .i64 a0_1, .int .i64 a0_2], .agg #[.int .i64 a1_0, .int .i64 a1_1]] w fun e w' => e = .returned (.agg #[.int .i64 r1, .int .i64 r2]) ∧ Below w.heap.size w w' := by
  have hu66 := Try.underlying66
  have hu25 := Try.underlying25
  have HB := Aside0.mk (Below.refl w.heap.size w)
  have H : ((impl_mod.f a1_1 a0_2).bind fun t947 => (if a0_2 = 0 then (none) else ((impl_mod.f (wrap64 (a1_0 - (wrap64 ((wrap64 (Int.tdiv (wrap64 (a1_1 - t947)) a0_2)) * a0_1)))) a0_0).bind fun t948 => (some (t948, t947))))) = some (r1, r2) := h
  clear h
  replace H := Option.bind_eq_some_iff.mp H
  obtain ⟨t947, A30, H⟩ := H
  replace H : (if a0_2 = 0 then (none) else ((impl_mod.f (wrap64 (a1_0 - (wrap64 ((wrap64 (Int.tdiv (wrap64 (a1_1 - t947)) a0_2)) * a0_1)))) a0_0).bind fun t948 => (some (t948, t947)))) = some (r1, r2) := H
  have A3 := Aside0.mk A30
  clear A30
  by_cases c4 : a0_2 = 0
  · rw [if_pos c4] at H
    exact absurd H (by simp)
  · rw [if_neg c4] at H
    have c4b0 : (a0_2 == 0) = false := beq_eq_false_iff_ne.mpr c4
    have c4b1 : (a0_2 != 0) = true := bne_iff_ne.mpr c4
    replace H := Option.bind_eq_some_iff.mp H
    obtain ⟨t948, A50, H⟩ := H
    replace H : (some (t948, t947)) = some (r1, r2) := H
    have A5 := Aside0.mk A50
    clear A50
    simp only [Option.some.injEq, Prod.mk.injEq] at H
    obtain ⟨rfl, rfl⟩ := H
    go_enter Try.func177, Try.ntmps177
    try go_wp2_with (first | ((with_reducible refine gate_dst (N := 2) rfl ?_); refine box_event ?hg (N := 2) ?hd (cs := #[.int .i64 a0_0, .int .i64 a0_1, .int .i64 a0_2]) (t := 66) ?hr ?_; (case hd => rfl); (case hg => rfl); (case hr => first | (go_simp; done) | (go_simp; rfl)); intro gb944 hg w6 hbox hb; have n0_ := Aside0.mk (below_step (by repeat (first | (with_reducible first | exact HB.out | apply below_alloc | apply pw_below_drewN | apply below_drew1) | exact HB.out)) hb); have n1_ := Aside0.mk (hbox); have n2_ := Aside0.mk ((by rw [hg]; exact (below_size (by repeat (first | (with_reducible first | exact HB.out | apply below_alloc | apply pw_below_drewN | apply below_drew1) | exact HB.out))) : w.heap.size ≤ gb944)); have n3_ := Aside0.mk ((by rw [hg]; exact (below_size (by repeat (first | (with_reducible first | exact HB.out | apply below_alloc | apply pw_below_drewN | apply below_drew1) | exact HB.out))) : w.heap.size ≤ gb944)); clear HB; have HB := n0_; have BK944 := n1_; have GW944 := n2_; have GE944 := n3_; clear n0_ n1_ n2_ n3_; clear hb hbox hg) | ((with_reducible refine gate_dst (N := 3) rfl ?_); refine box_event ?hg (N := 3) ?hd (cs := #[.int .i64 a1_0, .int .i64 a1_1]) (t := 25) ?hr ?_; (case hd => rfl); (case hg => rfl); (case hr => first | (go_simp; done) | (go_simp; rfl)); intro gb945 hg w7 hbox hb; have n0_ := Aside0.mk (blk_below (g := gb944) (o := .cells #[.int .i64 a0_0, .int .i64 a0_1, .int .i64 a0_2] 66 (0, 0)) (by (with_reducible repeat (first | refine blk_drewN ?_ _ | refine blk_drew ?_ | refine blk_alloc ?_ _)); exact BK944.out) hb); have n1_ := Aside0.mk (below_step (by repeat (first | (with_reducible first | exact HB.out | apply below_alloc | apply pw_below_drewN | apply below_drew1 | refine below_set ?_ GE944.out) | exact HB.out)) hb); have n2_ := Aside0.mk (hbox); have n3_ := Aside0.mk ((by rw [hg]; exact (below_size (by repeat (first | (with_reducible first | exact HB.out | apply below_alloc | apply pw_below_drewN | apply below_drew1 | refine below_set ?_ GE944.out) | exact HB.out))) : w.heap.size ≤ gb945)); have n4_ := Aside0.mk ((by rw [hg]; exact (below_size (by repeat (first | (with_reducible first | exact HB.out | apply below_alloc | apply pw_below_drewN | apply below_drew1 | refine below_set ?_ GE944.out) | exact HB.out))) : w.heap.size ≤ gb945)); have n5_ := Aside0.mk ((by rw [hg]; exact Nat.ne_of_lt (blk_lt (g := gb944) (o := .cells #[.int .i64 a0_0, .int .i64 a0_1, .int .i64 a0_2] 66 (0, 0)) (by (with_reducible repeat (first | refine blk_drewN ?_ _ | refine blk_drew ?_ | refine blk_alloc ?_ _)); exact BK944.out)) : gb944 ≠ gb945)); have n6_ := Aside0.mk ((by rw [hg]; exact Nat.ne_of_gt (blk_lt (g := gb944) (o := .cells #[.int .i64 a0_0, .int .i64 a0_1, .int .i64 a0_2] 66 (0, 0)) (by (with_reducible repeat (first | refine blk_drewN ?_ _ | refine blk_drew ?_ | refine blk_alloc ?_ _)); exact BK944.out)) : gb945 ≠ gb944)); clear BK944; clear HB; have BK944 := n0_; have HB := n1_; have BK945 := n2_; have GW945 := n3_; have GE945 := n4_; have NB944_945 := n5_; have NB945_944 := n6_; clear n0_ n1_ n2_ n3_ n4_ n5_ n6_; clear hb hbox hg) | ((with_reducible refine gate_dst (N := 4) rfl ?_); refine box_event ?hg (N := 4) ?hd (cs := #[.int .i64 0, .int .i64 0]) (t := 25) ?hr ?_; (case hd => rfl); (case hg => rfl); (case hr => first | (go_simp; done) | (go_simp; rfl)); intro gb946 hg w8 hbox hb; have n0_ := Aside0.mk (blk_below (g := gb944) (o := .cells #[.int .i64 a0_0, .int .i64 a0_1, .int .i64 a0_2] 66 (0, 0)) (by (with_reducible repeat (first | refine blk_drewN ?_ _ | refine blk_drew ?_ | refine blk_alloc ?_ _)); exact BK944.out) hb); have n1_ := Aside0.mk (blk_below (g := gb945) (o := .cells #[.int .i64 a1_0, .int .i64 a1_1] 25 (0, 0)) (by (with_reducible repeat (first | refine blk_drewN ?_ _ | refine blk_drew ?_ | refine blk_alloc ?_ _)); exact BK945.out) hb); have n2_ := Aside0.mk (below_step (by repeat (first | (with_reducible first | exact HB.out | apply below_alloc | apply pw_below_drewN | apply below_drew1 | refine below_set ?_ GE944.out | refine below_set ?_ GE945.out) | exact HB.out)) hb); have n3_ := Aside0.mk (hbox); have n4_ := Aside0.mk ((by rw [hg]; exact (below_size (by repeat (first | (with_reducible first | exact HB.out | apply below_alloc | apply pw_below_drewN | apply below_drew1 | refine below_set ?_ GE944.out | refine below_set ?_ GE945.out) | exact HB.out))) : w.heap.size ≤ gb946)); have n5_ := Aside0.mk ((by rw [hg]; exact (below_size (by repeat (first | (with_reducible first | exact HB.out | apply below_alloc | apply pw_below_drewN | apply below_drew1 | refine below_set ?_ GE944.out | refine below_set ?_ GE945.out) | exact HB.out))) : w.heap.size ≤ gb946)); have n6_ := Aside0.mk ((by rw [hg]; exact Nat.ne_of_lt (blk_lt (g := gb944) (o := .cells #[.int .i64 a0_0, .int .i64 a0_1, .int .i64 a0_2] 66 (0, 0)) (by (with_reducible repeat (first | refine blk_drewN ?_ _ | refine blk_drew ?_ | refine blk_alloc ?_ _)); exact BK944.out)) : gb944 ≠ gb946)); have n7_ := Aside0.mk ((by rw [hg]; exact Nat.ne_of_gt (blk_lt (g := gb944) (o := .cells #[.int .i64 a0_0, .int .i64 a0_1, .int .i64 a0_2] 66 (0, 0)) (by (with_reducible repeat (first | refine blk_drewN ?_ _ | refine blk_drew ?_ | refine blk_alloc ?_ _)); exact BK944.out)) : gb946 ≠ gb944)); have n8_ := Aside0.mk ((by rw [hg]; exact Nat.ne_of_lt (blk_lt (g := gb945) (o := .cells #[.int .i64 a1_0, .int .i64 a1_1] 25 (0, 0)) (by (with_reducible repeat (first | refine blk_drewN ?_ _ | refine blk_drew ?_ | refine blk_alloc ?_ _)); exact BK945.out)) : gb945 ≠ gb946)); have n9_ := Aside0.mk ((by rw [hg]; exact Nat.ne_of_gt (blk_lt (g := gb945) (o := .cells #[.int .i64 a1_0, .int .i64 a1_1] 25 (0, 0)) (by (with_reducible repeat (first | refine blk_drewN ?_ _ | refine blk_drew ?_ | refine blk_alloc ?_ _)); exact BK945.out)) : gb946 ≠ gb945)); clear BK944; clear BK945; clear HB; have BK944 := n0_; have BK945 := n1_; have HB := n2_; have BK946 := n3_; have GW946 := n4_; have GE946 := n5_; have NB944_946 := n6_; have NB946_944 := n7_; have NB945_946 := n8_; have NB946_945 := n9_; clear n0_ n1_ n2_ n3_ n4_ n5_ n6_ n7_ n8_ n9_; clear hb hbox hg; have hnb9 := NB945_944.out; have hnc9 := NB944_945.out; have hnb10 := NB945_946.out; have hnc10 := NB946_945.out; have hcz11_0 : w8.cell? ⟨gb945, 0, none⟩ = some (.int .i64 a1_0) := (blk_cell BK945.out 0).trans rfl; have hcz11_1 : w8.cell? ⟨gb945, 1, none⟩ = some (.int .i64 a1_1) := (blk_cell BK945.out 1).trans rfl; have hfz11_0 := blk_frozen BK945.out 0; have hfz11_1 := blk_frozen BK945.out 1; have hnb12 := NB944_946.out; have hnc12 := NB946_944.out; have hcz13_0 : w8.cell? ⟨gb944, 0, none⟩ = some (.int .i64 a0_0) := (blk_cell BK944.out 0).trans rfl; have hcz13_1 : w8.cell? ⟨gb944, 1, none⟩ = some (.int .i64 a0_1) := (blk_cell BK944.out 1).trans rfl; have hcz13_2 : w8.cell? ⟨gb944, 2, none⟩ = some (.int .i64 a0_2) := (blk_cell BK944.out 2).trans rfl; have hfz13_0 := blk_frozen BK944.out 0; have hfz13_1 := blk_frozen BK944.out 1; have hfz13_2 := blk_frozen BK944.out 2) | ((with_reducible refine gate_callee (f := 213) rfl ?_); refine goesL_ (some 10) rfl rfl Try.func213 (by kernel_rfl) rfl #[.int .i64 a1_1, .int .i64 a0_2] rfl (by (try simp only [List.map_toArray, List.map_cons, List.map_nil]); first | done | rfl | (simp only [List.length_drop, List.length_take]; rfl)) ?_; (with_reducible refine (impl_mod.calls a1_1 a0_2 t947 _ A3.out).mono ?_); rintro e w' ⟨rfl, ⟨nd, rfl⟩⟩; refine ⟨_, rfl, ?_⟩; (try (rw [drewN_self w8]; generalize hq_ : World.drewN w8 _ = w8; have n0_ : Aside0 (w8.heap[gb944]? = some (.cells #[.int .i64 a0_0, .int .i64 a0_1, .int .i64 a0_2] 66 (0, 0))) := ⟨by rw [← hq_]; exact (by (with_reducible repeat (first | refine blk_drewN ?_ _ | refine blk_drew ?_ | refine blk_alloc ?_ _)); exact BK944.out)⟩; have n1_ : Aside0 (w8.heap[gb945]? = some (.cells #[.int .i64 a1_0, .int .i64 a1_1] 25 (0, 0))) := ⟨by rw [← hq_]; exact (by (with_reducible repeat (first | refine blk_drewN ?_ _ | refine blk_drew ?_ | refine blk_alloc ?_ _)); exact BK945.out)⟩; have n2_ : Aside0 (w8.heap[gb946]? = some (.cells #[.int .i64 0, .int .i64 0] 25 (0, 0))) := ⟨by rw [← hq_]; exact (by (with_reducible repeat (first | refine blk_drewN ?_ _ | refine blk_drew ?_ | refine blk_alloc ?_ _)); exact BK946.out)⟩; have n3_ : Aside0 (Below w.heap.size w w8) := ⟨by rw [← hq_]; exact (by repeat (first | (with_reducible first | exact HB.out | apply below_alloc | apply pw_below_drewN | apply below_drew1 | refine below_set ?_ GE944.out | refine below_set ?_ GE945.out | refine below_set ?_ GE946.out) | exact HB.out))⟩; clear BK944 BK945 BK946 HB hq_; have BK944 := n0_; have BK945 := n1_; have BK946 := n2_; have HB := n3_; clear n0_ n1_ n2_ n3_))))
    have n0_ := Aside0.mk (blk_drew BK944.out)
    have n1_ := Aside0.mk (blk_drew BK945.out)
    have n2_ := Aside0.mk (blk_drew BK946.out)
    have n3_ := Aside0.mk (below_drew1 HB.out)
    clear BK944
    clear BK945
    clear BK946
    clear HB
    have BK944 := n0_
    have BK945 := n1_
    have BK946 := n2_
    have HB := n3_
    clear n0_ n1_ n2_ n3_
    refine start_ (n := 19) (S := fun w' => w'.cell? ⟨gb945, 0, none⟩ = some (.int .i64 a1_0) ∧ w'.cell? ⟨gb945, 1, none⟩ = some (.int .i64 a1_1) ∧ w'.cell? ⟨gb944, 0, none⟩ = some (.int .i64 a0_0) ∧ w'.cell? ⟨gb944, 1, none⟩ = some (.int .i64 a0_1) ∧ w'.cell? ⟨gb944, 2, none⟩ = some (.int .i64 a0_2)) (ds := []) #[false, false, false, false, false, false, false, false, false, false, false, false, false, false, false, false, false, false, false] (by kernel_rfl) rfl rfl ⟨(blk_cell BK945.out 0).trans rfl, (blk_cell BK945.out 1).trans rfl, (blk_cell BK944.out 0).trans rfl, (blk_cell BK944.out 1).trans rfl, (blk_cell BK944.out 2).trans rfl⟩ (fun hHeld => ?_); refine with_tabW impl_Lattice_reduce.tab2 impl_Lattice_reduce.bits2 (fun HT_ HW_ => ?_)
    generalize w8.drew = w14 at BK944 BK945 BK946 HB hHeld ⊢
    refine pure_ (i := 0) (N := some 11) (v := ?_) (a' := ?_) #[true, false, false, false, false, false, false, false, false, false, false, false, false, false, false, false, false, false, false] rfl rfl (any_of HT_.out (by kernel_rfl)) (fun _ _ _ h => h) (Or.inl ⟨by rfl, ?_⟩) ?_ ?_
    rotate_left
    · intro w'
      go_simp
      with_reducible rfl
    rotate_left
    · simp only [Act.put, List.setIfInBounds_toArray, List.set_cons_zero, List.set_cons_succ, i64_w, i32_w]
      rfl
    refine pure_ (i := 2) (N := some 13) (v := ?_) (a' := ?_) #[true, false, true, false, false, false, false, false, false, false, false, false, false, false, false, false, false, false, false] rfl rfl (any_of HT_.out (by kernel_rfl)) (fun _ _ _ h => h) (Or.inl ⟨by rfl, ?_⟩) ?_ ?_
    rotate_left
    · intro w'
      go_simp
      with_reducible rfl
    rotate_left
    · simp only [Act.put, List.setIfInBounds_toArray, List.set_cons_zero, List.set_cons_succ, i64_w, i32_w]
      rfl
    refine pure_ (i := 4) (N := some 15) (v := ?_) (a' := ?_) #[true, false, true, false, true, false, false, false, false, false, false, false, false, false, false, false, false, false, false] rfl rfl (any_of HT_.out (by kernel_rfl)) (fun _ _ _ h => h) (Or.inl ⟨by rfl, ?_⟩) ?_ ?_
    rotate_left
    · intro w'
      go_simp
      with_reducible rfl
    rotate_left
    · simp only [Act.put, List.setIfInBounds_toArray, List.set_cons_zero, List.set_cons_succ, i64_w, i32_w]
      rfl
    refine pure_ (i := 6) (N := some 17) (v := ?_) (a' := ?_) #[true, false, true, false, true, false, true, false, false, false, false, false, false, false, false, false, false, false, false] rfl rfl (any_of HT_.out (by kernel_rfl)) (fun _ _ _ h => h) (Or.inl ⟨by rfl, ?_⟩) ?_ ?_
    rotate_left
    · intro w'
      go_simp
      with_reducible rfl
    rotate_left
    · simp only [Act.put, List.setIfInBounds_toArray, List.set_cons_zero, List.set_cons_succ, i64_w, i32_w]
      rfl
    refine pure_ (i := 9) (N := some 20) (v := ?_) (a' := ?_) #[true, false, true, false, true, false, true, false, false, true, false, false, false, false, false, false, false, false, false] rfl rfl (any_of HT_.out (by kernel_rfl)) (fun _ _ _ h => h) (Or.inl ⟨by rfl, ?_⟩) ?_ ?_
    rotate_left
    · intro w'
      go_simp
      with_reducible rfl
    rotate_left
    · simp only [Act.put, List.setIfInBounds_toArray, List.set_cons_zero, List.set_cons_succ, i64_w, i32_w]
      rfl
    refine pure_ (i := 13) (N := some 24) (v := ?_) (a' := ?_) #[true, false, true, false, true, false, true, false, false, true, false, false, false, true, false, false, false, false, false] rfl rfl (any_of HT_.out (by kernel_rfl)) (fun _ _ _ h => h) (Or.inl ⟨by rfl, ?_⟩) ?_ ?_
    rotate_left
    · intro w'
      go_simp
      with_reducible rfl
    rotate_left
    · simp only [Act.put, List.setIfInBounds_toArray, List.set_cons_zero, List.set_cons_succ, i64_w, i32_w]
      rfl
    refine pure_ (i := 16) (N := some 27) (v := ?_) (a' := ?_) #[true, false, true, false, true, false, true, false, false, true, false, false, false, true, false, false, true, false, false] rfl rfl (any_of HT_.out (by kernel_rfl)) (fun _ _ _ h => h) (Or.inl ⟨by rfl, ?_⟩) ?_ ?_
    rotate_left
    · intro w'
      go_simp
      with_reducible rfl
    rotate_left
    · simp only [Act.put, List.setIfInBounds_toArray, List.set_cons_zero, List.set_cons_succ, i64_w, i32_w]
      rfl
    refine take_ (i := 1) (N := some 12) (v := ?_) (a' := ?_) #[true, true, true, false, true, false, true, false, false, true, false, false, false, true, false, false, true, false, false] rfl rfl (take_ofW HT_.out HW_.out (by kernel_rfl)) (fun _ _ _ h => h) (Or.inl ⟨by rfl, ?_⟩) hHeld ?_ ?_
    rotate_left
    · rintro w' ⟨s0, s1, s2, s3, s4⟩
      go_simp
      with_reducible rfl
    rotate_left
    · simp only [Act.put, List.setIfInBounds_toArray, List.set_cons_zero, List.set_cons_succ, i64_w, i32_w]
      rfl
    refine take_ (i := 3) (N := some 14) (v := ?_) (a' := ?_) #[true, true, true, true, true, false, true, false, false, true, false, false, false, true, false, false, true, false, false] rfl rfl (take_ofW HT_.out HW_.out (by kernel_rfl)) (fun _ _ _ h => h) (Or.inl ⟨by rfl, ?_⟩) hHeld ?_ ?_
    rotate_left
    · rintro w' ⟨s0, s1, s2, s3, s4⟩
      go_simp
      with_reducible rfl
    rotate_left
    · simp only [Act.put, List.setIfInBounds_toArray, List.set_cons_zero, List.set_cons_succ, i64_w, i32_w]
      rfl
    refine pure_ (i := 5) (N := some 16) (v := ?_) (a' := ?_) #[true, true, true, true, true, true, true, false, false, true, false, false, false, true, false, false, true, false, false] rfl rfl (any_of HT_.out (by kernel_rfl)) (fun _ _ _ h => h) (Or.inl ⟨by rfl, ?_⟩) ?_ ?_
    rotate_left
    · intro w'
      go_simp
      with_reducible rfl
    rotate_left
    · simp only [Act.put, List.setIfInBounds_toArray, List.set_cons_zero, List.set_cons_succ, i64_w, i32_w]
      rfl
    refine take_ (i := 7) (N := some 18) (v := ?_) (a' := ?_) #[true, true, true, true, true, true, true, true, false, true, false, false, false, true, false, false, true, false, false] rfl rfl (take_ofW HT_.out HW_.out (by kernel_rfl)) (fun _ _ _ h => h) (Or.inl ⟨by rfl, ?_⟩) hHeld ?_ ?_
    rotate_left
    · rintro w' ⟨s0, s1, s2, s3, s4⟩
      go_simp
      with_reducible rfl
    rotate_left
    · simp only [Act.put, List.setIfInBounds_toArray, List.set_cons_zero, List.set_cons_succ, i64_w, i32_w]
      rfl
    refine pure_ (i := 8) (N := some 19) (v := ?_) (a' := ?_) #[true, true, true, true, true, true, true, true, true, true, false, false, false, true, false, false, true, false, false] rfl rfl (any_of HT_.out (by kernel_rfl)) (fun _ _ _ h => h) (Or.inl ⟨by rfl, ?_⟩) ?_ ?_
    rotate_left
    · intro w'
      go_simp
      with_reducible rfl
    rotate_left
    · simp only [Act.put, List.setIfInBounds_toArray, List.set_cons_zero, List.set_cons_succ, i64_w, i32_w]
      rfl
    refine take_ (i := 10) (N := some 21) (v := ?_) (a' := ?_) #[true, true, true, true, true, true, true, true, true, true, true, false, false, true, false, false, true, false, false] rfl rfl (take_ofW HT_.out HW_.out (by kernel_rfl)) (fun _ _ _ h => h) (Or.inl ⟨by rfl, ?_⟩) hHeld ?_ ?_
    rotate_left
    · rintro w' ⟨s0, s1, s2, s3, s4⟩
      go_simp
      with_reducible rfl
    rotate_left
    · simp only [Act.put, List.setIfInBounds_toArray, List.set_cons_zero, List.set_cons_succ, i64_w, i32_w]
      rfl
    refine pure_ (i := 11) (N := some 22) (v := ?_) (a' := ?_) #[true, true, true, true, true, true, true, true, true, true, true, true, false, true, false, false, true, false, false] rfl rfl (any_of HT_.out (by kernel_rfl)) (fun _ _ _ h => h) (Or.inl ⟨by rfl, ?_⟩) ?_ ?_
    rotate_left
    · intro w'
      go_simp
      with_reducible rfl
    rotate_left
    · simp only [Act.put, List.setIfInBounds_toArray, List.set_cons_zero, List.set_cons_succ, i64_w, i32_w]
      rfl
    refine pure_ (i := 12) (N := some 23) (v := ?_) (a' := ?_) #[true, true, true, true, true, true, true, true, true, true, true, true, true, true, false, false, true, false, false] rfl rfl (any_of HT_.out (by kernel_rfl)) (fun _ _ _ h => h) (Or.inl ⟨by rfl, ?_⟩) ?_ ?_
    rotate_left
    · intro w'
      go_simp
      with_reducible rfl
    rotate_left
    · simp only [Act.put, List.setIfInBounds_toArray, List.set_cons_zero, List.set_cons_succ, i64_w, i32_w]
      rfl
    refine take_ (i := 14) (N := some 25) (v := ?_) (a' := ?_) #[true, true, true, true, true, true, true, true, true, true, true, true, true, true, true, false, true, false, false] rfl rfl (take_ofW HT_.out HW_.out (by kernel_rfl)) (fun _ _ _ h => h) (Or.inl ⟨by rfl, ?_⟩) hHeld ?_ ?_
    rotate_left
    · rintro w' ⟨s0, s1, s2, s3, s4⟩
      go_simp
      with_reducible rfl
    rotate_left
    · simp only [Act.put, List.setIfInBounds_toArray, List.set_cons_zero, List.set_cons_succ, i64_w, i32_w]
      rfl
    refine one_ (i := 15) (N := some 26) #[true, true, true, true, true, true, true, true, true, true, true, true, true, true, true, true, true, false, false] rfl rfl (one_of HT_.out (by kernel_rfl)) (by decide) (fun K hK => ?_)
    refine goes_ Try.func213 (by kernel_rfl) rfl #[.int .i64 (wrap64 (a1_0 - (wrap64 ((wrap64 (Int.tdiv (wrap64 (a1_1 - t947)) a0_2)) * a0_1)))), .int .i64 a0_0] (by rfl) rfl rfl (by (try simp only [List.map_toArray, List.map_cons, List.map_nil]); first | done | rfl | (simp only [List.length_drop, List.length_take]; rfl)) ?_
    with_reducible refine (impl_mod.calls (wrap64 (a1_0 - (wrap64 ((wrap64 (Int.tdiv (wrap64 (a1_1 - t947)) a0_2)) * a0_1)))) a0_0 t948 _ A5.out).mono ?_
    rintro e w' ⟨rfl, ⟨nd, rfl⟩⟩
    refine ⟨_, rfl, ?_⟩
    refine hK.out _ _ ⟨(blk_cell BK945.out 0).trans rfl, (blk_cell BK945.out 1).trans rfl, (blk_cell BK944.out 0).trans rfl, (blk_cell BK944.out 1).trans rfl, (blk_cell BK944.out 2).trans rfl⟩ (fun hHeld => ?_)
    clear hK K
    refine norm_ (a' := ?_) ?_ ?_
    rotate_left
    · show Act.put _ (some 26) _ = _
      simp only [Act.put, List.setIfInBounds_toArray, List.set_cons_zero, List.set_cons_succ, i64_w, i32_w]
      rfl
    refine pure_ (i := 17) (N := some 28) (v := ?_) (a' := ?_) #[true, true, true, true, true, true, true, true, true, true, true, true, true, true, true, true, true, true, false] rfl rfl (any_of HT_.out (by kernel_rfl)) (fun _ _ _ h => h) (Or.inl ⟨by rfl, ?_⟩) ?_ ?_
    rotate_left
    · intro w'
      go_simp
      with_reducible rfl
    rotate_left
    · simp only [Act.put, List.setIfInBounds_toArray, List.set_cons_zero, List.set_cons_succ, i64_w, i32_w]
      rfl
    refine one_ (i := 18) (N := none) #[true, true, true, true, true, true, true, true, true, true, true, true, true, true, true, true, true, true, true] rfl rfl (one_of HT_.out (by kernel_rfl)) (by decide) (fun K hK => ?_)
    have hs15 : w14.cell? ⟨gb946, 0, none⟩ = some (.int .i64 0) := (blk_cell BK946.out 0).trans rfl
    have hfs15 := blk_frozen BK946.out 0
    have hns15_0 := NB944_946.out
    have hns15_1 := NB945_946.out
    have hms15_0 := NB946_944.out
    have hms15_1 := NB946_945.out
    have hs16 : w14.cell? ⟨gb946, 1, none⟩ = some (.int .i64 0) := (blk_cell BK946.out 1).trans rfl
    have hfs16 := blk_frozen BK946.out 1
    have hns16_0 := NB944_946.out
    have hns16_1 := NB945_946.out
    have hms16_0 := NB946_944.out
    have hms16_1 := NB946_945.out
    refine skip_ (w1 := ?_) (by rfl) rfl ?_ ?_
    rotate_left
    · go_simp
      rfl
    refine hK.out _ _ ⟨((cell_far (p := ⟨gb946, _, none⟩) NB945_946.out _).trans (((cell_far (p := ⟨gb946, _, none⟩) NB945_946.out _).trans (hHeld.1)))), ((cell_far (p := ⟨gb946, _, none⟩) NB945_946.out _).trans (((cell_far (p := ⟨gb946, _, none⟩) NB945_946.out _).trans (hHeld.2.1)))), ((cell_far (p := ⟨gb946, _, none⟩) NB944_946.out _).trans (((cell_far (p := ⟨gb946, _, none⟩) NB944_946.out _).trans (hHeld.2.2.1)))), ((cell_far (p := ⟨gb946, _, none⟩) NB944_946.out _).trans (((cell_far (p := ⟨gb946, _, none⟩) NB944_946.out _).trans (hHeld.2.2.2.1)))), ((cell_far (p := ⟨gb946, _, none⟩) NB944_946.out _).trans (((cell_far (p := ⟨gb946, _, none⟩) NB944_946.out _).trans (hHeld.2.2.2.2))))⟩ (fun hHeld => ?_)
    clear hK K
    refine done_ (done_of HT_.out (by kernel_rfl)) ?_
    try go_wp2
    refine bodyPost_ret (results_cell_row rfl _ _ gb946 25 #[.int .i64 t948, .int .i64 t947] (0, 0) _ rfl (by (with_reducible repeat (first | refine blk_drewN ?_ _ | refine blk_drew ?_ | refine blk_alloc ?_ _)); refine blk_put (cs := #[.int .i64 t948, .int .i64 0]) ?_ 1 _ rfl; (with_reducible repeat (first | refine blk_drewN ?_ _ | refine blk_drew ?_ | refine blk_alloc ?_ _)); refine blk_put (cs := #[.int .i64 0, .int .i64 0]) ?_ 0 _ rfl; (with_reducible repeat (first | refine blk_drewN ?_ _ | refine blk_drew ?_ | refine blk_alloc ?_ _)); exact BK946.out) Try.underlying25 rfl (by kernel_rfl)) rfl ?_
    exact ⟨by first | rfl | (simp [errW_none, errW_some] <;> rfl) | (simp [*, errW_none, errW_some] <;> rfl), by repeat (first | (with_reducible first | exact HB.out | apply below_alloc | apply pw_below_drewN | apply below_drew1 | refine below_set ?_ GE944.out | refine below_set ?_ GE945.out | refine below_set ?_ GE946.out) | exact HB.out)⟩

/-! ### impl_Lattice_has: function 180 -/
def impl_Lattice_has.f (a0_0 : Int) (a0_1 : Int) (a0_2 : Int) (a1_0 : Int) (a1_1 : Int) : Option (Bool) := (impl_Lattice_reduce.f a0_0 a0_1 a0_2 a1_0 a1_1).bind fun bt951 => (some (bt951.1 == 0 && (bt951.2 == 0)))
set_option maxHeartbeats 8000000 in
set_option maxRecDepth 100000 in
theorem impl_Lattice_has.calls (a0_0 : Int) (a0_1 : Int) (a0_2 : Int) (a1_0 : Int) (a1_1 : Int) (r : Bool) (w : World) (h : impl_Lattice_has.f a0_0 a0_1 a0_2 a1_0 a1_1 = some r) :
    Calls Try.prog 180 #[.agg #[.int .i64 a0_0, .int .i64 a0_1, .int .i64 a0_2], .agg #[.int .i64 a1_0, .int .i64 a1_1]] w fun e w' => e = .returned (.bool r) ∧ Below w.heap.size w w' := by
  have hu66 := Try.underlying66
  have hu25 := Try.underlying25
  have HB := Aside0.mk (Below.refl w.heap.size w)
  have H : ((impl_Lattice_reduce.f a0_0 a0_1 a0_2 a1_0 a1_1).bind fun bt951 => (some (bt951.1 == 0 && (bt951.2 == 0)))) = some r := h
  clear h
  replace H := Option.bind_eq_some_iff.mp H
  obtain ⟨⟨t951, t952⟩, A30, H⟩ := H
  replace H : (some (t951 == 0 && (t952 == 0))) = some r := H
  have A3 := Aside0.mk A30
  clear A30
  obtain rfl := Option.some.inj H
  go_enter Try.func180, Try.ntmps180
  go_wp2_with (first | ((with_reducible refine gate_dst (N := 2) rfl ?_); refine box_event ?hg (N := 2) ?hd (cs := #[.int .i64 a0_0, .int .i64 a0_1, .int .i64 a0_2]) (t := 66) ?hr ?_; (case hd => rfl); (case hg => rfl); (case hr => first | (go_simp; done) | (go_simp; rfl)); intro gb949 hg w4 hbox hb; have n0_ := Aside0.mk (below_step (by repeat (first | (with_reducible first | exact HB.out | apply below_alloc | apply pw_below_drewN | apply below_drew1) | exact HB.out)) hb); have n1_ := Aside0.mk (hbox); have n2_ := Aside0.mk ((by rw [hg]; exact (below_size (by repeat (first | (with_reducible first | exact HB.out | apply below_alloc | apply pw_below_drewN | apply below_drew1) | exact HB.out))) : w.heap.size ≤ gb949)); have n3_ := Aside0.mk ((by rw [hg]; exact (below_size (by repeat (first | (with_reducible first | exact HB.out | apply below_alloc | apply pw_below_drewN | apply below_drew1) | exact HB.out))) : w.heap.size ≤ gb949)); clear HB; have HB := n0_; have BK949 := n1_; have GW949 := n2_; have GE949 := n3_; clear n0_ n1_ n2_ n3_; clear hb hbox hg) | ((with_reducible refine gate_dst (N := 3) rfl ?_); refine box_event ?hg (N := 3) ?hd (cs := #[.int .i64 a1_0, .int .i64 a1_1]) (t := 25) ?hr ?_; (case hd => rfl); (case hg => rfl); (case hr => first | (go_simp; done) | (go_simp; rfl)); intro gb950 hg w5 hbox hb; have n0_ := Aside0.mk (blk_below (g := gb949) (o := .cells #[.int .i64 a0_0, .int .i64 a0_1, .int .i64 a0_2] 66 (0, 0)) (by (with_reducible repeat (first | refine blk_drewN ?_ _ | refine blk_drew ?_ | refine blk_alloc ?_ _)); exact BK949.out) hb); have n1_ := Aside0.mk (below_step (by repeat (first | (with_reducible first | exact HB.out | apply below_alloc | apply pw_below_drewN | apply below_drew1 | refine below_set ?_ GE949.out) | exact HB.out)) hb); have n2_ := Aside0.mk (hbox); have n3_ := Aside0.mk ((by rw [hg]; exact (below_size (by repeat (first | (with_reducible first | exact HB.out | apply below_alloc | apply pw_below_drewN | apply below_drew1 | refine below_set ?_ GE949.out) | exact HB.out))) : w.heap.size ≤ gb950)); have n4_ := Aside0.mk ((by rw [hg]; exact (below_size (by repeat (first | (with_reducible first | exact HB.out | apply below_alloc | apply pw_below_drewN | apply below_drew1 | refine below_set ?_ GE949.out) | exact HB.out))) : w.heap.size ≤ gb950)); have n5_ := Aside0.mk ((by rw [hg]; exact Nat.ne_of_lt (blk_lt (g := gb949) (o := .cells #[.int .i64 a0_0, .int .i64 a0_1, .int .i64 a0_2] 66 (0, 0)) (by (with_reducible repeat (first | refine blk_drewN ?_ _ | refine blk_drew ?_ | refine blk_alloc ?_ _)); exact BK949.out)) : gb949 ≠ gb950)); have n6_ := Aside0.mk ((by rw [hg]; exact Nat.ne_of_gt (blk_lt (g := gb949) (o := .cells #[.int .i64 a0_0, .int .i64 a0_1, .int .i64 a0_2] 66 (0, 0)) (by (with_reducible repeat (first | refine blk_drewN ?_ _ | refine blk_drew ?_ | refine blk_alloc ?_ _)); exact BK949.out)) : gb950 ≠ gb949)); clear BK949; clear HB; have BK949 := n0_; have HB := n1_; have BK950 := n2_; have GW950 := n3_; have GE950 := n4_; have NB949_950 := n5_; have NB950_949 := n6_; clear n0_ n1_ n2_ n3_ n4_ n5_ n6_; clear hb hbox hg; have hnb6 := NB949_950.out; have hnc6 := NB950_949.out; have hcz7_0 : w5.cell? ⟨gb949, 0, none⟩ = some (.int .i64 a0_0) := (blk_cell BK949.out 0).trans rfl; have hcz7_1 : w5.cell? ⟨gb949, 1, none⟩ = some (.int .i64 a0_1) := (blk_cell BK949.out 1).trans rfl; have hcz7_2 : w5.cell? ⟨gb949, 2, none⟩ = some (.int .i64 a0_2) := (blk_cell BK949.out 2).trans rfl; have hfz7_0 := blk_frozen BK949.out 0; have hfz7_1 := blk_frozen BK949.out 1; have hfz7_2 := blk_frozen BK949.out 2; have hcz8_0 : w5.cell? ⟨gb950, 0, none⟩ = some (.int .i64 a1_0) := (blk_cell BK950.out 0).trans rfl; have hcz8_1 : w5.cell? ⟨gb950, 1, none⟩ = some (.int .i64 a1_1) := (blk_cell BK950.out 1).trans rfl; have hfz8_0 := blk_frozen BK950.out 0; have hfz8_1 := blk_frozen BK950.out 1) | ((with_reducible refine gate_callee (f := 177) rfl ?_); refine goesL_ (some 7) rfl rfl Try.func177 (by kernel_rfl) rfl #[.agg #[.int .i64 a0_0, .int .i64 a0_1, .int .i64 a0_2], .agg #[.int .i64 a1_0, .int .i64 a1_1]] rfl (by (try simp only [List.map_toArray, List.map_cons, List.map_nil]); first | done | rfl | (simp only [List.length_drop, List.length_take]; rfl)) ?_; (with_reducible refine (impl_Lattice_reduce.calls a0_0 a0_1 a0_2 a1_0 a1_1 t951 t952 _ A3.out).mono ?_); rintro e w9 ⟨rfl, hb⟩; refine ⟨_, rfl, ?_⟩; have n0_ := Aside0.mk (blk_below (g := gb949) (o := .cells #[.int .i64 a0_0, .int .i64 a0_1, .int .i64 a0_2] 66 (0, 0)) (by (with_reducible repeat (first | refine blk_drewN ?_ _ | refine blk_drew ?_ | refine blk_alloc ?_ _)); exact BK949.out) hb); have n1_ := Aside0.mk (blk_below (g := gb950) (o := .cells #[.int .i64 a1_0, .int .i64 a1_1] 25 (0, 0)) (by (with_reducible repeat (first | refine blk_drewN ?_ _ | refine blk_drew ?_ | refine blk_alloc ?_ _)); exact BK950.out) hb); have n2_ := Aside0.mk (below_step (by repeat (first | (with_reducible first | exact HB.out | apply below_alloc | apply pw_below_drewN | apply below_drew1 | refine below_set ?_ GE949.out | refine below_set ?_ GE950.out) | exact HB.out)) hb); clear BK949; clear BK950; clear HB; have BK949 := n0_; have BK950 := n1_; have HB := n2_; clear n0_ n1_ n2_; (try clear hb); (try clear hb2); (try clear hk); (try clear hi)))
  go_ret
  exact ⟨by first | rfl | (simp [errW_none, errW_some] <;> rfl) | (simp [*, errW_none, errW_some] <;> rfl), by repeat (first | (with_reducible first | exact HB.out | apply below_alloc | apply pw_below_drewN | apply below_drew1 | refine below_set ?_ GE949.out | refine below_set ?_ GE950.out) | exact HB.out)⟩

/-! ### spec_l03Reduce: function 179 -/
def spec_l03Reduce.f (a0_0 : Int) (a0_1 : Int) (a0_2 : Int) (a1_0 : Int) (a1_1 : Int) : Option (Int × Int) := (spec_l01Mod.f a1_1 a0_2).bind fun t977 => (if a0_2 = 0 then (none) else ((spec_l01Mod.f (wrap64 (a1_0 - (wrap64 ((wrap64 (Int.tdiv (wrap64 (a1_1 - t977)) a0_2)) * a0_1)))) a0_0).bind fun t978 => (some (t978, t977))))
set_option maxHeartbeats 8000000 in
set_option maxRecDepth 100000 in
theorem spec_l03Reduce.calls (a0_0 : Int) (a0_1 : Int) (a0_2 : Int) (a1_0 : Int) (a1_1 : Int) (r1 : Int) (r2 : Int) (w : World) (h : spec_l03Reduce.f a0_0 a0_1 a0_2 a1_0 a1_1 = some (r1, r2)) :
    Calls Try.prog 179 #[.agg #[.int .i64 a0_0, .int .i64 a0_1, .int .i64 a0_2], .agg #[.int .i64 a1_0, .int .i64 a1_1]] w fun e w' => e = .returned (.agg #[.int .i64 r1, .int .i64 r2]) ∧ Below w.heap.size w w' := by
  have hu66 := Try.underlying66
  have hu25 := Try.underlying25
  have HB := Aside0.mk (Below.refl w.heap.size w)
  have H : ((spec_l01Mod.f a1_1 a0_2).bind fun t977 => (if a0_2 = 0 then (none) else ((spec_l01Mod.f (wrap64 (a1_0 - (wrap64 ((wrap64 (Int.tdiv (wrap64 (a1_1 - t977)) a0_2)) * a0_1)))) a0_0).bind fun t978 => (some (t978, t977))))) = some (r1, r2) := h
  clear h
  replace H := Option.bind_eq_some_iff.mp H
  obtain ⟨t977, A30, H⟩ := H
  replace H : (if a0_2 = 0 then (none) else ((spec_l01Mod.f (wrap64 (a1_0 - (wrap64 ((wrap64 (Int.tdiv (wrap64 (a1_1 - t977)) a0_2)) * a0_1)))) a0_0).bind fun t978 => (some (t978, t977)))) = some (r1, r2) := H
  have A3 := Aside0.mk A30
  clear A30
  by_cases c4 : a0_2 = 0
  · rw [if_pos c4] at H
    exact absurd H (by simp)
  · rw [if_neg c4] at H
    have c4b0 : (a0_2 == 0) = false := beq_eq_false_iff_ne.mpr c4
    have c4b1 : (a0_2 != 0) = true := bne_iff_ne.mpr c4
    replace H := Option.bind_eq_some_iff.mp H
    obtain ⟨t978, A50, H⟩ := H
    replace H : (some (t978, t977)) = some (r1, r2) := H
    have A5 := Aside0.mk A50
    clear A50
    simp only [Option.some.injEq, Prod.mk.injEq] at H
    obtain ⟨rfl, rfl⟩ := H
    go_enter Try.func179, Try.ntmps179
    go_wp2_with (first | ((with_reducible refine gate_dst (N := 2) rfl ?_); refine box_event ?hg (N := 2) ?hd (cs := #[.int .i64 a0_0, .int .i64 a0_1, .int .i64 a0_2]) (t := 66) ?hr ?_; (case hd => rfl); (case hg => rfl); (case hr => first | (go_simp; done) | (go_simp; rfl)); intro gb974 hg w6 hbox hb; have n0_ := Aside0.mk (below_step (by repeat (first | (with_reducible first | exact HB.out | apply below_alloc | apply pw_below_drewN | apply below_drew1) | exact HB.out)) hb); have n1_ := Aside0.mk (hbox); have n2_ := Aside0.mk ((by rw [hg]; exact (below_size (by repeat (first | (with_reducible first | exact HB.out | apply below_alloc | apply pw_below_drewN | apply below_drew1) | exact HB.out))) : w.heap.size ≤ gb974)); have n3_ := Aside0.mk ((by rw [hg]; exact (below_size (by repeat (first | (with_reducible first | exact HB.out | apply below_alloc | apply pw_below_drewN | apply below_drew1) | exact HB.out))) : w.heap.size ≤ gb974)); clear HB; have HB := n0_; have BK974 := n1_; have GW974 := n2_; have GE974 := n3_; clear n0_ n1_ n2_ n3_; clear hb hbox hg) | ((with_reducible refine gate_dst (N := 3) rfl ?_); refine box_event ?hg (N := 3) ?hd (cs := #[.int .i64 a1_0, .int .i64 a1_1]) (t := 25) ?hr ?_; (case hd => rfl); (case hg => rfl); (case hr => first | (go_simp; done) | (go_simp; rfl)); intro gb975 hg w7 hbox hb; have n0_ := Aside0.mk (blk_below (g := gb974) (o := .cells #[.int .i64 a0_0, .int .i64 a0_1, .int .i64 a0_2] 66 (0, 0)) (by (with_reducible repeat (first | refine blk_drewN ?_ _ | refine blk_drew ?_ | refine blk_alloc ?_ _)); exact BK974.out) hb); have n1_ := Aside0.mk (below_step (by repeat (first | (with_reducible first | exact HB.out | apply below_alloc | apply pw_below_drewN | apply below_drew1 | refine below_set ?_ GE974.out) | exact HB.out)) hb); have n2_ := Aside0.mk (hbox); have n3_ := Aside0.mk ((by rw [hg]; exact (below_size (by repeat (first | (with_reducible first | exact HB.out | apply below_alloc | apply pw_below_drewN | apply below_drew1 | refine below_set ?_ GE974.out) | exact HB.out))) : w.heap.size ≤ gb975)); have n4_ := Aside0.mk ((by rw [hg]; exact (below_size (by repeat (first | (with_reducible first | exact HB.out | apply below_alloc | apply pw_below_drewN | apply below_drew1 | refine below_set ?_ GE974.out) | exact HB.out))) : w.heap.size ≤ gb975)); have n5_ := Aside0.mk ((by rw [hg]; exact Nat.ne_of_lt (blk_lt (g := gb974) (o := .cells #[.int .i64 a0_0, .int .i64 a0_1, .int .i64 a0_2] 66 (0, 0)) (by (with_reducible repeat (first | refine blk_drewN ?_ _ | refine blk_drew ?_ | refine blk_alloc ?_ _)); exact BK974.out)) : gb974 ≠ gb975)); have n6_ := Aside0.mk ((by rw [hg]; exact Nat.ne_of_gt (blk_lt (g := gb974) (o := .cells #[.int .i64 a0_0, .int .i64 a0_1, .int .i64 a0_2] 66 (0, 0)) (by (with_reducible repeat (first | refine blk_drewN ?_ _ | refine blk_drew ?_ | refine blk_alloc ?_ _)); exact BK974.out)) : gb975 ≠ gb974)); clear BK974; clear HB; have BK974 := n0_; have HB := n1_; have BK975 := n2_; have GW975 := n3_; have GE975 := n4_; have NB974_975 := n5_; have NB975_974 := n6_; clear n0_ n1_ n2_ n3_ n4_ n5_ n6_; clear hb hbox hg) | ((with_reducible refine gate_dst (N := 4) rfl ?_); refine box_event ?hg (N := 4) ?hd (cs := #[.int .i64 0, .int .i64 0]) (t := 25) ?hr ?_; (case hd => rfl); (case hg => rfl); (case hr => first | (go_simp; done) | (go_simp; rfl)); intro gb976 hg w8 hbox hb; have n0_ := Aside0.mk (blk_below (g := gb974) (o := .cells #[.int .i64 a0_0, .int .i64 a0_1, .int .i64 a0_2] 66 (0, 0)) (by (with_reducible repeat (first | refine blk_drewN ?_ _ | refine blk_drew ?_ | refine blk_alloc ?_ _)); exact BK974.out) hb); have n1_ := Aside0.mk (blk_below (g := gb975) (o := .cells #[.int .i64 a1_0, .int .i64 a1_1] 25 (0, 0)) (by (with_reducible repeat (first | refine blk_drewN ?_ _ | refine blk_drew ?_ | refine blk_alloc ?_ _)); exact BK975.out) hb); have n2_ := Aside0.mk (below_step (by repeat (first | (with_reducible first | exact HB.out | apply below_alloc | apply pw_below_drewN | apply below_drew1 | refine below_set ?_ GE974.out | refine below_set ?_ GE975.out) | exact HB.out)) hb); have n3_ := Aside0.mk (hbox); have n4_ := Aside0.mk ((by rw [hg]; exact (below_size (by repeat (first | (with_reducible first | exact HB.out | apply below_alloc | apply pw_below_drewN | apply below_drew1 | refine below_set ?_ GE974.out | refine below_set ?_ GE975.out) | exact HB.out))) : w.heap.size ≤ gb976)); have n5_ := Aside0.mk ((by rw [hg]; exact (below_size (by repeat (first | (with_reducible first | exact HB.out | apply below_alloc | apply pw_below_drewN | apply below_drew1 | refine below_set ?_ GE974.out | refine below_set ?_ GE975.out) | exact HB.out))) : w.heap.size ≤ gb976)); have n6_ := Aside0.mk ((by rw [hg]; exact Nat.ne_of_lt (blk_lt (g := gb974) (o := .cells #[.int .i64 a0_0, .int .i64 a0_1, .int .i64 a0_2] 66 (0, 0)) (by (with_reducible repeat (first | refine blk_drewN ?_ _ | refine blk_drew ?_ | refine blk_alloc ?_ _)); exact BK974.out)) : gb974 ≠ gb976)); have n7_ := Aside0.mk ((by rw [hg]; exact Nat.ne_of_gt (blk_lt (g := gb974) (o := .cells #[.int .i64 a0_0, .int .i64 a0_1, .int .i64 a0_2] 66 (0, 0)) (by (with_reducible repeat (first | refine blk_drewN ?_ _ | refine blk_drew ?_ | refine blk_alloc ?_ _)); exact BK974.out)) : gb976 ≠ gb974)); have n8_ := Aside0.mk ((by rw [hg]; exact Nat.ne_of_lt (blk_lt (g := gb975) (o := .cells #[.int .i64 a1_0, .int .i64 a1_1] 25 (0, 0)) (by (with_reducible repeat (first | refine blk_drewN ?_ _ | refine blk_drew ?_ | refine blk_alloc ?_ _)); exact BK975.out)) : gb975 ≠ gb976)); have n9_ := Aside0.mk ((by rw [hg]; exact Nat.ne_of_gt (blk_lt (g := gb975) (o := .cells #[.int .i64 a1_0, .int .i64 a1_1] 25 (0, 0)) (by (with_reducible repeat (first | refine blk_drewN ?_ _ | refine blk_drew ?_ | refine blk_alloc ?_ _)); exact BK975.out)) : gb976 ≠ gb975)); clear BK974; clear BK975; clear HB; have BK974 := n0_; have BK975 := n1_; have HB := n2_; have BK976 := n3_; have GW976 := n4_; have GE976 := n5_; have NB974_976 := n6_; have NB976_974 := n7_; have NB975_976 := n8_; have NB976_975 := n9_; clear n0_ n1_ n2_ n3_ n4_ n5_ n6_ n7_ n8_ n9_; clear hb hbox hg; have hnb9 := NB975_974.out; have hnc9 := NB974_975.out; have hnb10 := NB975_976.out; have hnc10 := NB976_975.out; have hcz11_0 : w8.cell? ⟨gb975, 0, none⟩ = some (.int .i64 a1_0) := (blk_cell BK975.out 0).trans rfl; have hcz11_1 : w8.cell? ⟨gb975, 1, none⟩ = some (.int .i64 a1_1) := (blk_cell BK975.out 1).trans rfl; have hfz11_0 := blk_frozen BK975.out 0; have hfz11_1 := blk_frozen BK975.out 1; have hnb12 := NB974_976.out; have hnc12 := NB976_974.out; have hcz13_0 : w8.cell? ⟨gb974, 0, none⟩ = some (.int .i64 a0_0) := (blk_cell BK974.out 0).trans rfl; have hcz13_1 : w8.cell? ⟨gb974, 1, none⟩ = some (.int .i64 a0_1) := (blk_cell BK974.out 1).trans rfl; have hcz13_2 : w8.cell? ⟨gb974, 2, none⟩ = some (.int .i64 a0_2) := (blk_cell BK974.out 2).trans rfl; have hfz13_0 := blk_frozen BK974.out 0; have hfz13_1 := blk_frozen BK974.out 1; have hfz13_2 := blk_frozen BK974.out 2) | ((with_reducible refine gate_callee (f := 212) rfl ?_); refine goesL_ (some 11) rfl rfl Try.func212 (by kernel_rfl) rfl #[.int .i64 a1_1, .int .i64 a0_2] rfl (by (try simp only [List.map_toArray, List.map_cons, List.map_nil]); first | done | rfl | (simp only [List.length_drop, List.length_take]; rfl)) ?_; (with_reducible refine (spec_l01Mod.calls a1_1 a0_2 t977 _ A3.out).mono ?_); rintro e w' ⟨rfl, ⟨nd, rfl⟩⟩; refine ⟨_, rfl, ?_⟩; (try (rw [drewN_self w8]; generalize hq_ : World.drewN w8 _ = w8; have n0_ : Aside0 (w8.heap[gb974]? = some (.cells #[.int .i64 a0_0, .int .i64 a0_1, .int .i64 a0_2] 66 (0, 0))) := ⟨by rw [← hq_]; exact (by (with_reducible repeat (first | refine blk_drewN ?_ _ | refine blk_drew ?_ | refine blk_alloc ?_ _)); exact BK974.out)⟩; have n1_ : Aside0 (w8.heap[gb975]? = some (.cells #[.int .i64 a1_0, .int .i64 a1_1] 25 (0, 0))) := ⟨by rw [← hq_]; exact (by (with_reducible repeat (first | refine blk_drewN ?_ _ | refine blk_drew ?_ | refine blk_alloc ?_ _)); exact BK975.out)⟩; have n2_ : Aside0 (w8.heap[gb976]? = some (.cells #[.int .i64 0, .int .i64 0] 25 (0, 0))) := ⟨by rw [← hq_]; exact (by (with_reducible repeat (first | refine blk_drewN ?_ _ | refine blk_drew ?_ | refine blk_alloc ?_ _)); exact BK976.out)⟩; have n3_ : Aside0 (Below w.heap.size w w8) := ⟨by rw [← hq_]; exact (by repeat (first | (with_reducible first | exact HB.out | apply below_alloc | apply pw_below_drewN | apply below_drew1 | refine below_set ?_ GE974.out | refine below_set ?_ GE975.out | refine below_set ?_ GE976.out) | exact HB.out))⟩; clear BK974 BK975 BK976 HB hq_; have BK974 := n0_; have BK975 := n1_; have BK976 := n2_; have HB := n3_; clear n0_ n1_ n2_ n3_; have hcz11_0 : w8.cell? ⟨gb975, 0, none⟩ = some (.int .i64 a1_0) := (blk_cell BK975.out 0).trans rfl; have hcz11_1 : w8.cell? ⟨gb975, 1, none⟩ = some (.int .i64 a1_1) := (blk_cell BK975.out 1).trans rfl; have hfz11_0 := blk_frozen BK975.out 0; have hfz11_1 := blk_frozen BK975.out 1; have hcz13_0 : w8.cell? ⟨gb974, 0, none⟩ = some (.int .i64 a0_0) := (blk_cell BK974.out 0).trans rfl; have hcz13_1 : w8.cell? ⟨gb974, 1, none⟩ = some (.int .i64 a0_1) := (blk_cell BK974.out 1).trans rfl; have hcz13_2 : w8.cell? ⟨gb974, 2, none⟩ = some (.int .i64 a0_2) := (blk_cell BK974.out 2).trans rfl; have hfz13_0 := blk_frozen BK974.out 0; have hfz13_1 := blk_frozen BK974.out 1; have hfz13_2 := blk_frozen BK974.out 2))) | ((with_reducible refine gate_callee (f := 212) rfl ?_); refine goesL_ (some 28) rfl rfl Try.func212 (by kernel_rfl) rfl #[.int .i64 (wrap64 (a1_0 - (wrap64 ((wrap64 (Int.tdiv (wrap64 (a1_1 - t977)) a0_2)) * a0_1)))), .int .i64 a0_0] rfl (by (try simp only [List.map_toArray, List.map_cons, List.map_nil]); first | done | rfl | (simp only [List.length_drop, List.length_take]; rfl)) ?_; (with_reducible refine (spec_l01Mod.calls (wrap64 (a1_0 - (wrap64 ((wrap64 (Int.tdiv (wrap64 (a1_1 - t977)) a0_2)) * a0_1)))) a0_0 t978 _ A5.out).mono ?_); rintro e w' ⟨rfl, ⟨nd, rfl⟩⟩; refine ⟨_, rfl, ?_⟩; (try (rw [drewN_self w8]; generalize hq_ : World.drewN w8 _ = w8; have n0_ : Aside0 (w8.heap[gb974]? = some (.cells #[.int .i64 a0_0, .int .i64 a0_1, .int .i64 a0_2] 66 (0, 0))) := ⟨by rw [← hq_]; exact (by (with_reducible repeat (first | refine blk_drewN ?_ _ | refine blk_drew ?_ | refine blk_alloc ?_ _)); exact BK974.out)⟩; have n1_ : Aside0 (w8.heap[gb975]? = some (.cells #[.int .i64 a1_0, .int .i64 a1_1] 25 (0, 0))) := ⟨by rw [← hq_]; exact (by (with_reducible repeat (first | refine blk_drewN ?_ _ | refine blk_drew ?_ | refine blk_alloc ?_ _)); exact BK975.out)⟩; have n2_ : Aside0 (w8.heap[gb976]? = some (.cells #[.int .i64 0, .int .i64 0] 25 (0, 0))) := ⟨by rw [← hq_]; exact (by (with_reducible repeat (first | refine blk_drewN ?_ _ | refine blk_drew ?_ | refine blk_alloc ?_ _)); exact BK976.out)⟩; have n3_ : Aside0 (Below w.heap.size w w8) := ⟨by rw [← hq_]; exact (by repeat (first | (with_reducible first | exact HB.out | apply below_alloc | apply pw_below_drewN | apply below_drew1 | refine below_set ?_ GE974.out | refine below_set ?_ GE975.out | refine below_set ?_ GE976.out) | exact HB.out))⟩; clear BK974 BK975 BK976 HB hq_; have BK974 := n0_; have BK975 := n1_; have BK976 := n2_; have HB := n3_; clear n0_ n1_ n2_ n3_; have hcz11_0 : w8.cell? ⟨gb975, 0, none⟩ = some (.int .i64 a1_0) := (blk_cell BK975.out 0).trans rfl; have hcz11_1 : w8.cell? ⟨gb975, 1, none⟩ = some (.int .i64 a1_1) := (blk_cell BK975.out 1).trans rfl; have hfz11_0 := blk_frozen BK975.out 0; have hfz11_1 := blk_frozen BK975.out 1; have hcz13_0 : w8.cell? ⟨gb974, 0, none⟩ = some (.int .i64 a0_0) := (blk_cell BK974.out 0).trans rfl; have hcz13_1 : w8.cell? ⟨gb974, 1, none⟩ = some (.int .i64 a0_1) := (blk_cell BK974.out 1).trans rfl; have hcz13_2 : w8.cell? ⟨gb974, 2, none⟩ = some (.int .i64 a0_2) := (blk_cell BK974.out 2).trans rfl; have hfz13_0 := blk_frozen BK974.out 0; have hfz13_1 := blk_frozen BK974.out 1; have hfz13_2 := blk_frozen BK974.out 2)); have hcz14_0 : w8.cell? ⟨gb976, 0, none⟩ = some (.int .i64 0) := (blk_cell BK976.out 0).trans rfl; have hcz14_1 : w8.cell? ⟨gb976, 1, none⟩ = some (.int .i64 0) := (blk_cell BK976.out 1).trans rfl; have hfz14_0 := blk_frozen BK976.out 0; have hfz14_1 := blk_frozen BK976.out 1))
    refine bodyPost_ret (results_cell_row rfl _ _ gb976 25 #[.int .i64 t978, .int .i64 t977] (0, 0) _ rfl (by (with_reducible repeat (first | refine blk_drewN ?_ _ | refine blk_drew ?_ | refine blk_alloc ?_ _)); refine blk_put (cs := #[.int .i64 t978, .int .i64 0]) ?_ 1 _ rfl; (with_reducible repeat (first | refine blk_drewN ?_ _ | refine blk_drew ?_ | refine blk_alloc ?_ _)); refine blk_put (cs := #[.int .i64 0, .int .i64 0]) ?_ 0 _ rfl; (with_reducible repeat (first | refine blk_drewN ?_ _ | refine blk_drew ?_ | refine blk_alloc ?_ _)); exact BK976.out) Try.underlying25 rfl (by kernel_rfl)) rfl ?_
    exact ⟨by first | rfl | (simp [errW_none, errW_some] <;> rfl) | (simp [*, errW_none, errW_some] <;> rfl), by repeat (first | (with_reducible first | exact HB.out | apply below_alloc | apply pw_below_drewN | apply below_drew1 | refine below_set ?_ GE974.out | refine below_set ?_ GE975.out | refine below_set ?_ GE976.out) | exact HB.out)⟩

/-! ### spec_l03Has: function 172 -/
def spec_l03Has.f (a0_0 : Int) (a0_1 : Int) (a0_2 : Int) (a1_0 : Int) (a1_1 : Int) : Option (Bool) := (spec_l03Reduce.f a0_0 a0_1 a0_2 a1_0 a1_1).bind fun bt981 => (some (bt981.1 == 0 && (bt981.2 == 0)))
set_option maxHeartbeats 8000000 in
set_option maxRecDepth 100000 in
theorem spec_l03Has.calls (a0_0 : Int) (a0_1 : Int) (a0_2 : Int) (a1_0 : Int) (a1_1 : Int) (r : Bool) (w : World) (h : spec_l03Has.f a0_0 a0_1 a0_2 a1_0 a1_1 = some r) :
    Calls Try.prog 172 #[.agg #[.int .i64 a0_0, .int .i64 a0_1, .int .i64 a0_2], .agg #[.int .i64 a1_0, .int .i64 a1_1]] w fun e w' => e = .returned (.bool r) ∧ Below w.heap.size w w' := by
  have hu66 := Try.underlying66
  have hu25 := Try.underlying25
  have HB := Aside0.mk (Below.refl w.heap.size w)
  have H : ((spec_l03Reduce.f a0_0 a0_1 a0_2 a1_0 a1_1).bind fun bt981 => (some (bt981.1 == 0 && (bt981.2 == 0)))) = some r := h
  clear h
  replace H := Option.bind_eq_some_iff.mp H
  obtain ⟨⟨t981, t982⟩, A30, H⟩ := H
  replace H : (some (t981 == 0 && (t982 == 0))) = some r := H
  have A3 := Aside0.mk A30
  clear A30
  obtain rfl := Option.some.inj H
  go_enter Try.func172, Try.ntmps172
  go_wp2_with (first | ((with_reducible refine gate_dst (N := 2) rfl ?_); refine box_event ?hg (N := 2) ?hd (cs := #[.int .i64 a0_0, .int .i64 a0_1, .int .i64 a0_2]) (t := 66) ?hr ?_; (case hd => rfl); (case hg => rfl); (case hr => first | (go_simp; done) | (go_simp; rfl)); intro gb979 hg w4 hbox hb; have n0_ := Aside0.mk (below_step (by repeat (first | (with_reducible first | exact HB.out | apply below_alloc | apply pw_below_drewN | apply below_drew1) | exact HB.out)) hb); have n1_ := Aside0.mk (hbox); have n2_ := Aside0.mk ((by rw [hg]; exact (below_size (by repeat (first | (with_reducible first | exact HB.out | apply below_alloc | apply pw_below_drewN | apply below_drew1) | exact HB.out))) : w.heap.size ≤ gb979)); have n3_ := Aside0.mk ((by rw [hg]; exact (below_size (by repeat (first | (with_reducible first | exact HB.out | apply below_alloc | apply pw_below_drewN | apply below_drew1) | exact HB.out))) : w.heap.size ≤ gb979)); clear HB; have HB := n0_; have BK979 := n1_; have GW979 := n2_; have GE979 := n3_; clear n0_ n1_ n2_ n3_; clear hb hbox hg) | ((with_reducible refine gate_dst (N := 3) rfl ?_); refine box_event ?hg (N := 3) ?hd (cs := #[.int .i64 a1_0, .int .i64 a1_1]) (t := 25) ?hr ?_; (case hd => rfl); (case hg => rfl); (case hr => first | (go_simp; done) | (go_simp; rfl)); intro gb980 hg w5 hbox hb; have n0_ := Aside0.mk (blk_below (g := gb979) (o := .cells #[.int .i64 a0_0, .int .i64 a0_1, .int .i64 a0_2] 66 (0, 0)) (by (with_reducible repeat (first | refine blk_drewN ?_ _ | refine blk_drew ?_ | refine blk_alloc ?_ _)); exact BK979.out) hb); have n1_ := Aside0.mk (below_step (by repeat (first | (with_reducible first | exact HB.out | apply below_alloc | apply pw_below_drewN | apply below_drew1 | refine below_set ?_ GE979.out) | exact HB.out)) hb); have n2_ := Aside0.mk (hbox); have n3_ := Aside0.mk ((by rw [hg]; exact (below_size (by repeat (first | (with_reducible first | exact HB.out | apply below_alloc | apply pw_below_drewN | apply below_drew1 | refine below_set ?_ GE979.out) | exact HB.out))) : w.heap.size ≤ gb980)); have n4_ := Aside0.mk ((by rw [hg]; exact (below_size (by repeat (first | (with_reducible first | exact HB.out | apply below_alloc | apply pw_below_drewN | apply below_drew1 | refine below_set ?_ GE979.out) | exact HB.out))) : w.heap.size ≤ gb980)); have n5_ := Aside0.mk ((by rw [hg]; exact Nat.ne_of_lt (blk_lt (g := gb979) (o := .cells #[.int .i64 a0_0, .int .i64 a0_1, .int .i64 a0_2] 66 (0, 0)) (by (with_reducible repeat (first | refine blk_drewN ?_ _ | refine blk_drew ?_ | refine blk_alloc ?_ _)); exact BK979.out)) : gb979 ≠ gb980)); have n6_ := Aside0.mk ((by rw [hg]; exact Nat.ne_of_gt (blk_lt (g := gb979) (o := .cells #[.int .i64 a0_0, .int .i64 a0_1, .int .i64 a0_2] 66 (0, 0)) (by (with_reducible repeat (first | refine blk_drewN ?_ _ | refine blk_drew ?_ | refine blk_alloc ?_ _)); exact BK979.out)) : gb980 ≠ gb979)); clear BK979; clear HB; have BK979 := n0_; have HB := n1_; have BK980 := n2_; have GW980 := n3_; have GE980 := n4_; have NB979_980 := n5_; have NB980_979 := n6_; clear n0_ n1_ n2_ n3_ n4_ n5_ n6_; clear hb hbox hg; have hnb6 := NB979_980.out; have hnc6 := NB980_979.out; have hcz7_0 : w5.cell? ⟨gb979, 0, none⟩ = some (.int .i64 a0_0) := (blk_cell BK979.out 0).trans rfl; have hcz7_1 : w5.cell? ⟨gb979, 1, none⟩ = some (.int .i64 a0_1) := (blk_cell BK979.out 1).trans rfl; have hcz7_2 : w5.cell? ⟨gb979, 2, none⟩ = some (.int .i64 a0_2) := (blk_cell BK979.out 2).trans rfl; have hfz7_0 := blk_frozen BK979.out 0; have hfz7_1 := blk_frozen BK979.out 1; have hfz7_2 := blk_frozen BK979.out 2; have hcz8_0 : w5.cell? ⟨gb980, 0, none⟩ = some (.int .i64 a1_0) := (blk_cell BK980.out 0).trans rfl; have hcz8_1 : w5.cell? ⟨gb980, 1, none⟩ = some (.int .i64 a1_1) := (blk_cell BK980.out 1).trans rfl; have hfz8_0 := blk_frozen BK980.out 0; have hfz8_1 := blk_frozen BK980.out 1) | ((with_reducible refine gate_callee (f := 179) rfl ?_); refine goesL_ (some 7) rfl rfl Try.func179 (by kernel_rfl) rfl #[.agg #[.int .i64 a0_0, .int .i64 a0_1, .int .i64 a0_2], .agg #[.int .i64 a1_0, .int .i64 a1_1]] rfl (by (try simp only [List.map_toArray, List.map_cons, List.map_nil]); first | done | rfl | (simp only [List.length_drop, List.length_take]; rfl)) ?_; (with_reducible refine (spec_l03Reduce.calls a0_0 a0_1 a0_2 a1_0 a1_1 t981 t982 _ A3.out).mono ?_); rintro e w9 ⟨rfl, hb⟩; refine ⟨_, rfl, ?_⟩; have n0_ := Aside0.mk (blk_below (g := gb979) (o := .cells #[.int .i64 a0_0, .int .i64 a0_1, .int .i64 a0_2] 66 (0, 0)) (by (with_reducible repeat (first | refine blk_drewN ?_ _ | refine blk_drew ?_ | refine blk_alloc ?_ _)); exact BK979.out) hb); have n1_ := Aside0.mk (blk_below (g := gb980) (o := .cells #[.int .i64 a1_0, .int .i64 a1_1] 25 (0, 0)) (by (with_reducible repeat (first | refine blk_drewN ?_ _ | refine blk_drew ?_ | refine blk_alloc ?_ _)); exact BK980.out) hb); have n2_ := Aside0.mk (below_step (by repeat (first | (with_reducible first | exact HB.out | apply below_alloc | apply pw_below_drewN | apply below_drew1 | refine below_set ?_ GE979.out | refine below_set ?_ GE980.out) | exact HB.out)) hb); clear BK979; clear BK980; clear HB; have BK979 := n0_; have BK980 := n1_; have HB := n2_; clear n0_ n1_ n2_; (try clear hb); (try clear hb2); (try clear hk); (try clear hi)))
  go_ret
  exact ⟨by first | rfl | (simp [errW_none, errW_some] <;> rfl) | (simp [*, errW_none, errW_some] <;> rfl), by repeat (first | (with_reducible first | exact HB.out | apply below_alloc | apply pw_below_drewN | apply below_drew1 | refine below_set ?_ GE979.out | refine below_set ?_ GE980.out) | exact HB.out)⟩

end Go.Proofs.Ytjjbjaagfjljnaa.F

import Derived.Test.YtjjbjaagfjljnaaF0
import Derived.Test.YtjjbjaagfjljnaaF2
import Derived.Test.YtjjbjaagfjljnaaF9
import Derived.Test.YtjjbjaagfjljnaaF28
import Derived.Test.YtjjbjaagfjljnaaF32
namespace Go.Proofs.Ytjjbjaagfjljnaa.F
open Go.RowKit Go.Proofs.YtjjbjaagfjljnaaW.PrintWords Go.Proofs.YtjjbjaagfjljnaaW.PrintLast Go.Proofs.YtjjbjaagfjljnaaW.PrintMore
attribute [local go_sem] max2_int min2_int max_two min_two max_three min_three max_four min_four   -- for this text's walks alone
set_option linter.unusedVariables false
set_option linter.unusedSimpArgs false

/-! ### spec_LatticeOf: function 79 -/
def spec_LatticeOf.j0 : Nat → Bool → Int → Int → Int → Int → Option (Int × Int × Int × Int)
  | 0, _, _, _, _, _ => none
  | k + 1, x6, x1184000, x1184001, x1185000, x1185001 => if x6 = true then (some (0, 0, 0, 1)) else ((spec_l01Det.f x1184000 x1184001 x1185000 x1185001).bind fun t1188 => (if t1188 = 0 then (some (0, 0, 0, 5)) else ((spec_l03Hermite.f k (([(⟨x1184000, x1184001⟩ : S25), (⟨x1185000, x1185001⟩ : S25)] : List (S25)))).bind fun bt1192 => ((spec_l03Result.f bt1192.1 bt1192.2.1 bt1192.2.2).bind fun bt1195 => (some (bt1195.1, bt1195.2.1, bt1195.2.2.1, bt1195.2.2.2))))))
def spec_LatticeOf.f (k : Nat) (a0_0 : Int) (a0_1 : Int) (a1_0 : Int) (a1_1 : Int) : Option (Int × Int × Int × Int) := (spec_IsVec.f a0_0 a0_1).bind fun t1186 => (if t1186 = true then ((spec_IsVec.f a1_0 a1_1).bind fun t1187 => (spec_LatticeOf.j0 k (!t1187) a0_0 a0_1 a1_0 a1_1)) else (spec_LatticeOf.j0 k true a0_0 a0_1 a1_0 a1_1))
theorem spec_LatticeOf.mono_l : ∀ k, (∀ y0 y1 y2 y3 y4, LeO (spec_LatticeOf.j0 k y0 y1 y2 y3 y4) (spec_LatticeOf.j0 (k + 1) y0 y1 y2 y3 y4))
  | 0 => fun _ _ _ _ _ r h => by simp [spec_LatticeOf.j0] at h
  | k + 1 => by
    have ih0 := spec_LatticeOf.mono_l k
    · intro y0 y1 y2 y3 y4
      unfold spec_LatticeOf.j0
      repeat' first
      | (with_reducible exact ih0 _ _ _ _ _)
      | (with_reducible exact spec_l03Hermite.mono _ _)
      | (with_reducible exact LeO.refl _)
      | (with_reducible exact LeO.none _)
      | (with_reducible refine LeO.ite ?_ ?_)
      | (with_reducible refine LeO.bind ?_ (fun _ => ?_))
      | exact ih0 _ _ _ _ _
      | exact spec_l03Hermite.mono _ _
      | exact LeO.none _
      | refine LeO.ite ?_ ?_
      | refine LeO.bind ?_ (fun _ => ?_)
theorem spec_LatticeOf.mono : ∀ a0 a1 a2 a3 k, LeO (spec_LatticeOf.f k a0 a1 a2 a3) (spec_LatticeOf.f (k + 1) a0 a1 a2 a3) := by
  intro a0 a1 a2 a3 k
  have ih0 := spec_LatticeOf.mono_l k
  unfold spec_LatticeOf.f
  repeat' first
      | (with_reducible exact ih0 _ _ _ _ _)
      | (with_reducible exact spec_l03Hermite.mono _ _)
      | (with_reducible exact LeO.refl _)
      | (with_reducible exact LeO.none _)
      | (with_reducible refine LeO.ite ?_ ?_)
      | (with_reducible refine LeO.bind ?_ (fun _ => ?_))
      | exact ih0 _ _ _ _ _
      | exact spec_l03Hermite.mono _ _
      | exact LeO.none _
      | refine LeO.ite ?_ ?_
      | refine LeO.bind ?_ (fun _ => ?_)
set_option maxHeartbeats 8000000 in
set_option maxRecDepth 100000 in
theorem spec_LatticeOf.calls (k : Nat) (a0_0 : Int) (a0_1 : Int) (a1_0 : Int) (a1_1 : Int) (r1 : Int) (r2 : Int) (r3 : Int) (r4 : Int) (w : World) (h : spec_LatticeOf.f k a0_0 a0_1 a1_0 a1_1 = some (r1, r2, r3, r4)) :
    Calls Try.prog 79 #[.agg #[.int .i64 a0_0, .int .i64 a0_1], .agg #[.int .i64 a1_0, .int .i64 a1_1]] w fun e w' => e = .returned (.tuple #[.agg #[.int .i64 r1, .int .i64 r2, .int .i64 r3], .int .i64 r4]) ∧ Below w.heap.size w w' := by
  have hu25 := Try.underlying25
  have hu66 := Try.underlying66
  have HB := Aside0.mk (Below.refl w.heap.size w)
  have H : ((spec_IsVec.f a0_0 a0_1).bind fun t1186 => (if t1186 = true then ((spec_IsVec.f a1_0 a1_1).bind fun t1187 => (spec_LatticeOf.j0 k (!t1187) a0_0 a0_1 a1_0 a1_1)) else (spec_LatticeOf.j0 k true a0_0 a0_1 a1_0 a1_1))) = some (r1, r2, r3, r4) := h
  clear h
  have HC3 := Aside0.mk H
  clear H
  go_enter Try.func79, Try.ntmps79
  go_upto_region 1 with (first | ((with_reducible refine gate_dst (N := 2) rfl ?_); refine box_event ?hg (N := 2) ?hd (cs := #[.int .i64 a0_0, .int .i64 a0_1]) (t := 25) ?hr ?_; (case hd => rfl); (case hg => rfl); (case hr => first | (go_simp; done) | (go_simp; rfl)); intro gb1183 hg w4 hbox hb; have n0_ := Aside0.mk (below_step (by repeat (first | (with_reducible first | exact HB.out | apply below_alloc | apply pw_below_drewN | apply below_drew1) | exact HB.out)) hb); have n1_ := Aside0.mk (hbox); have n2_ := Aside0.mk ((by rw [hg]; exact (below_size (by repeat (first | (with_reducible first | exact HB.out | apply below_alloc | apply pw_below_drewN | apply below_drew1) | exact HB.out))) : w.heap.size ≤ gb1183)); have n3_ := Aside0.mk ((by rw [hg]; exact (below_size (by repeat (first | (with_reducible first | exact HB.out | apply below_alloc | apply pw_below_drewN | apply below_drew1) | exact HB.out))) : w.heap.size ≤ gb1183)); clear HB; have HB := n0_; have BK1183 := n1_; have GW1183 := n2_; have GE1183 := n3_; clear n0_ n1_ n2_ n3_; clear hb hbox hg) | ((with_reducible refine gate_dst (N := 3) rfl ?_); refine box_event ?hg (N := 3) ?hd (cs := #[.int .i64 a1_0, .int .i64 a1_1]) (t := 25) ?hr ?_; (case hd => rfl); (case hg => rfl); (case hr => first | (go_simp; done) | (go_simp; rfl)); intro gb1184 hg w5 hbox hb; have n0_ := Aside0.mk (blk_below (g := gb1183) (o := .cells #[.int .i64 a0_0, .int .i64 a0_1] 25 (0, 0)) (by (with_reducible repeat (first | refine blk_drewN ?_ _ | refine blk_drew ?_ | refine blk_alloc ?_ _)); exact BK1183.out) hb); have n1_ := Aside0.mk (below_step (by repeat (first | (with_reducible first | exact HB.out | apply below_alloc | apply pw_below_drewN | apply below_drew1 | refine below_set ?_ GE1183.out) | exact HB.out)) hb); have n2_ := Aside0.mk (hbox); have n3_ := Aside0.mk ((by rw [hg]; exact (below_size (by repeat (first | (with_reducible first | exact HB.out | apply below_alloc | apply pw_below_drewN | apply below_drew1 | refine below_set ?_ GE1183.out) | exact HB.out))) : w.heap.size ≤ gb1184)); have n4_ := Aside0.mk ((by rw [hg]; exact (below_size (by repeat (first | (with_reducible first | exact HB.out | apply below_alloc | apply pw_below_drewN | apply below_drew1 | refine below_set ?_ GE1183.out) | exact HB.out))) : w.heap.size ≤ gb1184)); have n5_ := Aside0.mk ((by rw [hg]; exact Nat.ne_of_lt (blk_lt (g := gb1183) (o := .cells #[.int .i64 a0_0, .int .i64 a0_1] 25 (0, 0)) (by (with_reducible repeat (first | refine blk_drewN ?_ _ | refine blk_drew ?_ | refine blk_alloc ?_ _)); exact BK1183.out)) : gb1183 ≠ gb1184)); have n6_ := Aside0.mk ((by rw [hg]; exact Nat.ne_of_gt (blk_lt (g := gb1183) (o := .cells #[.int .i64 a0_0, .int .i64 a0_1] 25 (0, 0)) (by (with_reducible repeat (first | refine blk_drewN ?_ _ | refine blk_drew ?_ | refine blk_alloc ?_ _)); exact BK1183.out)) : gb1184 ≠ gb1183)); clear BK1183; clear HB; have BK1183 := n0_; have HB := n1_; have BK1184 := n2_; have GW1184 := n3_; have GE1184 := n4_; have NB1183_1184 := n5_; have NB1184_1183 := n6_; clear n0_ n1_ n2_ n3_ n4_ n5_ n6_; clear hb hbox hg) | ((with_reducible refine gate_dst (N := 4) rfl ?_); refine box_event ?hg (N := 4) ?hd (cs := #[.int .i64 0, .int .i64 0, .int .i64 0]) (t := 66) ?hr ?_; (case hd => rfl); (case hg => rfl); (case hr => first | (go_simp; done) | (go_simp; rfl)); intro gb1185 hg w6 hbox hb; have n0_ := Aside0.mk (blk_below (g := gb1183) (o := .cells #[.int .i64 a0_0, .int .i64 a0_1] 25 (0, 0)) (by (with_reducible repeat (first | refine blk_drewN ?_ _ | refine blk_drew ?_ | refine blk_alloc ?_ _)); exact BK1183.out) hb); have n1_ := Aside0.mk (blk_below (g := gb1184) (o := .cells #[.int .i64 a1_0, .int .i64 a1_1] 25 (0, 0)) (by (with_reducible repeat (first | refine blk_drewN ?_ _ | refine blk_drew ?_ | refine blk_alloc ?_ _)); exact BK1184.out) hb); have n2_ := Aside0.mk (below_step (by repeat (first | (with_reducible first | exact HB.out | apply below_alloc | apply pw_below_drewN | apply below_drew1 | refine below_set ?_ GE1183.out | refine below_set ?_ GE1184.out) | exact HB.out)) hb); have n3_ := Aside0.mk (hbox); have n4_ := Aside0.mk ((by rw [hg]; exact (below_size (by repeat (first | (with_reducible first | exact HB.out | apply below_alloc | apply pw_below_drewN | apply below_drew1 | refine below_set ?_ GE1183.out | refine below_set ?_ GE1184.out) | exact HB.out))) : w.heap.size ≤ gb1185)); have n5_ := Aside0.mk ((by rw [hg]; exact (below_size (by repeat (first | (with_reducible first | exact HB.out | apply below_alloc | apply pw_below_drewN | apply below_drew1 | refine below_set ?_ GE1183.out | refine below_set ?_ GE1184.out) | exact HB.out))) : w.heap.size ≤ gb1185)); have n6_ := Aside0.mk ((by rw [hg]; exact Nat.ne_of_lt (blk_lt (g := gb1183) (o := .cells #[.int .i64 a0_0, .int .i64 a0_1] 25 (0, 0)) (by (with_reducible repeat (first | refine blk_drewN ?_ _ | refine blk_drew ?_ | refine blk_alloc ?_ _)); exact BK1183.out)) : gb1183 ≠ gb1185)); have n7_ := Aside0.mk ((by rw [hg]; exact Nat.ne_of_gt (blk_lt (g := gb1183) (o := .cells #[.int .i64 a0_0, .int .i64 a0_1] 25 (0, 0)) (by (with_reducible repeat (first | refine blk_drewN ?_ _ | refine blk_drew ?_ | refine blk_alloc ?_ _)); exact BK1183.out)) : gb1185 ≠ gb1183)); have n8_ := Aside0.mk ((by rw [hg]; exact Nat.ne_of_lt (blk_lt (g := gb1184) (o := .cells #[.int .i64 a1_0, .int .i64 a1_1] 25 (0, 0)) (by (with_reducible repeat (first | refine blk_drewN ?_ _ | refine blk_drew ?_ | refine blk_alloc ?_ _)); exact BK1184.out)) : gb1184 ≠ gb1185)); have n9_ := Aside0.mk ((by rw [hg]; exact Nat.ne_of_gt (blk_lt (g := gb1184) (o := .cells #[.int .i64 a1_0, .int .i64 a1_1] 25 (0, 0)) (by (with_reducible repeat (first | refine blk_drewN ?_ _ | refine blk_drew ?_ | refine blk_alloc ?_ _)); exact BK1184.out)) : gb1185 ≠ gb1184)); clear BK1183; clear BK1184; clear HB; have BK1183 := n0_; have BK1184 := n1_; have HB := n2_; have BK1185 := n3_; have GW1185 := n4_; have GE1185 := n5_; have NB1183_1185 := n6_; have NB1185_1183 := n7_; have NB1184_1185 := n8_; have NB1185_1184 := n9_; clear n0_ n1_ n2_ n3_ n4_ n5_ n6_ n7_ n8_ n9_; clear hb hbox hg))
  (try simp only [Act.put, List.setIfInBounds_toArray, List.set_cons_zero, List.set_cons_succ])
  go_cut [6] (fun v6 wc => ∃ (kq : Nat) (x6_2 : Bool), v6 = .bool x6_2 ∧ Aside0 (spec_LatticeOf.j0 kq x6_2 a0_0 a0_1 a1_0 a1_1 = some (r1, r2, r3, r4)) ∧ Aside0 (kq ≤ k) ∧ Aside0 (wc.heap[gb1183]? = some (.cells #[.int .i64 a0_0, .int .i64 a0_1] 25 (0, 0))) ∧ Aside0 (wc.heap[gb1184]? = some (.cells #[.int .i64 a1_0, .int .i64 a1_1] 25 (0, 0))) ∧ Aside0 (wc.heap[gb1185]? = some (.cells #[.int .i64 0, .int .i64 0, .int .i64 0] 66 (0, 0))) ∧ Aside0 (Below w.heap.size w wc))
  case first =>
    have H := HC3.out
    clear HC3
    replace H := Option.bind_eq_some_iff.mp H
    obtain ⟨t1186, A70, H⟩ := H
    replace H : (if t1186 = true then ((spec_IsVec.f a1_0 a1_1).bind fun t1187 => (spec_LatticeOf.j0 k (!t1187) a0_0 a0_1 a1_0 a1_1)) else (spec_LatticeOf.j0 k true a0_0 a0_1 a1_0 a1_1)) = some (r1, r2, r3, r4) := H
    have A7 := Aside0.mk A70
    clear A70
    by_cases c8 : t1186 = true
    · subst c8
      have H1 : ((spec_IsVec.f a1_0 a1_1).bind fun t1187 => (spec_LatticeOf.j0 k (!t1187) a0_0 a0_1 a1_0 a1_1)) = some (r1, r2, r3, r4) := by rw [if_pos rfl] at H; exact H
      clear H
      have H := H1
      clear H1
      replace H := Option.bind_eq_some_iff.mp H
      obtain ⟨t1187, A90, H⟩ := H
      replace H : (spec_LatticeOf.j0 k (!t1187) a0_0 a0_1 a1_0 a1_1) = some (r1, r2, r3, r4) := H
      have A9 := Aside0.mk A90
      clear A90
      have H' := Aside0.mk H
      clear H
      have hnb10 := NB1183_1184.out
      have hnc10 := NB1184_1183.out
      have hnb11 := NB1183_1185.out
      have hnc11 := NB1185_1183.out
      have hcz12_0 : w6.cell? ⟨gb1183, 0, none⟩ = some (.int .i64 a0_0) := (blk_cell BK1183.out 0).trans rfl
      have hcz12_1 : w6.cell? ⟨gb1183, 1, none⟩ = some (.int .i64 a0_1) := (blk_cell BK1183.out 1).trans rfl
      have hfz12_0 := blk_frozen BK1183.out 0
      have hfz12_1 := blk_frozen BK1183.out 1
      go_wp2_with (first | ((with_reducible refine gate_callee (f := 33) rfl ?_); refine goesL_ (some 8) rfl rfl Try.func33 (by kernel_rfl) rfl #[.agg #[.int .i64 a0_0, .int .i64 a0_1]] rfl (by (try simp only [List.map_toArray, List.map_cons, List.map_nil]); first | done | rfl | (simp only [List.length_drop, List.length_take]; rfl)) ?_; (with_reducible refine (spec_IsVec.calls a0_0 a0_1 true _ A7.out).mono ?_); rintro e w13 ⟨rfl, hb⟩; refine ⟨_, rfl, ?_⟩; have n0_ := Aside0.mk (blk_below (g := gb1183) (o := .cells #[.int .i64 a0_0, .int .i64 a0_1] 25 (0, 0)) (by (with_reducible repeat (first | refine blk_drewN ?_ _ | refine blk_drew ?_ | refine blk_alloc ?_ _)); exact BK1183.out) hb); have n1_ := Aside0.mk (blk_below (g := gb1184) (o := .cells #[.int .i64 a1_0, .int .i64 a1_1] 25 (0, 0)) (by (with_reducible repeat (first | refine blk_drewN ?_ _ | refine blk_drew ?_ | refine blk_alloc ?_ _)); exact BK1184.out) hb); have n2_ := Aside0.mk (blk_below (g := gb1185) (o := .cells #[.int .i64 0, .int .i64 0, .int .i64 0] 66 (0, 0)) (by (with_reducible repeat (first | refine blk_drewN ?_ _ | refine blk_drew ?_ | refine blk_alloc ?_ _)); exact BK1185.out) hb); have n3_ := Aside0.mk (below_step (by repeat (first | (with_reducible first | exact HB.out | apply below_alloc | apply pw_below_drewN | apply below_drew1 | refine below_set ?_ GE1183.out | refine below_set ?_ GE1184.out | refine below_set ?_ GE1185.out) | exact HB.out)) hb); clear BK1183; clear BK1184; clear BK1185; clear HB; have BK1183 := n0_; have BK1184 := n1_; have BK1185 := n2_; have HB := n3_; clear n0_ n1_ n2_ n3_; (try clear hb); (try clear hb2); (try clear hk); (try clear hi); have hnb14 := NB1184_1185.out; have hnc14 := NB1185_1184.out; have hcz15_0 : w13.cell? ⟨gb1184, 0, none⟩ = some (.int .i64 a1_0) := (blk_cell BK1184.out 0).trans rfl; have hcz15_1 : w13.cell? ⟨gb1184, 1, none⟩ = some (.int .i64 a1_1) := (blk_cell BK1184.out 1).trans rfl; have hfz15_0 := blk_frozen BK1184.out 0; have hfz15_1 := blk_frozen BK1184.out 1) | (go_at_call 33; (with_reducible refine (spec_IsVec.calls a1_0 a1_1 t1187 _ A9.out).mono ?_); rintro e w16 ⟨rfl, hb⟩; have n0_ := Aside0.mk (blk_below (g := gb1183) (o := .cells #[.int .i64 a0_0, .int .i64 a0_1] 25 (0, 0)) (by (with_reducible repeat (first | refine blk_drewN ?_ _ | refine blk_drew ?_ | refine blk_alloc ?_ _)); exact BK1183.out) hb); have n1_ := Aside0.mk (blk_below (g := gb1184) (o := .cells #[.int .i64 a1_0, .int .i64 a1_1] 25 (0, 0)) (by (with_reducible repeat (first | refine blk_drewN ?_ _ | refine blk_drew ?_ | refine blk_alloc ?_ _)); exact BK1184.out) hb); have n2_ := Aside0.mk (blk_below (g := gb1185) (o := .cells #[.int .i64 0, .int .i64 0, .int .i64 0] 66 (0, 0)) (by (with_reducible repeat (first | refine blk_drewN ?_ _ | refine blk_drew ?_ | refine blk_alloc ?_ _)); exact BK1185.out) hb); have n3_ := Aside0.mk (below_step (by repeat (first | (with_reducible first | exact HB.out | apply below_alloc | apply pw_below_drewN | apply below_drew1 | refine below_set ?_ GE1183.out | refine below_set ?_ GE1184.out | refine below_set ?_ GE1185.out) | exact HB.out)) hb); clear BK1183; clear BK1184; clear BK1185; clear HB; have BK1183 := n0_; have BK1184 := n1_; have BK1185 := n2_; have HB := n3_; clear n0_ n1_ n2_ n3_; (try clear hb); (try clear hb2); (try clear hk); (try clear hi)))
      go_meet
      case rel => exact ⟨_, (!t1187), (by first | rfl | (simp; done) | (simp [*]; done)), H', ⟨by first | omega | exact Nat.le_refl _⟩, ⟨by (with_reducible repeat (first | refine blk_drewN ?_ _ | refine blk_drew ?_ | refine blk_alloc ?_ _)); exact BK1183.out⟩, ⟨by (with_reducible repeat (first | refine blk_drewN ?_ _ | refine blk_drew ?_ | refine blk_alloc ?_ _)); exact BK1184.out⟩, ⟨by (with_reducible repeat (first | refine blk_drewN ?_ _ | refine blk_drew ?_ | refine blk_alloc ?_ _)); exact BK1185.out⟩, ⟨by repeat (first | (with_reducible first | exact HB.out | apply below_alloc | apply pw_below_drewN | apply below_drew1 | refine below_set ?_ GE1183.out | refine below_set ?_ GE1184.out | refine below_set ?_ GE1185.out) | exact HB.out)⟩⟩
    · replace c8 := Bool.eq_false_iff.mpr c8
      subst c8
      have H1 : (spec_LatticeOf.j0 k true a0_0 a0_1 a1_0 a1_1) = some (r1, r2, r3, r4) := by rw [if_neg (show ¬ (false = true) by decide)] at H; exact H
      clear H
      have H := H1
      clear H1
      have H' := Aside0.mk H
      clear H
      have hnb17 := NB1183_1184.out
      have hnc17 := NB1184_1183.out
      have hnb18 := NB1183_1185.out
      have hnc18 := NB1185_1183.out
      have hcz19_0 : w6.cell? ⟨gb1183, 0, none⟩ = some (.int .i64 a0_0) := (blk_cell BK1183.out 0).trans rfl
      have hcz19_1 : w6.cell? ⟨gb1183, 1, none⟩ = some (.int .i64 a0_1) := (blk_cell BK1183.out 1).trans rfl
      have hfz19_0 := blk_frozen BK1183.out 0
      have hfz19_1 := blk_frozen BK1183.out 1
      go_wp2_with (first | ((with_reducible refine gate_callee (f := 33) rfl ?_); refine goesL_ (some 8) rfl rfl Try.func33 (by kernel_rfl) rfl #[.agg #[.int .i64 a0_0, .int .i64 a0_1]] rfl (by (try simp only [List.map_toArray, List.map_cons, List.map_nil]); first | done | rfl | (simp only [List.length_drop, List.length_take]; rfl)) ?_; (with_reducible refine (spec_IsVec.calls a0_0 a0_1 false _ A7.out).mono ?_); rintro e w20 ⟨rfl, hb⟩; refine ⟨_, rfl, ?_⟩; have n0_ := Aside0.mk (blk_below (g := gb1183) (o := .cells #[.int .i64 a0_0, .int .i64 a0_1] 25 (0, 0)) (by (with_reducible repeat (first | refine blk_drewN ?_ _ | refine blk_drew ?_ | refine blk_alloc ?_ _)); exact BK1183.out) hb); have n1_ := Aside0.mk (blk_below (g := gb1184) (o := .cells #[.int .i64 a1_0, .int .i64 a1_1] 25 (0, 0)) (by (with_reducible repeat (first | refine blk_drewN ?_ _ | refine blk_drew ?_ | refine blk_alloc ?_ _)); exact BK1184.out) hb); have n2_ := Aside0.mk (blk_below (g := gb1185) (o := .cells #[.int .i64 0, .int .i64 0, .int .i64 0] 66 (0, 0)) (by (with_reducible repeat (first | refine blk_drewN ?_ _ | refine blk_drew ?_ | refine blk_alloc ?_ _)); exact BK1185.out) hb); have n3_ := Aside0.mk (below_step (by repeat (first | (with_reducible first | exact HB.out | apply below_alloc | apply pw_below_drewN | apply below_drew1 | refine below_set ?_ GE1183.out | refine below_set ?_ GE1184.out | refine below_set ?_ GE1185.out) | exact HB.out)) hb); clear BK1183; clear BK1184; clear BK1185; clear HB; have BK1183 := n0_; have BK1184 := n1_; have BK1185 := n2_; have HB := n3_; clear n0_ n1_ n2_ n3_; (try clear hb); (try clear hb2); (try clear hk); (try clear hi)))
      go_meet
      case rel => exact ⟨_, (true), (by first | rfl | (simp; done) | (simp [*]; done)), H', ⟨by first | omega | exact Nat.le_refl _⟩, ⟨by (with_reducible repeat (first | refine blk_drewN ?_ _ | refine blk_drew ?_ | refine blk_alloc ?_ _)); exact BK1183.out⟩, ⟨by (with_reducible repeat (first | refine blk_drewN ?_ _ | refine blk_drew ?_ | refine blk_alloc ?_ _)); exact BK1184.out⟩, ⟨by (with_reducible repeat (first | refine blk_drewN ?_ _ | refine blk_drew ?_ | refine blk_alloc ?_ _)); exact BK1185.out⟩, ⟨by repeat (first | (with_reducible first | exact HB.out | apply below_alloc | apply pw_below_drewN | apply below_drew1 | refine below_set ?_ GE1183.out | refine below_set ?_ GE1184.out | refine below_set ?_ GE1185.out) | exact HB.out)⟩⟩
  case rest =>
    clear HC3
    try clear c1
    try clear p2
    try clear c3
    try clear c7
    try clear c8
    try clear c10
    try clear c11
    try clear c14
    try clear c17
    try clear c18
    try clear hcz12_0
    try clear hcz12_1
    try clear hcz15_0
    try clear hcz15_1
    try clear hcz19_0
    try clear hcz19_1
    try clear hfz12_0
    try clear hfz12_1
    try clear hfz15_0
    try clear hfz15_1
    try clear hfz19_0
    try clear hfz19_1
    obtain ⟨kq, x6_2, rfl, HA, HJ2, BK1183, BK1184, BK1185, HB⟩ := hcut
    cases kq with
    | zero => exact absurd HA.out (by simp [spec_LatticeOf.j0])
    | succ kj2 =>
      have H := HA.out
      clear HA
      simp only [spec_LatticeOf.j0] at H
      by_cases c21 : x6_2 = true
      · subst c21
        have H1 : (some (0, 0, 0, 1)) = some (r1, r2, r3, r4) := by rw [if_pos rfl] at H; exact H
        clear H
        have H := H1
        clear H1
        simp only [Option.some.injEq, Prod.mk.injEq] at H
        obtain ⟨rfl, rfl, rfl, rfl⟩ := H
        have hnb22 := NB1185_1183.out
        have hnc22 := NB1183_1185.out
        have hnb23 := NB1185_1184.out
        have hnc23 := NB1184_1185.out
        have hcz24_0 : wc.cell? ⟨gb1185, 0, none⟩ = some (.int .i64 0) := (blk_cell BK1185.out 0).trans rfl
        have hcz24_1 : wc.cell? ⟨gb1185, 1, none⟩ = some (.int .i64 0) := (blk_cell BK1185.out 1).trans rfl
        have hcz24_2 : wc.cell? ⟨gb1185, 2, none⟩ = some (.int .i64 0) := (blk_cell BK1185.out 2).trans rfl
        have hfz24_0 := blk_frozen BK1185.out 0
        have hfz24_1 := blk_frozen BK1185.out 1
        have hfz24_2 := blk_frozen BK1185.out 2
        go_wp2
        refine bodyPost_ret (results_ct rfl _ _ gb1185 66 #[.int .i64 0, .int .i64 0, .int .i64 0] (0, 0) _ rfl (by (with_reducible repeat (first | refine blk_drewN ?_ _ | refine blk_drew ?_ | refine blk_alloc ?_ _)); refine blk_put (cs := #[.int .i64 0, .int .i64 0, .int .i64 0]) ?_ 2 _ rfl; (with_reducible repeat (first | refine blk_drewN ?_ _ | refine blk_drew ?_ | refine blk_alloc ?_ _)); refine blk_put (cs := #[.int .i64 0, .int .i64 0, .int .i64 0]) ?_ 1 _ rfl; (with_reducible repeat (first | refine blk_drewN ?_ _ | refine blk_drew ?_ | refine blk_alloc ?_ _)); refine blk_put (cs := #[.int .i64 0, .int .i64 0, .int .i64 0]) ?_ 0 _ rfl; (with_reducible repeat (first | refine blk_drewN ?_ _ | refine blk_drew ?_ | refine blk_alloc ?_ _)); exact BK1185.out) Try.underlying66 rfl (by kernel_rfl)) rfl ?_
        exact ⟨by first | rfl | (simp [errW_none, errW_some] <;> rfl) | (simp [*, errW_none, errW_some] <;> rfl), by repeat (first | (with_reducible first | exact HB.out | apply below_alloc | apply pw_below_drewN | apply below_drew1 | refine below_set ?_ GE1183.out | refine below_set ?_ GE1184.out | refine below_set ?_ GE1185.out) | exact HB.out)⟩
      · replace c21 := Bool.eq_false_iff.mpr c21
        subst c21
        have H1 : ((spec_l01Det.f a0_0 a0_1 a1_0 a1_1).bind fun t1188 => (if t1188 = 0 then (some (0, 0, 0, 5)) else ((spec_l03Hermite.f kj2 (([(⟨a0_0, a0_1⟩ : S25), (⟨a1_0, a1_1⟩ : S25)] : List (S25)))).bind fun bt1192 => ((spec_l03Result.f bt1192.1 bt1192.2.1 bt1192.2.2).bind fun bt1195 => (some (bt1195.1, bt1195.2.1, bt1195.2.2.1, bt1195.2.2.2)))))) = some (r1, r2, r3, r4) := by rw [if_neg (show ¬ (false = true) by decide)] at H; exact H
        clear H
        have H := H1
        clear H1
        replace H := Option.bind_eq_some_iff.mp H
        obtain ⟨t1188, A250, H⟩ := H
        replace H : (if t1188 = 0 then (some (0, 0, 0, 5)) else ((spec_l03Hermite.f kj2 (([(⟨a0_0, a0_1⟩ : S25), (⟨a1_0, a1_1⟩ : S25)] : List (S25)))).bind fun bt1192 => ((spec_l03Result.f bt1192.1 bt1192.2.1 bt1192.2.2).bind fun bt1195 => (some (bt1195.1, bt1195.2.1, bt1195.2.2.1, bt1195.2.2.2))))) = some (r1, r2, r3, r4) := H
        have A25 := Aside0.mk A250
        clear A250
        by_cases c26 : t1188 = 0
        · rw [if_pos c26] at H
          have c26b0 : (t1188 == 0) = true := beq_iff_eq.mpr c26
          have c26b1 : (t1188 != 0) = false := bne_eq_false_iff_eq.mpr c26
          clear c26
          simp only [Option.some.injEq, Prod.mk.injEq] at H
          obtain ⟨rfl, rfl, rfl, rfl⟩ := H
          have hnb27 := NB1183_1184.out
          have hnc27 := NB1184_1183.out
          have hnb28 := NB1183_1185.out
          have hnc28 := NB1185_1183.out
          have hcz29_0 : wc.cell? ⟨gb1183, 0, none⟩ = some (.int .i64 a0_0) := (blk_cell BK1183.out 0).trans rfl
          have hcz29_1 : wc.cell? ⟨gb1183, 1, none⟩ = some (.int .i64 a0_1) := (blk_cell BK1183.out 1).trans rfl
          have hfz29_0 := blk_frozen BK1183.out 0
          have hfz29_1 := blk_frozen BK1183.out 1
          have hnb30 := NB1184_1185.out
          have hnc30 := NB1185_1184.out
          have hcz31_0 : wc.cell? ⟨gb1184, 0, none⟩ = some (.int .i64 a1_0) := (blk_cell BK1184.out 0).trans rfl
          have hcz31_1 : wc.cell? ⟨gb1184, 1, none⟩ = some (.int .i64 a1_1) := (blk_cell BK1184.out 1).trans rfl
          have hfz31_0 := blk_frozen BK1184.out 0
          have hfz31_1 := blk_frozen BK1184.out 1
          go_wp2_with (first | ((with_reducible refine gate_callee (f := 138) rfl ?_); refine goesL_ (some 19) rfl rfl Try.func138 (by kernel_rfl) rfl #[.agg #[.int .i64 a0_0, .int .i64 a0_1], .agg #[.int .i64 a1_0, .int .i64 a1_1]] rfl (by (try simp only [List.map_toArray, List.map_cons, List.map_nil]); first | done | rfl | (simp only [List.length_drop, List.length_take]; rfl)) ?_; (with_reducible refine (spec_l01Det.calls a0_0 a0_1 a1_0 a1_1 t1188 _ A25.out).mono ?_); rintro e w32 ⟨rfl, hb⟩; refine ⟨_, rfl, ?_⟩; have n0_ := Aside0.mk (blk_below (g := gb1183) (o := .cells #[.int .i64 a0_0, .int .i64 a0_1] 25 (0, 0)) (by (with_reducible repeat (first | refine blk_drewN ?_ _ | refine blk_drew ?_ | refine blk_alloc ?_ _)); exact BK1183.out) hb); have n1_ := Aside0.mk (blk_below (g := gb1184) (o := .cells #[.int .i64 a1_0, .int .i64 a1_1] 25 (0, 0)) (by (with_reducible repeat (first | refine blk_drewN ?_ _ | refine blk_drew ?_ | refine blk_alloc ?_ _)); exact BK1184.out) hb); have n2_ := Aside0.mk (blk_below (g := gb1185) (o := .cells #[.int .i64 0, .int .i64 0, .int .i64 0] 66 (0, 0)) (by (with_reducible repeat (first | refine blk_drewN ?_ _ | refine blk_drew ?_ | refine blk_alloc ?_ _)); exact BK1185.out) hb); have n3_ := Aside0.mk (below_step (by repeat (first | (with_reducible first | exact HB.out | apply below_alloc | apply pw_below_drewN | apply below_drew1 | refine below_set ?_ GE1183.out | refine below_set ?_ GE1184.out | refine below_set ?_ GE1185.out) | exact HB.out)) hb); clear BK1183; clear BK1184; clear BK1185; clear HB; have BK1183 := n0_; have BK1184 := n1_; have BK1185 := n2_; have HB := n3_; clear n0_ n1_ n2_ n3_; (try clear hb); (try clear hb2); (try clear hk); (try clear hi); have hcz33_0 : w32.cell? ⟨gb1185, 0, none⟩ = some (.int .i64 0) := (blk_cell BK1185.out 0).trans rfl; have hcz33_1 : w32.cell? ⟨gb1185, 1, none⟩ = some (.int .i64 0) := (blk_cell BK1185.out 1).trans rfl; have hcz33_2 : w32.cell? ⟨gb1185, 2, none⟩ = some (.int .i64 0) := (blk_cell BK1185.out 2).trans rfl; have hfz33_0 := blk_frozen BK1185.out 0; have hfz33_1 := blk_frozen BK1185.out 1; have hfz33_2 := blk_frozen BK1185.out 2))
          refine bodyPost_ret (results_ct rfl _ _ gb1185 66 #[.int .i64 0, .int .i64 0, .int .i64 0] (0, 0) _ rfl (by (with_reducible repeat (first | refine blk_drewN ?_ _ | refine blk_drew ?_ | refine blk_alloc ?_ _)); refine blk_put (cs := #[.int .i64 0, .int .i64 0, .int .i64 0]) ?_ 2 _ rfl; (with_reducible repeat (first | refine blk_drewN ?_ _ | refine blk_drew ?_ | refine blk_alloc ?_ _)); refine blk_put (cs := #[.int .i64 0, .int .i64 0, .int .i64 0]) ?_ 1 _ rfl; (with_reducible repeat (first | refine blk_drewN ?_ _ | refine blk_drew ?_ | refine blk_alloc ?_ _)); refine blk_put (cs := #[.int .i64 0, .int .i64 0, .int .i64 0]) ?_ 0 _ rfl; (with_reducible repeat (first | refine blk_drewN ?_ _ | refine blk_drew ?_ | refine blk_alloc ?_ _)); exact BK1185.out) Try.underlying66 rfl (by kernel_rfl)) rfl ?_
          exact ⟨by first | rfl | (simp [errW_none, errW_some] <;> rfl) | (simp [*, errW_none, errW_some] <;> rfl), by repeat (first | (with_reducible first | exact HB.out | apply below_alloc | apply pw_below_drewN | apply below_drew1 | refine below_set ?_ GE1183.out | refine below_set ?_ GE1184.out | refine below_set ?_ GE1185.out) | exact HB.out)⟩
        · rw [if_neg c26] at H
          have c26b0 : (t1188 == 0) = false := beq_eq_false_iff_ne.mpr c26
          have c26b1 : (t1188 != 0) = true := bne_iff_ne.mpr c26
          obtain ⟨y1189, hy1189⟩ : ∃ y_ : List (S25), y_ = (([(⟨a0_0, a0_1⟩ : S25), (⟨a1_0, a1_1⟩ : S25)] : List (S25))) := ⟨_, rfl⟩
          replace H : ((spec_l03Hermite.f kj2 y1189).bind fun bt1192 => ((spec_l03Result.f bt1192.1 bt1192.2.1 bt1192.2.2).bind fun bt1195 => (some (bt1195.1, bt1195.2.1, bt1195.2.2.1, bt1195.2.2.2)))) = some (r1, r2, r3, r4) := by first | (rw [hy1189]; with_reducible exact H) | (have H2_ := (Option.bind_some _ _).symm.trans H; rw [hy1189]; with_reducible exact H2_) | (have H2_ := (Option.bind_some _ _).symm.trans H; with_reducible exact H2_) | with_reducible exact H | (rw [hy1189]; exact H) | exact H
          have Ny1189 := Aside0.mk hy1189
          clear hy1189
          replace H := Option.bind_eq_some_iff.mp H
          obtain ⟨⟨t1192, t1193, t1194⟩, A340, H⟩ := H
          replace H : ((spec_l03Result.f t1192 t1193 t1194).bind fun bt1195 => (some (bt1195.1, bt1195.2.1, bt1195.2.2.1, bt1195.2.2.2))) = some (r1, r2, r3, r4) := H
          have A34 := Aside0.mk A340
          clear A340
          replace H := Option.bind_eq_some_iff.mp H
          obtain ⟨⟨t1195, t1196, t1197, t1198⟩, A350, H⟩ := H
          replace H : (some (t1195, t1196, t1197, t1198)) = some (r1, r2, r3, r4) := H
          have A35 := Aside0.mk A350
          clear A350
          simp only [Option.some.injEq, Prod.mk.injEq] at H
          obtain ⟨rfl, rfl, rfl, rfl⟩ := H
          have hnb36 := NB1183_1184.out
          have hnc36 := NB1184_1183.out
          have hnb37 := NB1183_1185.out
          have hnc37 := NB1185_1183.out
          have hcz38_0 : wc.cell? ⟨gb1183, 0, none⟩ = some (.int .i64 a0_0) := (blk_cell BK1183.out 0).trans rfl
          have hcz38_1 : wc.cell? ⟨gb1183, 1, none⟩ = some (.int .i64 a0_1) := (blk_cell BK1183.out 1).trans rfl
          have hfz38_0 := blk_frozen BK1183.out 0
          have hfz38_1 := blk_frozen BK1183.out 1
          have hnb39 := NB1184_1185.out
          have hnc39 := NB1185_1184.out
          have hcz40_0 : wc.cell? ⟨gb1184, 0, none⟩ = some (.int .i64 a1_0) := (blk_cell BK1184.out 0).trans rfl
          have hcz40_1 : wc.cell? ⟨gb1184, 1, none⟩ = some (.int .i64 a1_1) := (blk_cell BK1184.out 1).trans rfl
          have hfz40_0 := blk_frozen BK1184.out 0
          have hfz40_1 := blk_frozen BK1184.out 1
          go_wp2_with (first | ((with_reducible refine gate_callee (f := 138) rfl ?_); refine goesL_ (some 19) rfl rfl Try.func138 (by kernel_rfl) rfl #[.agg #[.int .i64 a0_0, .int .i64 a0_1], .agg #[.int .i64 a1_0, .int .i64 a1_1]] rfl (by (try simp only [List.map_toArray, List.map_cons, List.map_nil]); first | done | rfl | (simp only [List.length_drop, List.length_take]; rfl)) ?_; (with_reducible refine (spec_l01Det.calls a0_0 a0_1 a1_0 a1_1 t1188 _ A25.out).mono ?_); rintro e w41 ⟨rfl, hb⟩; refine ⟨_, rfl, ?_⟩; have n0_ := Aside0.mk (blk_below (g := gb1183) (o := .cells #[.int .i64 a0_0, .int .i64 a0_1] 25 (0, 0)) (by (with_reducible repeat (first | refine blk_drewN ?_ _ | refine blk_drew ?_ | refine blk_alloc ?_ _)); exact BK1183.out) hb); have n1_ := Aside0.mk (blk_below (g := gb1184) (o := .cells #[.int .i64 a1_0, .int .i64 a1_1] 25 (0, 0)) (by (with_reducible repeat (first | refine blk_drewN ?_ _ | refine blk_drew ?_ | refine blk_alloc ?_ _)); exact BK1184.out) hb); have n2_ := Aside0.mk (blk_below (g := gb1185) (o := .cells #[.int .i64 0, .int .i64 0, .int .i64 0] 66 (0, 0)) (by (with_reducible repeat (first | refine blk_drewN ?_ _ | refine blk_drew ?_ | refine blk_alloc ?_ _)); exact BK1185.out) hb); have n3_ := Aside0.mk (below_step (by repeat (first | (with_reducible first | exact HB.out | apply below_alloc | apply pw_below_drewN | apply below_drew1 | refine below_set ?_ GE1183.out | refine below_set ?_ GE1184.out | refine below_set ?_ GE1185.out) | exact HB.out)) hb); clear BK1183; clear BK1184; clear BK1185; clear HB; have BK1183 := n0_; have BK1184 := n1_; have BK1185 := n2_; have HB := n3_; clear n0_ n1_ n2_ n3_; (try clear hb); (try clear hb2); (try clear hk); (try clear hi); have hcz42_0 : w41.cell? ⟨gb1183, 0, none⟩ = some (.int .i64 a0_0) := (blk_cell BK1183.out 0).trans rfl; have hcz42_1 : w41.cell? ⟨gb1183, 1, none⟩ = some (.int .i64 a0_1) := (blk_cell BK1183.out 1).trans rfl; have hfz42_0 := blk_frozen BK1183.out 0; have hfz42_1 := blk_frozen BK1183.out 1; have hcz43_0 : w41.cell? ⟨gb1184, 0, none⟩ = some (.int .i64 a1_0) := (blk_cell BK1184.out 0).trans rfl; have hcz43_1 : w41.cell? ⟨gb1184, 1, none⟩ = some (.int .i64 a1_1) := (blk_cell BK1184.out 1).trans rfl; have hfz43_0 := blk_frozen BK1184.out 0; have hfz43_1 := blk_frozen BK1184.out 1) | ((with_reducible refine gate_dst (N := 24) rfl ?_); refine Kd.R_lit k25 _ 25 ?hg (N := 24) ?hd (xs := ([(⟨a0_0, a0_1⟩ : S25), (⟨a1_0, a1_1⟩ : S25)] : List (S25))) (inner := [.int .i64 a0_0, .int .i64 a0_1, .int .i64 a1_0, .int .i64 a1_1]) (ok := fun _ => True) (okp := fun _ => True) ?hr ?hp (fun _ hk => hk) trivial (Below.refl _ _) (Nat.le_refl _) (by simp) ?_; (case hd => rfl); (case hg => rfl); (case hr => first | (go_simp; done) | (go_simp; rfl)); (case hp => exact (Reps.c2 (show Kd.M k25 _ _ _ (⟨a0_0, a0_1⟩ : S25) [.int .i64 a0_0, .int .i64 a0_1] from (k25_mkM _ _ _ (⟨a0_0, a0_1⟩ : S25) )) (Reps.c2 (show Kd.M k25 _ _ _ (⟨a1_0, a1_1⟩ : S25) [.int .i64 a1_0, .int .i64 a1_1] from (k25_mkM _ _ _ (⟨a1_0, a1_1⟩ : S25) )) (Reps.none _ _)))); intro v1190 w44 ho45 hb hg_ hnew_; clear hg_ hnew_; (first | rw [← Ny1189.out] at ho45 | (simp only [Int.reduceToNat] at ho45; rw [← Ny1189.out] at ho45)); have n0_ := Aside0.mk (Kd.R_lower (Kd.R_newB (Kd.R_newB ho45 (g := gb1183) (o := .cells #[.int .i64 a0_0, .int .i64 a0_1] 25 (0, 0)) (by (with_reducible repeat (first | refine blk_drewN ?_ _ | refine blk_drew ?_ | refine blk_alloc ?_ _)); exact BK1183.out)) (g := gb1184) (o := .cells #[.int .i64 a1_0, .int .i64 a1_1] 25 (0, 0)) (by (with_reducible repeat (first | refine blk_drewN ?_ _ | refine blk_drew ?_ | refine blk_alloc ?_ _)); exact BK1184.out)) (below_size (by repeat (first | (with_reducible first | exact HB.out | apply below_alloc | apply pw_below_drewN | apply below_drew1 | refine below_set ?_ GE1183.out | refine below_set ?_ GE1184.out | refine below_set ?_ GE1185.out) | exact HB.out)))); have n1_ := Aside0.mk (blk_below (g := gb1183) (o := .cells #[.int .i64 a0_0, .int .i64 a0_1] 25 (0, 0)) (by (with_reducible repeat (first | refine blk_drewN ?_ _ | refine blk_drew ?_ | refine blk_alloc ?_ _)); exact BK1183.out) hb); have n2_ := Aside0.mk (blk_below (g := gb1184) (o := .cells #[.int .i64 a1_0, .int .i64 a1_1] 25 (0, 0)) (by (with_reducible repeat (first | refine blk_drewN ?_ _ | refine blk_drew ?_ | refine blk_alloc ?_ _)); exact BK1184.out) hb); have n3_ := Aside0.mk (blk_below (g := gb1185) (o := .cells #[.int .i64 0, .int .i64 0, .int .i64 0] 66 (0, 0)) (by (with_reducible repeat (first | refine blk_drewN ?_ _ | refine blk_drew ?_ | refine blk_alloc ?_ _)); exact BK1185.out) hb); have n4_ := Aside0.mk (below_step (by repeat (first | (with_reducible first | exact HB.out | apply below_alloc | apply pw_below_drewN | apply below_drew1 | refine below_set ?_ GE1183.out | refine below_set ?_ GE1184.out | refine below_set ?_ GE1185.out) | exact HB.out)) hb); clear BK1183; clear BK1184; clear BK1185; clear HB; have HO1191 := n0_; have BK1183 := n1_; have BK1184 := n2_; have BK1185 := n3_; have HB := n4_; clear n0_ n1_ n2_ n3_ n4_; clear hb ho45; obtain ⟨Ao46, co46, eo46⟩ := Kd.R_slice HO1191.out; subst eo46) | ((with_reducible refine gate_callee (f := 168) rfl ?_); refine goesL_ (some 25) rfl rfl Try.func168 (by kernel_rfl) rfl #[.slice Ao46 y1189.length co46] rfl (by (try simp only [List.map_toArray, List.map_cons, List.map_nil]); first | done | rfl | (simp only [List.length_drop, List.length_take]; rfl)) ?_; (with_reducible refine (spec_l03Hermite.calls kj2 _ _ y1189 t1192 t1193 t1194 _ ?side1 ?side2 A34.out).mono ?_); (case side1 => repeat (first | exact (Kd.R_reads' HO1191.out).2.2 | (with_reducible refine Kd.C_alloc ?_ _) | (with_reducible refine Kd.C_drewN ?_ _) | (with_reducible refine Kd.C_drew ?_))); (case side2 => exact (Kd.R_reads' HO1191.out).2.1); rintro e w47 ⟨rfl, hb⟩; refine ⟨_, rfl, ?_⟩; have n0_ := Aside0.mk (Kd.R_below (by (with_reducible repeat (first | apply Kd.R_alloc | apply Kd.R_drewN | apply Kd.R_drew)); exact HO1191.out) hb); have n1_ := Aside0.mk (blk_below (g := gb1183) (o := .cells #[.int .i64 a0_0, .int .i64 a0_1] 25 (0, 0)) (by (with_reducible repeat (first | refine blk_drewN ?_ _ | refine blk_drew ?_ | refine blk_alloc ?_ _)); exact BK1183.out) hb); have n2_ := Aside0.mk (blk_below (g := gb1184) (o := .cells #[.int .i64 a1_0, .int .i64 a1_1] 25 (0, 0)) (by (with_reducible repeat (first | refine blk_drewN ?_ _ | refine blk_drew ?_ | refine blk_alloc ?_ _)); exact BK1184.out) hb); have n3_ := Aside0.mk (blk_below (g := gb1185) (o := .cells #[.int .i64 0, .int .i64 0, .int .i64 0] 66 (0, 0)) (by (with_reducible repeat (first | refine blk_drewN ?_ _ | refine blk_drew ?_ | refine blk_alloc ?_ _)); exact BK1185.out) hb); have n4_ := Aside0.mk (below_step (by repeat (first | (with_reducible first | exact HB.out | apply below_alloc | apply pw_below_drewN | apply below_drew1 | refine below_set ?_ GE1183.out | refine below_set ?_ GE1184.out | refine below_set ?_ GE1185.out) | exact HB.out)) hb); clear HO1191; clear BK1183; clear BK1184; clear BK1185; clear HB; have HO1191 := n0_; have BK1183 := n1_; have BK1184 := n2_; have BK1185 := n3_; have HB := n4_; clear n0_ n1_ n2_ n3_ n4_; (try clear hb); (try clear hb2); (try clear hk); (try clear hi)) | ((with_reducible refine gate_callee (f := 173) rfl ?_); refine goesL_ (some 26) rfl rfl Try.func173 (by kernel_rfl) rfl #[.agg #[.int .i64 t1192, .int .i64 t1193, .int .i64 t1194]] rfl (by (try simp only [List.map_toArray, List.map_cons, List.map_nil]); first | done | rfl | (simp only [List.length_drop, List.length_take]; rfl)) ?_; (with_reducible refine (spec_l03Result.calls t1192 t1193 t1194 t1195 t1196 t1197 t1198 _ A35.out).mono ?_); rintro e w48 ⟨rfl, hb⟩; refine ⟨_, rfl, ?_⟩; have n0_ := Aside0.mk (Kd.R_below (by (with_reducible repeat (first | apply Kd.R_alloc | apply Kd.R_drewN | apply Kd.R_drew)); exact HO1191.out) hb); have n1_ := Aside0.mk (blk_below (g := gb1183) (o := .cells #[.int .i64 a0_0, .int .i64 a0_1] 25 (0, 0)) (by (with_reducible repeat (first | refine blk_drewN ?_ _ | refine blk_drew ?_ | refine blk_alloc ?_ _)); exact BK1183.out) hb); have n2_ := Aside0.mk (blk_below (g := gb1184) (o := .cells #[.int .i64 a1_0, .int .i64 a1_1] 25 (0, 0)) (by (with_reducible repeat (first | refine blk_drewN ?_ _ | refine blk_drew ?_ | refine blk_alloc ?_ _)); exact BK1184.out) hb); have n3_ := Aside0.mk (blk_below (g := gb1185) (o := .cells #[.int .i64 0, .int .i64 0, .int .i64 0] 66 (0, 0)) (by (with_reducible repeat (first | refine blk_drewN ?_ _ | refine blk_drew ?_ | refine blk_alloc ?_ _)); exact BK1185.out) hb); have n4_ := Aside0.mk (below_step (by repeat (first | (with_reducible first | exact HB.out | apply below_alloc | apply pw_below_drewN | apply below_drew1 | refine below_set ?_ GE1183.out | refine below_set ?_ GE1184.out | refine below_set ?_ GE1185.out) | exact HB.out)) hb); clear HO1191; clear BK1183; clear BK1184; clear BK1185; clear HB; have HO1191 := n0_; have BK1183 := n1_; have BK1184 := n2_; have BK1185 := n3_; have HB := n4_; clear n0_ n1_ n2_ n3_ n4_; (try clear hb); (try clear hb2); (try clear hk); (try clear hi); have hcz49_0 : w48.cell? ⟨gb1185, 0, none⟩ = some (.int .i64 0) := (blk_cell BK1185.out 0).trans rfl; have hcz49_1 : w48.cell? ⟨gb1185, 1, none⟩ = some (.int .i64 0) := (blk_cell BK1185.out 1).trans rfl; have hcz49_2 : w48.cell? ⟨gb1185, 2, none⟩ = some (.int .i64 0) := (blk_cell BK1185.out 2).trans rfl; have hfz49_0 := blk_frozen BK1185.out 0; have hfz49_1 := blk_frozen BK1185.out 1; have hfz49_2 := blk_frozen BK1185.out 2))
          refine bodyPost_ret (results_ct rfl _ _ gb1185 66 #[.int .i64 t1195, .int .i64 t1196, .int .i64 t1197] (0, 0) _ rfl (by (with_reducible repeat (first | refine blk_drewN ?_ _ | refine blk_drew ?_ | refine blk_alloc ?_ _)); refine blk_put (cs := #[.int .i64 t1195, .int .i64 t1196, .int .i64 0]) ?_ 2 _ rfl; (with_reducible repeat (first | refine blk_drewN ?_ _ | refine blk_drew ?_ | refine blk_alloc ?_ _)); refine blk_put (cs := #[.int .i64 t1195, .int .i64 0, .int .i64 0]) ?_ 1 _ rfl; (with_reducible repeat (first | refine blk_drewN ?_ _ | refine blk_drew ?_ | refine blk_alloc ?_ _)); refine blk_put (cs := #[.int .i64 0, .int .i64 0, .int .i64 0]) ?_ 0 _ rfl; (with_reducible repeat (first | refine blk_drewN ?_ _ | refine blk_drew ?_ | refine blk_alloc ?_ _)); exact BK1185.out) Try.underlying66 rfl (by kernel_rfl)) rfl ?_
          exact ⟨by first | rfl | (simp [errW_none, errW_some] <;> rfl) | (simp [*, errW_none, errW_some] <;> rfl), by repeat (first | (with_reducible first | exact HB.out | apply below_alloc | apply pw_below_drewN | apply below_drew1 | refine below_set ?_ GE1183.out | refine below_set ?_ GE1184.out | refine below_set ?_ GE1185.out) | exact HB.out)⟩

end Go.Proofs.Ytjjbjaagfjljnaa.F

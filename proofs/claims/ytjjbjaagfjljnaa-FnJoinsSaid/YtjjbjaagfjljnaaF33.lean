import Derived.Test.YtjjbjaagfjljnaaF0
import Derived.Test.YtjjbjaagfjljnaaF1
import Derived.Test.YtjjbjaagfjljnaaF26
import Derived.Test.YtjjbjaagfjljnaaF28
import Derived.Test.YtjjbjaagfjljnaaF32
namespace Go.Proofs.Ytjjbjaagfjljnaa.F
open Go.RowKit Go.Proofs.YtjjbjaagfjljnaaW.PrintWords Go.Proofs.YtjjbjaagfjljnaaW.PrintLast Go.Proofs.YtjjbjaagfjljnaaW.PrintMore
attribute [local go_sem] max2_int min2_int max_two min_two max_three min_three max_four min_four   -- for this text's walks alone
set_option linter.unusedVariables false
set_option linter.unusedSimpArgs false

/-! ### spec_MeetLattices: function 66 -/
mutual
def spec_MeetLattices.j0 : Nat → Bool → Int → Int → Int → Int → Int → Int → Option (Int × Int × Int × Int)
  | 0, _, _, _, _, _, _, _ => none
  | k + 1, x17, x987000, x987001, x987002, x988000, x988001, x988002 => if x17 = true then (some (0, 0, 0, 1)) else (spec_MeetLattices.l0 k 1 x987000 x987001 x987002 x988000 x988001 x988002)
def spec_MeetLattices.l0 : Nat → Int → Int → Int → Int → Int → Int → Int → Option (Int × Int × Int × Int)
  | 0, _, _, _, _, _, _, _ => none
  | k + 1, x6, x987000, x987001, x987002, x988000, x988001, x988002 => (spec_l03Has.f x987000 x987001 x987002 x6 0).bind fun t991 => (if t991 = true then ((spec_l03Has.f x988000 x988001 x988002 x6 0).bind fun t992 => (if t992 = true then (spec_MeetLattices.l1 k x6 1 x987000 x987001 x987002 x988000 x988001 x988002) else (spec_MeetLattices.l0 k (wrap64 (x6 + 1)) x987000 x987001 x987002 x988000 x988001 x988002))) else (spec_MeetLattices.l0 k (wrap64 (x6 + 1)) x987000 x987001 x987002 x988000 x988001 x988002))
def spec_MeetLattices.l1 : Nat → Int → Int → Int → Int → Int → Int → Int → Int → Option (Int × Int × Int × Int)
  | 0, _, _, _, _, _, _, _, _ => none
  | k + 1, x6, x7, x987000, x987001, x987002, x988000, x988001, x988002 => spec_MeetLattices.l2 k x6 x7 0 x987000 x987001 x987002 x988000 x988001 x988002
def spec_MeetLattices.l2 : Nat → Int → Int → Int → Int → Int → Int → Int → Int → Int → Option (Int × Int × Int × Int)
  | 0, _, _, _, _, _, _, _, _, _ => none
  | k + 1, x6, x7, x8, x987000, x987001, x987002, x988000, x988001, x988002 => if x8 < x6 then ((spec_l03Has.f x987000 x987001 x987002 x8 x7).bind fun t994 => (if t994 = true then ((spec_l03Has.f x988000 x988001 x988002 x8 x7).bind fun t995 => (if t995 = true then ((spec_l03Result.f x6 x8 x7).bind fun bt996 => (some (bt996.1, bt996.2.1, bt996.2.2.1, bt996.2.2.2))) else (spec_MeetLattices.l2 k x6 x7 (wrap64 (x8 + 1)) x987000 x987001 x987002 x988000 x988001 x988002))) else (spec_MeetLattices.l2 k x6 x7 (wrap64 (x8 + 1)) x987000 x987001 x987002 x988000 x988001 x988002))) else (spec_MeetLattices.l1 k x6 (wrap64 (x7 + 1)) x987000 x987001 x987002 x988000 x988001 x988002)
end
def spec_MeetLattices.f (k : Nat) (a0_0 : Int) (a0_1 : Int) (a0_2 : Int) (a1_0 : Int) (a1_1 : Int) (a1_2 : Int) : Option (Int × Int × Int × Int) := (spec_IsLattice.f a0_0 a0_1 a0_2).bind fun t989 => (if t989 = true then ((spec_IsLattice.f a1_0 a1_1 a1_2).bind fun t990 => (spec_MeetLattices.j0 k (!t990) a0_0 a0_1 a0_2 a1_0 a1_1 a1_2)) else (spec_MeetLattices.j0 k true a0_0 a0_1 a0_2 a1_0 a1_1 a1_2))
theorem spec_MeetLattices.mono_l : ∀ k, (∀ y0 y1 y2 y3 y4 y5 y6, LeO (spec_MeetLattices.j0 k y0 y1 y2 y3 y4 y5 y6) (spec_MeetLattices.j0 (k + 1) y0 y1 y2 y3 y4 y5 y6)) ∧ (∀ y0 y1 y2 y3 y4 y5 y6, LeO (spec_MeetLattices.l0 k y0 y1 y2 y3 y4 y5 y6) (spec_MeetLattices.l0 (k + 1) y0 y1 y2 y3 y4 y5 y6)) ∧ (∀ y0 y1 y2 y3 y4 y5 y6 y7, LeO (spec_MeetLattices.l1 k y0 y1 y2 y3 y4 y5 y6 y7) (spec_MeetLattices.l1 (k + 1) y0 y1 y2 y3 y4 y5 y6 y7)) ∧ (∀ y0 y1 y2 y3 y4 y5 y6 y7 y8, LeO (spec_MeetLattices.l2 k y0 y1 y2 y3 y4 y5 y6 y7 y8) (spec_MeetLattices.l2 (k + 1) y0 y1 y2 y3 y4 y5 y6 y7 y8))
  | 0 => ⟨fun _ _ _ _ _ _ _ r h => by simp [spec_MeetLattices.j0] at h, fun _ _ _ _ _ _ _ r h => by simp [spec_MeetLattices.l0] at h, fun _ _ _ _ _ _ _ _ r h => by simp [spec_MeetLattices.l1] at h, fun _ _ _ _ _ _ _ _ _ r h => by simp [spec_MeetLattices.l2] at h⟩
  | k + 1 => by
    obtain ⟨ih0, ih1, ih2, ih3⟩ := spec_MeetLattices.mono_l k
    refine ⟨?_, ?_, ?_, ?_⟩
    · intro y0 y1 y2 y3 y4 y5 y6
      unfold spec_MeetLattices.j0
      repeat' first
      | (with_reducible exact ih0 _ _ _ _ _ _ _)
      | (with_reducible exact ih1 _ _ _ _ _ _ _)
      | (with_reducible exact ih2 _ _ _ _ _ _ _ _)
      | (with_reducible exact ih3 _ _ _ _ _ _ _ _ _)
      | (with_reducible exact LeO.refl _)
      | (with_reducible exact LeO.none _)
      | (with_reducible refine LeO.ite ?_ ?_)
      | (with_reducible refine LeO.bind ?_ (fun _ => ?_))
      | exact ih0 _ _ _ _ _ _ _
      | exact ih1 _ _ _ _ _ _ _
      | exact ih2 _ _ _ _ _ _ _ _
      | exact ih3 _ _ _ _ _ _ _ _ _
      | exact LeO.none _
      | refine LeO.ite ?_ ?_
      | refine LeO.bind ?_ (fun _ => ?_)
    · intro y0 y1 y2 y3 y4 y5 y6
      unfold spec_MeetLattices.l0
      repeat' first
      | (with_reducible exact ih0 _ _ _ _ _ _ _)
      | (with_reducible exact ih1 _ _ _ _ _ _ _)
      | (with_reducible exact ih2 _ _ _ _ _ _ _ _)
      | (with_reducible exact ih3 _ _ _ _ _ _ _ _ _)
      | (with_reducible exact LeO.refl _)
      | (with_reducible exact LeO.none _)
      | (with_reducible refine LeO.ite ?_ ?_)
      | (with_reducible refine LeO.bind ?_ (fun _ => ?_))
      | exact ih0 _ _ _ _ _ _ _
      | exact ih1 _ _ _ _ _ _ _
      | exact ih2 _ _ _ _ _ _ _ _
      | exact ih3 _ _ _ _ _ _ _ _ _
      | exact LeO.none _
      | refine LeO.ite ?_ ?_
      | refine LeO.bind ?_ (fun _ => ?_)
    · intro y0 y1 y2 y3 y4 y5 y6 y7
      unfold spec_MeetLattices.l1
      repeat' first
      | (with_reducible exact ih0 _ _ _ _ _ _ _)
      | (with_reducible exact ih1 _ _ _ _ _ _ _)
      | (with_reducible exact ih2 _ _ _ _ _ _ _ _)
      | (with_reducible exact ih3 _ _ _ _ _ _ _ _ _)
      | (with_reducible exact LeO.refl _)
      | (with_reducible exact LeO.none _)
      | (with_reducible refine LeO.ite ?_ ?_)
      | (with_reducible refine LeO.bind ?_ (fun _ => ?_))
      | exact ih0 _ _ _ _ _ _ _
      | exact ih1 _ _ _ _ _ _ _
      | exact ih2 _ _ _ _ _ _ _ _
      | exact ih3 _ _ _ _ _ _ _ _ _
      | exact LeO.none _
      | refine LeO.ite ?_ ?_
      | refine LeO.bind ?_ (fun _ => ?_)
    · intro y0 y1 y2 y3 y4 y5 y6 y7 y8
      unfold spec_MeetLattices.l2
      repeat' first
      | (with_reducible exact ih0 _ _ _ _ _ _ _)
      | (with_reducible exact ih1 _ _ _ _ _ _ _)
      | (with_reducible exact ih2 _ _ _ _ _ _ _ _)
      | (with_reducible exact ih3 _ _ _ _ _ _ _ _ _)
      | (with_reducible exact LeO.refl _)
      | (with_reducible exact LeO.none _)
      | (with_reducible refine LeO.ite ?_ ?_)
      | (with_reducible refine LeO.bind ?_ (fun _ => ?_))
      | exact ih0 _ _ _ _ _ _ _
      | exact ih1 _ _ _ _ _ _ _
      | exact ih2 _ _ _ _ _ _ _ _
      | exact ih3 _ _ _ _ _ _ _ _ _
      | exact LeO.none _
      | refine LeO.ite ?_ ?_
      | refine LeO.bind ?_ (fun _ => ?_)
theorem spec_MeetLattices.mono : ∀ a0 a1 a2 a3 a4 a5 k, LeO (spec_MeetLattices.f k a0 a1 a2 a3 a4 a5) (spec_MeetLattices.f (k + 1) a0 a1 a2 a3 a4 a5) := by
  intro a0 a1 a2 a3 a4 a5 k
  obtain ⟨ih0, ih1, ih2, ih3⟩ := spec_MeetLattices.mono_l k
  unfold spec_MeetLattices.f
  repeat' first
      | (with_reducible exact ih0 _ _ _ _ _ _ _)
      | (with_reducible exact ih1 _ _ _ _ _ _ _)
      | (with_reducible exact ih2 _ _ _ _ _ _ _ _)
      | (with_reducible exact ih3 _ _ _ _ _ _ _ _ _)
      | (with_reducible exact LeO.refl _)
      | (with_reducible exact LeO.none _)
      | (with_reducible refine LeO.ite ?_ ?_)
      | (with_reducible refine LeO.bind ?_ (fun _ => ?_))
      | exact ih0 _ _ _ _ _ _ _
      | exact ih1 _ _ _ _ _ _ _
      | exact ih2 _ _ _ _ _ _ _ _
      | exact ih3 _ _ _ _ _ _ _ _ _
      | exact LeO.none _
      | refine LeO.ite ?_ ?_
      | refine LeO.bind ?_ (fun _ => ?_)
set_option maxHeartbeats 8000000 in
set_option maxRecDepth 100000 in
theorem spec_MeetLattices.calls (k : Nat) (a0_0 : Int) (a0_1 : Int) (a0_2 : Int) (a1_0 : Int) (a1_1 : Int) (a1_2 : Int) (r1 : Int) (r2 : Int) (r3 : Int) (r4 : Int) (w : World) (h : spec_MeetLattices.f k a0_0 a0_1 a0_2 a1_0 a1_1 a1_2 = some (r1, r2, r3, r4)) :
    Calls Try.prog 66 #[.agg #[.int .i64 a0_0, .int .i64 a0_1, .int .i64 a0_2], .agg #[.int .i64 a1_0, .int .i64 a1_1, .int .i64 a1_2]] w fun e w' => e = .returned (.tuple #[.agg #[.int .i64 r1, .int .i64 r2, .int .i64 r3], .int .i64 r4]) ∧ Below w.heap.size w w' := by
  have hu66 := Try.underlying66
  have hu25 := Try.underlying25
  have HB := Aside0.mk (Below.refl w.heap.size w)
  have H : ((spec_IsLattice.f a0_0 a0_1 a0_2).bind fun t989 => (if t989 = true then ((spec_IsLattice.f a1_0 a1_1 a1_2).bind fun t990 => (spec_MeetLattices.j0 k (!t990) a0_0 a0_1 a0_2 a1_0 a1_1 a1_2)) else (spec_MeetLattices.j0 k true a0_0 a0_1 a0_2 a1_0 a1_1 a1_2))) = some (r1, r2, r3, r4) := h
  clear h
  have HC3 := Aside0.mk H
  clear H
  go_enter Try.func66, Try.ntmps66
  go_upto_region 1 with (first | ((with_reducible refine gate_dst (N := 2) rfl ?_); refine box_event ?hg (N := 2) ?hd (cs := #[.int .i64 a0_0, .int .i64 a0_1, .int .i64 a0_2]) (t := 66) ?hr ?_; (case hd => rfl); (case hg => rfl); (case hr => first | (go_simp; done) | (go_simp; rfl)); intro gb986 hg w4 hbox hb; have n0_ := Aside0.mk (below_step (by repeat (first | (with_reducible first | exact HB.out | apply below_alloc | apply pw_below_drewN | apply below_drew1) | exact HB.out)) hb); have n1_ := Aside0.mk (hbox); have n2_ := Aside0.mk ((by rw [hg]; exact (below_size (by repeat (first | (with_reducible first | exact HB.out | apply below_alloc | apply pw_below_drewN | apply below_drew1) | exact HB.out))) : w.heap.size ≤ gb986)); have n3_ := Aside0.mk ((by rw [hg]; exact (below_size (by repeat (first | (with_reducible first | exact HB.out | apply below_alloc | apply pw_below_drewN | apply below_drew1) | exact HB.out))) : w.heap.size ≤ gb986)); clear HB; have HB := n0_; have BK986 := n1_; have GW986 := n2_; have GE986 := n3_; clear n0_ n1_ n2_ n3_; clear hb hbox hg) | ((with_reducible refine gate_dst (N := 3) rfl ?_); refine box_event ?hg (N := 3) ?hd (cs := #[.int .i64 a1_0, .int .i64 a1_1, .int .i64 a1_2]) (t := 66) ?hr ?_; (case hd => rfl); (case hg => rfl); (case hr => first | (go_simp; done) | (go_simp; rfl)); intro gb987 hg w5 hbox hb; have n0_ := Aside0.mk (blk_below (g := gb986) (o := .cells #[.int .i64 a0_0, .int .i64 a0_1, .int .i64 a0_2] 66 (0, 0)) (by (with_reducible repeat (first | refine blk_drewN ?_ _ | refine blk_drew ?_ | refine blk_alloc ?_ _)); exact BK986.out) hb); have n1_ := Aside0.mk (below_step (by repeat (first | (with_reducible first | exact HB.out | apply below_alloc | apply pw_below_drewN | apply below_drew1 | refine below_set ?_ GE986.out) | exact HB.out)) hb); have n2_ := Aside0.mk (hbox); have n3_ := Aside0.mk ((by rw [hg]; exact (below_size (by repeat (first | (with_reducible first | exact HB.out | apply below_alloc | apply pw_below_drewN | apply below_drew1 | refine below_set ?_ GE986.out) | exact HB.out))) : w.heap.size ≤ gb987)); have n4_ := Aside0.mk ((by rw [hg]; exact (below_size (by repeat (first | (with_reducible first | exact HB.out | apply below_alloc | apply pw_below_drewN | apply below_drew1 | refine below_set ?_ GE986.out) | exact HB.out))) : w.heap.size ≤ gb987)); have n5_ := Aside0.mk ((by rw [hg]; exact Nat.ne_of_lt (blk_lt (g := gb986) (o := .cells #[.int .i64 a0_0, .int .i64 a0_1, .int .i64 a0_2] 66 (0, 0)) (by (with_reducible repeat (first | refine blk_drewN ?_ _ | refine blk_drew ?_ | refine blk_alloc ?_ _)); exact BK986.out)) : gb986 ≠ gb987)); have n6_ := Aside0.mk ((by rw [hg]; exact Nat.ne_of_gt (blk_lt (g := gb986) (o := .cells #[.int .i64 a0_0, .int .i64 a0_1, .int .i64 a0_2] 66 (0, 0)) (by (with_reducible repeat (first | refine blk_drewN ?_ _ | refine blk_drew ?_ | refine blk_alloc ?_ _)); exact BK986.out)) : gb987 ≠ gb986)); clear BK986; clear HB; have BK986 := n0_; have HB := n1_; have BK987 := n2_; have GW987 := n3_; have GE987 := n4_; have NB986_987 := n5_; have NB987_986 := n6_; clear n0_ n1_ n2_ n3_ n4_ n5_ n6_; clear hb hbox hg) | ((with_reducible refine gate_dst (N := 4) rfl ?_); refine box_event ?hg (N := 4) ?hd (cs := #[.int .i64 0, .int .i64 0, .int .i64 0]) (t := 66) ?hr ?_; (case hd => rfl); (case hg => rfl); (case hr => first | (go_simp; done) | (go_simp; rfl)); intro gb988 hg w6 hbox hb; have n0_ := Aside0.mk (blk_below (g := gb986) (o := .cells #[.int .i64 a0_0, .int .i64 a0_1, .int .i64 a0_2] 66 (0, 0)) (by (with_reducible repeat (first | refine blk_drewN ?_ _ | refine blk_drew ?_ | refine blk_alloc ?_ _)); exact BK986.out) hb); have n1_ := Aside0.mk (blk_below (g := gb987) (o := .cells #[.int .i64 a1_0, .int .i64 a1_1, .int .i64 a1_2] 66 (0, 0)) (by (with_reducible repeat (first | refine blk_drewN ?_ _ | refine blk_drew ?_ | refine blk_alloc ?_ _)); exact BK987.out) hb); have n2_ := Aside0.mk (below_step (by repeat (first | (with_reducible first | exact HB.out | apply below_alloc | apply pw_below_drewN | apply below_drew1 | refine below_set ?_ GE986.out | refine below_set ?_ GE987.out) | exact HB.out)) hb); have n3_ := Aside0.mk (hbox); have n4_ := Aside0.mk ((by rw [hg]; exact (below_size (by repeat (first | (with_reducible first | exact HB.out | apply below_alloc | apply pw_below_drewN | apply below_drew1 | refine below_set ?_ GE986.out | refine below_set ?_ GE987.out) | exact HB.out))) : w.heap.size ≤ gb988)); have n5_ := Aside0.mk ((by rw [hg]; exact (below_size (by repeat (first | (with_reducible first | exact HB.out | apply below_alloc | apply pw_below_drewN | apply below_drew1 | refine below_set ?_ GE986.out | refine below_set ?_ GE987.out) | exact HB.out))) : w.heap.size ≤ gb988)); have n6_ := Aside0.mk ((by rw [hg]; exact Nat.ne_of_lt (blk_lt (g := gb986) (o := .cells #[.int .i64 a0_0, .int .i64 a0_1, .int .i64 a0_2] 66 (0, 0)) (by (with_reducible repeat (first | refine blk_drewN ?_ _ | refine blk_drew ?_ | refine blk_alloc ?_ _)); exact BK986.out)) : gb986 ≠ gb988)); have n7_ := Aside0.mk ((by rw [hg]; exact Nat.ne_of_gt (blk_lt (g := gb986) (o := .cells #[.int .i64 a0_0, .int .i64 a0_1, .int .i64 a0_2] 66 (0, 0)) (by (with_reducible repeat (first | refine blk_drewN ?_ _ | refine blk_drew ?_ | refine blk_alloc ?_ _)); exact BK986.out)) : gb988 ≠ gb986)); have n8_ := Aside0.mk ((by rw [hg]; exact Nat.ne_of_lt (blk_lt (g := gb987) (o := .cells #[.int .i64 a1_0, .int .i64 a1_1, .int .i64 a1_2] 66 (0, 0)) (by (with_reducible repeat (first | refine blk_drewN ?_ _ | refine blk_drew ?_ | refine blk_alloc ?_ _)); exact BK987.out)) : gb987 ≠ gb988)); have n9_ := Aside0.mk ((by rw [hg]; exact Nat.ne_of_gt (blk_lt (g := gb987) (o := .cells #[.int .i64 a1_0, .int .i64 a1_1, .int .i64 a1_2] 66 (0, 0)) (by (with_reducible repeat (first | refine blk_drewN ?_ _ | refine blk_drew ?_ | refine blk_alloc ?_ _)); exact BK987.out)) : gb988 ≠ gb987)); clear BK986; clear BK987; clear HB; have BK986 := n0_; have BK987 := n1_; have HB := n2_; have BK988 := n3_; have GW988 := n4_; have GE988 := n5_; have NB986_988 := n6_; have NB988_986 := n7_; have NB987_988 := n8_; have NB988_987 := n9_; clear n0_ n1_ n2_ n3_ n4_ n5_ n6_ n7_ n8_ n9_; clear hb hbox hg))
  (try simp only [Act.put, List.setIfInBounds_toArray, List.set_cons_zero, List.set_cons_succ])
  go_cut [17] (fun v17 wc => ∃ (kq : Nat) (x17_2 : Bool), v17 = .bool x17_2 ∧ Aside0 (spec_MeetLattices.j0 kq x17_2 a0_0 a0_1 a0_2 a1_0 a1_1 a1_2 = some (r1, r2, r3, r4)) ∧ Aside0 (kq ≤ k) ∧ Aside0 (wc.heap[gb986]? = some (.cells #[.int .i64 a0_0, .int .i64 a0_1, .int .i64 a0_2] 66 (0, 0))) ∧ Aside0 (wc.heap[gb987]? = some (.cells #[.int .i64 a1_0, .int .i64 a1_1, .int .i64 a1_2] 66 (0, 0))) ∧ Aside0 (wc.heap[gb988]? = some (.cells #[.int .i64 0, .int .i64 0, .int .i64 0] 66 (0, 0))) ∧ Aside0 (Below w.heap.size w wc))
  case first =>
    have H := HC3.out
    clear HC3
    replace H := Option.bind_eq_some_iff.mp H
    obtain ⟨t989, A70, H⟩ := H
    replace H : (if t989 = true then ((spec_IsLattice.f a1_0 a1_1 a1_2).bind fun t990 => (spec_MeetLattices.j0 k (!t990) a0_0 a0_1 a0_2 a1_0 a1_1 a1_2)) else (spec_MeetLattices.j0 k true a0_0 a0_1 a0_2 a1_0 a1_1 a1_2)) = some (r1, r2, r3, r4) := H
    have A7 := Aside0.mk A70
    clear A70
    by_cases c8 : t989 = true
    · subst c8
      have H1 : ((spec_IsLattice.f a1_0 a1_1 a1_2).bind fun t990 => (spec_MeetLattices.j0 k (!t990) a0_0 a0_1 a0_2 a1_0 a1_1 a1_2)) = some (r1, r2, r3, r4) := by rw [if_pos rfl] at H; exact H
      clear H
      have H := H1
      clear H1
      replace H := Option.bind_eq_some_iff.mp H
      obtain ⟨t990, A90, H⟩ := H
      replace H : (spec_MeetLattices.j0 k (!t990) a0_0 a0_1 a0_2 a1_0 a1_1 a1_2) = some (r1, r2, r3, r4) := H
      have A9 := Aside0.mk A90
      clear A90
      have H' := Aside0.mk H
      clear H
      have hnb10 := NB986_987.out
      have hnc10 := NB987_986.out
      have hnb11 := NB986_988.out
      have hnc11 := NB988_986.out
      have hcz12_0 : w6.cell? ⟨gb986, 0, none⟩ = some (.int .i64 a0_0) := (blk_cell BK986.out 0).trans rfl
      have hcz12_1 : w6.cell? ⟨gb986, 1, none⟩ = some (.int .i64 a0_1) := (blk_cell BK986.out 1).trans rfl
      have hcz12_2 : w6.cell? ⟨gb986, 2, none⟩ = some (.int .i64 a0_2) := (blk_cell BK986.out 2).trans rfl
      have hfz12_0 := blk_frozen BK986.out 0
      have hfz12_1 := blk_frozen BK986.out 1
      have hfz12_2 := blk_frozen BK986.out 2
      go_wp2_with (first | ((with_reducible refine gate_callee (f := 81) rfl ?_); refine goesL_ (some 11) rfl rfl Try.func81 (by kernel_rfl) rfl #[.agg #[.int .i64 a0_0, .int .i64 a0_1, .int .i64 a0_2]] rfl (by (try simp only [List.map_toArray, List.map_cons, List.map_nil]); first | done | rfl | (simp only [List.length_drop, List.length_take]; rfl)) ?_; (with_reducible refine (spec_IsLattice.calls a0_0 a0_1 a0_2 true _ A7.out).mono ?_); rintro e w13 ⟨rfl, hb⟩; refine ⟨_, rfl, ?_⟩; have n0_ := Aside0.mk (blk_below (g := gb986) (o := .cells #[.int .i64 a0_0, .int .i64 a0_1, .int .i64 a0_2] 66 (0, 0)) (by (with_reducible repeat (first | refine blk_drewN ?_ _ | refine blk_drew ?_ | refine blk_alloc ?_ _)); exact BK986.out) hb); have n1_ := Aside0.mk (blk_below (g := gb987) (o := .cells #[.int .i64 a1_0, .int .i64 a1_1, .int .i64 a1_2] 66 (0, 0)) (by (with_reducible repeat (first | refine blk_drewN ?_ _ | refine blk_drew ?_ | refine blk_alloc ?_ _)); exact BK987.out) hb); have n2_ := Aside0.mk (blk_below (g := gb988) (o := .cells #[.int .i64 0, .int .i64 0, .int .i64 0] 66 (0, 0)) (by (with_reducible repeat (first | refine blk_drewN ?_ _ | refine blk_drew ?_ | refine blk_alloc ?_ _)); exact BK988.out) hb); have n3_ := Aside0.mk (below_step (by repeat (first | (with_reducible first | exact HB.out | apply below_alloc | apply pw_below_drewN | apply below_drew1 | refine below_set ?_ GE986.out | refine below_set ?_ GE987.out | refine below_set ?_ GE988.out) | exact HB.out)) hb); clear BK986; clear BK987; clear BK988; clear HB; have BK986 := n0_; have BK987 := n1_; have BK988 := n2_; have HB := n3_; clear n0_ n1_ n2_ n3_; (try clear hb); (try clear hb2); (try clear hk); (try clear hi); have hnb14 := NB987_988.out; have hnc14 := NB988_987.out; have hcz15_0 : w13.cell? ⟨gb987, 0, none⟩ = some (.int .i64 a1_0) := (blk_cell BK987.out 0).trans rfl; have hcz15_1 : w13.cell? ⟨gb987, 1, none⟩ = some (.int .i64 a1_1) := (blk_cell BK987.out 1).trans rfl; have hcz15_2 : w13.cell? ⟨gb987, 2, none⟩ = some (.int .i64 a1_2) := (blk_cell BK987.out 2).trans rfl; have hfz15_0 := blk_frozen BK987.out 0; have hfz15_1 := blk_frozen BK987.out 1; have hfz15_2 := blk_frozen BK987.out 2) | (go_at_call 81; (with_reducible refine (spec_IsLattice.calls a1_0 a1_1 a1_2 t990 _ A9.out).mono ?_); rintro e w16 ⟨rfl, hb⟩; have n0_ := Aside0.mk (blk_below (g := gb986) (o := .cells #[.int .i64 a0_0, .int .i64 a0_1, .int .i64 a0_2] 66 (0, 0)) (by (with_reducible repeat (first | refine blk_drewN ?_ _ | refine blk_drew ?_ | refine blk_alloc ?_ _)); exact BK986.out) hb); have n1_ := Aside0.mk (blk_below (g := gb987) (o := .cells #[.int .i64 a1_0, .int .i64 a1_1, .int .i64 a1_2] 66 (0, 0)) (by (with_reducible repeat (first | refine blk_drewN ?_ _ | refine blk_drew ?_ | refine blk_alloc ?_ _)); exact BK987.out) hb); have n2_ := Aside0.mk (blk_below (g := gb988) (o := .cells #[.int .i64 0, .int .i64 0, .int .i64 0] 66 (0, 0)) (by (with_reducible repeat (first | refine blk_drewN ?_ _ | refine blk_drew ?_ | refine blk_alloc ?_ _)); exact BK988.out) hb); have n3_ := Aside0.mk (below_step (by repeat (first | (with_reducible first | exact HB.out | apply below_alloc | apply pw_below_drewN | apply below_drew1 | refine below_set ?_ GE986.out | refine below_set ?_ GE987.out | refine below_set ?_ GE988.out) | exact HB.out)) hb); clear BK986; clear BK987; clear BK988; clear HB; have BK986 := n0_; have BK987 := n1_; have BK988 := n2_; have HB := n3_; clear n0_ n1_ n2_ n3_; (try clear hb); (try clear hb2); (try clear hk); (try clear hi)))
      go_meet
      case rel => exact ⟨_, (!t990), (by first | rfl | (simp; done) | (simp [*]; done)), H', ⟨by first | omega | exact Nat.le_refl _⟩, ⟨by (with_reducible repeat (first | refine blk_drewN ?_ _ | refine blk_drew ?_ | refine blk_alloc ?_ _)); exact BK986.out⟩, ⟨by (with_reducible repeat (first | refine blk_drewN ?_ _ | refine blk_drew ?_ | refine blk_alloc ?_ _)); exact BK987.out⟩, ⟨by (with_reducible repeat (first | refine blk_drewN ?_ _ | refine blk_drew ?_ | refine blk_alloc ?_ _)); exact BK988.out⟩, ⟨by repeat (first | (with_reducible first | exact HB.out | apply below_alloc | apply pw_below_drewN | apply below_drew1 | refine below_set ?_ GE986.out | refine below_set ?_ GE987.out | refine below_set ?_ GE988.out) | exact HB.out)⟩⟩
    · replace c8 := Bool.eq_false_iff.mpr c8
      subst c8
      have H1 : (spec_MeetLattices.j0 k true a0_0 a0_1 a0_2 a1_0 a1_1 a1_2) = some (r1, r2, r3, r4) := by rw [if_neg (show ¬ (false = true) by decide)] at H; exact H
      clear H
      have H := H1
      clear H1
      have H' := Aside0.mk H
      clear H
      have hnb17 := NB986_987.out
      have hnc17 := NB987_986.out
      have hnb18 := NB986_988.out
      have hnc18 := NB988_986.out
      have hcz19_0 : w6.cell? ⟨gb986, 0, none⟩ = some (.int .i64 a0_0) := (blk_cell BK986.out 0).trans rfl
      have hcz19_1 : w6.cell? ⟨gb986, 1, none⟩ = some (.int .i64 a0_1) := (blk_cell BK986.out 1).trans rfl
      have hcz19_2 : w6.cell? ⟨gb986, 2, none⟩ = some (.int .i64 a0_2) := (blk_cell BK986.out 2).trans rfl
      have hfz19_0 := blk_frozen BK986.out 0
      have hfz19_1 := blk_frozen BK986.out 1
      have hfz19_2 := blk_frozen BK986.out 2
      go_wp2_with (first | ((with_reducible refine gate_callee (f := 81) rfl ?_); refine goesL_ (some 11) rfl rfl Try.func81 (by kernel_rfl) rfl #[.agg #[.int .i64 a0_0, .int .i64 a0_1, .int .i64 a0_2]] rfl (by (try simp only [List.map_toArray, List.map_cons, List.map_nil]); first | done | rfl | (simp only [List.length_drop, List.length_take]; rfl)) ?_; (with_reducible refine (spec_IsLattice.calls a0_0 a0_1 a0_2 false _ A7.out).mono ?_); rintro e w20 ⟨rfl, hb⟩; refine ⟨_, rfl, ?_⟩; have n0_ := Aside0.mk (blk_below (g := gb986) (o := .cells #[.int .i64 a0_0, .int .i64 a0_1, .int .i64 a0_2] 66 (0, 0)) (by (with_reducible repeat (first | refine blk_drewN ?_ _ | refine blk_drew ?_ | refine blk_alloc ?_ _)); exact BK986.out) hb); have n1_ := Aside0.mk (blk_below (g := gb987) (o := .cells #[.int .i64 a1_0, .int .i64 a1_1, .int .i64 a1_2] 66 (0, 0)) (by (with_reducible repeat (first | refine blk_drewN ?_ _ | refine blk_drew ?_ | refine blk_alloc ?_ _)); exact BK987.out) hb); have n2_ := Aside0.mk (blk_below (g := gb988) (o := .cells #[.int .i64 0, .int .i64 0, .int .i64 0] 66 (0, 0)) (by (with_reducible repeat (first | refine blk_drewN ?_ _ | refine blk_drew ?_ | refine blk_alloc ?_ _)); exact BK988.out) hb); have n3_ := Aside0.mk (below_step (by repeat (first | (with_reducible first | exact HB.out | apply below_alloc | apply pw_below_drewN | apply below_drew1 | refine below_set ?_ GE986.out | refine below_set ?_ GE987.out | refine below_set ?_ GE988.out) | exact HB.out)) hb); clear BK986; clear BK987; clear BK988; clear HB; have BK986 := n0_; have BK987 := n1_; have BK988 := n2_; have HB := n3_; clear n0_ n1_ n2_ n3_; (try clear hb); (try clear hb2); (try clear hk); (try clear hi)))
      go_meet
      case rel => exact ⟨_, (true), (by first | rfl | (simp; done) | (simp [*]; done)), H', ⟨by first | omega | exact Nat.le_refl _⟩, ⟨by (with_reducible repeat (first | refine blk_drewN ?_ _ | refine blk_drew ?_ | refine blk_alloc ?_ _)); exact BK986.out⟩, ⟨by (with_reducible repeat (first | refine blk_drewN ?_ _ | refine blk_drew ?_ | refine blk_alloc ?_ _)); exact BK987.out⟩, ⟨by (with_reducible repeat (first | refine blk_drewN ?_ _ | refine blk_drew ?_ | refine blk_alloc ?_ _)); exact BK988.out⟩, ⟨by repeat (first | (with_reducible first | exact HB.out | apply below_alloc | apply pw_below_drewN | apply below_drew1 | refine below_set ?_ GE986.out | refine below_set ?_ GE987.out | refine below_set ?_ GE988.out) | exact HB.out)⟩⟩
  case rest =>
    clear HC3
    try clear c1
    try clear p2
    try clear c6
    try clear c8
    try clear c10
    try clear c11
    try clear c14
    try clear c17
    try clear c18
    try clear hcz12_0
    try clear hcz12_1
    try clear hcz12_2
    try clear hcz15_0
    try clear hcz15_1
    try clear hcz15_2
    try clear hcz19_0
    try clear hcz19_1
    try clear hcz19_2
    try clear hfz12_0
    try clear hfz12_1
    try clear hfz12_2
    try clear hfz15_0
    try clear hfz15_1
    try clear hfz15_2
    try clear hfz19_0
    try clear hfz19_1
    try clear hfz19_2
    obtain ⟨kq, x17_2, rfl, HA, HJ2, BK986, BK987, BK988, HB⟩ := hcut
    cases kq with
    | zero => exact absurd HA.out (by simp [spec_MeetLattices.j0])
    | succ kj2 =>
      have H := HA.out
      clear HA
      simp only [spec_MeetLattices.j0] at H
      by_cases c21 : x17_2 = true
      · subst c21
        have H1 : (some (0, 0, 0, 1)) = some (r1, r2, r3, r4) := by rw [if_pos rfl] at H; exact H
        clear H
        have H := H1
        clear H1
        simp only [Option.some.injEq, Prod.mk.injEq] at H
        obtain ⟨rfl, rfl, rfl, rfl⟩ := H
        have hnb22 := NB988_986.out
        have hnc22 := NB986_988.out
        have hnb23 := NB988_987.out
        have hnc23 := NB987_988.out
        have hcz24_0 : wc.cell? ⟨gb988, 0, none⟩ = some (.int .i64 0) := (blk_cell BK988.out 0).trans rfl
        have hcz24_1 : wc.cell? ⟨gb988, 1, none⟩ = some (.int .i64 0) := (blk_cell BK988.out 1).trans rfl
        have hcz24_2 : wc.cell? ⟨gb988, 2, none⟩ = some (.int .i64 0) := (blk_cell BK988.out 2).trans rfl
        have hfz24_0 := blk_frozen BK988.out 0
        have hfz24_1 := blk_frozen BK988.out 1
        have hfz24_2 := blk_frozen BK988.out 2
        go_wp2
        refine bodyPost_ret (results_ct rfl _ _ gb988 66 #[.int .i64 0, .int .i64 0, .int .i64 0] (0, 0) _ rfl (by (with_reducible repeat (first | refine blk_drewN ?_ _ | refine blk_drew ?_ | refine blk_alloc ?_ _)); refine blk_put (cs := #[.int .i64 0, .int .i64 0, .int .i64 0]) ?_ 2 _ rfl; (with_reducible repeat (first | refine blk_drewN ?_ _ | refine blk_drew ?_ | refine blk_alloc ?_ _)); refine blk_put (cs := #[.int .i64 0, .int .i64 0, .int .i64 0]) ?_ 1 _ rfl; (with_reducible repeat (first | refine blk_drewN ?_ _ | refine blk_drew ?_ | refine blk_alloc ?_ _)); refine blk_put (cs := #[.int .i64 0, .int .i64 0, .int .i64 0]) ?_ 0 _ rfl; (with_reducible repeat (first | refine blk_drewN ?_ _ | refine blk_drew ?_ | refine blk_alloc ?_ _)); exact BK988.out) Try.underlying66 rfl (by kernel_rfl)) rfl ?_
        exact ⟨by first | rfl | (simp [errW_none, errW_some] <;> rfl) | (simp [*, errW_none, errW_some] <;> rfl), by repeat (first | (with_reducible first | exact HB.out | apply below_alloc | apply pw_below_drewN | apply below_drew1 | refine below_set ?_ GE986.out | refine below_set ?_ GE987.out | refine below_set ?_ GE988.out) | exact HB.out)⟩
      · replace c21 := Bool.eq_false_iff.mpr c21
        subst c21
        have H1 : (spec_MeetLattices.l0 kj2 1 a0_0 a0_1 a0_2 a1_0 a1_1 a1_2) = some (r1, r2, r3, r4) := by rw [if_neg (show ¬ (false = true) by decide)] at H; exact H
        clear H
        have H := H1
        clear H1
        have H' := Aside0.mk H
        clear H
        go_wp2
        go_loopg [6] kj2 (fun kq v6 w' => ∃ (x6_2 : Int), v6 = .int .i64 x6_2 ∧ Aside0 (spec_MeetLattices.l0 kq x6_2 a0_0 a0_1 a0_2 a1_0 a1_1 a1_2 = some (r1, r2, r3, r4)) ∧ Aside0 (kq ≤ kj2) ∧ Aside0 (w'.heap[gb986]? = some (.cells #[.int .i64 a0_0, .int .i64 a0_1, .int .i64 a0_2] 66 (0, 0))) ∧ Aside0 (w'.heap[gb987]? = some (.cells #[.int .i64 a1_0, .int .i64 a1_1, .int .i64 a1_2] 66 (0, 0))) ∧ Aside0 (w'.heap[gb988]? = some (.cells #[.int .i64 0, .int .i64 0, .int .i64 0] 66 (0, 0))) ∧ Aside0 (Below w.heap.size w w'))
        case atStart => exact ⟨(1), (by first | rfl | (simp; done) | (simp [*]; done)), H', ⟨Nat.le_refl _⟩, ⟨by (with_reducible repeat (first | refine blk_drewN ?_ _ | refine blk_drew ?_ | refine blk_alloc ?_ _)); exact BK986.out⟩, ⟨by (with_reducible repeat (first | refine blk_drewN ?_ _ | refine blk_drew ?_ | refine blk_alloc ?_ _)); exact BK987.out⟩, ⟨by (with_reducible repeat (first | refine blk_drewN ?_ _ | refine blk_drew ?_ | refine blk_alloc ?_ _)); exact BK988.out⟩, ⟨by repeat (first | (with_reducible first | exact HB.out | apply below_alloc | apply pw_below_drewN | apply below_drew1 | refine below_set ?_ GE986.out | refine below_set ?_ GE987.out | refine below_set ?_ GE988.out) | exact HB.out)⟩⟩
        case round =>
          clear H'
          try clear c1
          try clear c2
          try clear p2
          try clear c6
          try clear c8
          try clear c10
          try clear c11
          try clear c14
          try clear c17
          try clear c18
          try clear c21
          try clear c22
          try clear c23
          try clear hcz12_0
          try clear hcz12_1
          try clear hcz12_2
          try clear hcz15_0
          try clear hcz15_1
          try clear hcz15_2
          try clear hcz19_0
          try clear hcz19_1
          try clear hcz19_2
          try clear hcz24_0
          try clear hcz24_1
          try clear hcz24_2
          try clear hfz12_0
          try clear hfz12_1
          try clear hfz12_2
          try clear hfz15_0
          try clear hfz15_1
          try clear hfz15_2
          try clear hfz19_0
          try clear hfz19_1
          try clear hfz19_2
          try clear hfz24_0
          try clear hfz24_1
          try clear hfz24_2
          try clear p2
          obtain ⟨x6_2, rfl, HA, HK2, BK986, BK987, BK988, HB⟩ := hrel
          cases gk with
          | zero => exact absurd HA.out (by simp [spec_MeetLattices.l0])
          | succ k2 =>
            have H := HA.out
            clear HA
            simp only [spec_MeetLattices.l0] at H
            replace H := Option.bind_eq_some_iff.mp H
            obtain ⟨t991, A250, H⟩ := H
            replace H : (if t991 = true then ((spec_l03Has.f a1_0 a1_1 a1_2 x6_2 0).bind fun t992 => (if t992 = true then (spec_MeetLattices.l1 k2 x6_2 1 a0_0 a0_1 a0_2 a1_0 a1_1 a1_2) else (spec_MeetLattices.l0 k2 (wrap64 (x6_2 + 1)) a0_0 a0_1 a0_2 a1_0 a1_1 a1_2))) else (spec_MeetLattices.l0 k2 (wrap64 (x6_2 + 1)) a0_0 a0_1 a0_2 a1_0 a1_1 a1_2)) = some (r1, r2, r3, r4) := H
            have A25 := Aside0.mk A250
            clear A250
            by_cases c26 : t991 = true
            · subst c26
              have H1 : ((spec_l03Has.f a1_0 a1_1 a1_2 x6_2 0).bind fun t992 => (if t992 = true then (spec_MeetLattices.l1 k2 x6_2 1 a0_0 a0_1 a0_2 a1_0 a1_1 a1_2) else (spec_MeetLattices.l0 k2 (wrap64 (x6_2 + 1)) a0_0 a0_1 a0_2 a1_0 a1_1 a1_2))) = some (r1, r2, r3, r4) := by rw [if_pos rfl] at H; exact H
              clear H
              have H := H1
              clear H1
              replace H := Option.bind_eq_some_iff.mp H
              obtain ⟨t992, A270, H⟩ := H
              replace H : (if t992 = true then (spec_MeetLattices.l1 k2 x6_2 1 a0_0 a0_1 a0_2 a1_0 a1_1 a1_2) else (spec_MeetLattices.l0 k2 (wrap64 (x6_2 + 1)) a0_0 a0_1 a0_2 a1_0 a1_1 a1_2)) = some (r1, r2, r3, r4) := H
              have A27 := Aside0.mk A270
              clear A270
              by_cases c28 : t992 = true
              · subst c28
                have H1 : (spec_MeetLattices.l1 k2 x6_2 1 a0_0 a0_1 a0_2 a1_0 a1_1 a1_2) = some (r1, r2, r3, r4) := by rw [if_pos rfl] at H; exact H
                clear H
                have H := H1
                clear H1
                have H' := Aside0.mk H
                clear H
                have hnb29 := NB986_987.out
                have hnc29 := NB987_986.out
                have hnb30 := NB986_988.out
                have hnc30 := NB988_986.out
                have hcz31_0 : wr.cell? ⟨gb986, 0, none⟩ = some (.int .i64 a0_0) := (blk_cell BK986.out 0).trans rfl
                have hcz31_1 : wr.cell? ⟨gb986, 1, none⟩ = some (.int .i64 a0_1) := (blk_cell BK986.out 1).trans rfl
                have hcz31_2 : wr.cell? ⟨gb986, 2, none⟩ = some (.int .i64 a0_2) := (blk_cell BK986.out 2).trans rfl
                have hfz31_0 := blk_frozen BK986.out 0
                have hfz31_1 := blk_frozen BK986.out 1
                have hfz31_2 := blk_frozen BK986.out 2
                go_wp2_with (first | ((with_reducible refine gate_callee (f := 172) rfl ?_); refine goesL_ (some 22) rfl rfl Try.func172 (by kernel_rfl) rfl #[.agg #[.int .i64 a0_0, .int .i64 a0_1, .int .i64 a0_2], .agg #[.int .i64 x6_2, .int .i64 0]] rfl (by (try simp only [List.map_toArray, List.map_cons, List.map_nil]); first | done | rfl | (simp only [List.length_drop, List.length_take]; rfl)) ?_; (with_reducible refine (spec_l03Has.calls a0_0 a0_1 a0_2 x6_2 0 true _ A25.out).mono ?_); rintro e w32 ⟨rfl, hb⟩; refine ⟨_, rfl, ?_⟩; have n0_ := Aside0.mk (blk_below (g := gb986) (o := .cells #[.int .i64 a0_0, .int .i64 a0_1, .int .i64 a0_2] 66 (0, 0)) (by (with_reducible repeat (first | refine blk_drewN ?_ _ | refine blk_drew ?_ | refine blk_alloc ?_ _)); exact BK986.out) hb); have n1_ := Aside0.mk (blk_below (g := gb987) (o := .cells #[.int .i64 a1_0, .int .i64 a1_1, .int .i64 a1_2] 66 (0, 0)) (by (with_reducible repeat (first | refine blk_drewN ?_ _ | refine blk_drew ?_ | refine blk_alloc ?_ _)); exact BK987.out) hb); have n2_ := Aside0.mk (blk_below (g := gb988) (o := .cells #[.int .i64 0, .int .i64 0, .int .i64 0] 66 (0, 0)) (by (with_reducible repeat (first | refine blk_drewN ?_ _ | refine blk_drew ?_ | refine blk_alloc ?_ _)); exact BK988.out) hb); have n3_ := Aside0.mk (below_step (by repeat (first | (with_reducible first | exact HB.out | apply below_alloc | apply pw_below_drewN | apply below_drew1 | refine below_set ?_ GE986.out | refine below_set ?_ GE987.out | refine below_set ?_ GE988.out) | exact HB.out)) hb); clear BK986; clear BK987; clear BK988; clear HB; have BK986 := n0_; have BK987 := n1_; have BK988 := n2_; have HB := n3_; clear n0_ n1_ n2_ n3_; (try clear hb); (try clear hb2); (try clear hk); (try clear hi); have hnb33 := NB987_988.out; have hnc33 := NB988_987.out; have hcz34_0 : w32.cell? ⟨gb987, 0, none⟩ = some (.int .i64 a1_0) := (blk_cell BK987.out 0).trans rfl; have hcz34_1 : w32.cell? ⟨gb987, 1, none⟩ = some (.int .i64 a1_1) := (blk_cell BK987.out 1).trans rfl; have hcz34_2 : w32.cell? ⟨gb987, 2, none⟩ = some (.int .i64 a1_2) := (blk_cell BK987.out 2).trans rfl; have hfz34_0 := blk_frozen BK987.out 0; have hfz34_1 := blk_frozen BK987.out 1; have hfz34_2 := blk_frozen BK987.out 2) | (go_at_call 172; (with_reducible refine (spec_l03Has.calls a1_0 a1_1 a1_2 x6_2 0 true _ A27.out).mono ?_); rintro e w35 ⟨rfl, hb⟩; have n0_ := Aside0.mk (blk_below (g := gb986) (o := .cells #[.int .i64 a0_0, .int .i64 a0_1, .int .i64 a0_2] 66 (0, 0)) (by (with_reducible repeat (first | refine blk_drewN ?_ _ | refine blk_drew ?_ | refine blk_alloc ?_ _)); exact BK986.out) hb); have n1_ := Aside0.mk (blk_below (g := gb987) (o := .cells #[.int .i64 a1_0, .int .i64 a1_1, .int .i64 a1_2] 66 (0, 0)) (by (with_reducible repeat (first | refine blk_drewN ?_ _ | refine blk_drew ?_ | refine blk_alloc ?_ _)); exact BK987.out) hb); have n2_ := Aside0.mk (blk_below (g := gb988) (o := .cells #[.int .i64 0, .int .i64 0, .int .i64 0] 66 (0, 0)) (by (with_reducible repeat (first | refine blk_drewN ?_ _ | refine blk_drew ?_ | refine blk_alloc ?_ _)); exact BK988.out) hb); have n3_ := Aside0.mk (below_step (by repeat (first | (with_reducible first | exact HB.out | apply below_alloc | apply pw_below_drewN | apply below_drew1 | refine below_set ?_ GE986.out | refine below_set ?_ GE987.out | refine below_set ?_ GE988.out) | exact HB.out)) hb); clear BK986; clear BK987; clear BK988; clear HB; have BK986 := n0_; have BK987 := n1_; have BK988 := n2_; have HB := n3_; clear n0_ n1_ n2_ n3_; (try clear hb); (try clear hb2); (try clear hk); (try clear hi)))
                go_loopg [7] k2 (fun kq v7 w' => ∃ (x7_3 : Int) (x989000_3 : Int) (x989001_3 : Int) (x989002_3 : Int), v7 = .int .i64 x7_3 ∧ Aside0 (spec_MeetLattices.l1 kq x6_2 x7_3 a0_0 a0_1 a0_2 a1_0 a1_1 a1_2 = some (r1, r2, r3, r4)) ∧ Aside0 (kq ≤ k2) ∧ Aside0 (w'.heap[gb986]? = some (.cells #[.int .i64 a0_0, .int .i64 a0_1, .int .i64 a0_2] 66 (0, 0))) ∧ Aside0 (w'.heap[gb987]? = some (.cells #[.int .i64 a1_0, .int .i64 a1_1, .int .i64 a1_2] 66 (0, 0))) ∧ Aside0 (w'.heap[gb988]? = some (.cells #[.int .i64 x989000_3, .int .i64 x989001_3, .int .i64 x989002_3] 66 (0, 0))) ∧ Aside0 (Below w.heap.size w w'))
                case atStart => exact ⟨(1), (0), (0), (0), (by first | rfl | (simp; done) | (simp [*]; done)), H', ⟨Nat.le_refl _⟩, ⟨by (with_reducible repeat (first | refine blk_drewN ?_ _ | refine blk_drew ?_ | refine blk_alloc ?_ _)); exact BK986.out⟩, ⟨by (with_reducible repeat (first | refine blk_drewN ?_ _ | refine blk_drew ?_ | refine blk_alloc ?_ _)); exact BK987.out⟩, ⟨by (with_reducible repeat (first | refine blk_drewN ?_ _ | refine blk_drew ?_ | refine blk_alloc ?_ _)); exact BK988.out⟩, ⟨by repeat (first | (with_reducible first | exact HB.out | apply below_alloc | apply pw_below_drewN | apply below_drew1 | refine below_set ?_ GE986.out | refine below_set ?_ GE987.out | refine below_set ?_ GE988.out) | exact HB.out)⟩⟩
                case round =>
                  clear H'
                  try clear c1
                  try clear c2
                  try clear p2
                  try clear c3
                  try clear c6
                  try clear p6
                  try clear c8
                  try clear c10
                  try clear c11
                  try clear c14
                  try clear c17
                  try clear c18
                  try clear c21
                  try clear c22
                  try clear c23
                  try clear c26
                  try clear c28
                  try clear c29
                  try clear c30
                  try clear c33
                  try clear hcz12_0
                  try clear hcz12_1
                  try clear hcz12_2
                  try clear hcz15_0
                  try clear hcz15_1
                  try clear hcz15_2
                  try clear hcz19_0
                  try clear hcz19_1
                  try clear hcz19_2
                  try clear hcz24_0
                  try clear hcz24_1
                  try clear hcz24_2
                  try clear hcz31_0
                  try clear hcz31_1
                  try clear hcz31_2
                  try clear hcz34_0
                  try clear hcz34_1
                  try clear hcz34_2
                  try clear hfz12_0
                  try clear hfz12_1
                  try clear hfz12_2
                  try clear hfz15_0
                  try clear hfz15_1
                  try clear hfz15_2
                  try clear hfz19_0
                  try clear hfz19_1
                  try clear hfz19_2
                  try clear hfz24_0
                  try clear hfz24_1
                  try clear hfz24_2
                  try clear hfz31_0
                  try clear hfz31_1
                  try clear hfz31_2
                  try clear hfz34_0
                  try clear hfz34_1
                  try clear hfz34_2
                  try clear p2
                  obtain ⟨x7_3, x989000_3, x989001_3, x989002_3, rfl, HA, HK3, BK986, BK987, BK988, HB⟩ := hrel
                  cases gk with
                  | zero => exact absurd HA.out (by simp [spec_MeetLattices.l1])
                  | succ k3 =>
                    have H := HA.out
                    clear HA
                    simp only [spec_MeetLattices.l1] at H
                    have H' := Aside0.mk H
                    clear H
                    go_wp2
                    go_loopg [8] k3 (fun kq v8 w' => ∃ (x8_4 : Int) (x989000_4 : Int) (x989001_4 : Int) (x989002_4 : Int), v8 = .int .i64 x8_4 ∧ Aside0 (spec_MeetLattices.l2 kq x6_2 x7_3 x8_4 a0_0 a0_1 a0_2 a1_0 a1_1 a1_2 = some (r1, r2, r3, r4)) ∧ Aside0 (kq ≤ k3) ∧ Aside0 (w'.heap[gb986]? = some (.cells #[.int .i64 a0_0, .int .i64 a0_1, .int .i64 a0_2] 66 (0, 0))) ∧ Aside0 (w'.heap[gb987]? = some (.cells #[.int .i64 a1_0, .int .i64 a1_1, .int .i64 a1_2] 66 (0, 0))) ∧ Aside0 (w'.heap[gb988]? = some (.cells #[.int .i64 x989000_4, .int .i64 x989001_4, .int .i64 x989002_4] 66 (0, 0))) ∧ Aside0 (Below w.heap.size w w'))
                    case atStart => exact ⟨(0), (x989000_3), (x989001_3), (x989002_3), (by first | rfl | (simp; done) | (simp [*]; done)), H', ⟨Nat.le_refl _⟩, ⟨by (with_reducible repeat (first | refine blk_drewN ?_ _ | refine blk_drew ?_ | refine blk_alloc ?_ _)); exact BK986.out⟩, ⟨by (with_reducible repeat (first | refine blk_drewN ?_ _ | refine blk_drew ?_ | refine blk_alloc ?_ _)); exact BK987.out⟩, ⟨by (with_reducible repeat (first | refine blk_drewN ?_ _ | refine blk_drew ?_ | refine blk_alloc ?_ _)); exact BK988.out⟩, ⟨by repeat (first | (with_reducible first | exact HB.out | apply below_alloc | apply pw_below_drewN | apply below_drew1 | refine below_set ?_ GE986.out | refine below_set ?_ GE987.out | refine below_set ?_ GE988.out) | exact HB.out)⟩⟩
                    case round =>
                      clear H'
                      try clear c1
                      try clear c2
                      try clear p2
                      try clear c3
                      try clear c6
                      try clear p6
                      try clear c8
                      try clear c10
                      try clear c11
                      try clear c14
                      try clear c17
                      try clear c18
                      try clear c21
                      try clear c22
                      try clear c23
                      try clear c26
                      try clear c28
                      try clear c29
                      try clear c30
                      try clear c33
                      try clear hcz12_0
                      try clear hcz12_1
                      try clear hcz12_2
                      try clear hcz15_0
                      try clear hcz15_1
                      try clear hcz15_2
                      try clear hcz19_0
                      try clear hcz19_1
                      try clear hcz19_2
                      try clear hcz24_0
                      try clear hcz24_1
                      try clear hcz24_2
                      try clear hcz31_0
                      try clear hcz31_1
                      try clear hcz31_2
                      try clear hcz34_0
                      try clear hcz34_1
                      try clear hcz34_2
                      try clear hfz12_0
                      try clear hfz12_1
                      try clear hfz12_2
                      try clear hfz15_0
                      try clear hfz15_1
                      try clear hfz15_2
                      try clear hfz19_0
                      try clear hfz19_1
                      try clear hfz19_2
                      try clear hfz24_0
                      try clear hfz24_1
                      try clear hfz24_2
                      try clear hfz31_0
                      try clear hfz31_1
                      try clear hfz31_2
                      try clear hfz34_0
                      try clear hfz34_1
                      try clear hfz34_2
                      try clear p2
                      try clear p6
                      obtain ⟨x8_4, x989000_4, x989001_4, x989002_4, rfl, HA, HK4, BK986, BK987, BK988, HB⟩ := hrel
                      cases gk with
                      | zero => exact absurd HA.out (by simp [spec_MeetLattices.l2])
                      | succ k4 =>
                        have H := HA.out
                        clear HA
                        simp only [spec_MeetLattices.l2] at H
                        by_cases c36 : x8_4 < x6_2
                        · rw [if_pos c36] at H
                          have c36b0 : decide (x8_4 < x6_2) = true := decide_eq_true c36
                          clear c36
                          replace H := Option.bind_eq_some_iff.mp H
                          obtain ⟨t994, A370, H⟩ := H
                          replace H : (if t994 = true then ((spec_l03Has.f a1_0 a1_1 a1_2 x8_4 x7_3).bind fun t995 => (if t995 = true then ((spec_l03Result.f x6_2 x8_4 x7_3).bind fun bt996 => (some (bt996.1, bt996.2.1, bt996.2.2.1, bt996.2.2.2))) else (spec_MeetLattices.l2 k4 x6_2 x7_3 (wrap64 (x8_4 + 1)) a0_0 a0_1 a0_2 a1_0 a1_1 a1_2))) else (spec_MeetLattices.l2 k4 x6_2 x7_3 (wrap64 (x8_4 + 1)) a0_0 a0_1 a0_2 a1_0 a1_1 a1_2)) = some (r1, r2, r3, r4) := H
                          have A37 := Aside0.mk A370
                          clear A370
                          by_cases c38 : t994 = true
                          · subst c38
                            have H1 : ((spec_l03Has.f a1_0 a1_1 a1_2 x8_4 x7_3).bind fun t995 => (if t995 = true then ((spec_l03Result.f x6_2 x8_4 x7_3).bind fun bt996 => (some (bt996.1, bt996.2.1, bt996.2.2.1, bt996.2.2.2))) else (spec_MeetLattices.l2 k4 x6_2 x7_3 (wrap64 (x8_4 + 1)) a0_0 a0_1 a0_2 a1_0 a1_1 a1_2))) = some (r1, r2, r3, r4) := by rw [if_pos rfl] at H; exact H
                            clear H
                            have H := H1
                            clear H1
                            replace H := Option.bind_eq_some_iff.mp H
                            obtain ⟨t995, A390, H⟩ := H
                            replace H : (if t995 = true then ((spec_l03Result.f x6_2 x8_4 x7_3).bind fun bt996 => (some (bt996.1, bt996.2.1, bt996.2.2.1, bt996.2.2.2))) else (spec_MeetLattices.l2 k4 x6_2 x7_3 (wrap64 (x8_4 + 1)) a0_0 a0_1 a0_2 a1_0 a1_1 a1_2)) = some (r1, r2, r3, r4) := H
                            have A39 := Aside0.mk A390
                            clear A390
                            by_cases c40 : t995 = true
                            · subst c40
                              have H1 : ((spec_l03Result.f x6_2 x8_4 x7_3).bind fun bt996 => (some (bt996.1, bt996.2.1, bt996.2.2.1, bt996.2.2.2))) = some (r1, r2, r3, r4) := by rw [if_pos rfl] at H; exact H
                              clear H
                              have H := H1
                              clear H1
                              replace H := Option.bind_eq_some_iff.mp H
                              obtain ⟨⟨t996, t997, t998, t999⟩, A410, H⟩ := H
                              replace H : (some (t996, t997, t998, t999)) = some (r1, r2, r3, r4) := H
                              have A41 := Aside0.mk A410
                              clear A410
                              simp only [Option.some.injEq, Prod.mk.injEq] at H
                              obtain ⟨rfl, rfl, rfl, rfl⟩ := H
                              go_wp2_with (first | ((with_reducible refine gate_dst (N := 9) rfl ?_); refine box_event ?hg (N := 9) ?hd (cs := #[.int .i64 0, .int .i64 0]) (t := 25) ?hr ?_; (case hd => rfl); (case hg => rfl); (case hr => first | (go_simp; done) | (go_simp; rfl)); intro gb993 hg w42 hbox hb; have n0_ := Aside0.mk (blk_below (g := gb986) (o := .cells #[.int .i64 a0_0, .int .i64 a0_1, .int .i64 a0_2] 66 (0, 0)) (by (with_reducible repeat (first | refine blk_drewN ?_ _ | refine blk_drew ?_ | refine blk_alloc ?_ _)); exact BK986.out) hb); have n1_ := Aside0.mk (blk_below (g := gb987) (o := .cells #[.int .i64 a1_0, .int .i64 a1_1, .int .i64 a1_2] 66 (0, 0)) (by (with_reducible repeat (first | refine blk_drewN ?_ _ | refine blk_drew ?_ | refine blk_alloc ?_ _)); exact BK987.out) hb); have n2_ := Aside0.mk (blk_below (g := gb988) (o := .cells #[.int .i64 x989000_4, .int .i64 x989001_4, .int .i64 x989002_4] 66 (0, 0)) (by (with_reducible repeat (first | refine blk_drewN ?_ _ | refine blk_drew ?_ | refine blk_alloc ?_ _)); exact BK988.out) hb); have n3_ := Aside0.mk (below_step (by repeat (first | (with_reducible first | exact HB.out | apply below_alloc | apply pw_below_drewN | apply below_drew1 | refine below_set ?_ GE986.out | refine below_set ?_ GE987.out | refine below_set ?_ GE988.out) | exact HB.out)) hb); have n4_ := Aside0.mk (hbox); have n5_ := Aside0.mk ((by rw [hg]; exact (below_size (by repeat (first | (with_reducible first | exact HB.out | apply below_alloc | apply pw_below_drewN | apply below_drew1 | refine below_set ?_ GE986.out | refine below_set ?_ GE987.out | refine below_set ?_ GE988.out) | exact HB.out))) : w.heap.size ≤ gb993)); have n6_ := Aside0.mk ((by rw [hg]; exact (below_size (by repeat (first | (with_reducible first | exact HB.out | apply below_alloc | apply pw_below_drewN | apply below_drew1 | refine below_set ?_ GE986.out | refine below_set ?_ GE987.out | refine below_set ?_ GE988.out) | exact HB.out))) : w.heap.size ≤ gb993)); have n7_ := Aside0.mk ((by rw [hg]; exact Nat.ne_of_lt (blk_lt (g := gb986) (o := .cells #[.int .i64 a0_0, .int .i64 a0_1, .int .i64 a0_2] 66 (0, 0)) (by (with_reducible repeat (first | refine blk_drewN ?_ _ | refine blk_drew ?_ | refine blk_alloc ?_ _)); exact BK986.out)) : gb986 ≠ gb993)); have n8_ := Aside0.mk ((by rw [hg]; exact Nat.ne_of_gt (blk_lt (g := gb986) (o := .cells #[.int .i64 a0_0, .int .i64 a0_1, .int .i64 a0_2] 66 (0, 0)) (by (with_reducible repeat (first | refine blk_drewN ?_ _ | refine blk_drew ?_ | refine blk_alloc ?_ _)); exact BK986.out)) : gb993 ≠ gb986)); have n9_ := Aside0.mk ((by rw [hg]; exact Nat.ne_of_lt (blk_lt (g := gb987) (o := .cells #[.int .i64 a1_0, .int .i64 a1_1, .int .i64 a1_2] 66 (0, 0)) (by (with_reducible repeat (first | refine blk_drewN ?_ _ | refine blk_drew ?_ | refine blk_alloc ?_ _)); exact BK987.out)) : gb987 ≠ gb993)); have n10_ := Aside0.mk ((by rw [hg]; exact Nat.ne_of_gt (blk_lt (g := gb987) (o := .cells #[.int .i64 a1_0, .int .i64 a1_1, .int .i64 a1_2] 66 (0, 0)) (by (with_reducible repeat (first | refine blk_drewN ?_ _ | refine blk_drew ?_ | refine blk_alloc ?_ _)); exact BK987.out)) : gb993 ≠ gb987)); have n11_ := Aside0.mk ((by rw [hg]; exact Nat.ne_of_lt (blk_lt (g := gb988) (o := .cells #[.int .i64 x989000_4, .int .i64 x989001_4, .int .i64 x989002_4] 66 (0, 0)) (by (with_reducible repeat (first | refine blk_drewN ?_ _ | refine blk_drew ?_ | refine blk_alloc ?_ _)); exact BK988.out)) : gb988 ≠ gb993)); have n12_ := Aside0.mk ((by rw [hg]; exact Nat.ne_of_gt (blk_lt (g := gb988) (o := .cells #[.int .i64 x989000_4, .int .i64 x989001_4, .int .i64 x989002_4] 66 (0, 0)) (by (with_reducible repeat (first | refine blk_drewN ?_ _ | refine blk_drew ?_ | refine blk_alloc ?_ _)); exact BK988.out)) : gb993 ≠ gb988)); clear BK986; clear BK987; clear BK988; clear HB; have BK986 := n0_; have BK987 := n1_; have BK988 := n2_; have HB := n3_; have BK993 := n4_; have GW993 := n5_; have GE993 := n6_; have NB986_993 := n7_; have NB993_986 := n8_; have NB987_993 := n9_; have NB993_987 := n10_; have NB988_993 := n11_; have NB993_988 := n12_; clear n0_ n1_ n2_ n3_ n4_ n5_ n6_ n7_ n8_ n9_ n10_ n11_ n12_; clear hb hbox hg; have hnb43 := NB993_986.out; have hnc43 := NB986_993.out; have hnb44 := NB993_987.out; have hnc44 := NB987_993.out; have hnb45 := NB993_988.out; have hnc45 := NB988_993.out; have hcz46_0 : w42.cell? ⟨gb993, 0, none⟩ = some (.int .i64 0) := (blk_cell BK993.out 0).trans rfl; have hcz46_1 : w42.cell? ⟨gb993, 1, none⟩ = some (.int .i64 0) := (blk_cell BK993.out 1).trans rfl; have hfz46_0 := blk_frozen BK993.out 0; have hfz46_1 := blk_frozen BK993.out 1; have hnb47 := NB986_987.out; have hnc47 := NB987_986.out; have hnb48 := NB986_988.out; have hnc48 := NB988_986.out; have hcz49_0 : w42.cell? ⟨gb986, 0, none⟩ = some (.int .i64 a0_0) := (blk_cell BK986.out 0).trans rfl; have hcz49_1 : w42.cell? ⟨gb986, 1, none⟩ = some (.int .i64 a0_1) := (blk_cell BK986.out 1).trans rfl; have hcz49_2 : w42.cell? ⟨gb986, 2, none⟩ = some (.int .i64 a0_2) := (blk_cell BK986.out 2).trans rfl; have hfz49_0 := blk_frozen BK986.out 0; have hfz49_1 := blk_frozen BK986.out 1; have hfz49_2 := blk_frozen BK986.out 2) | ((with_reducible refine gate_callee (f := 172) rfl ?_); refine goesL_ (some 45) rfl rfl Try.func172 (by kernel_rfl) rfl #[.agg #[.int .i64 a0_0, .int .i64 a0_1, .int .i64 a0_2], .agg #[.int .i64 x8_4, .int .i64 x7_3]] rfl (by (try simp only [List.map_toArray, List.map_cons, List.map_nil]); first | done | rfl | (simp only [List.length_drop, List.length_take]; rfl)) ?_; (with_reducible refine (spec_l03Has.calls a0_0 a0_1 a0_2 x8_4 x7_3 true _ A37.out).mono ?_); rintro e w50 ⟨rfl, hb⟩; refine ⟨_, rfl, ?_⟩; have n0_ := Aside0.mk (blk_below (g := gb986) (o := .cells #[.int .i64 a0_0, .int .i64 a0_1, .int .i64 a0_2] 66 (0, 0)) (by (with_reducible repeat (first | refine blk_drewN ?_ _ | refine blk_drew ?_ | refine blk_alloc ?_ _)); refine blk_far ?_ NB986_993.out _; (with_reducible repeat (first | refine blk_drewN ?_ _ | refine blk_drew ?_ | refine blk_alloc ?_ _)); refine blk_far ?_ NB986_993.out _; (with_reducible repeat (first | refine blk_drewN ?_ _ | refine blk_drew ?_ | refine blk_alloc ?_ _)); exact BK986.out) hb); have n1_ := Aside0.mk (blk_below (g := gb987) (o := .cells #[.int .i64 a1_0, .int .i64 a1_1, .int .i64 a1_2] 66 (0, 0)) (by (with_reducible repeat (first | refine blk_drewN ?_ _ | refine blk_drew ?_ | refine blk_alloc ?_ _)); refine blk_far ?_ NB987_993.out _; (with_reducible repeat (first | refine blk_drewN ?_ _ | refine blk_drew ?_ | refine blk_alloc ?_ _)); refine blk_far ?_ NB987_993.out _; (with_reducible repeat (first | refine blk_drewN ?_ _ | refine blk_drew ?_ | refine blk_alloc ?_ _)); exact BK987.out) hb); have n2_ := Aside0.mk (blk_below (g := gb988) (o := .cells #[.int .i64 x989000_4, .int .i64 x989001_4, .int .i64 x989002_4] 66 (0, 0)) (by (with_reducible repeat (first | refine blk_drewN ?_ _ | refine blk_drew ?_ | refine blk_alloc ?_ _)); refine blk_far ?_ NB988_993.out _; (with_reducible repeat (first | refine blk_drewN ?_ _ | refine blk_drew ?_ | refine blk_alloc ?_ _)); refine blk_far ?_ NB988_993.out _; (with_reducible repeat (first | refine blk_drewN ?_ _ | refine blk_drew ?_ | refine blk_alloc ?_ _)); exact BK988.out) hb); have n3_ := Aside0.mk (blk_below (g := gb993) (o := .cells #[.int .i64 x8_4, .int .i64 x7_3] 25 (0, 0)) (by (with_reducible repeat (first | refine blk_drewN ?_ _ | refine blk_drew ?_ | refine blk_alloc ?_ _)); refine blk_put (cs := #[.int .i64 x8_4, .int .i64 0]) ?_ 1 _ rfl; (with_reducible repeat (first | refine blk_drewN ?_ _ | refine blk_drew ?_ | refine blk_alloc ?_ _)); refine blk_put (cs := #[.int .i64 0, .int .i64 0]) ?_ 0 _ rfl; (with_reducible repeat (first | refine blk_drewN ?_ _ | refine blk_drew ?_ | refine blk_alloc ?_ _)); exact BK993.out) hb); have n4_ := Aside0.mk (below_step (by repeat (first | (with_reducible first | exact HB.out | apply below_alloc | apply pw_below_drewN | apply below_drew1 | refine below_set ?_ GE986.out | refine below_set ?_ GE987.out | refine below_set ?_ GE988.out | refine below_set ?_ GE993.out) | exact HB.out)) hb); clear BK986; clear BK987; clear BK988; clear BK993; clear HB; have BK986 := n0_; have BK987 := n1_; have BK988 := n2_; have BK993 := n3_; have HB := n4_; clear n0_ n1_ n2_ n3_ n4_; (try clear hb); (try clear hb2); (try clear hk); (try clear hi); have hnb51 := NB987_988.out; have hnc51 := NB988_987.out; have hcz52_0 : w50.cell? ⟨gb987, 0, none⟩ = some (.int .i64 a1_0) := (blk_cell BK987.out 0).trans rfl; have hcz52_1 : w50.cell? ⟨gb987, 1, none⟩ = some (.int .i64 a1_1) := (blk_cell BK987.out 1).trans rfl; have hcz52_2 : w50.cell? ⟨gb987, 2, none⟩ = some (.int .i64 a1_2) := (blk_cell BK987.out 2).trans rfl; have hfz52_0 := blk_frozen BK987.out 0; have hfz52_1 := blk_frozen BK987.out 1; have hfz52_2 := blk_frozen BK987.out 2; have hcz53_0 : w50.cell? ⟨gb993, 0, none⟩ = some (.int .i64 x8_4) := (blk_cell BK993.out 0).trans rfl; have hcz53_1 : w50.cell? ⟨gb993, 1, none⟩ = some (.int .i64 x7_3) := (blk_cell BK993.out 1).trans rfl; have hfz53_0 := blk_frozen BK993.out 0; have hfz53_1 := blk_frozen BK993.out 1) | (go_at_call 172; (with_reducible refine (spec_l03Has.calls a1_0 a1_1 a1_2 x8_4 x7_3 true _ A39.out).mono ?_); rintro e w54 ⟨rfl, hb⟩; have n0_ := Aside0.mk (blk_below (g := gb986) (o := .cells #[.int .i64 a0_0, .int .i64 a0_1, .int .i64 a0_2] 66 (0, 0)) (by (with_reducible repeat (first | refine blk_drewN ?_ _ | refine blk_drew ?_ | refine blk_alloc ?_ _)); exact BK986.out) hb); have n1_ := Aside0.mk (blk_below (g := gb987) (o := .cells #[.int .i64 a1_0, .int .i64 a1_1, .int .i64 a1_2] 66 (0, 0)) (by (with_reducible repeat (first | refine blk_drewN ?_ _ | refine blk_drew ?_ | refine blk_alloc ?_ _)); exact BK987.out) hb); have n2_ := Aside0.mk (blk_below (g := gb988) (o := .cells #[.int .i64 x989000_4, .int .i64 x989001_4, .int .i64 x989002_4] 66 (0, 0)) (by (with_reducible repeat (first | refine blk_drewN ?_ _ | refine blk_drew ?_ | refine blk_alloc ?_ _)); exact BK988.out) hb); have n3_ := Aside0.mk (blk_below (g := gb993) (o := .cells #[.int .i64 x8_4, .int .i64 x7_3] 25 (0, 0)) (by (with_reducible repeat (first | refine blk_drewN ?_ _ | refine blk_drew ?_ | refine blk_alloc ?_ _)); exact BK993.out) hb); have n4_ := Aside0.mk (below_step (by repeat (first | (with_reducible first | exact HB.out | apply below_alloc | apply pw_below_drewN | apply below_drew1 | refine below_set ?_ GE986.out | refine below_set ?_ GE987.out | refine below_set ?_ GE988.out | refine below_set ?_ GE993.out) | exact HB.out)) hb); clear BK986; clear BK987; clear BK988; clear BK993; clear HB; have BK986 := n0_; have BK987 := n1_; have BK988 := n2_; have BK993 := n3_; have HB := n4_; clear n0_ n1_ n2_ n3_ n4_; (try clear hb); (try clear hb2); (try clear hk); (try clear hi)) | ((with_reducible refine gate_callee (f := 173) rfl ?_); refine goesL_ (some 55) rfl rfl Try.func173 (by kernel_rfl) rfl #[.agg #[.int .i64 x6_2, .int .i64 x8_4, .int .i64 x7_3]] rfl (by (try simp only [List.map_toArray, List.map_cons, List.map_nil]); first | done | rfl | (simp only [List.length_drop, List.length_take]; rfl)) ?_; (with_reducible refine (spec_l03Result.calls x6_2 x8_4 x7_3 t996 t997 t998 t999 _ A41.out).mono ?_); rintro e w55 ⟨rfl, hb⟩; refine ⟨_, rfl, ?_⟩; have n0_ := Aside0.mk (blk_below (g := gb986) (o := .cells #[.int .i64 a0_0, .int .i64 a0_1, .int .i64 a0_2] 66 (0, 0)) (by (with_reducible repeat (first | refine blk_drewN ?_ _ | refine blk_drew ?_ | refine blk_alloc ?_ _)); exact BK986.out) hb); have n1_ := Aside0.mk (blk_below (g := gb987) (o := .cells #[.int .i64 a1_0, .int .i64 a1_1, .int .i64 a1_2] 66 (0, 0)) (by (with_reducible repeat (first | refine blk_drewN ?_ _ | refine blk_drew ?_ | refine blk_alloc ?_ _)); exact BK987.out) hb); have n2_ := Aside0.mk (blk_below (g := gb988) (o := .cells #[.int .i64 x989000_4, .int .i64 x989001_4, .int .i64 x989002_4] 66 (0, 0)) (by (with_reducible repeat (first | refine blk_drewN ?_ _ | refine blk_drew ?_ | refine blk_alloc ?_ _)); exact BK988.out) hb); have n3_ := Aside0.mk (blk_below (g := gb993) (o := .cells #[.int .i64 x8_4, .int .i64 x7_3] 25 (0, 0)) (by (with_reducible repeat (first | refine blk_drewN ?_ _ | refine blk_drew ?_ | refine blk_alloc ?_ _)); exact BK993.out) hb); have n4_ := Aside0.mk (below_step (by repeat (first | (with_reducible first | exact HB.out | apply below_alloc | apply pw_below_drewN | apply below_drew1 | refine below_set ?_ GE986.out | refine below_set ?_ GE987.out | refine below_set ?_ GE988.out | refine below_set ?_ GE993.out) | exact HB.out)) hb); clear BK986; clear BK987; clear BK988; clear BK993; clear HB; have BK986 := n0_; have BK987 := n1_; have BK988 := n2_; have BK993 := n3_; have HB := n4_; clear n0_ n1_ n2_ n3_ n4_; (try clear hb); (try clear hb2); (try clear hk); (try clear hi); have hcz56_0 : w55.cell? ⟨gb988, 0, none⟩ = some (.int .i64 x989000_4) := (blk_cell BK988.out 0).trans rfl; have hcz56_1 : w55.cell? ⟨gb988, 1, none⟩ = some (.int .i64 x989001_4) := (blk_cell BK988.out 1).trans rfl; have hcz56_2 : w55.cell? ⟨gb988, 2, none⟩ = some (.int .i64 x989002_4) := (blk_cell BK988.out 2).trans rfl; have hfz56_0 := blk_frozen BK988.out 0; have hfz56_1 := blk_frozen BK988.out 1; have hfz56_2 := blk_frozen BK988.out 2))
                              refine bodyPost_ret (results_ct rfl _ _ gb988 66 #[.int .i64 t996, .int .i64 t997, .int .i64 t998] (0, 0) _ rfl (by (with_reducible repeat (first | refine blk_drewN ?_ _ | refine blk_drew ?_ | refine blk_alloc ?_ _)); refine blk_put (cs := #[.int .i64 t996, .int .i64 t997, .int .i64 x989002_4]) ?_ 2 _ rfl; (with_reducible repeat (first | refine blk_drewN ?_ _ | refine blk_drew ?_ | refine blk_alloc ?_ _)); refine blk_put (cs := #[.int .i64 t996, .int .i64 x989001_4, .int .i64 x989002_4]) ?_ 1 _ rfl; (with_reducible repeat (first | refine blk_drewN ?_ _ | refine blk_drew ?_ | refine blk_alloc ?_ _)); refine blk_put (cs := #[.int .i64 x989000_4, .int .i64 x989001_4, .int .i64 x989002_4]) ?_ 0 _ rfl; (with_reducible repeat (first | refine blk_drewN ?_ _ | refine blk_drew ?_ | refine blk_alloc ?_ _)); exact BK988.out) Try.underlying66 rfl (by kernel_rfl)) rfl ?_
                              exact ⟨by first | rfl | (simp [errW_none, errW_some] <;> rfl) | (simp [*, errW_none, errW_some] <;> rfl), by repeat (first | (with_reducible first | exact HB.out | apply below_alloc | apply pw_below_drewN | apply below_drew1 | refine below_set ?_ GE986.out | refine below_set ?_ GE987.out | refine below_set ?_ GE988.out | refine below_set ?_ GE993.out) | exact HB.out)⟩
                            · replace c40 := Bool.eq_false_iff.mpr c40
                              subst c40
                              have H1 : (spec_MeetLattices.l2 k4 x6_2 x7_3 (wrap64 (x8_4 + 1)) a0_0 a0_1 a0_2 a1_0 a1_1 a1_2) = some (r1, r2, r3, r4) := by rw [if_neg (show ¬ (false = true) by decide)] at H; exact H
                              clear H
                              have H := H1
                              clear H1
                              have H' := Aside0.mk H
                              clear H
                              go_wp2_with (first | ((with_reducible refine gate_dst (N := 9) rfl ?_); refine box_event ?hg (N := 9) ?hd (cs := #[.int .i64 0, .int .i64 0]) (t := 25) ?hr ?_; (case hd => rfl); (case hg => rfl); (case hr => first | (go_simp; done) | (go_simp; rfl)); intro gb993 hg w57 hbox hb; have n0_ := Aside0.mk (blk_below (g := gb986) (o := .cells #[.int .i64 a0_0, .int .i64 a0_1, .int .i64 a0_2] 66 (0, 0)) (by (with_reducible repeat (first | refine blk_drewN ?_ _ | refine blk_drew ?_ | refine blk_alloc ?_ _)); exact BK986.out) hb); have n1_ := Aside0.mk (blk_below (g := gb987) (o := .cells #[.int .i64 a1_0, .int .i64 a1_1, .int .i64 a1_2] 66 (0, 0)) (by (with_reducible repeat (first | refine blk_drewN ?_ _ | refine blk_drew ?_ | refine blk_alloc ?_ _)); exact BK987.out) hb); have n2_ := Aside0.mk (blk_below (g := gb988) (o := .cells #[.int .i64 x989000_4, .int .i64 x989001_4, .int .i64 x989002_4] 66 (0, 0)) (by (with_reducible repeat (first | refine blk_drewN ?_ _ | refine blk_drew ?_ | refine blk_alloc ?_ _)); exact BK988.out) hb); have n3_ := Aside0.mk (below_step (by repeat (first | (with_reducible first | exact HB.out | apply below_alloc | apply pw_below_drewN | apply below_drew1 | refine below_set ?_ GE986.out | refine below_set ?_ GE987.out | refine below_set ?_ GE988.out) | exact HB.out)) hb); have n4_ := Aside0.mk (hbox); have n5_ := Aside0.mk ((by rw [hg]; exact (below_size (by repeat (first | (with_reducible first | exact HB.out | apply below_alloc | apply pw_below_drewN | apply below_drew1 | refine below_set ?_ GE986.out | refine below_set ?_ GE987.out | refine below_set ?_ GE988.out) | exact HB.out))) : w.heap.size ≤ gb993)); have n6_ := Aside0.mk ((by rw [hg]; exact (below_size (by repeat (first | (with_reducible first | exact HB.out | apply below_alloc | apply pw_below_drewN | apply below_drew1 | refine below_set ?_ GE986.out | refine below_set ?_ GE987.out | refine below_set ?_ GE988.out) | exact HB.out))) : w.heap.size ≤ gb993)); have n7_ := Aside0.mk ((by rw [hg]; exact Nat.ne_of_lt (blk_lt (g := gb986) (o := .cells #[.int .i64 a0_0, .int .i64 a0_1, .int .i64 a0_2] 66 (0, 0)) (by (with_reducible repeat (first | refine blk_drewN ?_ _ | refine blk_drew ?_ | refine blk_alloc ?_ _)); exact BK986.out)) : gb986 ≠ gb993)); have n8_ := Aside0.mk ((by rw [hg]; exact Nat.ne_of_gt (blk_lt (g := gb986) (o := .cells #[.int .i64 a0_0, .int .i64 a0_1, .int .i64 a0_2] 66 (0, 0)) (by (with_reducible repeat (first | refine blk_drewN ?_ _ | refine blk_drew ?_ | refine blk_alloc ?_ _)); exact BK986.out)) : gb993 ≠ gb986)); have n9_ := Aside0.mk ((by rw [hg]; exact Nat.ne_of_lt (blk_lt (g := gb987) (o := .cells #[.int .i64 a1_0, .int .i64 a1_1, .int .i64 a1_2] 66 (0, 0)) (by (with_reducible repeat (first | refine blk_drewN ?_ _ | refine blk_drew ?_ | refine blk_alloc ?_ _)); exact BK987.out)) : gb987 ≠ gb993)); have n10_ := Aside0.mk ((by rw [hg]; exact Nat.ne_of_gt (blk_lt (g := gb987) (o := .cells #[.int .i64 a1_0, .int .i64 a1_1, .int .i64 a1_2] 66 (0, 0)) (by (with_reducible repeat (first | refine blk_drewN ?_ _ | refine blk_drew ?_ | refine blk_alloc ?_ _)); exact BK987.out)) : gb993 ≠ gb987)); have n11_ := Aside0.mk ((by rw [hg]; exact Nat.ne_of_lt (blk_lt (g := gb988) (o := .cells #[.int .i64 x989000_4, .int .i64 x989001_4, .int .i64 x989002_4] 66 (0, 0)) (by (with_reducible repeat (first | refine blk_drewN ?_ _ | refine blk_drew ?_ | refine blk_alloc ?_ _)); exact BK988.out)) : gb988 ≠ gb993)); have n12_ := Aside0.mk ((by rw [hg]; exact Nat.ne_of_gt (blk_lt (g := gb988) (o := .cells #[.int .i64 x989000_4, .int .i64 x989001_4, .int .i64 x989002_4] 66 (0, 0)) (by (with_reducible repeat (first | refine blk_drewN ?_ _ | refine blk_drew ?_ | refine blk_alloc ?_ _)); exact BK988.out)) : gb993 ≠ gb988)); clear BK986; clear BK987; clear BK988; clear HB; have BK986 := n0_; have BK987 := n1_; have BK988 := n2_; have HB := n3_; have BK993 := n4_; have GW993 := n5_; have GE993 := n6_; have NB986_993 := n7_; have NB993_986 := n8_; have NB987_993 := n9_; have NB993_987 := n10_; have NB988_993 := n11_; have NB993_988 := n12_; clear n0_ n1_ n2_ n3_ n4_ n5_ n6_ n7_ n8_ n9_ n10_ n11_ n12_; clear hb hbox hg; have hnb58 := NB993_986.out; have hnc58 := NB986_993.out; have hnb59 := NB993_987.out; have hnc59 := NB987_993.out; have hnb60 := NB993_988.out; have hnc60 := NB988_993.out; have hcz61_0 : w57.cell? ⟨gb993, 0, none⟩ = some (.int .i64 0) := (blk_cell BK993.out 0).trans rfl; have hcz61_1 : w57.cell? ⟨gb993, 1, none⟩ = some (.int .i64 0) := (blk_cell BK993.out 1).trans rfl; have hfz61_0 := blk_frozen BK993.out 0; have hfz61_1 := blk_frozen BK993.out 1; have hnb62 := NB986_987.out; have hnc62 := NB987_986.out; have hnb63 := NB986_988.out; have hnc63 := NB988_986.out; have hcz64_0 : w57.cell? ⟨gb986, 0, none⟩ = some (.int .i64 a0_0) := (blk_cell BK986.out 0).trans rfl; have hcz64_1 : w57.cell? ⟨gb986, 1, none⟩ = some (.int .i64 a0_1) := (blk_cell BK986.out 1).trans rfl; have hcz64_2 : w57.cell? ⟨gb986, 2, none⟩ = some (.int .i64 a0_2) := (blk_cell BK986.out 2).trans rfl; have hfz64_0 := blk_frozen BK986.out 0; have hfz64_1 := blk_frozen BK986.out 1; have hfz64_2 := blk_frozen BK986.out 2) | ((with_reducible refine gate_callee (f := 172) rfl ?_); refine goesL_ (some 45) rfl rfl Try.func172 (by kernel_rfl) rfl #[.agg #[.int .i64 a0_0, .int .i64 a0_1, .int .i64 a0_2], .agg #[.int .i64 x8_4, .int .i64 x7_3]] rfl (by (try simp only [List.map_toArray, List.map_cons, List.map_nil]); first | done | rfl | (simp only [List.length_drop, List.length_take]; rfl)) ?_; (with_reducible refine (spec_l03Has.calls a0_0 a0_1 a0_2 x8_4 x7_3 true _ A37.out).mono ?_); rintro e w65 ⟨rfl, hb⟩; refine ⟨_, rfl, ?_⟩; have n0_ := Aside0.mk (blk_below (g := gb986) (o := .cells #[.int .i64 a0_0, .int .i64 a0_1, .int .i64 a0_2] 66 (0, 0)) (by (with_reducible repeat (first | refine blk_drewN ?_ _ | refine blk_drew ?_ | refine blk_alloc ?_ _)); refine blk_far ?_ NB986_993.out _; (with_reducible repeat (first | refine blk_drewN ?_ _ | refine blk_drew ?_ | refine blk_alloc ?_ _)); refine blk_far ?_ NB986_993.out _; (with_reducible repeat (first | refine blk_drewN ?_ _ | refine blk_drew ?_ | refine blk_alloc ?_ _)); exact BK986.out) hb); have n1_ := Aside0.mk (blk_below (g := gb987) (o := .cells #[.int .i64 a1_0, .int .i64 a1_1, .int .i64 a1_2] 66 (0, 0)) (by (with_reducible repeat (first | refine blk_drewN ?_ _ | refine blk_drew ?_ | refine blk_alloc ?_ _)); refine blk_far ?_ NB987_993.out _; (with_reducible repeat (first | refine blk_drewN ?_ _ | refine blk_drew ?_ | refine blk_alloc ?_ _)); refine blk_far ?_ NB987_993.out _; (with_reducible repeat (first | refine blk_drewN ?_ _ | refine blk_drew ?_ | refine blk_alloc ?_ _)); exact BK987.out) hb); have n2_ := Aside0.mk (blk_below (g := gb988) (o := .cells #[.int .i64 x989000_4, .int .i64 x989001_4, .int .i64 x989002_4] 66 (0, 0)) (by (with_reducible repeat (first | refine blk_drewN ?_ _ | refine blk_drew ?_ | refine blk_alloc ?_ _)); refine blk_far ?_ NB988_993.out _; (with_reducible repeat (first | refine blk_drewN ?_ _ | refine blk_drew ?_ | refine blk_alloc ?_ _)); refine blk_far ?_ NB988_993.out _; (with_reducible repeat (first | refine blk_drewN ?_ _ | refine blk_drew ?_ | refine blk_alloc ?_ _)); exact BK988.out) hb); have n3_ := Aside0.mk (blk_below (g := gb993) (o := .cells #[.int .i64 x8_4, .int .i64 x7_3] 25 (0, 0)) (by (with_reducible repeat (first | refine blk_drewN ?_ _ | refine blk_drew ?_ | refine blk_alloc ?_ _)); refine blk_put (cs := #[.int .i64 x8_4, .int .i64 0]) ?_ 1 _ rfl; (with_reducible repeat (first | refine blk_drewN ?_ _ | refine blk_drew ?_ | refine blk_alloc ?_ _)); refine blk_put (cs := #[.int .i64 0, .int .i64 0]) ?_ 0 _ rfl; (with_reducible repeat (first | refine blk_drewN ?_ _ | refine blk_drew ?_ | refine blk_alloc ?_ _)); exact BK993.out) hb); have n4_ := Aside0.mk (below_step (by repeat (first | (with_reducible first | exact HB.out | apply below_alloc | apply pw_below_drewN | apply below_drew1 | refine below_set ?_ GE986.out | refine below_set ?_ GE987.out | refine below_set ?_ GE988.out | refine below_set ?_ GE993.out) | exact HB.out)) hb); clear BK986; clear BK987; clear BK988; clear BK993; clear HB; have BK986 := n0_; have BK987 := n1_; have BK988 := n2_; have BK993 := n3_; have HB := n4_; clear n0_ n1_ n2_ n3_ n4_; (try clear hb); (try clear hb2); (try clear hk); (try clear hi); have hnb66 := NB987_988.out; have hnc66 := NB988_987.out; have hcz67_0 : w65.cell? ⟨gb987, 0, none⟩ = some (.int .i64 a1_0) := (blk_cell BK987.out 0).trans rfl; have hcz67_1 : w65.cell? ⟨gb987, 1, none⟩ = some (.int .i64 a1_1) := (blk_cell BK987.out 1).trans rfl; have hcz67_2 : w65.cell? ⟨gb987, 2, none⟩ = some (.int .i64 a1_2) := (blk_cell BK987.out 2).trans rfl; have hfz67_0 := blk_frozen BK987.out 0; have hfz67_1 := blk_frozen BK987.out 1; have hfz67_2 := blk_frozen BK987.out 2; have hcz68_0 : w65.cell? ⟨gb993, 0, none⟩ = some (.int .i64 x8_4) := (blk_cell BK993.out 0).trans rfl; have hcz68_1 : w65.cell? ⟨gb993, 1, none⟩ = some (.int .i64 x7_3) := (blk_cell BK993.out 1).trans rfl; have hfz68_0 := blk_frozen BK993.out 0; have hfz68_1 := blk_frozen BK993.out 1) | (go_at_call 172; (with_reducible refine (spec_l03Has.calls a1_0 a1_1 a1_2 x8_4 x7_3 false _ A39.out).mono ?_); rintro e w69 ⟨rfl, hb⟩; have n0_ := Aside0.mk (blk_below (g := gb986) (o := .cells #[.int .i64 a0_0, .int .i64 a0_1, .int .i64 a0_2] 66 (0, 0)) (by (with_reducible repeat (first | refine blk_drewN ?_ _ | refine blk_drew ?_ | refine blk_alloc ?_ _)); exact BK986.out) hb); have n1_ := Aside0.mk (blk_below (g := gb987) (o := .cells #[.int .i64 a1_0, .int .i64 a1_1, .int .i64 a1_2] 66 (0, 0)) (by (with_reducible repeat (first | refine blk_drewN ?_ _ | refine blk_drew ?_ | refine blk_alloc ?_ _)); exact BK987.out) hb); have n2_ := Aside0.mk (blk_below (g := gb988) (o := .cells #[.int .i64 x989000_4, .int .i64 x989001_4, .int .i64 x989002_4] 66 (0, 0)) (by (with_reducible repeat (first | refine blk_drewN ?_ _ | refine blk_drew ?_ | refine blk_alloc ?_ _)); exact BK988.out) hb); have n3_ := Aside0.mk (blk_below (g := gb993) (o := .cells #[.int .i64 x8_4, .int .i64 x7_3] 25 (0, 0)) (by (with_reducible repeat (first | refine blk_drewN ?_ _ | refine blk_drew ?_ | refine blk_alloc ?_ _)); exact BK993.out) hb); have n4_ := Aside0.mk (below_step (by repeat (first | (with_reducible first | exact HB.out | apply below_alloc | apply pw_below_drewN | apply below_drew1 | refine below_set ?_ GE986.out | refine below_set ?_ GE987.out | refine below_set ?_ GE988.out | refine below_set ?_ GE993.out) | exact HB.out)) hb); clear BK986; clear BK987; clear BK988; clear BK993; clear HB; have BK986 := n0_; have BK987 := n1_; have BK988 := n2_; have BK993 := n3_; have HB := n4_; clear n0_ n1_ n2_ n3_ n4_; (try clear hb); (try clear hb2); (try clear hk); (try clear hi)))
                              go_roundg k4
                              case measure => have := HJ2.out; have := HK2.out; have := HK3.out; have := HK4.out; omega
                              case rel => exact ⟨(wrap64 (x8_4 + 1)), (x989000_4), (x989001_4), (x989002_4), (by first | rfl | (simp; done) | (simp [*]; done)), H', ⟨by have := HJ2.out; have := HK2.out; have := HK3.out; have := HK4.out; omega⟩, ⟨by (with_reducible repeat (first | refine blk_drewN ?_ _ | refine blk_drew ?_ | refine blk_alloc ?_ _)); exact BK986.out⟩, ⟨by (with_reducible repeat (first | refine blk_drewN ?_ _ | refine blk_drew ?_ | refine blk_alloc ?_ _)); exact BK987.out⟩, ⟨by (with_reducible repeat (first | refine blk_drewN ?_ _ | refine blk_drew ?_ | refine blk_alloc ?_ _)); exact BK988.out⟩, ⟨by repeat (first | (with_reducible first | exact HB.out | apply below_alloc | apply pw_below_drewN | apply below_drew1 | refine below_set ?_ GE986.out | refine below_set ?_ GE987.out | refine below_set ?_ GE988.out | refine below_set ?_ GE993.out) | exact HB.out)⟩⟩
                          · replace c38 := Bool.eq_false_iff.mpr c38
                            subst c38
                            have H1 : (spec_MeetLattices.l2 k4 x6_2 x7_3 (wrap64 (x8_4 + 1)) a0_0 a0_1 a0_2 a1_0 a1_1 a1_2) = some (r1, r2, r3, r4) := by rw [if_neg (show ¬ (false = true) by decide)] at H; exact H
                            clear H
                            have H := H1
                            clear H1
                            have H' := Aside0.mk H
                            clear H
                            go_wp2_with (first | ((with_reducible refine gate_dst (N := 9) rfl ?_); refine box_event ?hg (N := 9) ?hd (cs := #[.int .i64 0, .int .i64 0]) (t := 25) ?hr ?_; (case hd => rfl); (case hg => rfl); (case hr => first | (go_simp; done) | (go_simp; rfl)); intro gb993 hg w70 hbox hb; have n0_ := Aside0.mk (blk_below (g := gb986) (o := .cells #[.int .i64 a0_0, .int .i64 a0_1, .int .i64 a0_2] 66 (0, 0)) (by (with_reducible repeat (first | refine blk_drewN ?_ _ | refine blk_drew ?_ | refine blk_alloc ?_ _)); exact BK986.out) hb); have n1_ := Aside0.mk (blk_below (g := gb987) (o := .cells #[.int .i64 a1_0, .int .i64 a1_1, .int .i64 a1_2] 66 (0, 0)) (by (with_reducible repeat (first | refine blk_drewN ?_ _ | refine blk_drew ?_ | refine blk_alloc ?_ _)); exact BK987.out) hb); have n2_ := Aside0.mk (blk_below (g := gb988) (o := .cells #[.int .i64 x989000_4, .int .i64 x989001_4, .int .i64 x989002_4] 66 (0, 0)) (by (with_reducible repeat (first | refine blk_drewN ?_ _ | refine blk_drew ?_ | refine blk_alloc ?_ _)); exact BK988.out) hb); have n3_ := Aside0.mk (below_step (by repeat (first | (with_reducible first | exact HB.out | apply below_alloc | apply pw_below_drewN | apply below_drew1 | refine below_set ?_ GE986.out | refine below_set ?_ GE987.out | refine below_set ?_ GE988.out) | exact HB.out)) hb); have n4_ := Aside0.mk (hbox); have n5_ := Aside0.mk ((by rw [hg]; exact (below_size (by repeat (first | (with_reducible first | exact HB.out | apply below_alloc | apply pw_below_drewN | apply below_drew1 | refine below_set ?_ GE986.out | refine below_set ?_ GE987.out | refine below_set ?_ GE988.out) | exact HB.out))) : w.heap.size ≤ gb993)); have n6_ := Aside0.mk ((by rw [hg]; exact (below_size (by repeat (first | (with_reducible first | exact HB.out | apply below_alloc | apply pw_below_drewN | apply below_drew1 | refine below_set ?_ GE986.out | refine below_set ?_ GE987.out | refine below_set ?_ GE988.out) | exact HB.out))) : w.heap.size ≤ gb993)); have n7_ := Aside0.mk ((by rw [hg]; exact Nat.ne_of_lt (blk_lt (g := gb986) (o := .cells #[.int .i64 a0_0, .int .i64 a0_1, .int .i64 a0_2] 66 (0, 0)) (by (with_reducible repeat (first | refine blk_drewN ?_ _ | refine blk_drew ?_ | refine blk_alloc ?_ _)); exact BK986.out)) : gb986 ≠ gb993)); have n8_ := Aside0.mk ((by rw [hg]; exact Nat.ne_of_gt (blk_lt (g := gb986) (o := .cells #[.int .i64 a0_0, .int .i64 a0_1, .int .i64 a0_2] 66 (0, 0)) (by (with_reducible repeat (first | refine blk_drewN ?_ _ | refine blk_drew ?_ | refine blk_alloc ?_ _)); exact BK986.out)) : gb993 ≠ gb986)); have n9_ := Aside0.mk ((by rw [hg]; exact Nat.ne_of_lt (blk_lt (g := gb987) (o := .cells #[.int .i64 a1_0, .int .i64 a1_1, .int .i64 a1_2] 66 (0, 0)) (by (with_reducible repeat (first | refine blk_drewN ?_ _ | refine blk_drew ?_ | refine blk_alloc ?_ _)); exact BK987.out)) : gb987 ≠ gb993)); have n10_ := Aside0.mk ((by rw [hg]; exact Nat.ne_of_gt (blk_lt (g := gb987) (o := .cells #[.int .i64 a1_0, .int .i64 a1_1, .int .i64 a1_2] 66 (0, 0)) (by (with_reducible repeat (first | refine blk_drewN ?_ _ | refine blk_drew ?_ | refine blk_alloc ?_ _)); exact BK987.out)) : gb993 ≠ gb987)); have n11_ := Aside0.mk ((by rw [hg]; exact Nat.ne_of_lt (blk_lt (g := gb988) (o := .cells #[.int .i64 x989000_4, .int .i64 x989001_4, .int .i64 x989002_4] 66 (0, 0)) (by (with_reducible repeat (first | refine blk_drewN ?_ _ | refine blk_drew ?_ | refine blk_alloc ?_ _)); exact BK988.out)) : gb988 ≠ gb993)); have n12_ := Aside0.mk ((by rw [hg]; exact Nat.ne_of_gt (blk_lt (g := gb988) (o := .cells #[.int .i64 x989000_4, .int .i64 x989001_4, .int .i64 x989002_4] 66 (0, 0)) (by (with_reducible repeat (first | refine blk_drewN ?_ _ | refine blk_drew ?_ | refine blk_alloc ?_ _)); exact BK988.out)) : gb993 ≠ gb988)); clear BK986; clear BK987; clear BK988; clear HB; have BK986 := n0_; have BK987 := n1_; have BK988 := n2_; have HB := n3_; have BK993 := n4_; have GW993 := n5_; have GE993 := n6_; have NB986_993 := n7_; have NB993_986 := n8_; have NB987_993 := n9_; have NB993_987 := n10_; have NB988_993 := n11_; have NB993_988 := n12_; clear n0_ n1_ n2_ n3_ n4_ n5_ n6_ n7_ n8_ n9_ n10_ n11_ n12_; clear hb hbox hg; have hnb71 := NB993_986.out; have hnc71 := NB986_993.out; have hnb72 := NB993_987.out; have hnc72 := NB987_993.out; have hnb73 := NB993_988.out; have hnc73 := NB988_993.out; have hcz74_0 : w70.cell? ⟨gb993, 0, none⟩ = some (.int .i64 0) := (blk_cell BK993.out 0).trans rfl; have hcz74_1 : w70.cell? ⟨gb993, 1, none⟩ = some (.int .i64 0) := (blk_cell BK993.out 1).trans rfl; have hfz74_0 := blk_frozen BK993.out 0; have hfz74_1 := blk_frozen BK993.out 1; have hnb75 := NB986_987.out; have hnc75 := NB987_986.out; have hnb76 := NB986_988.out; have hnc76 := NB988_986.out; have hcz77_0 : w70.cell? ⟨gb986, 0, none⟩ = some (.int .i64 a0_0) := (blk_cell BK986.out 0).trans rfl; have hcz77_1 : w70.cell? ⟨gb986, 1, none⟩ = some (.int .i64 a0_1) := (blk_cell BK986.out 1).trans rfl; have hcz77_2 : w70.cell? ⟨gb986, 2, none⟩ = some (.int .i64 a0_2) := (blk_cell BK986.out 2).trans rfl; have hfz77_0 := blk_frozen BK986.out 0; have hfz77_1 := blk_frozen BK986.out 1; have hfz77_2 := blk_frozen BK986.out 2) | ((with_reducible refine gate_callee (f := 172) rfl ?_); refine goesL_ (some 45) rfl rfl Try.func172 (by kernel_rfl) rfl #[.agg #[.int .i64 a0_0, .int .i64 a0_1, .int .i64 a0_2], .agg #[.int .i64 x8_4, .int .i64 x7_3]] rfl (by (try simp only [List.map_toArray, List.map_cons, List.map_nil]); first | done | rfl | (simp only [List.length_drop, List.length_take]; rfl)) ?_; (with_reducible refine (spec_l03Has.calls a0_0 a0_1 a0_2 x8_4 x7_3 false _ A37.out).mono ?_); rintro e w78 ⟨rfl, hb⟩; refine ⟨_, rfl, ?_⟩; have n0_ := Aside0.mk (blk_below (g := gb986) (o := .cells #[.int .i64 a0_0, .int .i64 a0_1, .int .i64 a0_2] 66 (0, 0)) (by (with_reducible repeat (first | refine blk_drewN ?_ _ | refine blk_drew ?_ | refine blk_alloc ?_ _)); refine blk_far ?_ NB986_993.out _; (with_reducible repeat (first | refine blk_drewN ?_ _ | refine blk_drew ?_ | refine blk_alloc ?_ _)); refine blk_far ?_ NB986_993.out _; (with_reducible repeat (first | refine blk_drewN ?_ _ | refine blk_drew ?_ | refine blk_alloc ?_ _)); exact BK986.out) hb); have n1_ := Aside0.mk (blk_below (g := gb987) (o := .cells #[.int .i64 a1_0, .int .i64 a1_1, .int .i64 a1_2] 66 (0, 0)) (by (with_reducible repeat (first | refine blk_drewN ?_ _ | refine blk_drew ?_ | refine blk_alloc ?_ _)); refine blk_far ?_ NB987_993.out _; (with_reducible repeat (first | refine blk_drewN ?_ _ | refine blk_drew ?_ | refine blk_alloc ?_ _)); refine blk_far ?_ NB987_993.out _; (with_reducible repeat (first | refine blk_drewN ?_ _ | refine blk_drew ?_ | refine blk_alloc ?_ _)); exact BK987.out) hb); have n2_ := Aside0.mk (blk_below (g := gb988) (o := .cells #[.int .i64 x989000_4, .int .i64 x989001_4, .int .i64 x989002_4] 66 (0, 0)) (by (with_reducible repeat (first | refine blk_drewN ?_ _ | refine blk_drew ?_ | refine blk_alloc ?_ _)); refine blk_far ?_ NB988_993.out _; (with_reducible repeat (first | refine blk_drewN ?_ _ | refine blk_drew ?_ | refine blk_alloc ?_ _)); refine blk_far ?_ NB988_993.out _; (with_reducible repeat (first | refine blk_drewN ?_ _ | refine blk_drew ?_ | refine blk_alloc ?_ _)); exact BK988.out) hb); have n3_ := Aside0.mk (blk_below (g := gb993) (o := .cells #[.int .i64 x8_4, .int .i64 x7_3] 25 (0, 0)) (by (with_reducible repeat (first | refine blk_drewN ?_ _ | refine blk_drew ?_ | refine blk_alloc ?_ _)); refine blk_put (cs := #[.int .i64 x8_4, .int .i64 0]) ?_ 1 _ rfl; (with_reducible repeat (first | refine blk_drewN ?_ _ | refine blk_drew ?_ | refine blk_alloc ?_ _)); refine blk_put (cs := #[.int .i64 0, .int .i64 0]) ?_ 0 _ rfl; (with_reducible repeat (first | refine blk_drewN ?_ _ | refine blk_drew ?_ | refine blk_alloc ?_ _)); exact BK993.out) hb); have n4_ := Aside0.mk (below_step (by repeat (first | (with_reducible first | exact HB.out | apply below_alloc | apply pw_below_drewN | apply below_drew1 | refine below_set ?_ GE986.out | refine below_set ?_ GE987.out | refine below_set ?_ GE988.out | refine below_set ?_ GE993.out) | exact HB.out)) hb); clear BK986; clear BK987; clear BK988; clear BK993; clear HB; have BK986 := n0_; have BK987 := n1_; have BK988 := n2_; have BK993 := n3_; have HB := n4_; clear n0_ n1_ n2_ n3_ n4_; (try clear hb); (try clear hb2); (try clear hk); (try clear hi)))
                            go_roundg k4
                            case measure => have := HJ2.out; have := HK2.out; have := HK3.out; have := HK4.out; omega
                            case rel => exact ⟨(wrap64 (x8_4 + 1)), (x989000_4), (x989001_4), (x989002_4), (by first | rfl | (simp; done) | (simp [*]; done)), H', ⟨by have := HJ2.out; have := HK2.out; have := HK3.out; have := HK4.out; omega⟩, ⟨by (with_reducible repeat (first | refine blk_drewN ?_ _ | refine blk_drew ?_ | refine blk_alloc ?_ _)); exact BK986.out⟩, ⟨by (with_reducible repeat (first | refine blk_drewN ?_ _ | refine blk_drew ?_ | refine blk_alloc ?_ _)); exact BK987.out⟩, ⟨by (with_reducible repeat (first | refine blk_drewN ?_ _ | refine blk_drew ?_ | refine blk_alloc ?_ _)); exact BK988.out⟩, ⟨by repeat (first | (with_reducible first | exact HB.out | apply below_alloc | apply pw_below_drewN | apply below_drew1 | refine below_set ?_ GE986.out | refine below_set ?_ GE987.out | refine below_set ?_ GE988.out | refine below_set ?_ GE993.out) | exact HB.out)⟩⟩
                        · rw [if_neg c36] at H
                          have c36b0 : decide (x8_4 < x6_2) = false := decide_eq_false c36
                          clear c36
                          have H' := Aside0.mk H
                          clear H
                          go_wp2
                          go_roundg k4
                          case measure => have := HJ2.out; have := HK2.out; have := HK3.out; have := HK4.out; omega
                          case rel => exact ⟨(wrap64 (x7_3 + 1)), (x989000_4), (x989001_4), (x989002_4), (by first | rfl | (simp; done) | (simp [*]; done)), H', ⟨by have := HJ2.out; have := HK2.out; have := HK3.out; have := HK4.out; omega⟩, ⟨by (with_reducible repeat (first | refine blk_drewN ?_ _ | refine blk_drew ?_ | refine blk_alloc ?_ _)); exact BK986.out⟩, ⟨by (with_reducible repeat (first | refine blk_drewN ?_ _ | refine blk_drew ?_ | refine blk_alloc ?_ _)); exact BK987.out⟩, ⟨by (with_reducible repeat (first | refine blk_drewN ?_ _ | refine blk_drew ?_ | refine blk_alloc ?_ _)); exact BK988.out⟩, ⟨by repeat (first | (with_reducible first | exact HB.out | apply below_alloc | apply pw_below_drewN | apply below_drew1 | refine below_set ?_ GE986.out | refine below_set ?_ GE987.out | refine below_set ?_ GE988.out) | exact HB.out)⟩⟩
              · replace c28 := Bool.eq_false_iff.mpr c28
                subst c28
                have H1 : (spec_MeetLattices.l0 k2 (wrap64 (x6_2 + 1)) a0_0 a0_1 a0_2 a1_0 a1_1 a1_2) = some (r1, r2, r3, r4) := by rw [if_neg (show ¬ (false = true) by decide)] at H; exact H
                clear H
                have H := H1
                clear H1
                have H' := Aside0.mk H
                clear H
                have hnb79 := NB986_987.out
                have hnc79 := NB987_986.out
                have hnb80 := NB986_988.out
                have hnc80 := NB988_986.out
                have hcz81_0 : wr.cell? ⟨gb986, 0, none⟩ = some (.int .i64 a0_0) := (blk_cell BK986.out 0).trans rfl
                have hcz81_1 : wr.cell? ⟨gb986, 1, none⟩ = some (.int .i64 a0_1) := (blk_cell BK986.out 1).trans rfl
                have hcz81_2 : wr.cell? ⟨gb986, 2, none⟩ = some (.int .i64 a0_2) := (blk_cell BK986.out 2).trans rfl
                have hfz81_0 := blk_frozen BK986.out 0
                have hfz81_1 := blk_frozen BK986.out 1
                have hfz81_2 := blk_frozen BK986.out 2
                go_wp2_with (first | ((with_reducible refine gate_callee (f := 172) rfl ?_); refine goesL_ (some 22) rfl rfl Try.func172 (by kernel_rfl) rfl #[.agg #[.int .i64 a0_0, .int .i64 a0_1, .int .i64 a0_2], .agg #[.int .i64 x6_2, .int .i64 0]] rfl (by (try simp only [List.map_toArray, List.map_cons, List.map_nil]); first | done | rfl | (simp only [List.length_drop, List.length_take]; rfl)) ?_; (with_reducible refine (spec_l03Has.calls a0_0 a0_1 a0_2 x6_2 0 true _ A25.out).mono ?_); rintro e w82 ⟨rfl, hb⟩; refine ⟨_, rfl, ?_⟩; have n0_ := Aside0.mk (blk_below (g := gb986) (o := .cells #[.int .i64 a0_0, .int .i64 a0_1, .int .i64 a0_2] 66 (0, 0)) (by (with_reducible repeat (first | refine blk_drewN ?_ _ | refine blk_drew ?_ | refine blk_alloc ?_ _)); exact BK986.out) hb); have n1_ := Aside0.mk (blk_below (g := gb987) (o := .cells #[.int .i64 a1_0, .int .i64 a1_1, .int .i64 a1_2] 66 (0, 0)) (by (with_reducible repeat (first | refine blk_drewN ?_ _ | refine blk_drew ?_ | refine blk_alloc ?_ _)); exact BK987.out) hb); have n2_ := Aside0.mk (blk_below (g := gb988) (o := .cells #[.int .i64 0, .int .i64 0, .int .i64 0] 66 (0, 0)) (by (with_reducible repeat (first | refine blk_drewN ?_ _ | refine blk_drew ?_ | refine blk_alloc ?_ _)); exact BK988.out) hb); have n3_ := Aside0.mk (below_step (by repeat (first | (with_reducible first | exact HB.out | apply below_alloc | apply pw_below_drewN | apply below_drew1 | refine below_set ?_ GE986.out | refine below_set ?_ GE987.out | refine below_set ?_ GE988.out) | exact HB.out)) hb); clear BK986; clear BK987; clear BK988; clear HB; have BK986 := n0_; have BK987 := n1_; have BK988 := n2_; have HB := n3_; clear n0_ n1_ n2_ n3_; (try clear hb); (try clear hb2); (try clear hk); (try clear hi); have hnb83 := NB987_988.out; have hnc83 := NB988_987.out; have hcz84_0 : w82.cell? ⟨gb987, 0, none⟩ = some (.int .i64 a1_0) := (blk_cell BK987.out 0).trans rfl; have hcz84_1 : w82.cell? ⟨gb987, 1, none⟩ = some (.int .i64 a1_1) := (blk_cell BK987.out 1).trans rfl; have hcz84_2 : w82.cell? ⟨gb987, 2, none⟩ = some (.int .i64 a1_2) := (blk_cell BK987.out 2).trans rfl; have hfz84_0 := blk_frozen BK987.out 0; have hfz84_1 := blk_frozen BK987.out 1; have hfz84_2 := blk_frozen BK987.out 2) | (go_at_call 172; (with_reducible refine (spec_l03Has.calls a1_0 a1_1 a1_2 x6_2 0 false _ A27.out).mono ?_); rintro e w85 ⟨rfl, hb⟩; have n0_ := Aside0.mk (blk_below (g := gb986) (o := .cells #[.int .i64 a0_0, .int .i64 a0_1, .int .i64 a0_2] 66 (0, 0)) (by (with_reducible repeat (first | refine blk_drewN ?_ _ | refine blk_drew ?_ | refine blk_alloc ?_ _)); exact BK986.out) hb); have n1_ := Aside0.mk (blk_below (g := gb987) (o := .cells #[.int .i64 a1_0, .int .i64 a1_1, .int .i64 a1_2] 66 (0, 0)) (by (with_reducible repeat (first | refine blk_drewN ?_ _ | refine blk_drew ?_ | refine blk_alloc ?_ _)); exact BK987.out) hb); have n2_ := Aside0.mk (blk_below (g := gb988) (o := .cells #[.int .i64 0, .int .i64 0, .int .i64 0] 66 (0, 0)) (by (with_reducible repeat (first | refine blk_drewN ?_ _ | refine blk_drew ?_ | refine blk_alloc ?_ _)); exact BK988.out) hb); have n3_ := Aside0.mk (below_step (by repeat (first | (with_reducible first | exact HB.out | apply below_alloc | apply pw_below_drewN | apply below_drew1 | refine below_set ?_ GE986.out | refine below_set ?_ GE987.out | refine below_set ?_ GE988.out) | exact HB.out)) hb); clear BK986; clear BK987; clear BK988; clear HB; have BK986 := n0_; have BK987 := n1_; have BK988 := n2_; have HB := n3_; clear n0_ n1_ n2_ n3_; (try clear hb); (try clear hb2); (try clear hk); (try clear hi)))
                go_roundg k2
                case measure => have := HJ2.out; have := HK2.out; omega
                case rel => exact ⟨(wrap64 (x6_2 + 1)), (by first | rfl | (simp; done) | (simp [*]; done)), H', ⟨by have := HJ2.out; have := HK2.out; omega⟩, ⟨by (with_reducible repeat (first | refine blk_drewN ?_ _ | refine blk_drew ?_ | refine blk_alloc ?_ _)); exact BK986.out⟩, ⟨by (with_reducible repeat (first | refine blk_drewN ?_ _ | refine blk_drew ?_ | refine blk_alloc ?_ _)); exact BK987.out⟩, ⟨by (with_reducible repeat (first | refine blk_drewN ?_ _ | refine blk_drew ?_ | refine blk_alloc ?_ _)); exact BK988.out⟩, ⟨by repeat (first | (with_reducible first | exact HB.out | apply below_alloc | apply pw_below_drewN | apply below_drew1 | refine below_set ?_ GE986.out | refine below_set ?_ GE987.out | refine below_set ?_ GE988.out) | exact HB.out)⟩⟩
            · replace c26 := Bool.eq_false_iff.mpr c26
              subst c26
              have H1 : (spec_MeetLattices.l0 k2 (wrap64 (x6_2 + 1)) a0_0 a0_1 a0_2 a1_0 a1_1 a1_2) = some (r1, r2, r3, r4) := by rw [if_neg (show ¬ (false = true) by decide)] at H; exact H
              clear H
              have H := H1
              clear H1
              have H' := Aside0.mk H
              clear H
              have hnb86 := NB986_987.out
              have hnc86 := NB987_986.out
              have hnb87 := NB986_988.out
              have hnc87 := NB988_986.out
              have hcz88_0 : wr.cell? ⟨gb986, 0, none⟩ = some (.int .i64 a0_0) := (blk_cell BK986.out 0).trans rfl
              have hcz88_1 : wr.cell? ⟨gb986, 1, none⟩ = some (.int .i64 a0_1) := (blk_cell BK986.out 1).trans rfl
              have hcz88_2 : wr.cell? ⟨gb986, 2, none⟩ = some (.int .i64 a0_2) := (blk_cell BK986.out 2).trans rfl
              have hfz88_0 := blk_frozen BK986.out 0
              have hfz88_1 := blk_frozen BK986.out 1
              have hfz88_2 := blk_frozen BK986.out 2
              go_wp2_with (first | ((with_reducible refine gate_callee (f := 172) rfl ?_); refine goesL_ (some 22) rfl rfl Try.func172 (by kernel_rfl) rfl #[.agg #[.int .i64 a0_0, .int .i64 a0_1, .int .i64 a0_2], .agg #[.int .i64 x6_2, .int .i64 0]] rfl (by (try simp only [List.map_toArray, List.map_cons, List.map_nil]); first | done | rfl | (simp only [List.length_drop, List.length_take]; rfl)) ?_; (with_reducible refine (spec_l03Has.calls a0_0 a0_1 a0_2 x6_2 0 false _ A25.out).mono ?_); rintro e w89 ⟨rfl, hb⟩; refine ⟨_, rfl, ?_⟩; have n0_ := Aside0.mk (blk_below (g := gb986) (o := .cells #[.int .i64 a0_0, .int .i64 a0_1, .int .i64 a0_2] 66 (0, 0)) (by (with_reducible repeat (first | refine blk_drewN ?_ _ | refine blk_drew ?_ | refine blk_alloc ?_ _)); exact BK986.out) hb); have n1_ := Aside0.mk (blk_below (g := gb987) (o := .cells #[.int .i64 a1_0, .int .i64 a1_1, .int .i64 a1_2] 66 (0, 0)) (by (with_reducible repeat (first | refine blk_drewN ?_ _ | refine blk_drew ?_ | refine blk_alloc ?_ _)); exact BK987.out) hb); have n2_ := Aside0.mk (blk_below (g := gb988) (o := .cells #[.int .i64 0, .int .i64 0, .int .i64 0] 66 (0, 0)) (by (with_reducible repeat (first | refine blk_drewN ?_ _ | refine blk_drew ?_ | refine blk_alloc ?_ _)); exact BK988.out) hb); have n3_ := Aside0.mk (below_step (by repeat (first | (with_reducible first | exact HB.out | apply below_alloc | apply pw_below_drewN | apply below_drew1 | refine below_set ?_ GE986.out | refine below_set ?_ GE987.out | refine below_set ?_ GE988.out) | exact HB.out)) hb); clear BK986; clear BK987; clear BK988; clear HB; have BK986 := n0_; have BK987 := n1_; have BK988 := n2_; have HB := n3_; clear n0_ n1_ n2_ n3_; (try clear hb); (try clear hb2); (try clear hk); (try clear hi)))
              go_roundg k2
              case measure => have := HJ2.out; have := HK2.out; omega
              case rel => exact ⟨(wrap64 (x6_2 + 1)), (by first | rfl | (simp; done) | (simp [*]; done)), H', ⟨by have := HJ2.out; have := HK2.out; omega⟩, ⟨by (with_reducible repeat (first | refine blk_drewN ?_ _ | refine blk_drew ?_ | refine blk_alloc ?_ _)); exact BK986.out⟩, ⟨by (with_reducible repeat (first | refine blk_drewN ?_ _ | refine blk_drew ?_ | refine blk_alloc ?_ _)); exact BK987.out⟩, ⟨by (with_reducible repeat (first | refine blk_drewN ?_ _ | refine blk_drew ?_ | refine blk_alloc ?_ _)); exact BK988.out⟩, ⟨by repeat (first | (with_reducible first | exact HB.out | apply below_alloc | apply pw_below_drewN | apply below_drew1 | refine below_set ?_ GE986.out | refine below_set ?_ GE987.out | refine below_set ?_ GE988.out) | exact HB.out)⟩⟩

/-! ### spec_DrawSublatticesOf: function 67 -/
def spec_DrawSublatticesOf.f (k : Nat) (l0 : List Int) : Option (Int) := (spec_l01From.f k l0).bind fun bt1000 => ((spec_l01Next.f bt1000.1 bt1000.2.1 bt1000.2.2 12).bind fun bt1004 => (if bt1004.1 = 0 then ((spec_l01Pick.f bt1000.1 bt1004.2.1 bt1004.2.2 (([0, 1, 64, 65] : List Int))).bind fun bt1010 => (some bt1010.1)) else ((spec_l01Next.f bt1000.1 bt1004.2.1 bt1004.2.2 20).bind fun bt1013 => (some (wrap64 (1 + bt1013.1))))))
theorem spec_DrawSublatticesOf.mono : ∀ a0 k, LeO (spec_DrawSublatticesOf.f k a0) (spec_DrawSublatticesOf.f (k + 1) a0) := by
  intro a0 k
  unfold spec_DrawSublatticesOf.f
  repeat' first
      | (with_reducible exact spec_l01From.mono _ _)
      | (with_reducible exact LeO.refl _)
      | (with_reducible exact LeO.none _)
      | (with_reducible refine LeO.ite ?_ ?_)
      | (with_reducible refine LeO.bind ?_ (fun _ => ?_))
      | exact spec_l01From.mono _ _
      | exact LeO.none _
      | refine LeO.ite ?_ ?_
      | refine LeO.bind ?_ (fun _ => ?_)
set_option maxHeartbeats 8000000 in
set_option maxRecDepth 100000 in
theorem spec_DrawSublatticesOf.calls (k : Nat) (A0 : Option Addr) (c0 : Nat) (l0 : List Int) (r : Int) (w : World) (hr0 : Kd.C (Kd.int .u8) w A0 l0.length l0) (hc0 : l0.length ≤ c0) (h : spec_DrawSublatticesOf.f k l0 = some r) :
    Calls Try.prog 67 #[.slice A0 l0.length c0] w fun e w' => e = .returned (.int .i64 r) ∧ Below w.heap.size w w' := by
  have HR0 := Aside0.mk hr0
  have HC0 := Aside0.mk hc0
  clear hr0 hc0
  have HB := Aside0.mk (Below.refl w.heap.size w)
  have H : ((spec_l01From.f k l0).bind fun bt1000 => ((spec_l01Next.f bt1000.1 bt1000.2.1 bt1000.2.2 12).bind fun bt1004 => (if bt1004.1 = 0 then ((spec_l01Pick.f bt1000.1 bt1004.2.1 bt1004.2.2 (([0, 1, 64, 65] : List Int))).bind fun bt1010 => (some bt1010.1)) else ((spec_l01Next.f bt1000.1 bt1004.2.1 bt1004.2.2 20).bind fun bt1013 => (some (wrap64 (1 + bt1013.1))))))) = some r := h
  clear h
  replace H := Option.bind_eq_some_iff.mp H
  obtain ⟨⟨t1000, t1001, t1002⟩, A20, H⟩ := H
  replace H : ((spec_l01Next.f t1000 t1001 t1002 12).bind fun bt1004 => (if bt1004.1 = 0 then ((spec_l01Pick.f t1000 bt1004.2.1 bt1004.2.2 (([0, 1, 64, 65] : List Int))).bind fun bt1010 => (some bt1010.1)) else ((spec_l01Next.f t1000 bt1004.2.1 bt1004.2.2 20).bind fun bt1013 => (some (wrap64 (1 + bt1013.1)))))) = some r := H
  have A2 := Aside0.mk A20
  clear A20
  replace H := Option.bind_eq_some_iff.mp H
  obtain ⟨⟨t1004, t1005, t1006⟩, A30, H⟩ := H
  replace H : (if t1004 = 0 then ((spec_l01Pick.f t1000 t1005 t1006 (([0, 1, 64, 65] : List Int))).bind fun bt1010 => (some bt1010.1)) else ((spec_l01Next.f t1000 t1005 t1006 20).bind fun bt1013 => (some (wrap64 (1 + bt1013.1))))) = some r := H
  have A3 := Aside0.mk A30
  clear A30
  by_cases c4 : t1004 = 0
  · rw [if_pos c4] at H
    have c4b0 : (t1004 == 0) = true := beq_iff_eq.mpr c4
    have c4b1 : (t1004 != 0) = false := bne_eq_false_iff_eq.mpr c4
    clear c4
    obtain ⟨y1007, hy1007⟩ : ∃ y_ : List Int, y_ = (([0, 1, 64, 65] : List Int)) := ⟨_, rfl⟩
    replace H : ((spec_l01Pick.f t1000 t1005 t1006 y1007).bind fun bt1010 => (some bt1010.1)) = some r := by first | (rw [hy1007]; with_reducible exact H) | (have H2_ := (Option.bind_some _ _).symm.trans H; rw [hy1007]; with_reducible exact H2_) | (have H2_ := (Option.bind_some _ _).symm.trans H; with_reducible exact H2_) | with_reducible exact H | (rw [hy1007]; exact H) | exact H
    have Ny1007 := Aside0.mk hy1007
    clear hy1007
    replace H := Option.bind_eq_some_iff.mp H
    obtain ⟨⟨t1010, t1011, t1012⟩, A50, H⟩ := H
    replace H : (some t1010) = some r := H
    have A5 := Aside0.mk A50
    clear A50
    obtain rfl := Option.some.inj H
    go_enter Try.func67, Try.ntmps67
    go_wp2_with (first | ((with_reducible refine gate_callee (f := 122) rfl ?_); refine goesL_ (some 5) rfl rfl Try.func122 (by kernel_rfl) rfl #[.slice A0 l0.length c0] rfl (by (try simp only [List.map_toArray, List.map_cons, List.map_nil]); first | done | rfl | (simp only [List.length_drop, List.length_take]; rfl)) ?_; (with_reducible refine (spec_l01From.calls k _ _ l0 t1000 t1001 t1002 w _ ?side1 ?side2 ?side3 A2.out).mono ?_); (case side1 => repeat (first | (with_reducible first | exact HB.out | apply below_alloc | apply pw_below_drewN | apply below_drew1) | exact HB.out)); (case side2 => exact HR0.out); (case side3 => exact HC0.out); rintro e w6 ⟨g1003, rfl, hi, hb, hb2⟩; refine ⟨_, rfl, ?_⟩; have n0_ := Aside0.mk (hb); have n1_ := Aside0.mk (hi); clear HB; have HB := n0_; have HI1003 := n1_; clear n0_ n1_; (try clear hb); (try clear hb2); (try clear hk); (try clear hi)) | ((with_reducible refine gate_callee (f := 123) rfl ?_); refine goesL_ (some 7) rfl rfl Try.func123 (by kernel_rfl) rfl #[.pointer (some ⟨g1003, 0, none⟩), .int .i64 12] rfl (by (try simp only [List.map_toArray, List.map_cons, List.map_nil]); first | done | rfl | (simp only [List.length_drop, List.length_take]; rfl)) ?_; (with_reducible refine (spec_l01Next.calls g1003 t1000 t1001 t1002 12 t1004 t1005 t1006 w _ ?side1 ?side2 A3.out).mono ?_); (case side1 => repeat (first | (with_reducible first | exact HI1003.out | apply IsS174.alloc | apply IsS174.drewN | apply IsS174.drew | apply IsS174.set_1 | apply IsS174.set_2) | exact HI1003.out)); (case side2 => repeat (first | (with_reducible first | exact HB.out | apply below_alloc | apply pw_below_drewN | apply below_drew1 | refine below_set ?_ (IsS174.ge HI1003.out)) | exact HB.out)); rintro e w7 ⟨rfl, hi, hb, hk⟩; refine ⟨_, rfl, ?_⟩; have n0_ := Aside0.mk (hb); have n1_ := Aside0.mk (hi); clear HB; clear HI1003; have HB := n0_; have HI1003 := n1_; clear n0_ n1_; (try clear hb); (try clear hb2); (try clear hk); (try clear hi)) | ((with_reducible refine gate_dst (N := 10) rfl ?_); refine Kd.R_lit (Kd.int .i64) _ 2 ?hg (N := 10) ?hd (xs := ([0, 1, 64, 65] : List Int)) (inner := [.int .i64 0, .int .i64 1, .int .i64 64, .int .i64 65]) (ok := fun _ => True) (okp := fun _ => True) ?hr ?hp (fun _ hk => hk) trivial (Below.refl _ _) (Nat.le_refl _) (by simp) ?_; (case hd => rfl); (case hg => rfl); (case hr => first | (go_simp; done) | (go_simp; rfl)); (case hp => exact (Reps.one (show Kd.M (Kd.int .i64) _ _ _ 0 [.int .i64 0] from rfl) (Reps.one (show Kd.M (Kd.int .i64) _ _ _ 1 [.int .i64 1] from rfl) (Reps.one (show Kd.M (Kd.int .i64) _ _ _ 64 [.int .i64 64] from rfl) (Reps.one (show Kd.M (Kd.int .i64) _ _ _ 65 [.int .i64 65] from rfl) (Reps.none _ _)))))); intro v1008 w8 ho9 hb hg_ hnew_; clear hg_ hnew_; (first | rw [← Ny1007.out] at ho9 | (simp only [Int.reduceToNat] at ho9; rw [← Ny1007.out] at ho9)); have n0_ := Aside0.mk (Kd.R_lower ho9 (below_size (by repeat (first | (with_reducible first | exact HB.out | apply below_alloc | apply pw_below_drewN | apply below_drew1 | refine below_set ?_ (IsS174.ge HI1003.out)) | exact HB.out)))); have n1_ := Aside0.mk (IsS174.below (by repeat (first | (with_reducible first | exact HI1003.out | apply IsS174.alloc | apply IsS174.drewN | apply IsS174.drew | apply IsS174.set_1 | apply IsS174.set_2) | exact HI1003.out)) hb); have n2_ := Aside0.mk (below_step (by repeat (first | (with_reducible first | exact HB.out | apply below_alloc | apply pw_below_drewN | apply below_drew1 | refine below_set ?_ (IsS174.ge HI1003.out)) | exact HB.out)) hb); clear HI1003; clear HB; have HO1009 := n0_; have HI1003 := n1_; have HB := n2_; clear n0_ n1_ n2_; clear hb ho9; obtain ⟨Ao10, co10, eo10⟩ := Kd.R_slice HO1009.out; subst eo10) | ((with_reducible refine gate_callee (f := 127) rfl ?_); refine goesL_ (some 11) rfl rfl Try.func127 (by kernel_rfl) rfl #[.pointer (some ⟨g1003, 0, none⟩), .slice Ao10 y1007.length co10] rfl (by (try simp only [List.map_toArray, List.map_cons, List.map_nil]); first | done | rfl | (simp only [List.length_drop, List.length_take]; rfl)) ?_; (with_reducible refine (spec_l01Pick.calls g1003 t1000 t1005 t1006 _ _ y1007 t1010 t1011 t1012 w _ ?side1 ?side2 ?side3 ?side4 ?side5 A5.out).mono ?_); (case side1 => repeat (first | (with_reducible first | exact HI1003.out | apply IsS174.alloc | apply IsS174.drewN | apply IsS174.drew | apply IsS174.set_1 | apply IsS174.set_2) | exact HI1003.out)); (case side2 => repeat (first | (with_reducible first | exact HB.out | apply below_alloc | apply pw_below_drewN | apply below_drew1 | refine below_set ?_ (IsS174.ge HI1003.out)) | exact HB.out)); (case side3 => repeat (first | exact (Kd.R_reads' HO1009.out).2.2 | (with_reducible refine Kd.C_alloc ?_ _) | (with_reducible refine Kd.C_drewN ?_ _) | (with_reducible refine Kd.C_drew ?_))); (case side4 => exact (Kd.R_reads' HO1009.out).2.1); (case side5 => exact far_slice (IsS174.own_ne HI1003.out HO1009.out (by decide))); rintro e w11 ⟨rfl, hi, hb, hk⟩; refine ⟨_, rfl, ?_⟩; have n0_ := Aside0.mk (Kd.R_mono (Kd.R_keep (IsS174.apart (show IsS174 w _ g1003 t1000 t1005 t1006 from by repeat (first | (with_reducible first | exact HI1003.out | apply IsS174.alloc | apply IsS174.drewN | apply IsS174.drew | apply IsS174.set_1 | apply IsS174.set_2) | exact HI1003.out)) (by (with_reducible repeat (first | apply Kd.R_alloc | apply Kd.R_drewN | apply Kd.R_drew)); exact HO1009.out) (by decide)) hk (fun _ h => h.2)) (fun _ h => h.1)); have n1_ := Aside0.mk (hb); have n2_ := Aside0.mk (hi); clear HO1009; clear HB; clear HI1003; have HO1009 := n0_; have HB := n1_; have HI1003 := n2_; clear n0_ n1_ n2_; (try clear hb); (try clear hb2); (try clear hk); (try clear hi)))
    go_ret
    exact ⟨by first | rfl | (simp [errW_none, errW_some] <;> rfl) | (simp [*, errW_none, errW_some] <;> rfl), by repeat (first | (with_reducible first | exact HB.out | apply below_alloc | apply pw_below_drewN | apply below_drew1 | refine below_set ?_ (IsS174.ge HI1003.out)) | exact HB.out)⟩
  · rw [if_neg c4] at H
    have c4b0 : (t1004 == 0) = false := beq_eq_false_iff_ne.mpr c4
    have c4b1 : (t1004 != 0) = true := bne_iff_ne.mpr c4
    replace H := Option.bind_eq_some_iff.mp H
    obtain ⟨⟨t1013, t1014, t1015⟩, A120, H⟩ := H
    replace H : (some (wrap64 (1 + t1013))) = some r := H
    have A12 := Aside0.mk A120
    clear A120
    obtain rfl := Option.some.inj H
    go_enter Try.func67, Try.ntmps67
    go_wp2_with (first | ((with_reducible refine gate_callee (f := 122) rfl ?_); refine goesL_ (some 5) rfl rfl Try.func122 (by kernel_rfl) rfl #[.slice A0 l0.length c0] rfl (by (try simp only [List.map_toArray, List.map_cons, List.map_nil]); first | done | rfl | (simp only [List.length_drop, List.length_take]; rfl)) ?_; (with_reducible refine (spec_l01From.calls k _ _ l0 t1000 t1001 t1002 w _ ?side1 ?side2 ?side3 A2.out).mono ?_); (case side1 => repeat (first | (with_reducible first | exact HB.out | apply below_alloc | apply pw_below_drewN | apply below_drew1) | exact HB.out)); (case side2 => exact HR0.out); (case side3 => exact HC0.out); rintro e w13 ⟨g1003, rfl, hi, hb, hb2⟩; refine ⟨_, rfl, ?_⟩; have n0_ := Aside0.mk (hb); have n1_ := Aside0.mk (hi); clear HB; have HB := n0_; have HI1003 := n1_; clear n0_ n1_; (try clear hb); (try clear hb2); (try clear hk); (try clear hi)) | ((with_reducible refine gate_callee (f := 123) rfl ?_); refine goesL_ (some 7) rfl rfl Try.func123 (by kernel_rfl) rfl #[.pointer (some ⟨g1003, 0, none⟩), .int .i64 12] rfl (by (try simp only [List.map_toArray, List.map_cons, List.map_nil]); first | done | rfl | (simp only [List.length_drop, List.length_take]; rfl)) ?_; (with_reducible refine (spec_l01Next.calls g1003 t1000 t1001 t1002 12 t1004 t1005 t1006 w _ ?side1 ?side2 A3.out).mono ?_); (case side1 => repeat (first | (with_reducible first | exact HI1003.out | apply IsS174.alloc | apply IsS174.drewN | apply IsS174.drew | apply IsS174.set_1 | apply IsS174.set_2) | exact HI1003.out)); (case side2 => repeat (first | (with_reducible first | exact HB.out | apply below_alloc | apply pw_below_drewN | apply below_drew1 | refine below_set ?_ (IsS174.ge HI1003.out)) | exact HB.out)); rintro e w14 ⟨rfl, hi, hb, hk⟩; refine ⟨_, rfl, ?_⟩; have n0_ := Aside0.mk (hb); have n1_ := Aside0.mk (hi); clear HB; clear HI1003; have HB := n0_; have HI1003 := n1_; clear n0_ n1_; (try clear hb); (try clear hb2); (try clear hk); (try clear hi)) | ((with_reducible refine gate_callee (f := 123) rfl ?_); refine goesL_ (some 13) rfl rfl Try.func123 (by kernel_rfl) rfl #[.pointer (some ⟨g1003, 0, none⟩), .int .i64 20] rfl (by (try simp only [List.map_toArray, List.map_cons, List.map_nil]); first | done | rfl | (simp only [List.length_drop, List.length_take]; rfl)) ?_; (with_reducible refine (spec_l01Next.calls g1003 t1000 t1005 t1006 20 t1013 t1014 t1015 w _ ?side1 ?side2 A12.out).mono ?_); (case side1 => repeat (first | (with_reducible first | exact HI1003.out | apply IsS174.alloc | apply IsS174.drewN | apply IsS174.drew | apply IsS174.set_1 | apply IsS174.set_2) | exact HI1003.out)); (case side2 => repeat (first | (with_reducible first | exact HB.out | apply below_alloc | apply pw_below_drewN | apply below_drew1 | refine below_set ?_ (IsS174.ge HI1003.out)) | exact HB.out)); rintro e w15 ⟨rfl, hi, hb, hk⟩; refine ⟨_, rfl, ?_⟩; have n0_ := Aside0.mk (hb); have n1_ := Aside0.mk (hi); clear HB; clear HI1003; have HB := n0_; have HI1003 := n1_; clear n0_ n1_; (try clear hb); (try clear hb2); (try clear hk); (try clear hi)))
    go_ret
    exact ⟨by first | rfl | (simp [errW_none, errW_some] <;> rfl) | (simp [*, errW_none, errW_some] <;> rfl), by repeat (first | (with_reducible first | exact HB.out | apply below_alloc | apply pw_below_drewN | apply below_drew1 | refine below_set ?_ (IsS174.ge HI1003.out)) | exact HB.out)⟩

end Go.Proofs.Ytjjbjaagfjljnaa.F

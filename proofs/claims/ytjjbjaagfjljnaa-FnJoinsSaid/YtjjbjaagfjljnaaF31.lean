import Derived.Test.YtjjbjaagfjljnaaF0
import Derived.Test.YtjjbjaagfjljnaaF25
import Derived.Test.YtjjbjaagfjljnaaF27
import Derived.Test.YtjjbjaagfjljnaaF26
import Derived.Test.YtjjbjaagfjljnaaF30
namespace Go.Proofs.Ytjjbjaagfjljnaa.F
open Go.RowKit Go.Proofs.YtjjbjaagfjljnaaW.PrintWords Go.Proofs.YtjjbjaagfjljnaaW.PrintLast Go.Proofs.YtjjbjaagfjljnaaW.PrintMore
attribute [local go_sem] max2_int min2_int max_two min_two max_three min_three max_four min_four   -- for this text's walks alone
set_option linter.unusedVariables false
set_option linter.unusedSimpArgs false

/-! ### impl_MeetLattices: function 65 -/
def impl_MeetLattices.j0 : Nat → Bool → Int → Int → Int → Int → Int → Int → Option (Int × Int × Int × Int)
  | 0, _, _, _, _, _, _, _ => none
  | k + 1, x13, x961000, x961001, x961002, x962000, x962001, x962002 => if x13 = true then (some (0, 0, 0, 1)) else ((impl_Lattice_index.f x961000 x961001 x961002).bind fun t965 => ((impl_Lattice_index.f x962000 x962001 x962002).bind fun t966 => ((impl_join.f k x961000 x961001 x961002 x962000 x962001 x962002).bind fun bt967 => ((impl_Lattice_index.f bt967.1 bt967.2.1 bt967.2.2).bind fun t970 => (if t970 = 0 then (none) else (if (wrap64 (Int.tdiv (wrap64 (t965 * t966)) t970)) > 64 then (some (0, 0, 0, 3)) else ((impl_meet.f k x961000 x961001 x961002 x962000 x962001 x962002).bind fun bt971 => (some (bt971.1, bt971.2.1, bt971.2.2, 0)))))))))
def impl_MeetLattices.f (k : Nat) (a0_0 : Int) (a0_1 : Int) (a0_2 : Int) (a1_0 : Int) (a1_1 : Int) (a1_2 : Int) : Option (Int × Int × Int × Int) := (impl_IsLattice.f a0_0 a0_1 a0_2).bind fun t963 => (if t963 = true then ((impl_IsLattice.f a1_0 a1_1 a1_2).bind fun t964 => (impl_MeetLattices.j0 k (!t964) a0_0 a0_1 a0_2 a1_0 a1_1 a1_2)) else (impl_MeetLattices.j0 k true a0_0 a0_1 a0_2 a1_0 a1_1 a1_2))
theorem impl_MeetLattices.mono_l : ∀ k, (∀ y0 y1 y2 y3 y4 y5 y6, LeO (impl_MeetLattices.j0 k y0 y1 y2 y3 y4 y5 y6) (impl_MeetLattices.j0 (k + 1) y0 y1 y2 y3 y4 y5 y6))
  | 0 => fun _ _ _ _ _ _ _ r h => by simp [impl_MeetLattices.j0] at h
  | k + 1 => by
    have ih0 := impl_MeetLattices.mono_l k
    · intro y0 y1 y2 y3 y4 y5 y6
      unfold impl_MeetLattices.j0
      repeat' first
      | (with_reducible exact ih0 _ _ _ _ _ _ _)
      | (with_reducible exact impl_join.mono _ _ _ _ _ _ _)
      | (with_reducible exact impl_meet.mono _ _ _ _ _ _ _)
      | (with_reducible exact LeO.refl _)
      | (with_reducible exact LeO.none _)
      | (with_reducible refine LeO.ite ?_ ?_)
      | (with_reducible refine LeO.bind ?_ (fun _ => ?_))
      | exact ih0 _ _ _ _ _ _ _
      | exact impl_join.mono _ _ _ _ _ _ _
      | exact impl_meet.mono _ _ _ _ _ _ _
      | exact LeO.none _
      | refine LeO.ite ?_ ?_
      | refine LeO.bind ?_ (fun _ => ?_)
theorem impl_MeetLattices.mono : ∀ a0 a1 a2 a3 a4 a5 k, LeO (impl_MeetLattices.f k a0 a1 a2 a3 a4 a5) (impl_MeetLattices.f (k + 1) a0 a1 a2 a3 a4 a5) := by
  intro a0 a1 a2 a3 a4 a5 k
  have ih0 := impl_MeetLattices.mono_l k
  unfold impl_MeetLattices.f
  repeat' first
      | (with_reducible exact ih0 _ _ _ _ _ _ _)
      | (with_reducible exact impl_join.mono _ _ _ _ _ _ _)
      | (with_reducible exact impl_meet.mono _ _ _ _ _ _ _)
      | (with_reducible exact LeO.refl _)
      | (with_reducible exact LeO.none _)
      | (with_reducible refine LeO.ite ?_ ?_)
      | (with_reducible refine LeO.bind ?_ (fun _ => ?_))
      | exact ih0 _ _ _ _ _ _ _
      | exact impl_join.mono _ _ _ _ _ _ _
      | exact impl_meet.mono _ _ _ _ _ _ _
      | exact LeO.none _
      | refine LeO.ite ?_ ?_
      | refine LeO.bind ?_ (fun _ => ?_)
def impl_MeetLattices.T3 : Bool × List (List Nat × List Nat) := (true, [([], []), ([0], [0]), ([], []), ([2, 1], [2]), ([1, 3], [1, 3]), ([], []), ([], []), ([5, 6, 3], [5, 6]), ([7, 7], [7]), ([4, 8], [4, 8]), ([9], [9])])
def impl_MeetLattices.B3 : List Nat := [0, 1, 0, 7, 15, 0, 0, 111, 239, 511, 1023]
theorem impl_MeetLattices.tab3 : rtab .any (opsOf Try.f65 3) = impl_MeetLattices.T3 := by kernel_rfl
theorem impl_MeetLattices.bits3 : waitsOk impl_MeetLattices.T3.2 impl_MeetLattices.B3 = true := by kernel_rfl
set_option maxHeartbeats 8000000 in
set_option maxRecDepth 100000 in
theorem impl_MeetLattices.calls (k : Nat) (a0_0 : Int) (a0_1 : Int) (a0_2 : Int) (a1_0 : Int) (a1_1 : Int) (a1_2 : Int) (r1 : Int) (r2 : Int) (r3 : Int) (r4 : Int) (w : World) (h : impl_MeetLattices.f k a0_0 a0_1 a0_2 a1_0 a1_1 a1_2 = some (r1, r2, r3, r4)) :
    Calls Try.prog 65 #[.agg #[.int .i64 a0_0, .int .i64 a0_1, .int .i64 a0_2], .agg #[.int .i64 a1_0, .int .i64 a1_1, .int .i64 a1_2]] w fun e w' => e = .returned (.tuple #[.agg #[.int .i64 r1, .int .i64 r2, .int .i64 r3], .int .i64 r4]) ∧ Below w.heap.size w w' := by
  have hu66 := Try.underlying66
  have HB := Aside0.mk (Below.refl w.heap.size w)
  have H : ((impl_IsLattice.f a0_0 a0_1 a0_2).bind fun t963 => (if t963 = true then ((impl_IsLattice.f a1_0 a1_1 a1_2).bind fun t964 => (impl_MeetLattices.j0 k (!t964) a0_0 a0_1 a0_2 a1_0 a1_1 a1_2)) else (impl_MeetLattices.j0 k true a0_0 a0_1 a0_2 a1_0 a1_1 a1_2))) = some (r1, r2, r3, r4) := h
  clear h
  have HC3 := Aside0.mk H
  clear H
  go_enter Try.func65, Try.ntmps65
  go_upto_region 1 with (first | ((with_reducible refine gate_dst (N := 2) rfl ?_); refine box_event ?hg (N := 2) ?hd (cs := #[.int .i64 a0_0, .int .i64 a0_1, .int .i64 a0_2]) (t := 66) ?hr ?_; (case hd => rfl); (case hg => rfl); (case hr => first | (go_simp; done) | (go_simp; rfl)); intro gb960 hg w4 hbox hb; have n0_ := Aside0.mk (below_step (by repeat (first | (with_reducible first | exact HB.out | apply below_alloc | apply pw_below_drewN | apply below_drew1) | exact HB.out)) hb); have n1_ := Aside0.mk (hbox); have n2_ := Aside0.mk ((by rw [hg]; exact (below_size (by repeat (first | (with_reducible first | exact HB.out | apply below_alloc | apply pw_below_drewN | apply below_drew1) | exact HB.out))) : w.heap.size ≤ gb960)); have n3_ := Aside0.mk ((by rw [hg]; exact (below_size (by repeat (first | (with_reducible first | exact HB.out | apply below_alloc | apply pw_below_drewN | apply below_drew1) | exact HB.out))) : w.heap.size ≤ gb960)); clear HB; have HB := n0_; have BK960 := n1_; have GW960 := n2_; have GE960 := n3_; clear n0_ n1_ n2_ n3_; clear hb hbox hg) | ((with_reducible refine gate_dst (N := 3) rfl ?_); refine box_event ?hg (N := 3) ?hd (cs := #[.int .i64 a1_0, .int .i64 a1_1, .int .i64 a1_2]) (t := 66) ?hr ?_; (case hd => rfl); (case hg => rfl); (case hr => first | (go_simp; done) | (go_simp; rfl)); intro gb961 hg w5 hbox hb; have n0_ := Aside0.mk (blk_below (g := gb960) (o := .cells #[.int .i64 a0_0, .int .i64 a0_1, .int .i64 a0_2] 66 (0, 0)) (by (with_reducible repeat (first | refine blk_drewN ?_ _ | refine blk_drew ?_ | refine blk_alloc ?_ _)); exact BK960.out) hb); have n1_ := Aside0.mk (below_step (by repeat (first | (with_reducible first | exact HB.out | apply below_alloc | apply pw_below_drewN | apply below_drew1 | refine below_set ?_ GE960.out) | exact HB.out)) hb); have n2_ := Aside0.mk (hbox); have n3_ := Aside0.mk ((by rw [hg]; exact (below_size (by repeat (first | (with_reducible first | exact HB.out | apply below_alloc | apply pw_below_drewN | apply below_drew1 | refine below_set ?_ GE960.out) | exact HB.out))) : w.heap.size ≤ gb961)); have n4_ := Aside0.mk ((by rw [hg]; exact (below_size (by repeat (first | (with_reducible first | exact HB.out | apply below_alloc | apply pw_below_drewN | apply below_drew1 | refine below_set ?_ GE960.out) | exact HB.out))) : w.heap.size ≤ gb961)); have n5_ := Aside0.mk ((by rw [hg]; exact Nat.ne_of_lt (blk_lt (g := gb960) (o := .cells #[.int .i64 a0_0, .int .i64 a0_1, .int .i64 a0_2] 66 (0, 0)) (by (with_reducible repeat (first | refine blk_drewN ?_ _ | refine blk_drew ?_ | refine blk_alloc ?_ _)); exact BK960.out)) : gb960 ≠ gb961)); have n6_ := Aside0.mk ((by rw [hg]; exact Nat.ne_of_gt (blk_lt (g := gb960) (o := .cells #[.int .i64 a0_0, .int .i64 a0_1, .int .i64 a0_2] 66 (0, 0)) (by (with_reducible repeat (first | refine blk_drewN ?_ _ | refine blk_drew ?_ | refine blk_alloc ?_ _)); exact BK960.out)) : gb961 ≠ gb960)); clear BK960; clear HB; have BK960 := n0_; have HB := n1_; have BK961 := n2_; have GW961 := n3_; have GE961 := n4_; have NB960_961 := n5_; have NB961_960 := n6_; clear n0_ n1_ n2_ n3_ n4_ n5_ n6_; clear hb hbox hg) | ((with_reducible refine gate_dst (N := 4) rfl ?_); refine box_event ?hg (N := 4) ?hd (cs := #[.int .i64 0, .int .i64 0, .int .i64 0]) (t := 66) ?hr ?_; (case hd => rfl); (case hg => rfl); (case hr => first | (go_simp; done) | (go_simp; rfl)); intro gb962 hg w6 hbox hb; have n0_ := Aside0.mk (blk_below (g := gb960) (o := .cells #[.int .i64 a0_0, .int .i64 a0_1, .int .i64 a0_2] 66 (0, 0)) (by (with_reducible repeat (first | refine blk_drewN ?_ _ | refine blk_drew ?_ | refine blk_alloc ?_ _)); exact BK960.out) hb); have n1_ := Aside0.mk (blk_below (g := gb961) (o := .cells #[.int .i64 a1_0, .int .i64 a1_1, .int .i64 a1_2] 66 (0, 0)) (by (with_reducible repeat (first | refine blk_drewN ?_ _ | refine blk_drew ?_ | refine blk_alloc ?_ _)); exact BK961.out) hb); have n2_ := Aside0.mk (below_step (by repeat (first | (with_reducible first | exact HB.out | apply below_alloc | apply pw_below_drewN | apply below_drew1 | refine below_set ?_ GE960.out | refine below_set ?_ GE961.out) | exact HB.out)) hb); have n3_ := Aside0.mk (hbox); have n4_ := Aside0.mk ((by rw [hg]; exact (below_size (by repeat (first | (with_reducible first | exact HB.out | apply below_alloc | apply pw_below_drewN | apply below_drew1 | refine below_set ?_ GE960.out | refine below_set ?_ GE961.out) | exact HB.out))) : w.heap.size ≤ gb962)); have n5_ := Aside0.mk ((by rw [hg]; exact (below_size (by repeat (first | (with_reducible first | exact HB.out | apply below_alloc | apply pw_below_drewN | apply below_drew1 | refine below_set ?_ GE960.out | refine below_set ?_ GE961.out) | exact HB.out))) : w.heap.size ≤ gb962)); have n6_ := Aside0.mk ((by rw [hg]; exact Nat.ne_of_lt (blk_lt (g := gb960) (o := .cells #[.int .i64 a0_0, .int .i64 a0_1, .int .i64 a0_2] 66 (0, 0)) (by (with_reducible repeat (first | refine blk_drewN ?_ _ | refine blk_drew ?_ | refine blk_alloc ?_ _)); exact BK960.out)) : gb960 ≠ gb962)); have n7_ := Aside0.mk ((by rw [hg]; exact Nat.ne_of_gt (blk_lt (g := gb960) (o := .cells #[.int .i64 a0_0, .int .i64 a0_1, .int .i64 a0_2] 66 (0, 0)) (by (with_reducible repeat (first | refine blk_drewN ?_ _ | refine blk_drew ?_ | refine blk_alloc ?_ _)); exact BK960.out)) : gb962 ≠ gb960)); have n8_ := Aside0.mk ((by rw [hg]; exact Nat.ne_of_lt (blk_lt (g := gb961) (o := .cells #[.int .i64 a1_0, .int .i64 a1_1, .int .i64 a1_2] 66 (0, 0)) (by (with_reducible repeat (first | refine blk_drewN ?_ _ | refine blk_drew ?_ | refine blk_alloc ?_ _)); exact BK961.out)) : gb961 ≠ gb962)); have n9_ := Aside0.mk ((by rw [hg]; exact Nat.ne_of_gt (blk_lt (g := gb961) (o := .cells #[.int .i64 a1_0, .int .i64 a1_1, .int .i64 a1_2] 66 (0, 0)) (by (with_reducible repeat (first | refine blk_drewN ?_ _ | refine blk_drew ?_ | refine blk_alloc ?_ _)); exact BK961.out)) : gb962 ≠ gb961)); clear BK960; clear BK961; clear HB; have BK960 := n0_; have BK961 := n1_; have HB := n2_; have BK962 := n3_; have GW962 := n4_; have GE962 := n5_; have NB960_962 := n6_; have NB962_960 := n7_; have NB961_962 := n8_; have NB962_961 := n9_; clear n0_ n1_ n2_ n3_ n4_ n5_ n6_ n7_ n8_ n9_; clear hb hbox hg))
  (try simp only [Act.put, List.setIfInBounds_toArray, List.set_cons_zero, List.set_cons_succ])
  go_cut [13] (fun v13 wc => ∃ (kq : Nat) (x13_2 : Bool), v13 = .bool x13_2 ∧ Aside0 (impl_MeetLattices.j0 kq x13_2 a0_0 a0_1 a0_2 a1_0 a1_1 a1_2 = some (r1, r2, r3, r4)) ∧ Aside0 (kq ≤ k) ∧ Aside0 (wc.heap[gb960]? = some (.cells #[.int .i64 a0_0, .int .i64 a0_1, .int .i64 a0_2] 66 (0, 0))) ∧ Aside0 (wc.heap[gb961]? = some (.cells #[.int .i64 a1_0, .int .i64 a1_1, .int .i64 a1_2] 66 (0, 0))) ∧ Aside0 (wc.heap[gb962]? = some (.cells #[.int .i64 0, .int .i64 0, .int .i64 0] 66 (0, 0))) ∧ Aside0 (Below w.heap.size w wc))
  case first =>
    have H := HC3.out
    clear HC3
    replace H := Option.bind_eq_some_iff.mp H
    obtain ⟨t963, A70, H⟩ := H
    replace H : (if t963 = true then ((impl_IsLattice.f a1_0 a1_1 a1_2).bind fun t964 => (impl_MeetLattices.j0 k (!t964) a0_0 a0_1 a0_2 a1_0 a1_1 a1_2)) else (impl_MeetLattices.j0 k true a0_0 a0_1 a0_2 a1_0 a1_1 a1_2)) = some (r1, r2, r3, r4) := H
    have A7 := Aside0.mk A70
    clear A70
    by_cases c8 : t963 = true
    · subst c8
      have H1 : ((impl_IsLattice.f a1_0 a1_1 a1_2).bind fun t964 => (impl_MeetLattices.j0 k (!t964) a0_0 a0_1 a0_2 a1_0 a1_1 a1_2)) = some (r1, r2, r3, r4) := by rw [if_pos rfl] at H; exact H
      clear H
      have H := H1
      clear H1
      replace H := Option.bind_eq_some_iff.mp H
      obtain ⟨t964, A90, H⟩ := H
      replace H : (impl_MeetLattices.j0 k (!t964) a0_0 a0_1 a0_2 a1_0 a1_1 a1_2) = some (r1, r2, r3, r4) := H
      have A9 := Aside0.mk A90
      clear A90
      have H' := Aside0.mk H
      clear H
      have hnb10 := NB960_961.out
      have hnc10 := NB961_960.out
      have hnb11 := NB960_962.out
      have hnc11 := NB962_960.out
      have hcz12_0 : w6.cell? ⟨gb960, 0, none⟩ = some (.int .i64 a0_0) := (blk_cell BK960.out 0).trans rfl
      have hcz12_1 : w6.cell? ⟨gb960, 1, none⟩ = some (.int .i64 a0_1) := (blk_cell BK960.out 1).trans rfl
      have hcz12_2 : w6.cell? ⟨gb960, 2, none⟩ = some (.int .i64 a0_2) := (blk_cell BK960.out 2).trans rfl
      have hfz12_0 := blk_frozen BK960.out 0
      have hfz12_1 := blk_frozen BK960.out 1
      have hfz12_2 := blk_frozen BK960.out 2
      go_wp2_with (first | ((with_reducible refine gate_callee (f := 80) rfl ?_); refine goesL_ (some 7) rfl rfl Try.func80 (by kernel_rfl) rfl #[.agg #[.int .i64 a0_0, .int .i64 a0_1, .int .i64 a0_2]] rfl (by (try simp only [List.map_toArray, List.map_cons, List.map_nil]); first | done | rfl | (simp only [List.length_drop, List.length_take]; rfl)) ?_; (with_reducible refine (impl_IsLattice.calls a0_0 a0_1 a0_2 true _ A7.out).mono ?_); rintro e w13 ⟨rfl, hb⟩; refine ⟨_, rfl, ?_⟩; have n0_ := Aside0.mk (blk_below (g := gb960) (o := .cells #[.int .i64 a0_0, .int .i64 a0_1, .int .i64 a0_2] 66 (0, 0)) (by (with_reducible repeat (first | refine blk_drewN ?_ _ | refine blk_drew ?_ | refine blk_alloc ?_ _)); exact BK960.out) hb); have n1_ := Aside0.mk (blk_below (g := gb961) (o := .cells #[.int .i64 a1_0, .int .i64 a1_1, .int .i64 a1_2] 66 (0, 0)) (by (with_reducible repeat (first | refine blk_drewN ?_ _ | refine blk_drew ?_ | refine blk_alloc ?_ _)); exact BK961.out) hb); have n2_ := Aside0.mk (blk_below (g := gb962) (o := .cells #[.int .i64 0, .int .i64 0, .int .i64 0] 66 (0, 0)) (by (with_reducible repeat (first | refine blk_drewN ?_ _ | refine blk_drew ?_ | refine blk_alloc ?_ _)); exact BK962.out) hb); have n3_ := Aside0.mk (below_step (by repeat (first | (with_reducible first | exact HB.out | apply below_alloc | apply pw_below_drewN | apply below_drew1 | refine below_set ?_ GE960.out | refine below_set ?_ GE961.out | refine below_set ?_ GE962.out) | exact HB.out)) hb); clear BK960; clear BK961; clear BK962; clear HB; have BK960 := n0_; have BK961 := n1_; have BK962 := n2_; have HB := n3_; clear n0_ n1_ n2_ n3_; (try clear hb); (try clear hb2); (try clear hk); (try clear hi); have hnb14 := NB961_962.out; have hnc14 := NB962_961.out; have hcz15_0 : w13.cell? ⟨gb961, 0, none⟩ = some (.int .i64 a1_0) := (blk_cell BK961.out 0).trans rfl; have hcz15_1 : w13.cell? ⟨gb961, 1, none⟩ = some (.int .i64 a1_1) := (blk_cell BK961.out 1).trans rfl; have hcz15_2 : w13.cell? ⟨gb961, 2, none⟩ = some (.int .i64 a1_2) := (blk_cell BK961.out 2).trans rfl; have hfz15_0 := blk_frozen BK961.out 0; have hfz15_1 := blk_frozen BK961.out 1; have hfz15_2 := blk_frozen BK961.out 2) | (go_at_call 80; (with_reducible refine (impl_IsLattice.calls a1_0 a1_1 a1_2 t964 _ A9.out).mono ?_); rintro e w16 ⟨rfl, hb⟩; have n0_ := Aside0.mk (blk_below (g := gb960) (o := .cells #[.int .i64 a0_0, .int .i64 a0_1, .int .i64 a0_2] 66 (0, 0)) (by (with_reducible repeat (first | refine blk_drewN ?_ _ | refine blk_drew ?_ | refine blk_alloc ?_ _)); exact BK960.out) hb); have n1_ := Aside0.mk (blk_below (g := gb961) (o := .cells #[.int .i64 a1_0, .int .i64 a1_1, .int .i64 a1_2] 66 (0, 0)) (by (with_reducible repeat (first | refine blk_drewN ?_ _ | refine blk_drew ?_ | refine blk_alloc ?_ _)); exact BK961.out) hb); have n2_ := Aside0.mk (blk_below (g := gb962) (o := .cells #[.int .i64 0, .int .i64 0, .int .i64 0] 66 (0, 0)) (by (with_reducible repeat (first | refine blk_drewN ?_ _ | refine blk_drew ?_ | refine blk_alloc ?_ _)); exact BK962.out) hb); have n3_ := Aside0.mk (below_step (by repeat (first | (with_reducible first | exact HB.out | apply below_alloc | apply pw_below_drewN | apply below_drew1 | refine below_set ?_ GE960.out | refine below_set ?_ GE961.out | refine below_set ?_ GE962.out) | exact HB.out)) hb); clear BK960; clear BK961; clear BK962; clear HB; have BK960 := n0_; have BK961 := n1_; have BK962 := n2_; have HB := n3_; clear n0_ n1_ n2_ n3_; (try clear hb); (try clear hb2); (try clear hk); (try clear hi)))
      go_meet
      case rel => exact ⟨_, (!t964), (by first | rfl | (simp; done) | (simp [*]; done)), H', ⟨by first | omega | exact Nat.le_refl _⟩, ⟨by (with_reducible repeat (first | refine blk_drewN ?_ _ | refine blk_drew ?_ | refine blk_alloc ?_ _)); exact BK960.out⟩, ⟨by (with_reducible repeat (first | refine blk_drewN ?_ _ | refine blk_drew ?_ | refine blk_alloc ?_ _)); exact BK961.out⟩, ⟨by (with_reducible repeat (first | refine blk_drewN ?_ _ | refine blk_drew ?_ | refine blk_alloc ?_ _)); exact BK962.out⟩, ⟨by repeat (first | (with_reducible first | exact HB.out | apply below_alloc | apply pw_below_drewN | apply below_drew1 | refine below_set ?_ GE960.out | refine below_set ?_ GE961.out | refine below_set ?_ GE962.out) | exact HB.out)⟩⟩
    · replace c8 := Bool.eq_false_iff.mpr c8
      subst c8
      have H1 : (impl_MeetLattices.j0 k true a0_0 a0_1 a0_2 a1_0 a1_1 a1_2) = some (r1, r2, r3, r4) := by rw [if_neg (show ¬ (false = true) by decide)] at H; exact H
      clear H
      have H := H1
      clear H1
      have H' := Aside0.mk H
      clear H
      have hnb17 := NB960_961.out
      have hnc17 := NB961_960.out
      have hnb18 := NB960_962.out
      have hnc18 := NB962_960.out
      have hcz19_0 : w6.cell? ⟨gb960, 0, none⟩ = some (.int .i64 a0_0) := (blk_cell BK960.out 0).trans rfl
      have hcz19_1 : w6.cell? ⟨gb960, 1, none⟩ = some (.int .i64 a0_1) := (blk_cell BK960.out 1).trans rfl
      have hcz19_2 : w6.cell? ⟨gb960, 2, none⟩ = some (.int .i64 a0_2) := (blk_cell BK960.out 2).trans rfl
      have hfz19_0 := blk_frozen BK960.out 0
      have hfz19_1 := blk_frozen BK960.out 1
      have hfz19_2 := blk_frozen BK960.out 2
      go_wp2_with (first | ((with_reducible refine gate_callee (f := 80) rfl ?_); refine goesL_ (some 7) rfl rfl Try.func80 (by kernel_rfl) rfl #[.agg #[.int .i64 a0_0, .int .i64 a0_1, .int .i64 a0_2]] rfl (by (try simp only [List.map_toArray, List.map_cons, List.map_nil]); first | done | rfl | (simp only [List.length_drop, List.length_take]; rfl)) ?_; (with_reducible refine (impl_IsLattice.calls a0_0 a0_1 a0_2 false _ A7.out).mono ?_); rintro e w20 ⟨rfl, hb⟩; refine ⟨_, rfl, ?_⟩; have n0_ := Aside0.mk (blk_below (g := gb960) (o := .cells #[.int .i64 a0_0, .int .i64 a0_1, .int .i64 a0_2] 66 (0, 0)) (by (with_reducible repeat (first | refine blk_drewN ?_ _ | refine blk_drew ?_ | refine blk_alloc ?_ _)); exact BK960.out) hb); have n1_ := Aside0.mk (blk_below (g := gb961) (o := .cells #[.int .i64 a1_0, .int .i64 a1_1, .int .i64 a1_2] 66 (0, 0)) (by (with_reducible repeat (first | refine blk_drewN ?_ _ | refine blk_drew ?_ | refine blk_alloc ?_ _)); exact BK961.out) hb); have n2_ := Aside0.mk (blk_below (g := gb962) (o := .cells #[.int .i64 0, .int .i64 0, .int .i64 0] 66 (0, 0)) (by (with_reducible repeat (first | refine blk_drewN ?_ _ | refine blk_drew ?_ | refine blk_alloc ?_ _)); exact BK962.out) hb); have n3_ := Aside0.mk (below_step (by repeat (first | (with_reducible first | exact HB.out | apply below_alloc | apply pw_below_drewN | apply below_drew1 | refine below_set ?_ GE960.out | refine below_set ?_ GE961.out | refine below_set ?_ GE962.out) | exact HB.out)) hb); clear BK960; clear BK961; clear BK962; clear HB; have BK960 := n0_; have BK961 := n1_; have BK962 := n2_; have HB := n3_; clear n0_ n1_ n2_ n3_; (try clear hb); (try clear hb2); (try clear hk); (try clear hi)))
      go_meet
      case rel => exact ⟨_, (true), (by first | rfl | (simp; done) | (simp [*]; done)), H', ⟨by first | omega | exact Nat.le_refl _⟩, ⟨by (with_reducible repeat (first | refine blk_drewN ?_ _ | refine blk_drew ?_ | refine blk_alloc ?_ _)); exact BK960.out⟩, ⟨by (with_reducible repeat (first | refine blk_drewN ?_ _ | refine blk_drew ?_ | refine blk_alloc ?_ _)); exact BK961.out⟩, ⟨by (with_reducible repeat (first | refine blk_drewN ?_ _ | refine blk_drew ?_ | refine blk_alloc ?_ _)); exact BK962.out⟩, ⟨by repeat (first | (with_reducible first | exact HB.out | apply below_alloc | apply pw_below_drewN | apply below_drew1 | refine below_set ?_ GE960.out | refine below_set ?_ GE961.out | refine below_set ?_ GE962.out) | exact HB.out)⟩⟩
  case rest =>
    clear HC3
    try clear c1
    try clear p2
    try clear c6
    try clear c8
    try clear c10
    try clear c11
    try clear c14
    try clear c17
    try clear c18
    try clear hcz12_0
    try clear hcz12_1
    try clear hcz12_2
    try clear hcz15_0
    try clear hcz15_1
    try clear hcz15_2
    try clear hcz19_0
    try clear hcz19_1
    try clear hcz19_2
    try clear hfz12_0
    try clear hfz12_1
    try clear hfz12_2
    try clear hfz15_0
    try clear hfz15_1
    try clear hfz15_2
    try clear hfz19_0
    try clear hfz19_1
    try clear hfz19_2
    obtain ⟨kq, x13_2, rfl, HA, HJ2, BK960, BK961, BK962, HB⟩ := hcut
    cases kq with
    | zero => exact absurd HA.out (by simp [impl_MeetLattices.j0])
    | succ kj2 =>
      have H := HA.out
      clear HA
      simp only [impl_MeetLattices.j0] at H
      by_cases c21 : x13_2 = true
      · subst c21
        have H1 : (some (0, 0, 0, 1)) = some (r1, r2, r3, r4) := by rw [if_pos rfl] at H; exact H
        clear H
        have H := H1
        clear H1
        simp only [Option.some.injEq, Prod.mk.injEq] at H
        obtain ⟨rfl, rfl, rfl, rfl⟩ := H
        have hnb22 := NB962_960.out
        have hnc22 := NB960_962.out
        have hnb23 := NB962_961.out
        have hnc23 := NB961_962.out
        have hcz24_0 : wc.cell? ⟨gb962, 0, none⟩ = some (.int .i64 0) := (blk_cell BK962.out 0).trans rfl
        have hcz24_1 : wc.cell? ⟨gb962, 1, none⟩ = some (.int .i64 0) := (blk_cell BK962.out 1).trans rfl
        have hcz24_2 : wc.cell? ⟨gb962, 2, none⟩ = some (.int .i64 0) := (blk_cell BK962.out 2).trans rfl
        have hfz24_0 := blk_frozen BK962.out 0
        have hfz24_1 := blk_frozen BK962.out 1
        have hfz24_2 := blk_frozen BK962.out 2
        go_wp2
        refine bodyPost_ret (results_ct rfl _ _ gb962 66 #[.int .i64 0, .int .i64 0, .int .i64 0] (0, 0) _ rfl (by (with_reducible repeat (first | refine blk_drewN ?_ _ | refine blk_drew ?_ | refine blk_alloc ?_ _)); refine blk_put (cs := #[.int .i64 0, .int .i64 0, .int .i64 0]) ?_ 2 _ rfl; (with_reducible repeat (first | refine blk_drewN ?_ _ | refine blk_drew ?_ | refine blk_alloc ?_ _)); refine blk_put (cs := #[.int .i64 0, .int .i64 0, .int .i64 0]) ?_ 1 _ rfl; (with_reducible repeat (first | refine blk_drewN ?_ _ | refine blk_drew ?_ | refine blk_alloc ?_ _)); refine blk_put (cs := #[.int .i64 0, .int .i64 0, .int .i64 0]) ?_ 0 _ rfl; (with_reducible repeat (first | refine blk_drewN ?_ _ | refine blk_drew ?_ | refine blk_alloc ?_ _)); exact BK962.out) Try.underlying66 rfl (by kernel_rfl)) rfl ?_
        exact ⟨by first | rfl | (simp [errW_none, errW_some] <;> rfl) | (simp [*, errW_none, errW_some] <;> rfl), by repeat (first | (with_reducible first | exact HB.out | apply below_alloc | apply pw_below_drewN | apply below_drew1 | refine below_set ?_ GE960.out | refine below_set ?_ GE961.out | refine below_set ?_ GE962.out) | exact HB.out)⟩
      · replace c21 := Bool.eq_false_iff.mpr c21
        subst c21
        have H1 : ((impl_Lattice_index.f a0_0 a0_1 a0_2).bind fun t965 => ((impl_Lattice_index.f a1_0 a1_1 a1_2).bind fun t966 => ((impl_join.f kj2 a0_0 a0_1 a0_2 a1_0 a1_1 a1_2).bind fun bt967 => ((impl_Lattice_index.f bt967.1 bt967.2.1 bt967.2.2).bind fun t970 => (if t970 = 0 then (none) else (if (wrap64 (Int.tdiv (wrap64 (t965 * t966)) t970)) > 64 then (some (0, 0, 0, 3)) else ((impl_meet.f kj2 a0_0 a0_1 a0_2 a1_0 a1_1 a1_2).bind fun bt971 => (some (bt971.1, bt971.2.1, bt971.2.2, 0))))))))) = some (r1, r2, r3, r4) := by rw [if_neg (show ¬ (false = true) by decide)] at H; exact H
        clear H
        have H := H1
        clear H1
        replace H := Option.bind_eq_some_iff.mp H
        obtain ⟨t965, A250, H⟩ := H
        replace H : ((impl_Lattice_index.f a1_0 a1_1 a1_2).bind fun t966 => ((impl_join.f kj2 a0_0 a0_1 a0_2 a1_0 a1_1 a1_2).bind fun bt967 => ((impl_Lattice_index.f bt967.1 bt967.2.1 bt967.2.2).bind fun t970 => (if t970 = 0 then (none) else (if (wrap64 (Int.tdiv (wrap64 (t965 * t966)) t970)) > 64 then (some (0, 0, 0, 3)) else ((impl_meet.f kj2 a0_0 a0_1 a0_2 a1_0 a1_1 a1_2).bind fun bt971 => (some (bt971.1, bt971.2.1, bt971.2.2, 0)))))))) = some (r1, r2, r3, r4) := H
        have A25 := Aside0.mk A250
        clear A250
        replace H := Option.bind_eq_some_iff.mp H
        obtain ⟨t966, A260, H⟩ := H
        replace H : ((impl_join.f kj2 a0_0 a0_1 a0_2 a1_0 a1_1 a1_2).bind fun bt967 => ((impl_Lattice_index.f bt967.1 bt967.2.1 bt967.2.2).bind fun t970 => (if t970 = 0 then (none) else (if (wrap64 (Int.tdiv (wrap64 (t965 * t966)) t970)) > 64 then (some (0, 0, 0, 3)) else ((impl_meet.f kj2 a0_0 a0_1 a0_2 a1_0 a1_1 a1_2).bind fun bt971 => (some (bt971.1, bt971.2.1, bt971.2.2, 0))))))) = some (r1, r2, r3, r4) := H
        have A26 := Aside0.mk A260
        clear A260
        replace H := Option.bind_eq_some_iff.mp H
        obtain ⟨⟨t967, t968, t969⟩, A270, H⟩ := H
        replace H : ((impl_Lattice_index.f t967 t968 t969).bind fun t970 => (if t970 = 0 then (none) else (if (wrap64 (Int.tdiv (wrap64 (t965 * t966)) t970)) > 64 then (some (0, 0, 0, 3)) else ((impl_meet.f kj2 a0_0 a0_1 a0_2 a1_0 a1_1 a1_2).bind fun bt971 => (some (bt971.1, bt971.2.1, bt971.2.2, 0)))))) = some (r1, r2, r3, r4) := H
        have A27 := Aside0.mk A270
        clear A270
        replace H := Option.bind_eq_some_iff.mp H
        obtain ⟨t970, A280, H⟩ := H
        replace H : (if t970 = 0 then (none) else (if (wrap64 (Int.tdiv (wrap64 (t965 * t966)) t970)) > 64 then (some (0, 0, 0, 3)) else ((impl_meet.f kj2 a0_0 a0_1 a0_2 a1_0 a1_1 a1_2).bind fun bt971 => (some (bt971.1, bt971.2.1, bt971.2.2, 0))))) = some (r1, r2, r3, r4) := H
        have A28 := Aside0.mk A280
        clear A280
        by_cases c29 : t970 = 0
        · rw [if_pos c29] at H
          exact absurd H (by simp)
        · rw [if_neg c29] at H
          have c29b0 : (t970 == 0) = false := beq_eq_false_iff_ne.mpr c29
          have c29b1 : (t970 != 0) = true := bne_iff_ne.mpr c29
          by_cases c30 : (wrap64 (Int.tdiv (wrap64 (t965 * t966)) t970)) > 64
          · rw [if_pos c30] at H
            have c30b0 : decide (64 < (wrap64 (Int.tdiv (wrap64 (t965 * t966)) t970))) = true := decide_eq_true c30
            clear c30
            simp only [Option.some.injEq, Prod.mk.injEq] at H
            obtain ⟨rfl, rfl, rfl, rfl⟩ := H
            try go_wp2
            have n0_ := Aside0.mk (blk_drew BK960.out)
            have n1_ := Aside0.mk (blk_drew BK961.out)
            have n2_ := Aside0.mk (blk_drew BK962.out)
            have n3_ := Aside0.mk (below_drew1 HB.out)
            clear BK960
            clear BK961
            clear BK962
            clear HB
            have BK960 := n0_
            have BK961 := n1_
            have BK962 := n2_
            have HB := n3_
            clear n0_ n1_ n2_ n3_
            refine start_ (n := 11) (S := fun w' => w'.cell? ⟨gb960, 0, none⟩ = some (.int .i64 a0_0) ∧ w'.cell? ⟨gb960, 1, none⟩ = some (.int .i64 a0_1) ∧ w'.cell? ⟨gb960, 2, none⟩ = some (.int .i64 a0_2) ∧ w'.cell? ⟨gb961, 0, none⟩ = some (.int .i64 a1_0) ∧ w'.cell? ⟨gb961, 1, none⟩ = some (.int .i64 a1_1) ∧ w'.cell? ⟨gb961, 2, none⟩ = some (.int .i64 a1_2)) (ds := []) #[false, false, false, false, false, false, false, false, false, false, false] (by kernel_rfl) rfl rfl ⟨(blk_cell BK960.out 0).trans rfl, (blk_cell BK960.out 1).trans rfl, (blk_cell BK960.out 2).trans rfl, (blk_cell BK961.out 0).trans rfl, (blk_cell BK961.out 1).trans rfl, (blk_cell BK961.out 2).trans rfl⟩ (fun hHeld => ?_); refine with_tabW impl_MeetLattices.tab3 impl_MeetLattices.bits3 (fun HT_ HW_ => ?_)
            generalize wc.drew = w31 at BK960 BK961 BK962 HB hHeld ⊢
            refine take_ (i := 0) (N := some 15) (v := ?_) (a' := ?_) #[true, false, false, false, false, false, false, false, false, false, false] rfl rfl (take_ofW HT_.out HW_.out (by kernel_rfl)) (fun _ _ _ h => h) (Or.inl ⟨by rfl, ?_⟩) hHeld ?_ ?_
            rotate_left
            · rintro w' ⟨s0, s1, s2, s3, s4, s5⟩
              go_simp
              with_reducible rfl
            rotate_left
            · simp only [Act.put, List.setIfInBounds_toArray, List.set_cons_zero, List.set_cons_succ, i64_w, i32_w]
              rfl
            refine take_ (i := 2) (N := some 17) (v := ?_) (a' := ?_) #[true, false, true, false, false, false, false, false, false, false, false] rfl rfl (take_ofW HT_.out HW_.out (by kernel_rfl)) (fun _ _ _ h => h) (Or.inl ⟨by rfl, ?_⟩) hHeld ?_ ?_
            rotate_left
            · rintro w' ⟨s0, s1, s2, s3, s4, s5⟩
              go_simp
              with_reducible rfl
            rotate_left
            · simp only [Act.put, List.setIfInBounds_toArray, List.set_cons_zero, List.set_cons_succ, i64_w, i32_w]
              rfl
            refine take_ (i := 5) (N := some 20) (v := ?_) (a' := ?_) #[true, false, true, false, false, true, false, false, false, false, false] rfl rfl (take_ofW HT_.out HW_.out (by kernel_rfl)) (fun _ _ _ h => h) (Or.inl ⟨by rfl, ?_⟩) hHeld ?_ ?_
            rotate_left
            · rintro w' ⟨s0, s1, s2, s3, s4, s5⟩
              go_simp
              with_reducible rfl
            rotate_left
            · simp only [Act.put, List.setIfInBounds_toArray, List.set_cons_zero, List.set_cons_succ, i64_w, i32_w]
              rfl
            refine take_ (i := 6) (N := some 21) (v := ?_) (a' := ?_) #[true, false, true, false, false, true, true, false, false, false, false] rfl rfl (take_ofW HT_.out HW_.out (by kernel_rfl)) (fun _ _ _ h => h) (Or.inl ⟨by rfl, ?_⟩) hHeld ?_ ?_
            rotate_left
            · rintro w' ⟨s0, s1, s2, s3, s4, s5⟩
              go_simp
              with_reducible rfl
            rotate_left
            · simp only [Act.put, List.setIfInBounds_toArray, List.set_cons_zero, List.set_cons_succ, i64_w, i32_w]
              rfl
            refine one_ (i := 1) (N := some 16) #[true, true, true, false, false, true, true, false, false, false, false] rfl rfl (one_of HT_.out (by kernel_rfl)) (by decide) (fun K hK => ?_)
            refine goes_ Try.func170 (by kernel_rfl) rfl #[.agg #[.int .i64 a0_0, .int .i64 a0_1, .int .i64 a0_2]] (by rfl) rfl rfl (by (try simp only [List.map_toArray, List.map_cons, List.map_nil]); first | done | rfl | (simp only [List.length_drop, List.length_take]; rfl)) ?_
            with_reducible refine (impl_Lattice_index.calls a0_0 a0_1 a0_2 t965 _ A25.out).mono ?_
            rintro e w32 ⟨rfl, hb⟩
            refine ⟨_, rfl, ?_⟩
            have n0_ := Aside0.mk (blk_below (g := gb960) (o := .cells #[.int .i64 a0_0, .int .i64 a0_1, .int .i64 a0_2] 66 (0, 0)) (by (with_reducible repeat (first | refine blk_drewN ?_ _ | refine blk_drew ?_ | refine blk_alloc ?_ _)); exact BK960.out) hb)
            have n1_ := Aside0.mk (blk_below (g := gb961) (o := .cells #[.int .i64 a1_0, .int .i64 a1_1, .int .i64 a1_2] 66 (0, 0)) (by (with_reducible repeat (first | refine blk_drewN ?_ _ | refine blk_drew ?_ | refine blk_alloc ?_ _)); exact BK961.out) hb)
            have n2_ := Aside0.mk (blk_below (g := gb962) (o := .cells #[.int .i64 0, .int .i64 0, .int .i64 0] 66 (0, 0)) (by (with_reducible repeat (first | refine blk_drewN ?_ _ | refine blk_drew ?_ | refine blk_alloc ?_ _)); exact BK962.out) hb)
            have n3_ := Aside0.mk (below_step (by repeat (first | (with_reducible first | exact HB.out | apply below_alloc | apply pw_below_drewN | apply below_drew1 | refine below_set ?_ GE960.out | refine below_set ?_ GE961.out | refine below_set ?_ GE962.out) | exact HB.out)) hb)
            clear BK960
            clear BK961
            clear BK962
            clear HB
            have BK960 := n0_
            have BK961 := n1_
            have BK962 := n2_
            have HB := n3_
            clear n0_ n1_ n2_ n3_
            (try clear hb)
            (try clear hb2)
            (try clear hk)
            (try clear hi)
            refine hK.out _ _ ⟨(blk_cell BK960.out 0).trans rfl, (blk_cell BK960.out 1).trans rfl, (blk_cell BK960.out 2).trans rfl, (blk_cell BK961.out 0).trans rfl, (blk_cell BK961.out 1).trans rfl, (blk_cell BK961.out 2).trans rfl⟩ (fun hHeld => ?_)
            clear hK K
            refine norm_ (a' := ?_) ?_ ?_
            rotate_left
            · show Act.put _ (some 16) _ = _
              simp only [Act.put, List.setIfInBounds_toArray, List.set_cons_zero, List.set_cons_succ, i64_w, i32_w]
              rfl
            refine one_ (i := 3) (N := some 18) #[true, true, true, true, false, true, true, false, false, false, false] rfl rfl (one_of HT_.out (by kernel_rfl)) (by decide) (fun K hK => ?_)
            refine goes_ Try.func170 (by kernel_rfl) rfl #[.agg #[.int .i64 a1_0, .int .i64 a1_1, .int .i64 a1_2]] (by rfl) rfl rfl (by (try simp only [List.map_toArray, List.map_cons, List.map_nil]); first | done | rfl | (simp only [List.length_drop, List.length_take]; rfl)) ?_
            with_reducible refine (impl_Lattice_index.calls a1_0 a1_1 a1_2 t966 _ A26.out).mono ?_
            rintro e w33 ⟨rfl, hb⟩
            refine ⟨_, rfl, ?_⟩
            have n0_ := Aside0.mk (blk_below (g := gb960) (o := .cells #[.int .i64 a0_0, .int .i64 a0_1, .int .i64 a0_2] 66 (0, 0)) (by (with_reducible repeat (first | refine blk_drewN ?_ _ | refine blk_drew ?_ | refine blk_alloc ?_ _)); exact BK960.out) hb)
            have n1_ := Aside0.mk (blk_below (g := gb961) (o := .cells #[.int .i64 a1_0, .int .i64 a1_1, .int .i64 a1_2] 66 (0, 0)) (by (with_reducible repeat (first | refine blk_drewN ?_ _ | refine blk_drew ?_ | refine blk_alloc ?_ _)); exact BK961.out) hb)
            have n2_ := Aside0.mk (blk_below (g := gb962) (o := .cells #[.int .i64 0, .int .i64 0, .int .i64 0] 66 (0, 0)) (by (with_reducible repeat (first | refine blk_drewN ?_ _ | refine blk_drew ?_ | refine blk_alloc ?_ _)); exact BK962.out) hb)
            have n3_ := Aside0.mk (below_step (by repeat (first | (with_reducible first | exact HB.out | apply below_alloc | apply pw_below_drewN | apply below_drew1 | refine below_set ?_ GE960.out | refine below_set ?_ GE961.out | refine below_set ?_ GE962.out) | exact HB.out)) hb)
            clear BK960
            clear BK961
            clear BK962
            clear HB
            have BK960 := n0_
            have BK961 := n1_
            have BK962 := n2_
            have HB := n3_
            clear n0_ n1_ n2_ n3_
            (try clear hb)
            (try clear hb2)
            (try clear hk)
            (try clear hi)
            refine hK.out _ _ ⟨(blk_cell BK960.out 0).trans rfl, (blk_cell BK960.out 1).trans rfl, (blk_cell BK960.out 2).trans rfl, (blk_cell BK961.out 0).trans rfl, (blk_cell BK961.out 1).trans rfl, (blk_cell BK961.out 2).trans rfl⟩ (fun hHeld => ?_)
            clear hK K
            refine norm_ (a' := ?_) ?_ ?_
            rotate_left
            · show Act.put _ (some 18) _ = _
              simp only [Act.put, List.setIfInBounds_toArray, List.set_cons_zero, List.set_cons_succ, i64_w, i32_w]
              rfl
            refine pure_ (i := 4) (N := some 19) (v := ?_) (a' := ?_) #[true, true, true, true, true, true, true, false, false, false, false] rfl rfl (any_of HT_.out (by kernel_rfl)) (fun _ _ _ h => h) (Or.inl ⟨by rfl, ?_⟩) ?_ ?_
            rotate_left
            · intro w'
              go_simp
              with_reducible rfl
            rotate_left
            · simp only [Act.put, List.setIfInBounds_toArray, List.set_cons_zero, List.set_cons_succ, i64_w, i32_w]
              rfl
            refine one_ (i := 7) (N := some 22) #[true, true, true, true, true, true, true, true, false, false, false] rfl rfl (one_of HT_.out (by kernel_rfl)) (by decide) (fun K hK => ?_)
            refine goes_ Try.func167 (by kernel_rfl) rfl #[.agg #[.int .i64 a0_0, .int .i64 a0_1, .int .i64 a0_2], .agg #[.int .i64 a1_0, .int .i64 a1_1, .int .i64 a1_2]] (by rfl) rfl rfl (by (try simp only [List.map_toArray, List.map_cons, List.map_nil]); first | done | rfl | (simp only [List.length_drop, List.length_take]; rfl)) ?_
            with_reducible refine (impl_join.calls kj2 a0_0 a0_1 a0_2 a1_0 a1_1 a1_2 t967 t968 t969 _ A27.out).mono ?_
            rintro e w34 ⟨rfl, hb⟩
            refine ⟨_, rfl, ?_⟩
            have n0_ := Aside0.mk (blk_below (g := gb960) (o := .cells #[.int .i64 a0_0, .int .i64 a0_1, .int .i64 a0_2] 66 (0, 0)) (by (with_reducible repeat (first | refine blk_drewN ?_ _ | refine blk_drew ?_ | refine blk_alloc ?_ _)); exact BK960.out) hb)
            have n1_ := Aside0.mk (blk_below (g := gb961) (o := .cells #[.int .i64 a1_0, .int .i64 a1_1, .int .i64 a1_2] 66 (0, 0)) (by (with_reducible repeat (first | refine blk_drewN ?_ _ | refine blk_drew ?_ | refine blk_alloc ?_ _)); exact BK961.out) hb)
            have n2_ := Aside0.mk (blk_below (g := gb962) (o := .cells #[.int .i64 0, .int .i64 0, .int .i64 0] 66 (0, 0)) (by (with_reducible repeat (first | refine blk_drewN ?_ _ | refine blk_drew ?_ | refine blk_alloc ?_ _)); exact BK962.out) hb)
            have n3_ := Aside0.mk (below_step (by repeat (first | (with_reducible first | exact HB.out | apply below_alloc | apply pw_below_drewN | apply below_drew1 | refine below_set ?_ GE960.out | refine below_set ?_ GE961.out | refine below_set ?_ GE962.out) | exact HB.out)) hb)
            clear BK960
            clear BK961
            clear BK962
            clear HB
            have BK960 := n0_
            have BK961 := n1_
            have BK962 := n2_
            have HB := n3_
            clear n0_ n1_ n2_ n3_
            (try clear hb)
            (try clear hb2)
            (try clear hk)
            (try clear hi)
            refine hK.out _ _ ⟨(blk_cell BK960.out 0).trans rfl, (blk_cell BK960.out 1).trans rfl, (blk_cell BK960.out 2).trans rfl, (blk_cell BK961.out 0).trans rfl, (blk_cell BK961.out 1).trans rfl, (blk_cell BK961.out 2).trans rfl⟩ (fun hHeld => ?_)
            clear hK K
            refine norm_ (a' := ?_) ?_ ?_
            rotate_left
            · show Act.put _ (some 22) _ = _
              simp only [Act.put, List.setIfInBounds_toArray, List.set_cons_zero, List.set_cons_succ, i64_w, i32_w]
              rfl
            refine one_ (i := 8) (N := some 23) #[true, true, true, true, true, true, true, true, true, false, false] rfl rfl (one_of HT_.out (by kernel_rfl)) (by decide) (fun K hK => ?_)
            refine goes_ Try.func170 (by kernel_rfl) rfl #[.agg #[.int .i64 t967, .int .i64 t968, .int .i64 t969]] (by rfl) rfl rfl (by (try simp only [List.map_toArray, List.map_cons, List.map_nil]); first | done | rfl | (simp only [List.length_drop, List.length_take]; rfl)) ?_
            with_reducible refine (impl_Lattice_index.calls t967 t968 t969 t970 _ A28.out).mono ?_
            rintro e w35 ⟨rfl, hb⟩
            refine ⟨_, rfl, ?_⟩
            have n0_ := Aside0.mk (blk_below (g := gb960) (o := .cells #[.int .i64 a0_0, .int .i64 a0_1, .int .i64 a0_2] 66 (0, 0)) (by (with_reducible repeat (first | refine blk_drewN ?_ _ | refine blk_drew ?_ | refine blk_alloc ?_ _)); exact BK960.out) hb)
            have n1_ := Aside0.mk (blk_below (g := gb961) (o := .cells #[.int .i64 a1_0, .int .i64 a1_1, .int .i64 a1_2] 66 (0, 0)) (by (with_reducible repeat (first | refine blk_drewN ?_ _ | refine blk_drew ?_ | refine blk_alloc ?_ _)); exact BK961.out) hb)
            have n2_ := Aside0.mk (blk_below (g := gb962) (o := .cells #[.int .i64 0, .int .i64 0, .int .i64 0] 66 (0, 0)) (by (with_reducible repeat (first | refine blk_drewN ?_ _ | refine blk_drew ?_ | refine blk_alloc ?_ _)); exact BK962.out) hb)
            have n3_ := Aside0.mk (below_step (by repeat (first | (with_reducible first | exact HB.out | apply below_alloc | apply pw_below_drewN | apply below_drew1 | refine below_set ?_ GE960.out | refine below_set ?_ GE961.out | refine below_set ?_ GE962.out) | exact HB.out)) hb)
            clear BK960
            clear BK961
            clear BK962
            clear HB
            have BK960 := n0_
            have BK961 := n1_
            have BK962 := n2_
            have HB := n3_
            clear n0_ n1_ n2_ n3_
            (try clear hb)
            (try clear hb2)
            (try clear hk)
            (try clear hi)
            refine hK.out _ _ ⟨(blk_cell BK960.out 0).trans rfl, (blk_cell BK960.out 1).trans rfl, (blk_cell BK960.out 2).trans rfl, (blk_cell BK961.out 0).trans rfl, (blk_cell BK961.out 1).trans rfl, (blk_cell BK961.out 2).trans rfl⟩ (fun hHeld => ?_)
            clear hK K
            refine norm_ (a' := ?_) ?_ ?_
            rotate_left
            · show Act.put _ (some 23) _ = _
              simp only [Act.put, List.setIfInBounds_toArray, List.set_cons_zero, List.set_cons_succ, i64_w, i32_w]
              rfl
            refine pure_ (i := 9) (N := some 24) (v := ?_) (a' := ?_) #[true, true, true, true, true, true, true, true, true, true, false] rfl rfl (any_of HT_.out (by kernel_rfl)) (fun _ _ _ h => h) (Or.inl ⟨by rfl, ?_⟩) ?_ ?_
            rotate_left
            · intro w'
              go_simp
              with_reducible rfl
            rotate_left
            · simp only [Act.put, List.setIfInBounds_toArray, List.set_cons_zero, List.set_cons_succ, i64_w, i32_w]
              rfl
            refine pure_ (i := 10) (N := some 25) (v := ?_) (a' := ?_) #[true, true, true, true, true, true, true, true, true, true, true] rfl rfl (any_of HT_.out (by kernel_rfl)) (fun _ _ _ h => h) (Or.inl ⟨by rfl, ?_⟩) ?_ ?_
            rotate_left
            · intro w'
              go_simp
              with_reducible rfl
            rotate_left
            · simp only [Act.put, List.setIfInBounds_toArray, List.set_cons_zero, List.set_cons_succ, i64_w, i32_w]
              rfl
            refine done_ (done_of HT_.out (by kernel_rfl)) ?_
            have hnb36 := NB962_960.out
            have hnc36 := NB960_962.out
            have hnb37 := NB962_961.out
            have hnc37 := NB961_962.out
            have hcz38_0 : w35.cell? ⟨gb962, 0, none⟩ = some (.int .i64 0) := (blk_cell BK962.out 0).trans rfl
            have hcz38_1 : w35.cell? ⟨gb962, 1, none⟩ = some (.int .i64 0) := (blk_cell BK962.out 1).trans rfl
            have hcz38_2 : w35.cell? ⟨gb962, 2, none⟩ = some (.int .i64 0) := (blk_cell BK962.out 2).trans rfl
            have hfz38_0 := blk_frozen BK962.out 0
            have hfz38_1 := blk_frozen BK962.out 1
            have hfz38_2 := blk_frozen BK962.out 2
            try go_wp2
            refine bodyPost_ret (results_ct rfl _ _ gb962 66 #[.int .i64 0, .int .i64 0, .int .i64 0] (0, 0) _ rfl (by (with_reducible repeat (first | refine blk_drewN ?_ _ | refine blk_drew ?_ | refine blk_alloc ?_ _)); refine blk_put (cs := #[.int .i64 0, .int .i64 0, .int .i64 0]) ?_ 2 _ rfl; (with_reducible repeat (first | refine blk_drewN ?_ _ | refine blk_drew ?_ | refine blk_alloc ?_ _)); refine blk_put (cs := #[.int .i64 0, .int .i64 0, .int .i64 0]) ?_ 1 _ rfl; (with_reducible repeat (first | refine blk_drewN ?_ _ | refine blk_drew ?_ | refine blk_alloc ?_ _)); refine blk_put (cs := #[.int .i64 0, .int .i64 0, .int .i64 0]) ?_ 0 _ rfl; (with_reducible repeat (first | refine blk_drewN ?_ _ | refine blk_drew ?_ | refine blk_alloc ?_ _)); exact BK962.out) Try.underlying66 rfl (by kernel_rfl)) rfl ?_
            exact ⟨by first | rfl | (simp [errW_none, errW_some] <;> rfl) | (simp [*, errW_none, errW_some] <;> rfl), by repeat (first | (with_reducible first | exact HB.out | apply below_alloc | apply pw_below_drewN | apply below_drew1 | refine below_set ?_ GE960.out | refine below_set ?_ GE961.out | refine below_set ?_ GE962.out) | exact HB.out)⟩
          · rw [if_neg c30] at H
            have c30b0 : decide (64 < (wrap64 (Int.tdiv (wrap64 (t965 * t966)) t970))) = false := decide_eq_false c30
            clear c30
            replace H := Option.bind_eq_some_iff.mp H
            obtain ⟨⟨t971, t972, t973⟩, A390, H⟩ := H
            replace H : (some (t971, t972, t973, 0)) = some (r1, r2, r3, r4) := H
            have A39 := Aside0.mk A390
            clear A390
            simp only [Option.some.injEq, Prod.mk.injEq] at H
            obtain ⟨rfl, rfl, rfl, rfl⟩ := H
            try go_wp2
            have n0_ := Aside0.mk (blk_drew BK960.out)
            have n1_ := Aside0.mk (blk_drew BK961.out)
            have n2_ := Aside0.mk (blk_drew BK962.out)
            have n3_ := Aside0.mk (below_drew1 HB.out)
            clear BK960
            clear BK961
            clear BK962
            clear HB
            have BK960 := n0_
            have BK961 := n1_
            have BK962 := n2_
            have HB := n3_
            clear n0_ n1_ n2_ n3_
            refine start_ (n := 11) (S := fun w' => w'.cell? ⟨gb960, 0, none⟩ = some (.int .i64 a0_0) ∧ w'.cell? ⟨gb960, 1, none⟩ = some (.int .i64 a0_1) ∧ w'.cell? ⟨gb960, 2, none⟩ = some (.int .i64 a0_2) ∧ w'.cell? ⟨gb961, 0, none⟩ = some (.int .i64 a1_0) ∧ w'.cell? ⟨gb961, 1, none⟩ = some (.int .i64 a1_1) ∧ w'.cell? ⟨gb961, 2, none⟩ = some (.int .i64 a1_2)) (ds := []) #[false, false, false, false, false, false, false, false, false, false, false] (by kernel_rfl) rfl rfl ⟨(blk_cell BK960.out 0).trans rfl, (blk_cell BK960.out 1).trans rfl, (blk_cell BK960.out 2).trans rfl, (blk_cell BK961.out 0).trans rfl, (blk_cell BK961.out 1).trans rfl, (blk_cell BK961.out 2).trans rfl⟩ (fun hHeld => ?_); refine with_tabW impl_MeetLattices.tab3 impl_MeetLattices.bits3 (fun HT_ HW_ => ?_)
            generalize wc.drew = w40 at BK960 BK961 BK962 HB hHeld ⊢
            refine take_ (i := 0) (N := some 15) (v := ?_) (a' := ?_) #[true, false, false, false, false, false, false, false, false, false, false] rfl rfl (take_ofW HT_.out HW_.out (by kernel_rfl)) (fun _ _ _ h => h) (Or.inl ⟨by rfl, ?_⟩) hHeld ?_ ?_
            rotate_left
            · rintro w' ⟨s0, s1, s2, s3, s4, s5⟩
              go_simp
              with_reducible rfl
            rotate_left
            · simp only [Act.put, List.setIfInBounds_toArray, List.set_cons_zero, List.set_cons_succ, i64_w, i32_w]
              rfl
            refine take_ (i := 2) (N := some 17) (v := ?_) (a' := ?_) #[true, false, true, false, false, false, false, false, false, false, false] rfl rfl (take_ofW HT_.out HW_.out (by kernel_rfl)) (fun _ _ _ h => h) (Or.inl ⟨by rfl, ?_⟩) hHeld ?_ ?_
            rotate_left
            · rintro w' ⟨s0, s1, s2, s3, s4, s5⟩
              go_simp
              with_reducible rfl
            rotate_left
            · simp only [Act.put, List.setIfInBounds_toArray, List.set_cons_zero, List.set_cons_succ, i64_w, i32_w]
              rfl
            refine take_ (i := 5) (N := some 20) (v := ?_) (a' := ?_) #[true, false, true, false, false, true, false, false, false, false, false] rfl rfl (take_ofW HT_.out HW_.out (by kernel_rfl)) (fun _ _ _ h => h) (Or.inl ⟨by rfl, ?_⟩) hHeld ?_ ?_
            rotate_left
            · rintro w' ⟨s0, s1, s2, s3, s4, s5⟩
              go_simp
              with_reducible rfl
            rotate_left
            · simp only [Act.put, List.setIfInBounds_toArray, List.set_cons_zero, List.set_cons_succ, i64_w, i32_w]
              rfl
            refine take_ (i := 6) (N := some 21) (v := ?_) (a' := ?_) #[true, false, true, false, false, true, true, false, false, false, false] rfl rfl (take_ofW HT_.out HW_.out (by kernel_rfl)) (fun _ _ _ h => h) (Or.inl ⟨by rfl, ?_⟩) hHeld ?_ ?_
            rotate_left
            · rintro w' ⟨s0, s1, s2, s3, s4, s5⟩
              go_simp
              with_reducible rfl
            rotate_left
            · simp only [Act.put, List.setIfInBounds_toArray, List.set_cons_zero, List.set_cons_succ, i64_w, i32_w]
              rfl
            refine one_ (i := 1) (N := some 16) #[true, true, true, false, false, true, true, false, false, false, false] rfl rfl (one_of HT_.out (by kernel_rfl)) (by decide) (fun K hK => ?_)
            refine goes_ Try.func170 (by kernel_rfl) rfl #[.agg #[.int .i64 a0_0, .int .i64 a0_1, .int .i64 a0_2]] (by rfl) rfl rfl (by (try simp only [List.map_toArray, List.map_cons, List.map_nil]); first | done | rfl | (simp only [List.length_drop, List.length_take]; rfl)) ?_
            with_reducible refine (impl_Lattice_index.calls a0_0 a0_1 a0_2 t965 _ A25.out).mono ?_
            rintro e w41 ⟨rfl, hb⟩
            refine ⟨_, rfl, ?_⟩
            have n0_ := Aside0.mk (blk_below (g := gb960) (o := .cells #[.int .i64 a0_0, .int .i64 a0_1, .int .i64 a0_2] 66 (0, 0)) (by (with_reducible repeat (first | refine blk_drewN ?_ _ | refine blk_drew ?_ | refine blk_alloc ?_ _)); exact BK960.out) hb)
            have n1_ := Aside0.mk (blk_below (g := gb961) (o := .cells #[.int .i64 a1_0, .int .i64 a1_1, .int .i64 a1_2] 66 (0, 0)) (by (with_reducible repeat (first | refine blk_drewN ?_ _ | refine blk_drew ?_ | refine blk_alloc ?_ _)); exact BK961.out) hb)
            have n2_ := Aside0.mk (blk_below (g := gb962) (o := .cells #[.int .i64 0, .int .i64 0, .int .i64 0] 66 (0, 0)) (by (with_reducible repeat (first | refine blk_drewN ?_ _ | refine blk_drew ?_ | refine blk_alloc ?_ _)); exact BK962.out) hb)
            have n3_ := Aside0.mk (below_step (by repeat (first | (with_reducible first | exact HB.out | apply below_alloc | apply pw_below_drewN | apply below_drew1 | refine below_set ?_ GE960.out | refine below_set ?_ GE961.out | refine below_set ?_ GE962.out) | exact HB.out)) hb)
            clear BK960
            clear BK961
            clear BK962
            clear HB
            have BK960 := n0_
            have BK961 := n1_
            have BK962 := n2_
            have HB := n3_
            clear n0_ n1_ n2_ n3_
            (try clear hb)
            (try clear hb2)
            (try clear hk)
            (try clear hi)
            refine hK.out _ _ ⟨(blk_cell BK960.out 0).trans rfl, (blk_cell BK960.out 1).trans rfl, (blk_cell BK960.out 2).trans rfl, (blk_cell BK961.out 0).trans rfl, (blk_cell BK961.out 1).trans rfl, (blk_cell BK961.out 2).trans rfl⟩ (fun hHeld => ?_)
            clear hK K
            refine norm_ (a' := ?_) ?_ ?_
            rotate_left
            · show Act.put _ (some 16) _ = _
              simp only [Act.put, List.setIfInBounds_toArray, List.set_cons_zero, List.set_cons_succ, i64_w, i32_w]
              rfl
            refine one_ (i := 3) (N := some 18) #[true, true, true, true, false, true, true, false, false, false, false] rfl rfl (one_of HT_.out (by kernel_rfl)) (by decide) (fun K hK => ?_)
            refine goes_ Try.func170 (by kernel_rfl) rfl #[.agg #[.int .i64 a1_0, .int .i64 a1_1, .int .i64 a1_2]] (by rfl) rfl rfl (by (try simp only [List.map_toArray, List.map_cons, List.map_nil]); first | done | rfl | (simp only [List.length_drop, List.length_take]; rfl)) ?_
            with_reducible refine (impl_Lattice_index.calls a1_0 a1_1 a1_2 t966 _ A26.out).mono ?_
            rintro e w42 ⟨rfl, hb⟩
            refine ⟨_, rfl, ?_⟩
            have n0_ := Aside0.mk (blk_below (g := gb960) (o := .cells #[.int .i64 a0_0, .int .i64 a0_1, .int .i64 a0_2] 66 (0, 0)) (by (with_reducible repeat (first | refine blk_drewN ?_ _ | refine blk_drew ?_ | refine blk_alloc ?_ _)); exact BK960.out) hb)
            have n1_ := Aside0.mk (blk_below (g := gb961) (o := .cells #[.int .i64 a1_0, .int .i64 a1_1, .int .i64 a1_2] 66 (0, 0)) (by (with_reducible repeat (first | refine blk_drewN ?_ _ | refine blk_drew ?_ | refine blk_alloc ?_ _)); exact BK961.out) hb)
            have n2_ := Aside0.mk (blk_below (g := gb962) (o := .cells #[.int .i64 0, .int .i64 0, .int .i64 0] 66 (0, 0)) (by (with_reducible repeat (first | refine blk_drewN ?_ _ | refine blk_drew ?_ | refine blk_alloc ?_ _)); exact BK962.out) hb)
            have n3_ := Aside0.mk (below_step (by repeat (first | (with_reducible first | exact HB.out | apply below_alloc | apply pw_below_drewN | apply below_drew1 | refine below_set ?_ GE960.out | refine below_set ?_ GE961.out | refine below_set ?_ GE962.out) | exact HB.out)) hb)
            clear BK960
            clear BK961
            clear BK962
            clear HB
            have BK960 := n0_
            have BK961 := n1_
            have BK962 := n2_
            have HB := n3_
            clear n0_ n1_ n2_ n3_
            (try clear hb)
            (try clear hb2)
            (try clear hk)
            (try clear hi)
            refine hK.out _ _ ⟨(blk_cell BK960.out 0).trans rfl, (blk_cell BK960.out 1).trans rfl, (blk_cell BK960.out 2).trans rfl, (blk_cell BK961.out 0).trans rfl, (blk_cell BK961.out 1).trans rfl, (blk_cell BK961.out 2).trans rfl⟩ (fun hHeld => ?_)
            clear hK K
            refine norm_ (a' := ?_) ?_ ?_
            rotate_left
            · show Act.put _ (some 18) _ = _
              simp only [Act.put, List.setIfInBounds_toArray, List.set_cons_zero, List.set_cons_succ, i64_w, i32_w]
              rfl
            refine pure_ (i := 4) (N := some 19) (v := ?_) (a' := ?_) #[true, true, true, true, true, true, true, false, false, false, false] rfl rfl (any_of HT_.out (by kernel_rfl)) (fun _ _ _ h => h) (Or.inl ⟨by rfl, ?_⟩) ?_ ?_
            rotate_left
            · intro w'
              go_simp
              with_reducible rfl
            rotate_left
            · simp only [Act.put, List.setIfInBounds_toArray, List.set_cons_zero, List.set_cons_succ, i64_w, i32_w]
              rfl
            refine one_ (i := 7) (N := some 22) #[true, true, true, true, true, true, true, true, false, false, false] rfl rfl (one_of HT_.out (by kernel_rfl)) (by decide) (fun K hK => ?_)
            refine goes_ Try.func167 (by kernel_rfl) rfl #[.agg #[.int .i64 a0_0, .int .i64 a0_1, .int .i64 a0_2], .agg #[.int .i64 a1_0, .int .i64 a1_1, .int .i64 a1_2]] (by rfl) rfl rfl (by (try simp only [List.map_toArray, List.map_cons, List.map_nil]); first | done | rfl | (simp only [List.length_drop, List.length_take]; rfl)) ?_
            with_reducible refine (impl_join.calls kj2 a0_0 a0_1 a0_2 a1_0 a1_1 a1_2 t967 t968 t969 _ A27.out).mono ?_
            rintro e w43 ⟨rfl, hb⟩
            refine ⟨_, rfl, ?_⟩
            have n0_ := Aside0.mk (blk_below (g := gb960) (o := .cells #[.int .i64 a0_0, .int .i64 a0_1, .int .i64 a0_2] 66 (0, 0)) (by (with_reducible repeat (first | refine blk_drewN ?_ _ | refine blk_drew ?_ | refine blk_alloc ?_ _)); exact BK960.out) hb)
            have n1_ := Aside0.mk (blk_below (g := gb961) (o := .cells #[.int .i64 a1_0, .int .i64 a1_1, .int .i64 a1_2] 66 (0, 0)) (by (with_reducible repeat (first | refine blk_drewN ?_ _ | refine blk_drew ?_ | refine blk_alloc ?_ _)); exact BK961.out) hb)
            have n2_ := Aside0.mk (blk_below (g := gb962) (o := .cells #[.int .i64 0, .int .i64 0, .int .i64 0] 66 (0, 0)) (by (with_reducible repeat (first | refine blk_drewN ?_ _ | refine blk_drew ?_ | refine blk_alloc ?_ _)); exact BK962.out) hb)
            have n3_ := Aside0.mk (below_step (by repeat (first | (with_reducible first | exact HB.out | apply below_alloc | apply pw_below_drewN | apply below_drew1 | refine below_set ?_ GE960.out | refine below_set ?_ GE961.out | refine below_set ?_ GE962.out) | exact HB.out)) hb)
            clear BK960
            clear BK961
            clear BK962
            clear HB
            have BK960 := n0_
            have BK961 := n1_
            have BK962 := n2_
            have HB := n3_
            clear n0_ n1_ n2_ n3_
            (try clear hb)
            (try clear hb2)
            (try clear hk)
            (try clear hi)
            refine hK.out _ _ ⟨(blk_cell BK960.out 0).trans rfl, (blk_cell BK960.out 1).trans rfl, (blk_cell BK960.out 2).trans rfl, (blk_cell BK961.out 0).trans rfl, (blk_cell BK961.out 1).trans rfl, (blk_cell BK961.out 2).trans rfl⟩ (fun hHeld => ?_)
            clear hK K
            refine norm_ (a' := ?_) ?_ ?_
            rotate_left
            · show Act.put _ (some 22) _ = _
              simp only [Act.put, List.setIfInBounds_toArray, List.set_cons_zero, List.set_cons_succ, i64_w, i32_w]
              rfl
            refine one_ (i := 8) (N := some 23) #[true, true, true, true, true, true, true, true, true, false, false] rfl rfl (one_of HT_.out (by kernel_rfl)) (by decide) (fun K hK => ?_)
            refine goes_ Try.func170 (by kernel_rfl) rfl #[.agg #[.int .i64 t967, .int .i64 t968, .int .i64 t969]] (by rfl) rfl rfl (by (try simp only [List.map_toArray, List.map_cons, List.map_nil]); first | done | rfl | (simp only [List.length_drop, List.length_take]; rfl)) ?_
            with_reducible refine (impl_Lattice_index.calls t967 t968 t969 t970 _ A28.out).mono ?_
            rintro e w44 ⟨rfl, hb⟩
            refine ⟨_, rfl, ?_⟩
            have n0_ := Aside0.mk (blk_below (g := gb960) (o := .cells #[.int .i64 a0_0, .int .i64 a0_1, .int .i64 a0_2] 66 (0, 0)) (by (with_reducible repeat (first | refine blk_drewN ?_ _ | refine blk_drew ?_ | refine blk_alloc ?_ _)); exact BK960.out) hb)
            have n1_ := Aside0.mk (blk_below (g := gb961) (o := .cells #[.int .i64 a1_0, .int .i64 a1_1, .int .i64 a1_2] 66 (0, 0)) (by (with_reducible repeat (first | refine blk_drewN ?_ _ | refine blk_drew ?_ | refine blk_alloc ?_ _)); exact BK961.out) hb)
            have n2_ := Aside0.mk (blk_below (g := gb962) (o := .cells #[.int .i64 0, .int .i64 0, .int .i64 0] 66 (0, 0)) (by (with_reducible repeat (first | refine blk_drewN ?_ _ | refine blk_drew ?_ | refine blk_alloc ?_ _)); exact BK962.out) hb)
            have n3_ := Aside0.mk (below_step (by repeat (first | (with_reducible first | exact HB.out | apply below_alloc | apply pw_below_drewN | apply below_drew1 | refine below_set ?_ GE960.out | refine below_set ?_ GE961.out | refine below_set ?_ GE962.out) | exact HB.out)) hb)
            clear BK960
            clear BK961
            clear BK962
            clear HB
            have BK960 := n0_
            have BK961 := n1_
            have BK962 := n2_
            have HB := n3_
            clear n0_ n1_ n2_ n3_
            (try clear hb)
            (try clear hb2)
            (try clear hk)
            (try clear hi)
            refine hK.out _ _ ⟨(blk_cell BK960.out 0).trans rfl, (blk_cell BK960.out 1).trans rfl, (blk_cell BK960.out 2).trans rfl, (blk_cell BK961.out 0).trans rfl, (blk_cell BK961.out 1).trans rfl, (blk_cell BK961.out 2).trans rfl⟩ (fun hHeld => ?_)
            clear hK K
            refine norm_ (a' := ?_) ?_ ?_
            rotate_left
            · show Act.put _ (some 23) _ = _
              simp only [Act.put, List.setIfInBounds_toArray, List.set_cons_zero, List.set_cons_succ, i64_w, i32_w]
              rfl
            refine pure_ (i := 9) (N := some 24) (v := ?_) (a' := ?_) #[true, true, true, true, true, true, true, true, true, true, false] rfl rfl (any_of HT_.out (by kernel_rfl)) (fun _ _ _ h => h) (Or.inl ⟨by rfl, ?_⟩) ?_ ?_
            rotate_left
            · intro w'
              go_simp
              with_reducible rfl
            rotate_left
            · simp only [Act.put, List.setIfInBounds_toArray, List.set_cons_zero, List.set_cons_succ, i64_w, i32_w]
              rfl
            refine pure_ (i := 10) (N := some 25) (v := ?_) (a' := ?_) #[true, true, true, true, true, true, true, true, true, true, true] rfl rfl (any_of HT_.out (by kernel_rfl)) (fun _ _ _ h => h) (Or.inl ⟨by rfl, ?_⟩) ?_ ?_
            rotate_left
            · intro w'
              go_simp
              with_reducible rfl
            rotate_left
            · simp only [Act.put, List.setIfInBounds_toArray, List.set_cons_zero, List.set_cons_succ, i64_w, i32_w]
              rfl
            refine done_ (done_of HT_.out (by kernel_rfl)) ?_
            have hnb45 := NB960_961.out
            have hnc45 := NB961_960.out
            have hnb46 := NB960_962.out
            have hnc46 := NB962_960.out
            have hcz47_0 : w44.cell? ⟨gb960, 0, none⟩ = some (.int .i64 a0_0) := (blk_cell BK960.out 0).trans rfl
            have hcz47_1 : w44.cell? ⟨gb960, 1, none⟩ = some (.int .i64 a0_1) := (blk_cell BK960.out 1).trans rfl
            have hcz47_2 : w44.cell? ⟨gb960, 2, none⟩ = some (.int .i64 a0_2) := (blk_cell BK960.out 2).trans rfl
            have hfz47_0 := blk_frozen BK960.out 0
            have hfz47_1 := blk_frozen BK960.out 1
            have hfz47_2 := blk_frozen BK960.out 2
            have hnb48 := NB961_962.out
            have hnc48 := NB962_961.out
            have hcz49_0 : w44.cell? ⟨gb961, 0, none⟩ = some (.int .i64 a1_0) := (blk_cell BK961.out 0).trans rfl
            have hcz49_1 : w44.cell? ⟨gb961, 1, none⟩ = some (.int .i64 a1_1) := (blk_cell BK961.out 1).trans rfl
            have hcz49_2 : w44.cell? ⟨gb961, 2, none⟩ = some (.int .i64 a1_2) := (blk_cell BK961.out 2).trans rfl
            have hfz49_0 := blk_frozen BK961.out 0
            have hfz49_1 := blk_frozen BK961.out 1
            have hfz49_2 := blk_frozen BK961.out 2
            try go_wp2_with (first | ((with_reducible refine gate_callee (f := 171) rfl ?_); refine goesL_ (some 29) rfl rfl Try.func171 (by kernel_rfl) rfl #[.agg #[.int .i64 a0_0, .int .i64 a0_1, .int .i64 a0_2], .agg #[.int .i64 a1_0, .int .i64 a1_1, .int .i64 a1_2]] rfl (by (try simp only [List.map_toArray, List.map_cons, List.map_nil]); first | done | rfl | (simp only [List.length_drop, List.length_take]; rfl)) ?_; (with_reducible refine (impl_meet.calls kj2 a0_0 a0_1 a0_2 a1_0 a1_1 a1_2 t971 t972 t973 _ A39.out).mono ?_); rintro e w50 ⟨rfl, hb⟩; refine ⟨_, rfl, ?_⟩; have n0_ := Aside0.mk (blk_below (g := gb960) (o := .cells #[.int .i64 a0_0, .int .i64 a0_1, .int .i64 a0_2] 66 (0, 0)) (by (with_reducible repeat (first | refine blk_drewN ?_ _ | refine blk_drew ?_ | refine blk_alloc ?_ _)); exact BK960.out) hb); have n1_ := Aside0.mk (blk_below (g := gb961) (o := .cells #[.int .i64 a1_0, .int .i64 a1_1, .int .i64 a1_2] 66 (0, 0)) (by (with_reducible repeat (first | refine blk_drewN ?_ _ | refine blk_drew ?_ | refine blk_alloc ?_ _)); exact BK961.out) hb); have n2_ := Aside0.mk (blk_below (g := gb962) (o := .cells #[.int .i64 0, .int .i64 0, .int .i64 0] 66 (0, 0)) (by (with_reducible repeat (first | refine blk_drewN ?_ _ | refine blk_drew ?_ | refine blk_alloc ?_ _)); exact BK962.out) hb); have n3_ := Aside0.mk (below_step (by repeat (first | (with_reducible first | exact HB.out | apply below_alloc | apply pw_below_drewN | apply below_drew1 | refine below_set ?_ GE960.out | refine below_set ?_ GE961.out | refine below_set ?_ GE962.out) | exact HB.out)) hb); clear BK960; clear BK961; clear BK962; clear HB; have BK960 := n0_; have BK961 := n1_; have BK962 := n2_; have HB := n3_; clear n0_ n1_ n2_ n3_; (try clear hb); (try clear hb2); (try clear hk); (try clear hi); have hcz51_0 : w50.cell? ⟨gb962, 0, none⟩ = some (.int .i64 0) := (blk_cell BK962.out 0).trans rfl; have hcz51_1 : w50.cell? ⟨gb962, 1, none⟩ = some (.int .i64 0) := (blk_cell BK962.out 1).trans rfl; have hcz51_2 : w50.cell? ⟨gb962, 2, none⟩ = some (.int .i64 0) := (blk_cell BK962.out 2).trans rfl; have hfz51_0 := blk_frozen BK962.out 0; have hfz51_1 := blk_frozen BK962.out 1; have hfz51_2 := blk_frozen BK962.out 2))
            refine bodyPost_ret (results_ct rfl _ _ gb962 66 #[.int .i64 t971, .int .i64 t972, .int .i64 t973] (0, 0) _ rfl (by (with_reducible repeat (first | refine blk_drewN ?_ _ | refine blk_drew ?_ | refine blk_alloc ?_ _)); refine blk_put (cs := #[.int .i64 t971, .int .i64 t972, .int .i64 0]) ?_ 2 _ rfl; (with_reducible repeat (first | refine blk_drewN ?_ _ | refine blk_drew ?_ | refine blk_alloc ?_ _)); refine blk_put (cs := #[.int .i64 t971, .int .i64 0, .int .i64 0]) ?_ 1 _ rfl; (with_reducible repeat (first | refine blk_drewN ?_ _ | refine blk_drew ?_ | refine blk_alloc ?_ _)); refine blk_put (cs := #[.int .i64 0, .int .i64 0, .int .i64 0]) ?_ 0 _ rfl; (with_reducible repeat (first | refine blk_drewN ?_ _ | refine blk_drew ?_ | refine blk_alloc ?_ _)); exact BK962.out) Try.underlying66 rfl (by kernel_rfl)) rfl ?_
            exact ⟨by first | rfl | (simp [errW_none, errW_some] <;> rfl) | (simp [*, errW_none, errW_some] <;> rfl), by repeat (first | (with_reducible first | exact HB.out | apply below_alloc | apply pw_below_drewN | apply below_drew1 | refine below_set ?_ GE960.out | refine below_set ?_ GE961.out | refine below_set ?_ GE962.out) | exact HB.out)⟩

end Go.Proofs.Ytjjbjaagfjljnaa.F

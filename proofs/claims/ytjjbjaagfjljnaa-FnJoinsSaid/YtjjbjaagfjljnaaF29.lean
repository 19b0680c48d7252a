import Derived.Test.YtjjbjaagfjljnaaF0
import Derived.Test.YtjjbjaagfjljnaaF27
import Derived.Test.YtjjbjaagfjljnaaF26
import Derived.Test.YtjjbjaagfjljnaaF28
namespace Go.Proofs.Ytjjbjaagfjljnaa.F
open Go.RowKit Go.Proofs.YtjjbjaagfjljnaaW.PrintWords Go.Proofs.YtjjbjaagfjljnaaW.PrintLast Go.Proofs.YtjjbjaagfjljnaaW.PrintMore
attribute [local go_sem] max2_int min2_int max_two min_two max_three min_three max_four min_four   -- for this text's walks alone
set_option linter.unusedVariables false
set_option linter.unusedSimpArgs false

/-! ### impl_JoinLattices: function 63 -/
def impl_JoinLattices.f (k : Nat) (a0_0 : Int) (a0_1 : Int) (a0_2 : Int) (a1_0 : Int) (a1_1 : Int) (a1_2 : Int) : Option (Int × Int × Int × Int) := (impl_IsLattice.f a0_0 a0_1 a0_2).bind fun t903 => (if t903 = true then ((impl_IsLattice.f a1_0 a1_1 a1_2).bind fun t904 => (if t904 = true then ((impl_join.f k a0_0 a0_1 a0_2 a1_0 a1_1 a1_2).bind fun bt905 => (some (bt905.1, bt905.2.1, bt905.2.2, 0))) else (some (0, 0, 0, 1)))) else (some (0, 0, 0, 1)))
theorem impl_JoinLattices.mono : ∀ a0 a1 a2 a3 a4 a5 k, LeO (impl_JoinLattices.f k a0 a1 a2 a3 a4 a5) (impl_JoinLattices.f (k + 1) a0 a1 a2 a3 a4 a5) := by
  intro a0 a1 a2 a3 a4 a5 k
  unfold impl_JoinLattices.f
  repeat' first
      | (with_reducible exact impl_join.mono _ _ _ _ _ _ _)
      | (with_reducible exact LeO.refl _)
      | (with_reducible exact LeO.none _)
      | (with_reducible refine LeO.ite ?_ ?_)
      | (with_reducible refine LeO.bind ?_ (fun _ => ?_))
      | exact impl_join.mono _ _ _ _ _ _ _
      | exact LeO.none _
      | refine LeO.ite ?_ ?_
      | refine LeO.bind ?_ (fun _ => ?_)
set_option maxHeartbeats 8000000 in
set_option maxRecDepth 100000 in
theorem impl_JoinLattices.calls (k : Nat) (a0_0 : Int) (a0_1 : Int) (a0_2 : Int) (a1_0 : Int) (a1_1 : Int) (a1_2 : Int) (r1 : Int) (r2 : Int) (r3 : Int) (r4 : Int) (w : World) (h : impl_JoinLattices.f k a0_0 a0_1 a0_2 a1_0 a1_1 a1_2 = some (r1, r2, r3, r4)) :
    Calls Try.prog 63 #[.agg #[.int .i64 a0_0, .int .i64 a0_1, .int .i64 a0_2], .agg #[.int .i64 a1_0, .int .i64 a1_1, .int .i64 a1_2]] w fun e w' => e = .returned (.tuple #[.agg #[.int .i64 r1, .int .i64 r2, .int .i64 r3], .int .i64 r4]) ∧ Below w.heap.size w w' := by
  have hu66 := Try.underlying66
  have HB := Aside0.mk (Below.refl w.heap.size w)
  have H : ((impl_IsLattice.f a0_0 a0_1 a0_2).bind fun t903 => (if t903 = true then ((impl_IsLattice.f a1_0 a1_1 a1_2).bind fun t904 => (if t904 = true then ((impl_join.f k a0_0 a0_1 a0_2 a1_0 a1_1 a1_2).bind fun bt905 => (some (bt905.1, bt905.2.1, bt905.2.2, 0))) else (some (0, 0, 0, 1)))) else (some (0, 0, 0, 1)))) = some (r1, r2, r3, r4) := h
  clear h
  replace H := Option.bind_eq_some_iff.mp H
  obtain ⟨t903, A30, H⟩ := H
  replace H : (if t903 = true then ((impl_IsLattice.f a1_0 a1_1 a1_2).bind fun t904 => (if t904 = true then ((impl_join.f k a0_0 a0_1 a0_2 a1_0 a1_1 a1_2).bind fun bt905 => (some (bt905.1, bt905.2.1, bt905.2.2, 0))) else (some (0, 0, 0, 1)))) else (some (0, 0, 0, 1))) = some (r1, r2, r3, r4) := H
  have A3 := Aside0.mk A30
  clear A30
  by_cases c4 : t903 = true
  · subst c4
    have H1 : ((impl_IsLattice.f a1_0 a1_1 a1_2).bind fun t904 => (if t904 = true then ((impl_join.f k a0_0 a0_1 a0_2 a1_0 a1_1 a1_2).bind fun bt905 => (some (bt905.1, bt905.2.1, bt905.2.2, 0))) else (some (0, 0, 0, 1)))) = some (r1, r2, r3, r4) := by rw [if_pos rfl] at H; exact H
    clear H
    have H := H1
    clear H1
    replace H := Option.bind_eq_some_iff.mp H
    obtain ⟨t904, A50, H⟩ := H
    replace H : (if t904 = true then ((impl_join.f k a0_0 a0_1 a0_2 a1_0 a1_1 a1_2).bind fun bt905 => (some (bt905.1, bt905.2.1, bt905.2.2, 0))) else (some (0, 0, 0, 1))) = some (r1, r2, r3, r4) := H
    have A5 := Aside0.mk A50
    clear A50
    by_cases c6 : t904 = true
    · subst c6
      have H1 : ((impl_join.f k a0_0 a0_1 a0_2 a1_0 a1_1 a1_2).bind fun bt905 => (some (bt905.1, bt905.2.1, bt905.2.2, 0))) = some (r1, r2, r3, r4) := by rw [if_pos rfl] at H; exact H
      clear H
      have H := H1
      clear H1
      replace H := Option.bind_eq_some_iff.mp H
      obtain ⟨⟨t905, t906, t907⟩, A70, H⟩ := H
      replace H : (some (t905, t906, t907, 0)) = some (r1, r2, r3, r4) := H
      have A7 := Aside0.mk A70
      clear A70
      simp only [Option.some.injEq, Prod.mk.injEq] at H
      obtain ⟨rfl, rfl, rfl, rfl⟩ := H
      go_enter Try.func63, Try.ntmps63
      go_wp2_with (first | ((with_reducible refine gate_dst (N := 2) rfl ?_); refine box_event ?hg (N := 2) ?hd (cs := #[.int .i64 a0_0, .int .i64 a0_1, .int .i64 a0_2]) (t := 66) ?hr ?_; (case hd => rfl); (case hg => rfl); (case hr => first | (go_simp; done) | (go_simp; rfl)); intro gb900 hg w8 hbox hb; have n0_ := Aside0.mk (below_step (by repeat (first | (with_reducible first | exact HB.out | apply below_alloc | apply pw_below_drewN | apply below_drew1) | exact HB.out)) hb); have n1_ := Aside0.mk (hbox); have n2_ := Aside0.mk ((by rw [hg]; exact (below_size (by repeat (first | (with_reducible first | exact HB.out | apply below_alloc | apply pw_below_drewN | apply below_drew1) | exact HB.out))) : w.heap.size ≤ gb900)); have n3_ := Aside0.mk ((by rw [hg]; exact (below_size (by repeat (first | (with_reducible first | exact HB.out | apply below_alloc | apply pw_below_drewN | apply below_drew1) | exact HB.out))) : w.heap.size ≤ gb900)); clear HB; have HB := n0_; have BK900 := n1_; have GW900 := n2_; have GE900 := n3_; clear n0_ n1_ n2_ n3_; clear hb hbox hg) | ((with_reducible refine gate_dst (N := 3) rfl ?_); refine box_event ?hg (N := 3) ?hd (cs := #[.int .i64 a1_0, .int .i64 a1_1, .int .i64 a1_2]) (t := 66) ?hr ?_; (case hd => rfl); (case hg => rfl); (case hr => first | (go_simp; done) | (go_simp; rfl)); intro gb901 hg w9 hbox hb; have n0_ := Aside0.mk (blk_below (g := gb900) (o := .cells #[.int .i64 a0_0, .int .i64 a0_1, .int .i64 a0_2] 66 (0, 0)) (by (with_reducible repeat (first | refine blk_drewN ?_ _ | refine blk_drew ?_ | refine blk_alloc ?_ _)); exact BK900.out) hb); have n1_ := Aside0.mk (below_step (by repeat (first | (with_reducible first | exact HB.out | apply below_alloc | apply pw_below_drewN | apply below_drew1 | refine below_set ?_ GE900.out) | exact HB.out)) hb); have n2_ := Aside0.mk (hbox); have n3_ := Aside0.mk ((by rw [hg]; exact (below_size (by repeat (first | (with_reducible first | exact HB.out | apply below_alloc | apply pw_below_drewN | apply below_drew1 | refine below_set ?_ GE900.out) | exact HB.out))) : w.heap.size ≤ gb901)); have n4_ := Aside0.mk ((by rw [hg]; exact (below_size (by repeat (first | (with_reducible first | exact HB.out | apply below_alloc | apply pw_below_drewN | apply below_drew1 | refine below_set ?_ GE900.out) | exact HB.out))) : w.heap.size ≤ gb901)); have n5_ := Aside0.mk ((by rw [hg]; exact Nat.ne_of_lt (blk_lt (g := gb900) (o := .cells #[.int .i64 a0_0, .int .i64 a0_1, .int .i64 a0_2] 66 (0, 0)) (by (with_reducible repeat (first | refine blk_drewN ?_ _ | refine blk_drew ?_ | refine blk_alloc ?_ _)); exact BK900.out)) : gb900 ≠ gb901)); have n6_ := Aside0.mk ((by rw [hg]; exact Nat.ne_of_gt (blk_lt (g := gb900) (o := .cells #[.int .i64 a0_0, .int .i64 a0_1, .int .i64 a0_2] 66 (0, 0)) (by (with_reducible repeat (first | refine blk_drewN ?_ _ | refine blk_drew ?_ | refine blk_alloc ?_ _)); exact BK900.out)) : gb901 ≠ gb900)); clear BK900; clear HB; have BK900 := n0_; have HB := n1_; have BK901 := n2_; have GW901 := n3_; have GE901 := n4_; have NB900_901 := n5_; have NB901_900 := n6_; clear n0_ n1_ n2_ n3_ n4_ n5_ n6_; clear hb hbox hg) | ((with_reducible refine gate_dst (N := 4) rfl ?_); refine box_event ?hg (N := 4) ?hd (cs := #[.int .i64 0, .int .i64 0, .int .i64 0]) (t := 66) ?hr ?_; (case hd => rfl); (case hg => rfl); (case hr => first | (go_simp; done) | (go_simp; rfl)); intro gb902 hg w10 hbox hb; have n0_ := Aside0.mk (blk_below (g := gb900) (o := .cells #[.int .i64 a0_0, .int .i64 a0_1, .int .i64 a0_2] 66 (0, 0)) (by (with_reducible repeat (first | refine blk_drewN ?_ _ | refine blk_drew ?_ | refine blk_alloc ?_ _)); exact BK900.out) hb); have n1_ := Aside0.mk (blk_below (g := gb901) (o := .cells #[.int .i64 a1_0, .int .i64 a1_1, .int .i64 a1_2] 66 (0, 0)) (by (with_reducible repeat (first | refine blk_drewN ?_ _ | refine blk_drew ?_ | refine blk_alloc ?_ _)); exact BK901.out) hb); have n2_ := Aside0.mk (below_step (by repeat (first | (with_reducible first | exact HB.out | apply below_alloc | apply pw_below_drewN | apply below_drew1 | refine below_set ?_ GE900.out | refine below_set ?_ GE901.out) | exact HB.out)) hb); have n3_ := Aside0.mk (hbox); have n4_ := Aside0.mk ((by rw [hg]; exact (below_size (by repeat (first | (with_reducible first | exact HB.out | apply below_alloc | apply pw_below_drewN | apply below_drew1 | refine below_set ?_ GE900.out | refine below_set ?_ GE901.out) | exact HB.out))) : w.heap.size ≤ gb902)); have n5_ := Aside0.mk ((by rw [hg]; exact (below_size (by repeat (first | (with_reducible first | exact HB.out | apply below_alloc | apply pw_below_drewN | apply below_drew1 | refine below_set ?_ GE900.out | refine below_set ?_ GE901.out) | exact HB.out))) : w.heap.size ≤ gb902)); have n6_ := Aside0.mk ((by rw [hg]; exact Nat.ne_of_lt (blk_lt (g := gb900) (o := .cells #[.int .i64 a0_0, .int .i64 a0_1, .int .i64 a0_2] 66 (0, 0)) (by (with_reducible repeat (first | refine blk_drewN ?_ _ | refine blk_drew ?_ | refine blk_alloc ?_ _)); exact BK900.out)) : gb900 ≠ gb902)); have n7_ := Aside0.mk ((by rw [hg]; exact Nat.ne_of_gt (blk_lt (g := gb900) (o := .cells #[.int .i64 a0_0, .int .i64 a0_1, .int .i64 a0_2] 66 (0, 0)) (by (with_reducible repeat (first | refine blk_drewN ?_ _ | refine blk_drew ?_ | refine blk_alloc ?_ _)); exact BK900.out)) : gb902 ≠ gb900)); have n8_ := Aside0.mk ((by rw [hg]; exact Nat.ne_of_lt (blk_lt (g := gb901) (o := .cells #[.int .i64 a1_0, .int .i64 a1_1, .int .i64 a1_2] 66 (0, 0)) (by (with_reducible repeat (first | refine blk_drewN ?_ _ | refine blk_drew ?_ | refine blk_alloc ?_ _)); exact BK901.out)) : gb901 ≠ gb902)); have n9_ := Aside0.mk ((by rw [hg]; exact Nat.ne_of_gt (blk_lt (g := gb901) (o := .cells #[.int .i64 a1_0, .int .i64 a1_1, .int .i64 a1_2] 66 (0, 0)) (by (with_reducible repeat (first | refine blk_drewN ?_ _ | refine blk_drew ?_ | refine blk_alloc ?_ _)); exact BK901.out)) : gb902 ≠ gb901)); clear BK900; clear BK901; clear HB; have BK900 := n0_; have BK901 := n1_; have HB := n2_; have BK902 := n3_; have GW902 := n4_; have GE902 := n5_; have NB900_902 := n6_; have NB902_900 := n7_; have NB901_902 := n8_; have NB902_901 := n9_; clear n0_ n1_ n2_ n3_ n4_ n5_ n6_ n7_ n8_ n9_; clear hb hbox hg; have hnb11 := NB900_901.out; have hnc11 := NB901_900.out; have hnb12 := NB900_902.out; have hnc12 := NB902_900.out; have hcz13_0 : w10.cell? ⟨gb900, 0, none⟩ = some (.int .i64 a0_0) := (blk_cell BK900.out 0).trans rfl; have hcz13_1 : w10.cell? ⟨gb900, 1, none⟩ = some (.int .i64 a0_1) := (blk_cell BK900.out 1).trans rfl; have hcz13_2 : w10.cell? ⟨gb900, 2, none⟩ = some (.int .i64 a0_2) := (blk_cell BK900.out 2).trans rfl; have hfz13_0 := blk_frozen BK900.out 0; have hfz13_1 := blk_frozen BK900.out 1; have hfz13_2 := blk_frozen BK900.out 2) | ((with_reducible refine gate_callee (f := 80) rfl ?_); refine goesL_ (some 7) rfl rfl Try.func80 (by kernel_rfl) rfl #[.agg #[.int .i64 a0_0, .int .i64 a0_1, .int .i64 a0_2]] rfl (by (try simp only [List.map_toArray, List.map_cons, List.map_nil]); first | done | rfl | (simp only [List.length_drop, List.length_take]; rfl)) ?_; (with_reducible refine (impl_IsLattice.calls a0_0 a0_1 a0_2 true _ A3.out).mono ?_); rintro e w14 ⟨rfl, hb⟩; refine ⟨_, rfl, ?_⟩; have n0_ := Aside0.mk (blk_below (g := gb900) (o := .cells #[.int .i64 a0_0, .int .i64 a0_1, .int .i64 a0_2] 66 (0, 0)) (by (with_reducible repeat (first | refine blk_drewN ?_ _ | refine blk_drew ?_ | refine blk_alloc ?_ _)); exact BK900.out) hb); have n1_ := Aside0.mk (blk_below (g := gb901) (o := .cells #[.int .i64 a1_0, .int .i64 a1_1, .int .i64 a1_2] 66 (0, 0)) (by (with_reducible repeat (first | refine blk_drewN ?_ _ | refine blk_drew ?_ | refine blk_alloc ?_ _)); exact BK901.out) hb); have n2_ := Aside0.mk (blk_below (g := gb902) (o := .cells #[.int .i64 0, .int .i64 0, .int .i64 0] 66 (0, 0)) (by (with_reducible repeat (first | refine blk_drewN ?_ _ | refine blk_drew ?_ | refine blk_alloc ?_ _)); exact BK902.out) hb); have n3_ := Aside0.mk (below_step (by repeat (first | (with_reducible first | exact HB.out | apply below_alloc | apply pw_below_drewN | apply below_drew1 | refine below_set ?_ GE900.out | refine below_set ?_ GE901.out | refine below_set ?_ GE902.out) | exact HB.out)) hb); clear BK900; clear BK901; clear BK902; clear HB; have BK900 := n0_; have BK901 := n1_; have BK902 := n2_; have HB := n3_; clear n0_ n1_ n2_ n3_; (try clear hb); (try clear hb2); (try clear hk); (try clear hi); have hnb15 := NB901_902.out; have hnc15 := NB902_901.out; have hcz16_0 : w14.cell? ⟨gb901, 0, none⟩ = some (.int .i64 a1_0) := (blk_cell BK901.out 0).trans rfl; have hcz16_1 : w14.cell? ⟨gb901, 1, none⟩ = some (.int .i64 a1_1) := (blk_cell BK901.out 1).trans rfl; have hcz16_2 : w14.cell? ⟨gb901, 2, none⟩ = some (.int .i64 a1_2) := (blk_cell BK901.out 2).trans rfl; have hfz16_0 := blk_frozen BK901.out 0; have hfz16_1 := blk_frozen BK901.out 1; have hfz16_2 := blk_frozen BK901.out 2) | (go_at_call 80; (with_reducible refine (impl_IsLattice.calls a1_0 a1_1 a1_2 true _ A5.out).mono ?_); rintro e w17 ⟨rfl, hb⟩; have n0_ := Aside0.mk (blk_below (g := gb900) (o := .cells #[.int .i64 a0_0, .int .i64 a0_1, .int .i64 a0_2] 66 (0, 0)) (by (with_reducible repeat (first | refine blk_drewN ?_ _ | refine blk_drew ?_ | refine blk_alloc ?_ _)); exact BK900.out) hb); have n1_ := Aside0.mk (blk_below (g := gb901) (o := .cells #[.int .i64 a1_0, .int .i64 a1_1, .int .i64 a1_2] 66 (0, 0)) (by (with_reducible repeat (first | refine blk_drewN ?_ _ | refine blk_drew ?_ | refine blk_alloc ?_ _)); exact BK901.out) hb); have n2_ := Aside0.mk (blk_below (g := gb902) (o := .cells #[.int .i64 0, .int .i64 0, .int .i64 0] 66 (0, 0)) (by (with_reducible repeat (first | refine blk_drewN ?_ _ | refine blk_drew ?_ | refine blk_alloc ?_ _)); exact BK902.out) hb); have n3_ := Aside0.mk (below_step (by repeat (first | (with_reducible first | exact HB.out | apply below_alloc | apply pw_below_drewN | apply below_drew1 | refine below_set ?_ GE900.out | refine below_set ?_ GE901.out | refine below_set ?_ GE902.out) | exact HB.out)) hb); clear BK900; clear BK901; clear BK902; clear HB; have BK900 := n0_; have BK901 := n1_; have BK902 := n2_; have HB := n3_; clear n0_ n1_ n2_ n3_; (try clear hb); (try clear hb2); (try clear hk); (try clear hi); have hcz18_0 : w17.cell? ⟨gb900, 0, none⟩ = some (.int .i64 a0_0) := (blk_cell BK900.out 0).trans rfl; have hcz18_1 : w17.cell? ⟨gb900, 1, none⟩ = some (.int .i64 a0_1) := (blk_cell BK900.out 1).trans rfl; have hcz18_2 : w17.cell? ⟨gb900, 2, none⟩ = some (.int .i64 a0_2) := (blk_cell BK900.out 2).trans rfl; have hfz18_0 := blk_frozen BK900.out 0; have hfz18_1 := blk_frozen BK900.out 1; have hfz18_2 := blk_frozen BK900.out 2; have hcz19_0 : w17.cell? ⟨gb901, 0, none⟩ = some (.int .i64 a1_0) := (blk_cell BK901.out 0).trans rfl; have hcz19_1 : w17.cell? ⟨gb901, 1, none⟩ = some (.int .i64 a1_1) := (blk_cell BK901.out 1).trans rfl; have hcz19_2 : w17.cell? ⟨gb901, 2, none⟩ = some (.int .i64 a1_2) := (blk_cell BK901.out 2).trans rfl; have hfz19_0 := blk_frozen BK901.out 0; have hfz19_1 := blk_frozen BK901.out 1; have hfz19_2 := blk_frozen BK901.out 2) | ((with_reducible refine gate_callee (f := 167) rfl ?_); refine goesL_ (some 17) rfl rfl Try.func167 (by kernel_rfl) rfl #[.agg #[.int .i64 a0_0, .int .i64 a0_1, .int .i64 a0_2], .agg #[.int .i64 a1_0, .int .i64 a1_1, .int .i64 a1_2]] rfl (by (try simp only [List.map_toArray, List.map_cons, List.map_nil]); first | done | rfl | (simp only [List.length_drop, List.length_take]; rfl)) ?_; (with_reducible refine (impl_join.calls k a0_0 a0_1 a0_2 a1_0 a1_1 a1_2 t905 t906 t907 _ A7.out).mono ?_); rintro e w20 ⟨rfl, hb⟩; refine ⟨_, rfl, ?_⟩; have n0_ := Aside0.mk (blk_below (g := gb900) (o := .cells #[.int .i64 a0_0, .int .i64 a0_1, .int .i64 a0_2] 66 (0, 0)) (by (with_reducible repeat (first | refine blk_drewN ?_ _ | refine blk_drew ?_ | refine blk_alloc ?_ _)); exact BK900.out) hb); have n1_ := Aside0.mk (blk_below (g := gb901) (o := .cells #[.int .i64 a1_0, .int .i64 a1_1, .int .i64 a1_2] 66 (0, 0)) (by (with_reducible repeat (first | refine blk_drewN ?_ _ | refine blk_drew ?_ | refine blk_alloc ?_ _)); exact BK901.out) hb); have n2_ := Aside0.mk (blk_below (g := gb902) (o := .cells #[.int .i64 0, .int .i64 0, .int .i64 0] 66 (0, 0)) (by (with_reducible repeat (first | refine blk_drewN ?_ _ | refine blk_drew ?_ | refine blk_alloc ?_ _)); exact BK902.out) hb); have n3_ := Aside0.mk (below_step (by repeat (first | (with_reducible first | exact HB.out | apply below_alloc | apply pw_below_drewN | apply below_drew1 | refine below_set ?_ GE900.out | refine below_set ?_ GE901.out | refine below_set ?_ GE902.out) | exact HB.out)) hb); clear BK900; clear BK901; clear BK902; clear HB; have BK900 := n0_; have BK901 := n1_; have BK902 := n2_; have HB := n3_; clear n0_ n1_ n2_ n3_; (try clear hb); (try clear hb2); (try clear hk); (try clear hi); have hcz21_0 : w20.cell? ⟨gb902, 0, none⟩ = some (.int .i64 0) := (blk_cell BK902.out 0).trans rfl; have hcz21_1 : w20.cell? ⟨gb902, 1, none⟩ = some (.int .i64 0) := (blk_cell BK902.out 1).trans rfl; have hcz21_2 : w20.cell? ⟨gb902, 2, none⟩ = some (.int .i64 0) := (blk_cell BK902.out 2).trans rfl; have hfz21_0 := blk_frozen BK902.out 0; have hfz21_1 := blk_frozen BK902.out 1; have hfz21_2 := blk_frozen BK902.out 2))
      refine bodyPost_ret (results_ct rfl _ _ gb902 66 #[.int .i64 t905, .int .i64 t906, .int .i64 t907] (0, 0) _ rfl (by (with_reducible repeat (first | refine blk_drewN ?_ _ | refine blk_drew ?_ | refine blk_alloc ?_ _)); refine blk_put (cs := #[.int .i64 t905, .int .i64 t906, .int .i64 0]) ?_ 2 _ rfl; (with_reducible repeat (first | refine blk_drewN ?_ _ | refine blk_drew ?_ | refine blk_alloc ?_ _)); refine blk_put (cs := #[.int .i64 t905, .int .i64 0, .int .i64 0]) ?_ 1 _ rfl; (with_reducible repeat (first | refine blk_drewN ?_ _ | refine blk_drew ?_ | refine blk_alloc ?_ _)); refine blk_put (cs := #[.int .i64 0, .int .i64 0, .int .i64 0]) ?_ 0 _ rfl; (with_reducible repeat (first | refine blk_drewN ?_ _ | refine blk_drew ?_ | refine blk_alloc ?_ _)); exact BK902.out) Try.underlying66 rfl (by kernel_rfl)) rfl ?_
      exact ⟨by first | rfl | (simp [errW_none, errW_some] <;> rfl) | (simp [*, errW_none, errW_some] <;> rfl), by repeat (first | (with_reducible first | exact HB.out | apply below_alloc | apply pw_below_drewN | apply below_drew1 | refine below_set ?_ GE900.out | refine below_set ?_ GE901.out | refine below_set ?_ GE902.out) | exact HB.out)⟩
    · replace c6 := Bool.eq_false_iff.mpr c6
      subst c6
      have H1 : (some (0, 0, 0, 1)) = some (r1, r2, r3, r4) := by rw [if_neg (show ¬ (false = true) by decide)] at H; exact H
      clear H
      have H := H1
      clear H1
      simp only [Option.some.injEq, Prod.mk.injEq] at H
      obtain ⟨rfl, rfl, rfl, rfl⟩ := H
      go_enter Try.func63, Try.ntmps63
      go_wp2_with (first | ((with_reducible refine gate_dst (N := 2) rfl ?_); refine box_event ?hg (N := 2) ?hd (cs := #[.int .i64 a0_0, .int .i64 a0_1, .int .i64 a0_2]) (t := 66) ?hr ?_; (case hd => rfl); (case hg => rfl); (case hr => first | (go_simp; done) | (go_simp; rfl)); intro gb900 hg w22 hbox hb; have n0_ := Aside0.mk (below_step (by repeat (first | (with_reducible first | exact HB.out | apply below_alloc | apply pw_below_drewN | apply below_drew1) | exact HB.out)) hb); have n1_ := Aside0.mk (hbox); have n2_ := Aside0.mk ((by rw [hg]; exact (below_size (by repeat (first | (with_reducible first | exact HB.out | apply below_alloc | apply pw_below_drewN | apply below_drew1) | exact HB.out))) : w.heap.size ≤ gb900)); have n3_ := Aside0.mk ((by rw [hg]; exact (below_size (by repeat (first | (with_reducible first | exact HB.out | apply below_alloc | apply pw_below_drewN | apply below_drew1) | exact HB.out))) : w.heap.size ≤ gb900)); clear HB; have HB := n0_; have BK900 := n1_; have GW900 := n2_; have GE900 := n3_; clear n0_ n1_ n2_ n3_; clear hb hbox hg) | ((with_reducible refine gate_dst (N := 3) rfl ?_); refine box_event ?hg (N := 3) ?hd (cs := #[.int .i64 a1_0, .int .i64 a1_1, .int .i64 a1_2]) (t := 66) ?hr ?_; (case hd => rfl); (case hg => rfl); (case hr => first | (go_simp; done) | (go_simp; rfl)); intro gb901 hg w23 hbox hb; have n0_ := Aside0.mk (blk_below (g := gb900) (o := .cells #[.int .i64 a0_0, .int .i64 a0_1, .int .i64 a0_2] 66 (0, 0)) (by (with_reducible repeat (first | refine blk_drewN ?_ _ | refine blk_drew ?_ | refine blk_alloc ?_ _)); exact BK900.out) hb); have n1_ := Aside0.mk (below_step (by repeat (first | (with_reducible first | exact HB.out | apply below_alloc | apply pw_below_drewN | apply below_drew1 | refine below_set ?_ GE900.out) | exact HB.out)) hb); have n2_ := Aside0.mk (hbox); have n3_ := Aside0.mk ((by rw [hg]; exact (below_size (by repeat (first | (with_reducible first | exact HB.out | apply below_alloc | apply pw_below_drewN | apply below_drew1 | refine below_set ?_ GE900.out) | exact HB.out))) : w.heap.size ≤ gb901)); have n4_ := Aside0.mk ((by rw [hg]; exact (below_size (by repeat (first | (with_reducible first | exact HB.out | apply below_alloc | apply pw_below_drewN | apply below_drew1 | refine below_set ?_ GE900.out) | exact HB.out))) : w.heap.size ≤ gb901)); have n5_ := Aside0.mk ((by rw [hg]; exact Nat.ne_of_lt (blk_lt (g := gb900) (o := .cells #[.int .i64 a0_0, .int .i64 a0_1, .int .i64 a0_2] 66 (0, 0)) (by (with_reducible repeat (first | refine blk_drewN ?_ _ | refine blk_drew ?_ | refine blk_alloc ?_ _)); exact BK900.out)) : gb900 ≠ gb901)); have n6_ := Aside0.mk ((by rw [hg]; exact Nat.ne_of_gt (blk_lt (g := gb900) (o := .cells #[.int .i64 a0_0, .int .i64 a0_1, .int .i64 a0_2] 66 (0, 0)) (by (with_reducible repeat (first | refine blk_drewN ?_ _ | refine blk_drew ?_ | refine blk_alloc ?_ _)); exact BK900.out)) : gb901 ≠ gb900)); clear BK900; clear HB; have BK900 := n0_; have HB := n1_; have BK901 := n2_; have GW901 := n3_; have GE901 := n4_; have NB900_901 := n5_; have NB901_900 := n6_; clear n0_ n1_ n2_ n3_ n4_ n5_ n6_; clear hb hbox hg) | ((with_reducible refine gate_dst (N := 4) rfl ?_); refine box_event ?hg (N := 4) ?hd (cs := #[.int .i64 0, .int .i64 0, .int .i64 0]) (t := 66) ?hr ?_; (case hd => rfl); (case hg => rfl); (case hr => first | (go_simp; done) | (go_simp; rfl)); intro gb902 hg w24 hbox hb; have n0_ := Aside0.mk (blk_below (g := gb900) (o := .cells #[.int .i64 a0_0, .int .i64 a0_1, .int .i64 a0_2] 66 (0, 0)) (by (with_reducible repeat (first | refine blk_drewN ?_ _ | refine blk_drew ?_ | refine blk_alloc ?_ _)); exact BK900.out) hb); have n1_ := Aside0.mk (blk_below (g := gb901) (o := .cells #[.int .i64 a1_0, .int .i64 a1_1, .int .i64 a1_2] 66 (0, 0)) (by (with_reducible repeat (first | refine blk_drewN ?_ _ | refine blk_drew ?_ | refine blk_alloc ?_ _)); exact BK901.out) hb); have n2_ := Aside0.mk (below_step (by repeat (first | (with_reducible first | exact HB.out | apply below_alloc | apply pw_below_drewN | apply below_drew1 | refine below_set ?_ GE900.out | refine below_set ?_ GE901.out) | exact HB.out)) hb); have n3_ := Aside0.mk (hbox); have n4_ := Aside0.mk ((by rw [hg]; exact (below_size (by repeat (first | (with_reducible first | exact HB.out | apply below_alloc | apply pw_below_drewN | apply below_drew1 | refine below_set ?_ GE900.out | refine below_set ?_ GE901.out) | exact HB.out))) : w.heap.size ≤ gb902)); have n5_ := Aside0.mk ((by rw [hg]; exact (below_size (by repeat (first | (with_reducible first | exact HB.out | apply below_alloc | apply pw_below_drewN | apply below_drew1 | refine below_set ?_ GE900.out | refine below_set ?_ GE901.out) | exact HB.out))) : w.heap.size ≤ gb902)); have n6_ := Aside0.mk ((by rw [hg]; exact Nat.ne_of_lt (blk_lt (g := gb900) (o := .cells #[.int .i64 a0_0, .int .i64 a0_1, .int .i64 a0_2] 66 (0, 0)) (by (with_reducible repeat (first | refine blk_drewN ?_ _ | refine blk_drew ?_ | refine blk_alloc ?_ _)); exact BK900.out)) : gb900 ≠ gb902)); have n7_ := Aside0.mk ((by rw [hg]; exact Nat.ne_of_gt (blk_lt (g := gb900) (o := .cells #[.int .i64 a0_0, .int .i64 a0_1, .int .i64 a0_2] 66 (0, 0)) (by (with_reducible repeat (first | refine blk_drewN ?_ _ | refine blk_drew ?_ | refine blk_alloc ?_ _)); exact BK900.out)) : gb902 ≠ gb900)); have n8_ := Aside0.mk ((by rw [hg]; exact Nat.ne_of_lt (blk_lt (g := gb901) (o := .cells #[.int .i64 a1_0, .int .i64 a1_1, .int .i64 a1_2] 66 (0, 0)) (by (with_reducible repeat (first | refine blk_drewN ?_ _ | refine blk_drew ?_ | refine blk_alloc ?_ _)); exact BK901.out)) : gb901 ≠ gb902)); have n9_ := Aside0.mk ((by rw [hg]; exact Nat.ne_of_gt (blk_lt (g := gb901) (o := .cells #[.int .i64 a1_0, .int .i64 a1_1, .int .i64 a1_2] 66 (0, 0)) (by (with_reducible repeat (first | refine blk_drewN ?_ _ | refine blk_drew ?_ | refine blk_alloc ?_ _)); exact BK901.out)) : gb902 ≠ gb901)); clear BK900; clear BK901; clear HB; have BK900 := n0_; have BK901 := n1_; have HB := n2_; have BK902 := n3_; have GW902 := n4_; have GE902 := n5_; have NB900_902 := n6_; have NB902_900 := n7_; have NB901_902 := n8_; have NB902_901 := n9_; clear n0_ n1_ n2_ n3_ n4_ n5_ n6_ n7_ n8_ n9_; clear hb hbox hg; have hnb25 := NB900_901.out; have hnc25 := NB901_900.out; have hnb26 := NB900_902.out; have hnc26 := NB902_900.out; have hcz27_0 : w24.cell? ⟨gb900, 0, none⟩ = some (.int .i64 a0_0) := (blk_cell BK900.out 0).trans rfl; have hcz27_1 : w24.cell? ⟨gb900, 1, none⟩ = some (.int .i64 a0_1) := (blk_cell BK900.out 1).trans rfl; have hcz27_2 : w24.cell? ⟨gb900, 2, none⟩ = some (.int .i64 a0_2) := (blk_cell BK900.out 2).trans rfl; have hfz27_0 := blk_frozen BK900.out 0; have hfz27_1 := blk_frozen BK900.out 1; have hfz27_2 := blk_frozen BK900.out 2) | ((with_reducible refine gate_callee (f := 80) rfl ?_); refine goesL_ (some 7) rfl rfl Try.func80 (by kernel_rfl) rfl #[.agg #[.int .i64 a0_0, .int .i64 a0_1, .int .i64 a0_2]] rfl (by (try simp only [List.map_toArray, List.map_cons, List.map_nil]); first | done | rfl | (simp only [List.length_drop, List.length_take]; rfl)) ?_; (with_reducible refine (impl_IsLattice.calls a0_0 a0_1 a0_2 true _ A3.out).mono ?_); rintro e w28 ⟨rfl, hb⟩; refine ⟨_, rfl, ?_⟩; have n0_ := Aside0.mk (blk_below (g := gb900) (o := .cells #[.int .i64 a0_0, .int .i64 a0_1, .int .i64 a0_2] 66 (0, 0)) (by (with_reducible repeat (first | refine blk_drewN ?_ _ | refine blk_drew ?_ | refine blk_alloc ?_ _)); exact BK900.out) hb); have n1_ := Aside0.mk (blk_below (g := gb901) (o := .cells #[.int .i64 a1_0, .int .i64 a1_1, .int .i64 a1_2] 66 (0, 0)) (by (with_reducible repeat (first | refine blk_drewN ?_ _ | refine blk_drew ?_ | refine blk_alloc ?_ _)); exact BK901.out) hb); have n2_ := Aside0.mk (blk_below (g := gb902) (o := .cells #[.int .i64 0, .int .i64 0, .int .i64 0] 66 (0, 0)) (by (with_reducible repeat (first | refine blk_drewN ?_ _ | refine blk_drew ?_ | refine blk_alloc ?_ _)); exact BK902.out) hb); have n3_ := Aside0.mk (below_step (by repeat (first | (with_reducible first | exact HB.out | apply below_alloc | apply pw_below_drewN | apply below_drew1 | refine below_set ?_ GE900.out | refine below_set ?_ GE901.out | refine below_set ?_ GE902.out) | exact HB.out)) hb); clear BK900; clear BK901; clear BK902; clear HB; have BK900 := n0_; have BK901 := n1_; have BK902 := n2_; have HB := n3_; clear n0_ n1_ n2_ n3_; (try clear hb); (try clear hb2); (try clear hk); (try clear hi); have hnb29 := NB901_902.out; have hnc29 := NB902_901.out; have hcz30_0 : w28.cell? ⟨gb901, 0, none⟩ = some (.int .i64 a1_0) := (blk_cell BK901.out 0).trans rfl; have hcz30_1 : w28.cell? ⟨gb901, 1, none⟩ = some (.int .i64 a1_1) := (blk_cell BK901.out 1).trans rfl; have hcz30_2 : w28.cell? ⟨gb901, 2, none⟩ = some (.int .i64 a1_2) := (blk_cell BK901.out 2).trans rfl; have hfz30_0 := blk_frozen BK901.out 0; have hfz30_1 := blk_frozen BK901.out 1; have hfz30_2 := blk_frozen BK901.out 2) | (go_at_call 80; (with_reducible refine (impl_IsLattice.calls a1_0 a1_1 a1_2 false _ A5.out).mono ?_); rintro e w31 ⟨rfl, hb⟩; have n0_ := Aside0.mk (blk_below (g := gb900) (o := .cells #[.int .i64 a0_0, .int .i64 a0_1, .int .i64 a0_2] 66 (0, 0)) (by (with_reducible repeat (first | refine blk_drewN ?_ _ | refine blk_drew ?_ | refine blk_alloc ?_ _)); exact BK900.out) hb); have n1_ := Aside0.mk (blk_below (g := gb901) (o := .cells #[.int .i64 a1_0, .int .i64 a1_1, .int .i64 a1_2] 66 (0, 0)) (by (with_reducible repeat (first | refine blk_drewN ?_ _ | refine blk_drew ?_ | refine blk_alloc ?_ _)); exact BK901.out) hb); have n2_ := Aside0.mk (blk_below (g := gb902) (o := .cells #[.int .i64 0, .int .i64 0, .int .i64 0] 66 (0, 0)) (by (with_reducible repeat (first | refine blk_drewN ?_ _ | refine blk_drew ?_ | refine blk_alloc ?_ _)); exact BK902.out) hb); have n3_ := Aside0.mk (below_step (by repeat (first | (with_reducible first | exact HB.out | apply below_alloc | apply pw_below_drewN | apply below_drew1 | refine below_set ?_ GE900.out | refine below_set ?_ GE901.out | refine below_set ?_ GE902.out) | exact HB.out)) hb); clear BK900; clear BK901; clear BK902; clear HB; have BK900 := n0_; have BK901 := n1_; have BK902 := n2_; have HB := n3_; clear n0_ n1_ n2_ n3_; (try clear hb); (try clear hb2); (try clear hk); (try clear hi); have hcz32_0 : w31.cell? ⟨gb902, 0, none⟩ = some (.int .i64 0) := (blk_cell BK902.out 0).trans rfl; have hcz32_1 : w31.cell? ⟨gb902, 1, none⟩ = some (.int .i64 0) := (blk_cell BK902.out 1).trans rfl; have hcz32_2 : w31.cell? ⟨gb902, 2, none⟩ = some (.int .i64 0) := (blk_cell BK902.out 2).trans rfl; have hfz32_0 := blk_frozen BK902.out 0; have hfz32_1 := blk_frozen BK902.out 1; have hfz32_2 := blk_frozen BK902.out 2))
      refine bodyPost_ret (results_ct rfl _ _ gb902 66 #[.int .i64 0, .int .i64 0, .int .i64 0] (0, 0) _ rfl (by (with_reducible repeat (first | refine blk_drewN ?_ _ | refine blk_drew ?_ | refine blk_alloc ?_ _)); refine blk_put (cs := #[.int .i64 0, .int .i64 0, .int .i64 0]) ?_ 2 _ rfl; (with_reducible repeat (first | refine blk_drewN ?_ _ | refine blk_drew ?_ | refine blk_alloc ?_ _)); refine blk_put (cs := #[.int .i64 0, .int .i64 0, .int .i64 0]) ?_ 1 _ rfl; (with_reducible repeat (first | refine blk_drewN ?_ _ | refine blk_drew ?_ | refine blk_alloc ?_ _)); refine blk_put (cs := #[.int .i64 0, .int .i64 0, .int .i64 0]) ?_ 0 _ rfl; (with_reducible repeat (first | refine blk_drewN ?_ _ | refine blk_drew ?_ | refine blk_alloc ?_ _)); exact BK902.out) Try.underlying66 rfl (by kernel_rfl)) rfl ?_
      exact ⟨by first | rfl | (simp [errW_none, errW_some] <;> rfl) | (simp [*, errW_none, errW_some] <;> rfl), by repeat (first | (with_reducible first | exact HB.out | apply below_alloc | apply pw_below_drewN | apply below_drew1 | refine below_set ?_ GE900.out | refine below_set ?_ GE901.out | refine below_set ?_ GE902.out) | exact HB.out)⟩
  · replace c4 := Bool.eq_false_iff.mpr c4
    subst c4
    have H1 : (some (0, 0, 0, 1)) = some (r1, r2, r3, r4) := by rw [if_neg (show ¬ (false = true) by decide)] at H; exact H
    clear H
    have H := H1
    clear H1
    simp only [Option.some.injEq, Prod.mk.injEq] at H
    obtain ⟨rfl, rfl, rfl, rfl⟩ := H
    go_enter Try.func63, Try.ntmps63
    go_wp2_with (first | ((with_reducible refine gate_dst (N := 2) rfl ?_); refine box_event ?hg (N := 2) ?hd (cs := #[.int .i64 a0_0, .int .i64 a0_1, .int .i64 a0_2]) (t := 66) ?hr ?_; (case hd => rfl); (case hg => rfl); (case hr => first | (go_simp; done) | (go_simp; rfl)); intro gb900 hg w33 hbox hb; have n0_ := Aside0.mk (below_step (by repeat (first | (with_reducible first | exact HB.out | apply below_alloc | apply pw_below_drewN | apply below_drew1) | exact HB.out)) hb); have n1_ := Aside0.mk (hbox); have n2_ := Aside0.mk ((by rw [hg]; exact (below_size (by repeat (first | (with_reducible first | exact HB.out | apply below_alloc | apply pw_below_drewN | apply below_drew1) | exact HB.out))) : w.heap.size ≤ gb900)); have n3_ := Aside0.mk ((by rw [hg]; exact (below_size (by repeat (first | (with_reducible first | exact HB.out | apply below_alloc | apply pw_below_drewN | apply below_drew1) | exact HB.out))) : w.heap.size ≤ gb900)); clear HB; have HB := n0_; have BK900 := n1_; have GW900 := n2_; have GE900 := n3_; clear n0_ n1_ n2_ n3_; clear hb hbox hg) | ((with_reducible refine gate_dst (N := 3) rfl ?_); refine box_event ?hg (N := 3) ?hd (cs := #[.int .i64 a1_0, .int .i64 a1_1, .int .i64 a1_2]) (t := 66) ?hr ?_; (case hd => rfl); (case hg => rfl); (case hr => first | (go_simp; done) | (go_simp; rfl)); intro gb901 hg w34 hbox hb; have n0_ := Aside0.mk (blk_below (g := gb900) (o := .cells #[.int .i64 a0_0, .int .i64 a0_1, .int .i64 a0_2] 66 (0, 0)) (by (with_reducible repeat (first | refine blk_drewN ?_ _ | refine blk_drew ?_ | refine blk_alloc ?_ _)); exact BK900.out) hb); have n1_ := Aside0.mk (below_step (by repeat (first | (with_reducible first | exact HB.out | apply below_alloc | apply pw_below_drewN | apply below_drew1 | refine below_set ?_ GE900.out) | exact HB.out)) hb); have n2_ := Aside0.mk (hbox); have n3_ := Aside0.mk ((by rw [hg]; exact (below_size (by repeat (first | (with_reducible first | exact HB.out | apply below_alloc | apply pw_below_drewN | apply below_drew1 | refine below_set ?_ GE900.out) | exact HB.out))) : w.heap.size ≤ gb901)); have n4_ := Aside0.mk ((by rw [hg]; exact (below_size (by repeat (first | (with_reducible first | exact HB.out | apply below_alloc | apply pw_below_drewN | apply below_drew1 | refine below_set ?_ GE900.out) | exact HB.out))) : w.heap.size ≤ gb901)); have n5_ := Aside0.mk ((by rw [hg]; exact Nat.ne_of_lt (blk_lt (g := gb900) (o := .cells #[.int .i64 a0_0, .int .i64 a0_1, .int .i64 a0_2] 66 (0, 0)) (by (with_reducible repeat (first | refine blk_drewN ?_ _ | refine blk_drew ?_ | refine blk_alloc ?_ _)); exact BK900.out)) : gb900 ≠ gb901)); have n6_ := Aside0.mk ((by rw [hg]; exact Nat.ne_of_gt (blk_lt (g := gb900) (o := .cells #[.int .i64 a0_0, .int .i64 a0_1, .int .i64 a0_2] 66 (0, 0)) (by (with_reducible repeat (first | refine blk_drewN ?_ _ | refine blk_drew ?_ | refine blk_alloc ?_ _)); exact BK900.out)) : gb901 ≠ gb900)); clear BK900; clear HB; have BK900 := n0_; have HB := n1_; have BK901 := n2_; have GW901 := n3_; have GE901 := n4_; have NB900_901 := n5_; have NB901_900 := n6_; clear n0_ n1_ n2_ n3_ n4_ n5_ n6_; clear hb hbox hg) | ((with_reducible refine gate_dst (N := 4) rfl ?_); refine box_event ?hg (N := 4) ?hd (cs := #[.int .i64 0, .int .i64 0, .int .i64 0]) (t := 66) ?hr ?_; (case hd => rfl); (case hg => rfl); (case hr => first | (go_simp; done) | (go_simp; rfl)); intro gb902 hg w35 hbox hb; have n0_ := Aside0.mk (blk_below (g := gb900) (o := .cells #[.int .i64 a0_0, .int .i64 a0_1, .int .i64 a0_2] 66 (0, 0)) (by (with_reducible repeat (first | refine blk_drewN ?_ _ | refine blk_drew ?_ | refine blk_alloc ?_ _)); exact BK900.out) hb); have n1_ := Aside0.mk (blk_below (g := gb901) (o := .cells #[.int .i64 a1_0, .int .i64 a1_1, .int .i64 a1_2] 66 (0, 0)) (by (with_reducible repeat (first | refine blk_drewN ?_ _ | refine blk_drew ?_ | refine blk_alloc ?_ _)); exact BK901.out) hb); have n2_ := Aside0.mk (below_step (by repeat (first | (with_reducible first | exact HB.out | apply below_alloc | apply pw_below_drewN | apply below_drew1 | refine below_set ?_ GE900.out | refine below_set ?_ GE901.out) | exact HB.out)) hb); have n3_ := Aside0.mk (hbox); have n4_ := Aside0.mk ((by rw [hg]; exact (below_size (by repeat (first | (with_reducible first | exact HB.out | apply below_alloc | apply pw_below_drewN | apply below_drew1 | refine below_set ?_ GE900.out | refine below_set ?_ GE901.out) | exact HB.out))) : w.heap.size ≤ gb902)); have n5_ := Aside0.mk ((by rw [hg]; exact (below_size (by repeat (first | (with_reducible first | exact HB.out | apply below_alloc | apply pw_below_drewN | apply below_drew1 | refine below_set ?_ GE900.out | refine below_set ?_ GE901.out) | exact HB.out))) : w.heap.size ≤ gb902)); have n6_ := Aside0.mk ((by rw [hg]; exact Nat.ne_of_lt (blk_lt (g := gb900) (o := .cells #[.int .i64 a0_0, .int .i64 a0_1, .int .i64 a0_2] 66 (0, 0)) (by (with_reducible repeat (first | refine blk_drewN ?_ _ | refine blk_drew ?_ | refine blk_alloc ?_ _)); exact BK900.out)) : gb900 ≠ gb902)); have n7_ := Aside0.mk ((by rw [hg]; exact Nat.ne_of_gt (blk_lt (g := gb900) (o := .cells #[.int .i64 a0_0, .int .i64 a0_1, .int .i64 a0_2] 66 (0, 0)) (by (with_reducible repeat (first | refine blk_drewN ?_ _ | refine blk_drew ?_ | refine blk_alloc ?_ _)); exact BK900.out)) : gb902 ≠ gb900)); have n8_ := Aside0.mk ((by rw [hg]; exact Nat.ne_of_lt (blk_lt (g := gb901) (o := .cells #[.int .i64 a1_0, .int .i64 a1_1, .int .i64 a1_2] 66 (0, 0)) (by (with_reducible repeat (first | refine blk_drewN ?_ _ | refine blk_drew ?_ | refine blk_alloc ?_ _)); exact BK901.out)) : gb901 ≠ gb902)); have n9_ := Aside0.mk ((by rw [hg]; exact Nat.ne_of_gt (blk_lt (g := gb901) (o := .cells #[.int .i64 a1_0, .int .i64 a1_1, .int .i64 a1_2] 66 (0, 0)) (by (with_reducible repeat (first | refine blk_drewN ?_ _ | refine blk_drew ?_ | refine blk_alloc ?_ _)); exact BK901.out)) : gb902 ≠ gb901)); clear BK900; clear BK901; clear HB; have BK900 := n0_; have BK901 := n1_; have HB := n2_; have BK902 := n3_; have GW902 := n4_; have GE902 := n5_; have NB900_902 := n6_; have NB902_900 := n7_; have NB901_902 := n8_; have NB902_901 := n9_; clear n0_ n1_ n2_ n3_ n4_ n5_ n6_ n7_ n8_ n9_; clear hb hbox hg; have hnb36 := NB900_901.out; have hnc36 := NB901_900.out; have hnb37 := NB900_902.out; have hnc37 := NB902_900.out; have hcz38_0 : w35.cell? ⟨gb900, 0, none⟩ = some (.int .i64 a0_0) := (blk_cell BK900.out 0).trans rfl; have hcz38_1 : w35.cell? ⟨gb900, 1, none⟩ = some (.int .i64 a0_1) := (blk_cell BK900.out 1).trans rfl; have hcz38_2 : w35.cell? ⟨gb900, 2, none⟩ = some (.int .i64 a0_2) := (blk_cell BK900.out 2).trans rfl; have hfz38_0 := blk_frozen BK900.out 0; have hfz38_1 := blk_frozen BK900.out 1; have hfz38_2 := blk_frozen BK900.out 2) | ((with_reducible refine gate_callee (f := 80) rfl ?_); refine goesL_ (some 7) rfl rfl Try.func80 (by kernel_rfl) rfl #[.agg #[.int .i64 a0_0, .int .i64 a0_1, .int .i64 a0_2]] rfl (by (try simp only [List.map_toArray, List.map_cons, List.map_nil]); first | done | rfl | (simp only [List.length_drop, List.length_take]; rfl)) ?_; (with_reducible refine (impl_IsLattice.calls a0_0 a0_1 a0_2 false _ A3.out).mono ?_); rintro e w39 ⟨rfl, hb⟩; refine ⟨_, rfl, ?_⟩; have n0_ := Aside0.mk (blk_below (g := gb900) (o := .cells #[.int .i64 a0_0, .int .i64 a0_1, .int .i64 a0_2] 66 (0, 0)) (by (with_reducible repeat (first | refine blk_drewN ?_ _ | refine blk_drew ?_ | refine blk_alloc ?_ _)); exact BK900.out) hb); have n1_ := Aside0.mk (blk_below (g := gb901) (o := .cells #[.int .i64 a1_0, .int .i64 a1_1, .int .i64 a1_2] 66 (0, 0)) (by (with_reducible repeat (first | refine blk_drewN ?_ _ | refine blk_drew ?_ | refine blk_alloc ?_ _)); exact BK901.out) hb); have n2_ := Aside0.mk (blk_below (g := gb902) (o := .cells #[.int .i64 0, .int .i64 0, .int .i64 0] 66 (0, 0)) (by (with_reducible repeat (first | refine blk_drewN ?_ _ | refine blk_drew ?_ | refine blk_alloc ?_ _)); exact BK902.out) hb); have n3_ := Aside0.mk (below_step (by repeat (first | (with_reducible first | exact HB.out | apply below_alloc | apply pw_below_drewN | apply below_drew1 | refine below_set ?_ GE900.out | refine below_set ?_ GE901.out | refine below_set ?_ GE902.out) | exact HB.out)) hb); clear BK900; clear BK901; clear BK902; clear HB; have BK900 := n0_; have BK901 := n1_; have BK902 := n2_; have HB := n3_; clear n0_ n1_ n2_ n3_; (try clear hb); (try clear hb2); (try clear hk); (try clear hi); have hnb40 := NB902_901.out; have hnc40 := NB901_902.out; have hcz41_0 : w39.cell? ⟨gb902, 0, none⟩ = some (.int .i64 0) := (blk_cell BK902.out 0).trans rfl; have hcz41_1 : w39.cell? ⟨gb902, 1, none⟩ = some (.int .i64 0) := (blk_cell BK902.out 1).trans rfl; have hcz41_2 : w39.cell? ⟨gb902, 2, none⟩ = some (.int .i64 0) := (blk_cell BK902.out 2).trans rfl; have hfz41_0 := blk_frozen BK902.out 0; have hfz41_1 := blk_frozen BK902.out 1; have hfz41_2 := blk_frozen BK902.out 2))
    refine bodyPost_ret (results_ct rfl _ _ gb902 66 #[.int .i64 0, .int .i64 0, .int .i64 0] (0, 0) _ rfl (by (with_reducible repeat (first | refine blk_drewN ?_ _ | refine blk_drew ?_ | refine blk_alloc ?_ _)); refine blk_put (cs := #[.int .i64 0, .int .i64 0, .int .i64 0]) ?_ 2 _ rfl; (with_reducible repeat (first | refine blk_drewN ?_ _ | refine blk_drew ?_ | refine blk_alloc ?_ _)); refine blk_put (cs := #[.int .i64 0, .int .i64 0, .int .i64 0]) ?_ 1 _ rfl; (with_reducible repeat (first | refine blk_drewN ?_ _ | refine blk_drew ?_ | refine blk_alloc ?_ _)); refine blk_put (cs := #[.int .i64 0, .int .i64 0, .int .i64 0]) ?_ 0 _ rfl; (with_reducible repeat (first | refine blk_drewN ?_ _ | refine blk_drew ?_ | refine blk_alloc ?_ _)); exact BK902.out) Try.underlying66 rfl (by kernel_rfl)) rfl ?_
    exact ⟨by first | rfl | (simp [errW_none, errW_some] <;> rfl) | (simp [*, errW_none, errW_some] <;> rfl), by repeat (first | (with_reducible first | exact HB.out | apply below_alloc | apply pw_below_drewN | apply below_drew1 | refine below_set ?_ GE900.out | refine below_set ?_ GE901.out | refine below_set ?_ GE902.out) | exact HB.out)⟩

/-! ### spec_l03Basis: function 169 -/
def spec_l03Basis.f (a0_0 : Int) (a0_1 : Int) (a0_2 : Int) : Option ((List (S25))) := some (([(⟨a0_0, 0⟩ : S25), (⟨a0_1, a0_2⟩ : S25)] : List (S25)))
set_option maxHeartbeats 8000000 in
set_option maxRecDepth 100000 in
theorem spec_l03Basis.calls (a0_0 : Int) (a0_1 : Int) (a0_2 : Int) (r : List (S25)) (w : World) (h : spec_l03Basis.f a0_0 a0_1 a0_2 = some r) :
    Calls Try.prog 169 #[.agg #[.int .i64 a0_0, .int .i64 a0_1, .int .i64 a0_2]] w fun e w' => ∃ v0_ : Value, e = .returned (v0_) ∧ Kd.R k25 25 w' w.heap.size (fun _ => True) v0_ r ∧ Below w.heap.size w w' := by
  have hu66 := Try.underlying66
  have hu25 := Try.underlying25
  have HB := Aside0.mk (Below.refl w.heap.size w)
  have H : (some (([(⟨a0_0, 0⟩ : S25), (⟨a0_1, a0_2⟩ : S25)] : List (S25)))) = some r := h
  clear h
  obtain ⟨y924, hy924⟩ : ∃ y_ : List (S25), y_ = (([(⟨a0_0, 0⟩ : S25), (⟨a0_1, a0_2⟩ : S25)] : List (S25))) := ⟨_, rfl⟩
  replace H : (some y924) = some r := by first | (rw [hy924]; with_reducible exact H) | (have H2_ := (Option.bind_some _ _).symm.trans H; rw [hy924]; with_reducible exact H2_) | (have H2_ := (Option.bind_some _ _).symm.trans H; with_reducible exact H2_) | with_reducible exact H | (rw [hy924]; exact H) | exact H
  have Ny924 := Aside0.mk hy924
  clear hy924
  obtain rfl := Option.some.inj H
  go_enter Try.func169, Try.ntmps169
  go_wp2_with (first | ((with_reducible refine gate_dst (N := 1) rfl ?_); refine box_event ?hg (N := 1) ?hd (cs := #[.int .i64 a0_0, .int .i64 a0_1, .int .i64 a0_2]) (t := 66) ?hr ?_; (case hd => rfl); (case hg => rfl); (case hr => first | (go_simp; done) | (go_simp; rfl)); intro gb923 hg w2 hbox hb; have n0_ := Aside0.mk (below_step (by repeat (first | (with_reducible first | exact HB.out | apply below_alloc | apply pw_below_drewN | apply below_drew1) | exact HB.out)) hb); have n1_ := Aside0.mk (hbox); have n2_ := Aside0.mk ((by rw [hg]; exact (below_size (by repeat (first | (with_reducible first | exact HB.out | apply below_alloc | apply pw_below_drewN | apply below_drew1) | exact HB.out))) : w.heap.size ≤ gb923)); have n3_ := Aside0.mk ((by rw [hg]; exact (below_size (by repeat (first | (with_reducible first | exact HB.out | apply below_alloc | apply pw_below_drewN | apply below_drew1) | exact HB.out))) : w.heap.size ≤ gb923)); clear HB; have HB := n0_; have BK923 := n1_; have GW923 := n2_; have GE923 := n3_; clear n0_ n1_ n2_ n3_; clear hb hbox hg; have hcz3_0 : w2.cell? ⟨gb923, 0, none⟩ = some (.int .i64 a0_0) := (blk_cell BK923.out 0).trans rfl; have hcz3_1 : w2.cell? ⟨gb923, 1, none⟩ = some (.int .i64 a0_1) := (blk_cell BK923.out 1).trans rfl; have hcz3_2 : w2.cell? ⟨gb923, 2, none⟩ = some (.int .i64 a0_2) := (blk_cell BK923.out 2).trans rfl; have hfz3_0 := blk_frozen BK923.out 0; have hfz3_1 := blk_frozen BK923.out 1; have hfz3_2 := blk_frozen BK923.out 2) | ((with_reducible refine gate_dst (N := 11) rfl ?_); refine Kd.R_lit k25 _ 25 ?hg (N := 11) ?hd (xs := ([(⟨a0_0, 0⟩ : S25), (⟨a0_1, a0_2⟩ : S25)] : List (S25))) (inner := [.int .i64 a0_0, .int .i64 0, .int .i64 a0_1, .int .i64 a0_2]) (ok := fun _ => True) (okp := fun _ => True) ?hr ?hp (fun _ hk => hk) trivial (Below.refl _ _) (Nat.le_refl _) (by simp) ?_; (case hd => rfl); (case hg => rfl); (case hr => first | (go_simp; done) | (go_simp; rfl)); (case hp => exact (Reps.c2 (show Kd.M k25 _ _ _ (⟨a0_0, 0⟩ : S25) [.int .i64 a0_0, .int .i64 0] from (k25_mkM _ _ _ (⟨a0_0, 0⟩ : S25) )) (Reps.c2 (show Kd.M k25 _ _ _ (⟨a0_1, a0_2⟩ : S25) [.int .i64 a0_1, .int .i64 a0_2] from (k25_mkM _ _ _ (⟨a0_1, a0_2⟩ : S25) )) (Reps.none _ _)))); intro v925 w4 ho5 hb hg_ hnew_; clear hg_ hnew_; (first | rw [← Ny924.out] at ho5 | (simp only [Int.reduceToNat] at ho5; rw [← Ny924.out] at ho5)); have n0_ := Aside0.mk (Kd.R_lower ho5 (below_size (by repeat (first | (with_reducible first | exact HB.out | apply below_alloc | apply pw_below_drewN | apply below_drew1 | refine below_set ?_ GE923.out) | exact HB.out)))); have n1_ := Aside0.mk (blk_below (g := gb923) (o := .cells #[.int .i64 a0_0, .int .i64 a0_1, .int .i64 a0_2] 66 (0, 0)) (by (with_reducible repeat (first | refine blk_drewN ?_ _ | refine blk_drew ?_ | refine blk_alloc ?_ _)); exact BK923.out) hb); have n2_ := Aside0.mk (below_step (by repeat (first | (with_reducible first | exact HB.out | apply below_alloc | apply pw_below_drewN | apply below_drew1 | refine below_set ?_ GE923.out) | exact HB.out)) hb); clear BK923; clear HB; have HO926 := n0_; have BK923 := n1_; have HB := n2_; clear n0_ n1_ n2_; clear hb ho5))
  go_ret
  exact ⟨_, by first | rfl | (simp [errW_none, errW_some] <;> rfl) | (simp [*, errW_none, errW_some] <;> rfl), by (with_reducible repeat (first | apply Kd.R_alloc | apply Kd.R_drewN | apply Kd.R_drew)); exact HO926.out, by repeat (first | (with_reducible first | exact HB.out | apply below_alloc | apply pw_below_drewN | apply below_drew1 | refine below_set ?_ GE923.out) | exact HB.out)⟩

/-! ### spec_JoinLattices: function 64 -/
def spec_JoinLattices.j0 : Nat → Bool → Int → Int → Int → Int → Int → Int → Option (Int × Int × Int × Int)
  | 0, _, _, _, _, _, _, _ => none
  | k + 1, x13, x928000, x928001, x928002, x929000, x929001, x929002 => if x13 = true then (some (0, 0, 0, 1)) else ((spec_l03Basis.f x928000 x928001 x928002).bind fun t932 => ((spec_l03Basis.f x929000 x929001 x929002).bind fun t935 => (if t932.length + t935.length < 8796093022208 then ((spec_l03Hermite.f k (t932 ++ t935)).bind fun bt941 => (some (bt941.1, bt941.2.1, bt941.2.2, 0))) else (none))))
def spec_JoinLattices.f (k : Nat) (a0_0 : Int) (a0_1 : Int) (a0_2 : Int) (a1_0 : Int) (a1_1 : Int) (a1_2 : Int) : Option (Int × Int × Int × Int) := (spec_IsLattice.f a0_0 a0_1 a0_2).bind fun t930 => (if t930 = true then ((spec_IsLattice.f a1_0 a1_1 a1_2).bind fun t931 => (spec_JoinLattices.j0 k (!t931) a0_0 a0_1 a0_2 a1_0 a1_1 a1_2)) else (spec_JoinLattices.j0 k true a0_0 a0_1 a0_2 a1_0 a1_1 a1_2))
theorem spec_JoinLattices.mono_l : ∀ k, (∀ y0 y1 y2 y3 y4 y5 y6, LeO (spec_JoinLattices.j0 k y0 y1 y2 y3 y4 y5 y6) (spec_JoinLattices.j0 (k + 1) y0 y1 y2 y3 y4 y5 y6))
  | 0 => fun _ _ _ _ _ _ _ r h => by simp [spec_JoinLattices.j0] at h
  | k + 1 => by
    have ih0 := spec_JoinLattices.mono_l k
    · intro y0 y1 y2 y3 y4 y5 y6
      unfold spec_JoinLattices.j0
      repeat' first
      | (with_reducible exact ih0 _ _ _ _ _ _ _)
      | (with_reducible exact spec_l03Hermite.mono _ _)
      | (with_reducible exact LeO.refl _)
      | (with_reducible exact LeO.none _)
      | (with_reducible refine LeO.ite ?_ ?_)
      | (with_reducible refine LeO.bind ?_ (fun _ => ?_))
      | exact ih0 _ _ _ _ _ _ _
      | exact spec_l03Hermite.mono _ _
      | exact LeO.none _
      | refine LeO.ite ?_ ?_
      | refine LeO.bind ?_ (fun _ => ?_)
theorem spec_JoinLattices.mono : ∀ a0 a1 a2 a3 a4 a5 k, LeO (spec_JoinLattices.f k a0 a1 a2 a3 a4 a5) (spec_JoinLattices.f (k + 1) a0 a1 a2 a3 a4 a5) := by
  intro a0 a1 a2 a3 a4 a5 k
  have ih0 := spec_JoinLattices.mono_l k
  unfold spec_JoinLattices.f
  repeat' first
      | (with_reducible exact ih0 _ _ _ _ _ _ _)
      | (with_reducible exact spec_l03Hermite.mono _ _)
      | (with_reducible exact LeO.refl _)
      | (with_reducible exact LeO.none _)
      | (with_reducible refine LeO.ite ?_ ?_)
      | (with_reducible refine LeO.bind ?_ (fun _ => ?_))
      | exact ih0 _ _ _ _ _ _ _
      | exact spec_l03Hermite.mono _ _
      | exact LeO.none _
      | refine LeO.ite ?_ ?_
      | refine LeO.bind ?_ (fun _ => ?_)
def spec_JoinLattices.T3 : Bool × List (List Nat × List Nat) := (true, [([], []), ([0], [0]), ([], []), ([2, 1], [2]), ([1, 3, 3], [1, 3]), ([4, 4], [4]), ([5, 5, 0, 1, 2, 3, 4, 5], [5]), ([6, 0, 1, 2, 3, 4, 5, 6], [])])
def spec_JoinLattices.B3 : List Nat := [0, 1, 0, 7, 15, 31, 63, 127]
theorem spec_JoinLattices.tab3 : rtab .any (opsOf Try.f64 3) = spec_JoinLattices.T3 := by kernel_rfl
theorem spec_JoinLattices.bits3 : waitsOk spec_JoinLattices.T3.2 spec_JoinLattices.B3 = true := by kernel_rfl
set_option maxHeartbeats 8000000 in
set_option maxRecDepth 100000 in
theorem spec_JoinLattices.calls (k : Nat) (a0_0 : Int) (a0_1 : Int) (a0_2 : Int) (a1_0 : Int) (a1_1 : Int) (a1_2 : Int) (r1 : Int) (r2 : Int) (r3 : Int) (r4 : Int) (w : World) (h : spec_JoinLattices.f k a0_0 a0_1 a0_2 a1_0 a1_1 a1_2 = some (r1, r2, r3, r4)) :
    Calls Try.prog 64 #[.agg #[.int .i64 a0_0, .int .i64 a0_1, .int .i64 a0_2], .agg #[.int .i64 a1_0, .int .i64 a1_1, .int .i64 a1_2]] w fun e w' => e = .returned (.tuple #[.agg #[.int .i64 r1, .int .i64 r2, .int .i64 r3], .int .i64 r4]) ∧ Below w.heap.size w w' := by
  have hu66 := Try.underlying66
  have HB := Aside0.mk (Below.refl w.heap.size w)
  have H : ((spec_IsLattice.f a0_0 a0_1 a0_2).bind fun t930 => (if t930 = true then ((spec_IsLattice.f a1_0 a1_1 a1_2).bind fun t931 => (spec_JoinLattices.j0 k (!t931) a0_0 a0_1 a0_2 a1_0 a1_1 a1_2)) else (spec_JoinLattices.j0 k true a0_0 a0_1 a0_2 a1_0 a1_1 a1_2))) = some (r1, r2, r3, r4) := h
  clear h
  have HC3 := Aside0.mk H
  clear H
  go_enter Try.func64, Try.ntmps64
  go_upto_region 1 with (first | ((with_reducible refine gate_dst (N := 2) rfl ?_); refine box_event ?hg (N := 2) ?hd (cs := #[.int .i64 a0_0, .int .i64 a0_1, .int .i64 a0_2]) (t := 66) ?hr ?_; (case hd => rfl); (case hg => rfl); (case hr => first | (go_simp; done) | (go_simp; rfl)); intro gb927 hg w4 hbox hb; have n0_ := Aside0.mk (below_step (by repeat (first | (with_reducible first | exact HB.out | apply below_alloc | apply pw_below_drewN | apply below_drew1) | exact HB.out)) hb); have n1_ := Aside0.mk (hbox); have n2_ := Aside0.mk ((by rw [hg]; exact (below_size (by repeat (first | (with_reducible first | exact HB.out | apply below_alloc | apply pw_below_drewN | apply below_drew1) | exact HB.out))) : w.heap.size ≤ gb927)); have n3_ := Aside0.mk ((by rw [hg]; exact (below_size (by repeat (first | (with_reducible first | exact HB.out | apply below_alloc | apply pw_below_drewN | apply below_drew1) | exact HB.out))) : w.heap.size ≤ gb927)); clear HB; have HB := n0_; have BK927 := n1_; have GW927 := n2_; have GE927 := n3_; clear n0_ n1_ n2_ n3_; clear hb hbox hg) | ((with_reducible refine gate_dst (N := 3) rfl ?_); refine box_event ?hg (N := 3) ?hd (cs := #[.int .i64 a1_0, .int .i64 a1_1, .int .i64 a1_2]) (t := 66) ?hr ?_; (case hd => rfl); (case hg => rfl); (case hr => first | (go_simp; done) | (go_simp; rfl)); intro gb928 hg w5 hbox hb; have n0_ := Aside0.mk (blk_below (g := gb927) (o := .cells #[.int .i64 a0_0, .int .i64 a0_1, .int .i64 a0_2] 66 (0, 0)) (by (with_reducible repeat (first | refine blk_drewN ?_ _ | refine blk_drew ?_ | refine blk_alloc ?_ _)); exact BK927.out) hb); have n1_ := Aside0.mk (below_step (by repeat (first | (with_reducible first | exact HB.out | apply below_alloc | apply pw_below_drewN | apply below_drew1 | refine below_set ?_ GE927.out) | exact HB.out)) hb); have n2_ := Aside0.mk (hbox); have n3_ := Aside0.mk ((by rw [hg]; exact (below_size (by repeat (first | (with_reducible first | exact HB.out | apply below_alloc | apply pw_below_drewN | apply below_drew1 | refine below_set ?_ GE927.out) | exact HB.out))) : w.heap.size ≤ gb928)); have n4_ := Aside0.mk ((by rw [hg]; exact (below_size (by repeat (first | (with_reducible first | exact HB.out | apply below_alloc | apply pw_below_drewN | apply below_drew1 | refine below_set ?_ GE927.out) | exact HB.out))) : w.heap.size ≤ gb928)); have n5_ := Aside0.mk ((by rw [hg]; exact Nat.ne_of_lt (blk_lt (g := gb927) (o := .cells #[.int .i64 a0_0, .int .i64 a0_1, .int .i64 a0_2] 66 (0, 0)) (by (with_reducible repeat (first | refine blk_drewN ?_ _ | refine blk_drew ?_ | refine blk_alloc ?_ _)); exact BK927.out)) : gb927 ≠ gb928)); have n6_ := Aside0.mk ((by rw [hg]; exact Nat.ne_of_gt (blk_lt (g := gb927) (o := .cells #[.int .i64 a0_0, .int .i64 a0_1, .int .i64 a0_2] 66 (0, 0)) (by (with_reducible repeat (first | refine blk_drewN ?_ _ | refine blk_drew ?_ | refine blk_alloc ?_ _)); exact BK927.out)) : gb928 ≠ gb927)); clear BK927; clear HB; have BK927 := n0_; have HB := n1_; have BK928 := n2_; have GW928 := n3_; have GE928 := n4_; have NB927_928 := n5_; have NB928_927 := n6_; clear n0_ n1_ n2_ n3_ n4_ n5_ n6_; clear hb hbox hg) | ((with_reducible refine gate_dst (N := 4) rfl ?_); refine box_event ?hg (N := 4) ?hd (cs := #[.int .i64 0, .int .i64 0, .int .i64 0]) (t := 66) ?hr ?_; (case hd => rfl); (case hg => rfl); (case hr => first | (go_simp; done) | (go_simp; rfl)); intro gb929 hg w6 hbox hb; have n0_ := Aside0.mk (blk_below (g := gb927) (o := .cells #[.int .i64 a0_0, .int .i64 a0_1, .int .i64 a0_2] 66 (0, 0)) (by (with_reducible repeat (first | refine blk_drewN ?_ _ | refine blk_drew ?_ | refine blk_alloc ?_ _)); exact BK927.out) hb); have n1_ := Aside0.mk (blk_below (g := gb928) (o := .cells #[.int .i64 a1_0, .int .i64 a1_1, .int .i64 a1_2] 66 (0, 0)) (by (with_reducible repeat (first | refine blk_drewN ?_ _ | refine blk_drew ?_ | refine blk_alloc ?_ _)); exact BK928.out) hb); have n2_ := Aside0.mk (below_step (by repeat (first | (with_reducible first | exact HB.out | apply below_alloc | apply pw_below_drewN | apply below_drew1 | refine below_set ?_ GE927.out | refine below_set ?_ GE928.out) | exact HB.out)) hb); have n3_ := Aside0.mk (hbox); have n4_ := Aside0.mk ((by rw [hg]; exact (below_size (by repeat (first | (with_reducible first | exact HB.out | apply below_alloc | apply pw_below_drewN | apply below_drew1 | refine below_set ?_ GE927.out | refine below_set ?_ GE928.out) | exact HB.out))) : w.heap.size ≤ gb929)); have n5_ := Aside0.mk ((by rw [hg]; exact (below_size (by repeat (first | (with_reducible first | exact HB.out | apply below_alloc | apply pw_below_drewN | apply below_drew1 | refine below_set ?_ GE927.out | refine below_set ?_ GE928.out) | exact HB.out))) : w.heap.size ≤ gb929)); have n6_ := Aside0.mk ((by rw [hg]; exact Nat.ne_of_lt (blk_lt (g := gb927) (o := .cells #[.int .i64 a0_0, .int .i64 a0_1, .int .i64 a0_2] 66 (0, 0)) (by (with_reducible repeat (first | refine blk_drewN ?_ _ | refine blk_drew ?_ | refine blk_alloc ?_ _)); exact BK927.out)) : gb927 ≠ gb929)); have n7_ := Aside0.mk ((by rw [hg]; exact Nat.ne_of_gt (blk_lt (g := gb927) (o := .cells #[.int .i64 a0_0, .int .i64 a0_1, .int .i64 a0_2] 66 (0, 0)) (by (with_reducible repeat (first | refine blk_drewN ?_ _ | refine blk_drew ?_ | refine blk_alloc ?_ _)); exact BK927.out)) : gb929 ≠ gb927)); have n8_ := Aside0.mk ((by rw [hg]; exact Nat.ne_of_lt (blk_lt (g := gb928) (o := .cells #[.int .i64 a1_0, .int .i64 a1_1, .int .i64 a1_2] 66 (0, 0)) (by (with_reducible repeat (first | refine blk_drewN ?_ _ | refine blk_drew ?_ | refine blk_alloc ?_ _)); exact BK928.out)) : gb928 ≠ gb929)); have n9_ := Aside0.mk ((by rw [hg]; exact Nat.ne_of_gt (blk_lt (g := gb928) (o := .cells #[.int .i64 a1_0, .int .i64 a1_1, .int .i64 a1_2] 66 (0, 0)) (by (with_reducible repeat (first | refine blk_drewN ?_ _ | refine blk_drew ?_ | refine blk_alloc ?_ _)); exact BK928.out)) : gb929 ≠ gb928)); clear BK927; clear BK928; clear HB; have BK927 := n0_; have BK928 := n1_; have HB := n2_; have BK929 := n3_; have GW929 := n4_; have GE929 := n5_; have NB927_929 := n6_; have NB929_927 := n7_; have NB928_929 := n8_; have NB929_928 := n9_; clear n0_ n1_ n2_ n3_ n4_ n5_ n6_ n7_ n8_ n9_; clear hb hbox hg))
  (try simp only [Act.put, List.setIfInBounds_toArray, List.set_cons_zero, List.set_cons_succ])
  go_cut [13] (fun v13 wc => ∃ (kq : Nat) (x13_2 : Bool), v13 = .bool x13_2 ∧ Aside0 (spec_JoinLattices.j0 kq x13_2 a0_0 a0_1 a0_2 a1_0 a1_1 a1_2 = some (r1, r2, r3, r4)) ∧ Aside0 (kq ≤ k) ∧ Aside0 (wc.heap[gb927]? = some (.cells #[.int .i64 a0_0, .int .i64 a0_1, .int .i64 a0_2] 66 (0, 0))) ∧ Aside0 (wc.heap[gb928]? = some (.cells #[.int .i64 a1_0, .int .i64 a1_1, .int .i64 a1_2] 66 (0, 0))) ∧ Aside0 (wc.heap[gb929]? = some (.cells #[.int .i64 0, .int .i64 0, .int .i64 0] 66 (0, 0))) ∧ Aside0 (Below w.heap.size w wc))
  case first =>
    have H := HC3.out
    clear HC3
    replace H := Option.bind_eq_some_iff.mp H
    obtain ⟨t930, A70, H⟩ := H
    replace H : (if t930 = true then ((spec_IsLattice.f a1_0 a1_1 a1_2).bind fun t931 => (spec_JoinLattices.j0 k (!t931) a0_0 a0_1 a0_2 a1_0 a1_1 a1_2)) else (spec_JoinLattices.j0 k true a0_0 a0_1 a0_2 a1_0 a1_1 a1_2)) = some (r1, r2, r3, r4) := H
    have A7 := Aside0.mk A70
    clear A70
    by_cases c8 : t930 = true
    · subst c8
      have H1 : ((spec_IsLattice.f a1_0 a1_1 a1_2).bind fun t931 => (spec_JoinLattices.j0 k (!t931) a0_0 a0_1 a0_2 a1_0 a1_1 a1_2)) = some (r1, r2, r3, r4) := by rw [if_pos rfl] at H; exact H
      clear H
      have H := H1
      clear H1
      replace H := Option.bind_eq_some_iff.mp H
      obtain ⟨t931, A90, H⟩ := H
      replace H : (spec_JoinLattices.j0 k (!t931) a0_0 a0_1 a0_2 a1_0 a1_1 a1_2) = some (r1, r2, r3, r4) := H
      have A9 := Aside0.mk A90
      clear A90
      have H' := Aside0.mk H
      clear H
      have hnb10 := NB927_928.out
      have hnc10 := NB928_927.out
      have hnb11 := NB927_929.out
      have hnc11 := NB929_927.out
      have hcz12_0 : w6.cell? ⟨gb927, 0, none⟩ = some (.int .i64 a0_0) := (blk_cell BK927.out 0).trans rfl
      have hcz12_1 : w6.cell? ⟨gb927, 1, none⟩ = some (.int .i64 a0_1) := (blk_cell BK927.out 1).trans rfl
      have hcz12_2 : w6.cell? ⟨gb927, 2, none⟩ = some (.int .i64 a0_2) := (blk_cell BK927.out 2).trans rfl
      have hfz12_0 := blk_frozen BK927.out 0
      have hfz12_1 := blk_frozen BK927.out 1
      have hfz12_2 := blk_frozen BK927.out 2
      go_wp2_with (first | ((with_reducible refine gate_callee (f := 81) rfl ?_); refine goesL_ (some 7) rfl rfl Try.func81 (by kernel_rfl) rfl #[.agg #[.int .i64 a0_0, .int .i64 a0_1, .int .i64 a0_2]] rfl (by (try simp only [List.map_toArray, List.map_cons, List.map_nil]); first | done | rfl | (simp only [List.length_drop, List.length_take]; rfl)) ?_; (with_reducible refine (spec_IsLattice.calls a0_0 a0_1 a0_2 true _ A7.out).mono ?_); rintro e w13 ⟨rfl, hb⟩; refine ⟨_, rfl, ?_⟩; have n0_ := Aside0.mk (blk_below (g := gb927) (o := .cells #[.int .i64 a0_0, .int .i64 a0_1, .int .i64 a0_2] 66 (0, 0)) (by (with_reducible repeat (first | refine blk_drewN ?_ _ | refine blk_drew ?_ | refine blk_alloc ?_ _)); exact BK927.out) hb); have n1_ := Aside0.mk (blk_below (g := gb928) (o := .cells #[.int .i64 a1_0, .int .i64 a1_1, .int .i64 a1_2] 66 (0, 0)) (by (with_reducible repeat (first | refine blk_drewN ?_ _ | refine blk_drew ?_ | refine blk_alloc ?_ _)); exact BK928.out) hb); have n2_ := Aside0.mk (blk_below (g := gb929) (o := .cells #[.int .i64 0, .int .i64 0, .int .i64 0] 66 (0, 0)) (by (with_reducible repeat (first | refine blk_drewN ?_ _ | refine blk_drew ?_ | refine blk_alloc ?_ _)); exact BK929.out) hb); have n3_ := Aside0.mk (below_step (by repeat (first | (with_reducible first | exact HB.out | apply below_alloc | apply pw_below_drewN | apply below_drew1 | refine below_set ?_ GE927.out | refine below_set ?_ GE928.out | refine below_set ?_ GE929.out) | exact HB.out)) hb); clear BK927; clear BK928; clear BK929; clear HB; have BK927 := n0_; have BK928 := n1_; have BK929 := n2_; have HB := n3_; clear n0_ n1_ n2_ n3_; (try clear hb); (try clear hb2); (try clear hk); (try clear hi); have hnb14 := NB928_929.out; have hnc14 := NB929_928.out; have hcz15_0 : w13.cell? ⟨gb928, 0, none⟩ = some (.int .i64 a1_0) := (blk_cell BK928.out 0).trans rfl; have hcz15_1 : w13.cell? ⟨gb928, 1, none⟩ = some (.int .i64 a1_1) := (blk_cell BK928.out 1).trans rfl; have hcz15_2 : w13.cell? ⟨gb928, 2, none⟩ = some (.int .i64 a1_2) := (blk_cell BK928.out 2).trans rfl; have hfz15_0 := blk_frozen BK928.out 0; have hfz15_1 := blk_frozen BK928.out 1; have hfz15_2 := blk_frozen BK928.out 2) | (go_at_call 81; (with_reducible refine (spec_IsLattice.calls a1_0 a1_1 a1_2 t931 _ A9.out).mono ?_); rintro e w16 ⟨rfl, hb⟩; have n0_ := Aside0.mk (blk_below (g := gb927) (o := .cells #[.int .i64 a0_0, .int .i64 a0_1, .int .i64 a0_2] 66 (0, 0)) (by (with_reducible repeat (first | refine blk_drewN ?_ _ | refine blk_drew ?_ | refine blk_alloc ?_ _)); exact BK927.out) hb); have n1_ := Aside0.mk (blk_below (g := gb928) (o := .cells #[.int .i64 a1_0, .int .i64 a1_1, .int .i64 a1_2] 66 (0, 0)) (by (with_reducible repeat (first | refine blk_drewN ?_ _ | refine blk_drew ?_ | refine blk_alloc ?_ _)); exact BK928.out) hb); have n2_ := Aside0.mk (blk_below (g := gb929) (o := .cells #[.int .i64 0, .int .i64 0, .int .i64 0] 66 (0, 0)) (by (with_reducible repeat (first | refine blk_drewN ?_ _ | refine blk_drew ?_ | refine blk_alloc ?_ _)); exact BK929.out) hb); have n3_ := Aside0.mk (below_step (by repeat (first | (with_reducible first | exact HB.out | apply below_alloc | apply pw_below_drewN | apply below_drew1 | refine below_set ?_ GE927.out | refine below_set ?_ GE928.out | refine below_set ?_ GE929.out) | exact HB.out)) hb); clear BK927; clear BK928; clear BK929; clear HB; have BK927 := n0_; have BK928 := n1_; have BK929 := n2_; have HB := n3_; clear n0_ n1_ n2_ n3_; (try clear hb); (try clear hb2); (try clear hk); (try clear hi)))
      go_meet
      case rel => exact ⟨_, (!t931), (by first | rfl | (simp; done) | (simp [*]; done)), H', ⟨by first | omega | exact Nat.le_refl _⟩, ⟨by (with_reducible repeat (first | refine blk_drewN ?_ _ | refine blk_drew ?_ | refine blk_alloc ?_ _)); exact BK927.out⟩, ⟨by (with_reducible repeat (first | refine blk_drewN ?_ _ | refine blk_drew ?_ | refine blk_alloc ?_ _)); exact BK928.out⟩, ⟨by (with_reducible repeat (first | refine blk_drewN ?_ _ | refine blk_drew ?_ | refine blk_alloc ?_ _)); exact BK929.out⟩, ⟨by repeat (first | (with_reducible first | exact HB.out | apply below_alloc | apply pw_below_drewN | apply below_drew1 | refine below_set ?_ GE927.out | refine below_set ?_ GE928.out | refine below_set ?_ GE929.out) | exact HB.out)⟩⟩
    · replace c8 := Bool.eq_false_iff.mpr c8
      subst c8
      have H1 : (spec_JoinLattices.j0 k true a0_0 a0_1 a0_2 a1_0 a1_1 a1_2) = some (r1, r2, r3, r4) := by rw [if_neg (show ¬ (false = true) by decide)] at H; exact H
      clear H
      have H := H1
      clear H1
      have H' := Aside0.mk H
      clear H
      have hnb17 := NB927_928.out
      have hnc17 := NB928_927.out
      have hnb18 := NB927_929.out
      have hnc18 := NB929_927.out
      have hcz19_0 : w6.cell? ⟨gb927, 0, none⟩ = some (.int .i64 a0_0) := (blk_cell BK927.out 0).trans rfl
      have hcz19_1 : w6.cell? ⟨gb927, 1, none⟩ = some (.int .i64 a0_1) := (blk_cell BK927.out 1).trans rfl
      have hcz19_2 : w6.cell? ⟨gb927, 2, none⟩ = some (.int .i64 a0_2) := (blk_cell BK927.out 2).trans rfl
      have hfz19_0 := blk_frozen BK927.out 0
      have hfz19_1 := blk_frozen BK927.out 1
      have hfz19_2 := blk_frozen BK927.out 2
      go_wp2_with (first | ((with_reducible refine gate_callee (f := 81) rfl ?_); refine goesL_ (some 7) rfl rfl Try.func81 (by kernel_rfl) rfl #[.agg #[.int .i64 a0_0, .int .i64 a0_1, .int .i64 a0_2]] rfl (by (try simp only [List.map_toArray, List.map_cons, List.map_nil]); first | done | rfl | (simp only [List.length_drop, List.length_take]; rfl)) ?_; (with_reducible refine (spec_IsLattice.calls a0_0 a0_1 a0_2 false _ A7.out).mono ?_); rintro e w20 ⟨rfl, hb⟩; refine ⟨_, rfl, ?_⟩; have n0_ := Aside0.mk (blk_below (g := gb927) (o := .cells #[.int .i64 a0_0, .int .i64 a0_1, .int .i64 a0_2] 66 (0, 0)) (by (with_reducible repeat (first | refine blk_drewN ?_ _ | refine blk_drew ?_ | refine blk_alloc ?_ _)); exact BK927.out) hb); have n1_ := Aside0.mk (blk_below (g := gb928) (o := .cells #[.int .i64 a1_0, .int .i64 a1_1, .int .i64 a1_2] 66 (0, 0)) (by (with_reducible repeat (first | refine blk_drewN ?_ _ | refine blk_drew ?_ | refine blk_alloc ?_ _)); exact BK928.out) hb); have n2_ := Aside0.mk (blk_below (g := gb929) (o := .cells #[.int .i64 0, .int .i64 0, .int .i64 0] 66 (0, 0)) (by (with_reducible repeat (first | refine blk_drewN ?_ _ | refine blk_drew ?_ | refine blk_alloc ?_ _)); exact BK929.out) hb); have n3_ := Aside0.mk (below_step (by repeat (first | (with_reducible first | exact HB.out | apply below_alloc | apply pw_below_drewN | apply below_drew1 | refine below_set ?_ GE927.out | refine below_set ?_ GE928.out | refine below_set ?_ GE929.out) | exact HB.out)) hb); clear BK927; clear BK928; clear BK929; clear HB; have BK927 := n0_; have BK928 := n1_; have BK929 := n2_; have HB := n3_; clear n0_ n1_ n2_ n3_; (try clear hb); (try clear hb2); (try clear hk); (try clear hi)))
      go_meet
      case rel => exact ⟨_, (true), (by first | rfl | (simp; done) | (simp [*]; done)), H', ⟨by first | omega | exact Nat.le_refl _⟩, ⟨by (with_reducible repeat (first | refine blk_drewN ?_ _ | refine blk_drew ?_ | refine blk_alloc ?_ _)); exact BK927.out⟩, ⟨by (with_reducible repeat (first | refine blk_drewN ?_ _ | refine blk_drew ?_ | refine blk_alloc ?_ _)); exact BK928.out⟩, ⟨by (with_reducible repeat (first | refine blk_drewN ?_ _ | refine blk_drew ?_ | refine blk_alloc ?_ _)); exact BK929.out⟩, ⟨by repeat (first | (with_reducible first | exact HB.out | apply below_alloc | apply pw_below_drewN | apply below_drew1 | refine below_set ?_ GE927.out | refine below_set ?_ GE928.out | refine below_set ?_ GE929.out) | exact HB.out)⟩⟩
  case rest =>
    clear HC3
    try clear c1
    try clear p2
    try clear c6
    try clear c8
    try clear c10
    try clear c11
    try clear c14
    try clear c17
    try clear c18
    try clear hcz12_0
    try clear hcz12_1
    try clear hcz12_2
    try clear hcz15_0
    try clear hcz15_1
    try clear hcz15_2
    try clear hcz19_0
    try clear hcz19_1
    try clear hcz19_2
    try clear hfz12_0
    try clear hfz12_1
    try clear hfz12_2
    try clear hfz15_0
    try clear hfz15_1
    try clear hfz15_2
    try clear hfz19_0
    try clear hfz19_1
    try clear hfz19_2
    obtain ⟨kq, x13_2, rfl, HA, HJ2, BK927, BK928, BK929, HB⟩ := hcut
    cases kq with
    | zero => exact absurd HA.out (by simp [spec_JoinLattices.j0])
    | succ kj2 =>
      have H := HA.out
      clear HA
      simp only [spec_JoinLattices.j0] at H
      by_cases c21 : x13_2 = true
      · subst c21
        have H1 : (some (0, 0, 0, 1)) = some (r1, r2, r3, r4) := by rw [if_pos rfl] at H; exact H
        clear H
        have H := H1
        clear H1
        simp only [Option.some.injEq, Prod.mk.injEq] at H
        obtain ⟨rfl, rfl, rfl, rfl⟩ := H
        have hnb22 := NB929_927.out
        have hnc22 := NB927_929.out
        have hnb23 := NB929_928.out
        have hnc23 := NB928_929.out
        have hcz24_0 : wc.cell? ⟨gb929, 0, none⟩ = some (.int .i64 0) := (blk_cell BK929.out 0).trans rfl
        have hcz24_1 : wc.cell? ⟨gb929, 1, none⟩ = some (.int .i64 0) := (blk_cell BK929.out 1).trans rfl
        have hcz24_2 : wc.cell? ⟨gb929, 2, none⟩ = some (.int .i64 0) := (blk_cell BK929.out 2).trans rfl
        have hfz24_0 := blk_frozen BK929.out 0
        have hfz24_1 := blk_frozen BK929.out 1
        have hfz24_2 := blk_frozen BK929.out 2
        go_wp2
        refine bodyPost_ret (results_ct rfl _ _ gb929 66 #[.int .i64 0, .int .i64 0, .int .i64 0] (0, 0) _ rfl (by (with_reducible repeat (first | refine blk_drewN ?_ _ | refine blk_drew ?_ | refine blk_alloc ?_ _)); refine blk_put (cs := #[.int .i64 0, .int .i64 0, .int .i64 0]) ?_ 2 _ rfl; (with_reducible repeat (first | refine blk_drewN ?_ _ | refine blk_drew ?_ | refine blk_alloc ?_ _)); refine blk_put (cs := #[.int .i64 0, .int .i64 0, .int .i64 0]) ?_ 1 _ rfl; (with_reducible repeat (first | refine blk_drewN ?_ _ | refine blk_drew ?_ | refine blk_alloc ?_ _)); refine blk_put (cs := #[.int .i64 0, .int .i64 0, .int .i64 0]) ?_ 0 _ rfl; (with_reducible repeat (first | refine blk_drewN ?_ _ | refine blk_drew ?_ | refine blk_alloc ?_ _)); exact BK929.out) Try.underlying66 rfl (by kernel_rfl)) rfl ?_
        exact ⟨by first | rfl | (simp [errW_none, errW_some] <;> rfl) | (simp [*, errW_none, errW_some] <;> rfl), by repeat (first | (with_reducible first | exact HB.out | apply below_alloc | apply pw_below_drewN | apply below_drew1 | refine below_set ?_ GE927.out | refine below_set ?_ GE928.out | refine below_set ?_ GE929.out) | exact HB.out)⟩
      · replace c21 := Bool.eq_false_iff.mpr c21
        subst c21
        have H1 : ((spec_l03Basis.f a0_0 a0_1 a0_2).bind fun t932 => ((spec_l03Basis.f a1_0 a1_1 a1_2).bind fun t935 => (if t932.length + t935.length < 8796093022208 then ((spec_l03Hermite.f kj2 (t932 ++ t935)).bind fun bt941 => (some (bt941.1, bt941.2.1, bt941.2.2, 0))) else (none)))) = some (r1, r2, r3, r4) := by rw [if_neg (show ¬ (false = true) by decide)] at H; exact H
        clear H
        have H := H1
        clear H1
        replace H := Option.bind_eq_some_iff.mp H
        obtain ⟨t932, A250, H⟩ := H
        replace H : ((spec_l03Basis.f a1_0 a1_1 a1_2).bind fun t935 => (if t932.length + t935.length < 8796093022208 then ((spec_l03Hermite.f kj2 (t932 ++ t935)).bind fun bt941 => (some (bt941.1, bt941.2.1, bt941.2.2, 0))) else (none))) = some (r1, r2, r3, r4) := H
        have A25 := Aside0.mk A250
        clear A250
        replace H := Option.bind_eq_some_iff.mp H
        obtain ⟨t935, A260, H⟩ := H
        replace H : (if t932.length + t935.length < 8796093022208 then ((spec_l03Hermite.f kj2 (t932 ++ t935)).bind fun bt941 => (some (bt941.1, bt941.2.1, bt941.2.2, 0))) else (none)) = some (r1, r2, r3, r4) := H
        have A26 := Aside0.mk A260
        clear A260
        by_cases c27 : t932.length + t935.length < 8796093022208
        · rw [if_pos c27] at H
          have LMc27 := Aside0.mk c27
          clear c27
          obtain ⟨y938, hy938⟩ : ∃ y_ : List (S25), y_ = (t932 ++ t935) := ⟨_, rfl⟩
          replace H : ((spec_l03Hermite.f kj2 y938).bind fun bt941 => (some (bt941.1, bt941.2.1, bt941.2.2, 0))) = some (r1, r2, r3, r4) := by first | (rw [hy938]; with_reducible exact H) | (have H2_ := (Option.bind_some _ _).symm.trans H; rw [hy938]; with_reducible exact H2_) | (have H2_ := (Option.bind_some _ _).symm.trans H; with_reducible exact H2_) | with_reducible exact H | (rw [hy938]; exact H) | exact H
          have Ny938 := Aside0.mk hy938
          clear hy938
          replace H := Option.bind_eq_some_iff.mp H
          obtain ⟨⟨t941, t942, t943⟩, A280, H⟩ := H
          replace H : (some (t941, t942, t943, 0)) = some (r1, r2, r3, r4) := H
          have A28 := Aside0.mk A280
          clear A280
          simp only [Option.some.injEq, Prod.mk.injEq] at H
          obtain ⟨rfl, rfl, rfl, rfl⟩ := H
          try go_wp2
          have n0_ := Aside0.mk (blk_drew BK927.out)
          have n1_ := Aside0.mk (blk_drew BK928.out)
          have n2_ := Aside0.mk (blk_drew BK929.out)
          have n3_ := Aside0.mk (below_drew1 HB.out)
          clear BK927
          clear BK928
          clear BK929
          clear HB
          have BK927 := n0_
          have BK928 := n1_
          have BK929 := n2_
          have HB := n3_
          clear n0_ n1_ n2_ n3_
          refine start_ (n := 8) (S := fun w' => w'.cell? ⟨gb927, 0, none⟩ = some (.int .i64 a0_0) ∧ w'.cell? ⟨gb927, 1, none⟩ = some (.int .i64 a0_1) ∧ w'.cell? ⟨gb927, 2, none⟩ = some (.int .i64 a0_2) ∧ w'.cell? ⟨gb928, 0, none⟩ = some (.int .i64 a1_0) ∧ w'.cell? ⟨gb928, 1, none⟩ = some (.int .i64 a1_1) ∧ w'.cell? ⟨gb928, 2, none⟩ = some (.int .i64 a1_2)) (ds := []) #[false, false, false, false, false, false, false, false] (by kernel_rfl) rfl rfl ⟨(blk_cell BK927.out 0).trans rfl, (blk_cell BK927.out 1).trans rfl, (blk_cell BK927.out 2).trans rfl, (blk_cell BK928.out 0).trans rfl, (blk_cell BK928.out 1).trans rfl, (blk_cell BK928.out 2).trans rfl⟩ (fun hHeld => ?_); refine with_tabW spec_JoinLattices.tab3 spec_JoinLattices.bits3 (fun HT_ HW_ => ?_)
          generalize wc.drew = w29 at BK927 BK928 BK929 HB hHeld ⊢
          refine take_ (i := 0) (N := some 15) (v := ?_) (a' := ?_) #[true, false, false, false, false, false, false, false] rfl rfl (take_ofW HT_.out HW_.out (by kernel_rfl)) (fun _ _ _ h => h) (Or.inl ⟨by rfl, ?_⟩) hHeld ?_ ?_
          rotate_left
          · rintro w' ⟨s0, s1, s2, s3, s4, s5⟩
            go_simp
            with_reducible rfl
          rotate_left
          · simp only [Act.put, List.setIfInBounds_toArray, List.set_cons_zero, List.set_cons_succ, i64_w, i32_w]
            rfl
          refine take_ (i := 2) (N := some 17) (v := ?_) (a' := ?_) #[true, false, true, false, false, false, false, false] rfl rfl (take_ofW HT_.out HW_.out (by kernel_rfl)) (fun _ _ _ h => h) (Or.inl ⟨by rfl, ?_⟩) hHeld ?_ ?_
          rotate_left
          · rintro w' ⟨s0, s1, s2, s3, s4, s5⟩
            go_simp
            with_reducible rfl
          rotate_left
          · simp only [Act.put, List.setIfInBounds_toArray, List.set_cons_zero, List.set_cons_succ, i64_w, i32_w]
            rfl
          refine one_ (i := 1) (N := some 16) #[true, true, true, false, false, false, false, false] rfl rfl (one_of HT_.out (by kernel_rfl)) (by decide) (fun K hK => ?_)
          refine goes_ Try.func169 (by kernel_rfl) rfl #[.agg #[.int .i64 a0_0, .int .i64 a0_1, .int .i64 a0_2]] (by rfl) rfl rfl (by (try simp only [List.map_toArray, List.map_cons, List.map_nil]); first | done | rfl | (simp only [List.length_drop, List.length_take]; rfl)) ?_
          with_reducible refine (spec_l03Basis.calls a0_0 a0_1 a0_2 t932 _ A25.out).mono ?_
          rintro e w30 ⟨v933, rfl, ho0, hb⟩
          refine ⟨_, rfl, ?_⟩
          have n0_ := Aside0.mk (Kd.R_lower ho0 (below_size (by repeat (first | (with_reducible first | exact HB.out | apply below_alloc | apply pw_below_drewN | apply below_drew1 | refine below_set ?_ GE927.out | refine below_set ?_ GE928.out | refine below_set ?_ GE929.out) | exact HB.out))))
          have n1_ := Aside0.mk (blk_below (g := gb927) (o := .cells #[.int .i64 a0_0, .int .i64 a0_1, .int .i64 a0_2] 66 (0, 0)) (by (with_reducible repeat (first | refine blk_drewN ?_ _ | refine blk_drew ?_ | refine blk_alloc ?_ _)); exact BK927.out) hb)
          have n2_ := Aside0.mk (blk_below (g := gb928) (o := .cells #[.int .i64 a1_0, .int .i64 a1_1, .int .i64 a1_2] 66 (0, 0)) (by (with_reducible repeat (first | refine blk_drewN ?_ _ | refine blk_drew ?_ | refine blk_alloc ?_ _)); exact BK928.out) hb)
          have n3_ := Aside0.mk (blk_below (g := gb929) (o := .cells #[.int .i64 0, .int .i64 0, .int .i64 0] 66 (0, 0)) (by (with_reducible repeat (first | refine blk_drewN ?_ _ | refine blk_drew ?_ | refine blk_alloc ?_ _)); exact BK929.out) hb)
          have n4_ := Aside0.mk (below_step (by repeat (first | (with_reducible first | exact HB.out | apply below_alloc | apply pw_below_drewN | apply below_drew1 | refine below_set ?_ GE927.out | refine below_set ?_ GE928.out | refine below_set ?_ GE929.out) | exact HB.out)) hb)
          clear BK927
          clear BK928
          clear BK929
          clear HB
          have HO934 := n0_
          have BK927 := n1_
          have BK928 := n2_
          have BK929 := n3_
          have HB := n4_
          clear n0_ n1_ n2_ n3_ n4_
          (try clear hb)
          (try clear hb2)
          (try clear hk)
          (try clear hi)
          (try clear ho0)
          refine hK.out _ _ ⟨(blk_cell BK927.out 0).trans rfl, (blk_cell BK927.out 1).trans rfl, (blk_cell BK927.out 2).trans rfl, (blk_cell BK928.out 0).trans rfl, (blk_cell BK928.out 1).trans rfl, (blk_cell BK928.out 2).trans rfl⟩ (fun hHeld => ?_)
          clear hK K
          refine norm_ (a' := ?_) ?_ ?_
          rotate_left
          · show Act.put _ (some 16) _ = _
            simp only [Act.put, List.setIfInBounds_toArray, List.set_cons_zero, List.set_cons_succ, i64_w, i32_w]
            rfl
          refine one_ (i := 3) (N := some 18) #[true, true, true, true, false, false, false, false] rfl rfl (one_of HT_.out (by kernel_rfl)) (by decide) (fun K hK => ?_)
          refine goes_ Try.func169 (by kernel_rfl) rfl #[.agg #[.int .i64 a1_0, .int .i64 a1_1, .int .i64 a1_2]] (by rfl) rfl rfl (by (try simp only [List.map_toArray, List.map_cons, List.map_nil]); first | done | rfl | (simp only [List.length_drop, List.length_take]; rfl)) ?_
          with_reducible refine (spec_l03Basis.calls a1_0 a1_1 a1_2 t935 _ A26.out).mono ?_
          rintro e w31 ⟨v936, rfl, ho0, hb⟩
          refine ⟨_, rfl, ?_⟩
          have n0_ := Aside0.mk (Kd.R_elder' (by (with_reducible repeat (first | apply Kd.R_alloc | apply Kd.R_drewN | apply Kd.R_drew)); exact HO934.out) (Kd.R_base ho0) hb)
          have n1_ := Aside0.mk (Kd.R_lower (Kd.R_new' ho0 (Kd.R_lt (by (with_reducible repeat (first | apply Kd.R_alloc | apply Kd.R_drewN | apply Kd.R_drew)); exact HO934.out))) (below_size (by repeat (first | (with_reducible first | exact HB.out | apply below_alloc | apply pw_below_drewN | apply below_drew1 | refine below_set ?_ GE927.out | refine below_set ?_ GE928.out | refine below_set ?_ GE929.out) | exact HB.out))))
          have n2_ := Aside0.mk (blk_below (g := gb927) (o := .cells #[.int .i64 a0_0, .int .i64 a0_1, .int .i64 a0_2] 66 (0, 0)) (by (with_reducible repeat (first | refine blk_drewN ?_ _ | refine blk_drew ?_ | refine blk_alloc ?_ _)); exact BK927.out) hb)
          have n3_ := Aside0.mk (blk_below (g := gb928) (o := .cells #[.int .i64 a1_0, .int .i64 a1_1, .int .i64 a1_2] 66 (0, 0)) (by (with_reducible repeat (first | refine blk_drewN ?_ _ | refine blk_drew ?_ | refine blk_alloc ?_ _)); exact BK928.out) hb)
          have n4_ := Aside0.mk (blk_below (g := gb929) (o := .cells #[.int .i64 0, .int .i64 0, .int .i64 0] 66 (0, 0)) (by (with_reducible repeat (first | refine blk_drewN ?_ _ | refine blk_drew ?_ | refine blk_alloc ?_ _)); exact BK929.out) hb)
          have n5_ := Aside0.mk (below_step (by repeat (first | (with_reducible first | exact HB.out | apply below_alloc | apply pw_below_drewN | apply below_drew1 | refine below_set ?_ GE927.out | refine below_set ?_ GE928.out | refine below_set ?_ GE929.out) | exact HB.out)) hb)
          clear HO934
          clear BK927
          clear BK928
          clear BK929
          clear HB
          have HO934 := n0_
          have HO937 := n1_
          have BK927 := n2_
          have BK928 := n3_
          have BK929 := n4_
          have HB := n5_
          clear n0_ n1_ n2_ n3_ n4_ n5_
          (try clear hb)
          (try clear hb2)
          (try clear hk)
          (try clear hi)
          (try clear ho0)
          obtain ⟨Ao33, co33, eo33⟩ := Kd.R_slice HO937.out
          (first | subst eo33 | (injection eo33 with f1_ f2_ f3_; have f4_ := f1_.symm; have f5_ := f3_.symm; clear f1_ f2_ f3_; subst f4_; subst f5_))
          refine hK.out _ _ ⟨(blk_cell BK927.out 0).trans rfl, (blk_cell BK927.out 1).trans rfl, (blk_cell BK927.out 2).trans rfl, (blk_cell BK928.out 0).trans rfl, (blk_cell BK928.out 1).trans rfl, (blk_cell BK928.out 2).trans rfl⟩ (fun hHeld => ?_)
          clear hK K
          refine norm_ (a' := ?_) ?_ ?_
          rotate_left
          · show Act.put _ (some 18) _ = _
            simp only [Act.put, List.setIfInBounds_toArray, List.set_cons_zero, List.set_cons_succ, i64_w, i32_w]
            rfl
          refine one_ (i := 4) (N := some 19) #[true, true, true, true, true, false, false, false] rfl rfl (one_of HT_.out (by kernel_rfl)) (by decide) (fun K hK => ?_)
          refine Kd.R_append_rows_step k25 (w0 := w) w.heap.size (by rfl) (.tmp 16) (.tmp 18) 40 25 (.agg #[(.int .i64 0), (.int .i64 0)]) 16 rfl Try.underlying40 info25 rfl (by decide) (by omega) v933 t932 t935 _ _ _ (fun k_ => some k_ ≠ (.slice Ao33 t935.length co33 : Value).ownBlock) (fun _ => False) rfl rfl ?aO ?aR (fun _ _ h => h) (fun _ h => h.elim) ?aF ?aB ?aS ?aL ?_
          (case aR => repeat (first | exact (Kd.R_reads' HO937.out).2.2 | (with_reducible refine Kd.C_alloc ?_ _) | (with_reducible refine Kd.C_drewN ?_ _) | (with_reducible refine Kd.C_drew ?_)))
          (case aB => exact (by repeat (first | (with_reducible first | exact HB.out | apply below_alloc | apply pw_below_drewN | apply below_drew1 | refine below_set ?_ GE927.out | refine below_set ?_ GE928.out | refine below_set ?_ GE929.out) | exact HB.out)))
          (case aF => exact (fun k_ hk => Kd.fresh' (Kd.R_lt (by (with_reducible repeat (first | apply Kd.R_alloc | apply Kd.R_drewN | apply Kd.R_drew)); exact HO937.out)) k_ hk))
          (case aO => exact (by (with_reducible repeat (first | apply Kd.R_alloc | apply Kd.R_drewN | apply Kd.R_drew)); exact Kd.R_mono HO934.out (fun _ hk => hk.2)))
          (case aS => exact (below_size (by repeat (first | (with_reducible first | exact HB.out | apply below_alloc | apply pw_below_drewN | apply below_drew1 | refine below_set ?_ GE927.out | refine below_set ?_ GE928.out | refine below_set ?_ GE929.out) | exact HB.out))))
          (case aL => have := LMc27.out; omega)
          intro v939 w32 ho hb hg hat
          rw [← Ny938.out] at ho
          have n0_ := Aside0.mk (blk_grown (g := gb927) (o := .cells #[.int .i64 a0_0, .int .i64 a0_1, .int .i64 a0_2] 66 (0, 0)) (by (with_reducible repeat (first | refine blk_drewN ?_ _ | refine blk_drew ?_ | refine blk_alloc ?_ _)); exact BK927.out) hg (Kd.R_ne HO934.out BK927.out (by decide)))
          have n1_ := Aside0.mk (blk_grown (g := gb928) (o := .cells #[.int .i64 a1_0, .int .i64 a1_1, .int .i64 a1_2] 66 (0, 0)) (by (with_reducible repeat (first | refine blk_drewN ?_ _ | refine blk_drew ?_ | refine blk_alloc ?_ _)); exact BK928.out) hg (Kd.R_ne HO934.out BK928.out (by decide)))
          have n2_ := Aside0.mk (blk_grown (g := gb929) (o := .cells #[.int .i64 0, .int .i64 0, .int .i64 0] 66 (0, 0)) (by (with_reducible repeat (first | refine blk_drewN ?_ _ | refine blk_drew ?_ | refine blk_alloc ?_ _)); exact BK929.out) hg (Kd.R_ne HO934.out BK929.out (by decide)))
          have n3_ := Aside0.mk (Kd.R_after (ok := (fun _ => True)) (by (with_reducible repeat (first | apply Kd.R_alloc | apply Kd.R_drewN | apply Kd.R_drew)); exact HO937.out) hg hat)
          have n4_ := Aside0.mk (hb)
          have n5_ := Aside0.mk (ho)
          clear BK927
          clear BK928
          clear BK929
          clear HO937
          clear HB
          clear HO934
          have BK927 := n0_
          have BK928 := n1_
          have BK929 := n2_
          have HO937 := n3_
          have HB := n4_
          have HO940 := n5_
          clear n0_ n1_ n2_ n3_ n4_ n5_
          clear ho hb hg hat
          obtain ⟨Ao34, co34, eo34⟩ := Kd.R_slice HO940.out
          (first | subst eo34 | (injection eo34 with f1_ f2_ f3_; have f4_ := f1_.symm; have f5_ := f3_.symm; clear f1_ f2_ f3_; subst f4_; subst f5_))
          refine hK.out _ _ ⟨(blk_cell BK927.out 0).trans rfl, (blk_cell BK927.out 1).trans rfl, (blk_cell BK927.out 2).trans rfl, (blk_cell BK928.out 0).trans rfl, (blk_cell BK928.out 1).trans rfl, (blk_cell BK928.out 2).trans rfl⟩ (fun hHeld => ?_)
          clear hK K
          refine norm_ (a' := ?_) ?_ ?_
          rotate_left
          · show Act.put _ (some 19) _ = _
            simp only [Act.put, List.setIfInBounds_toArray, List.set_cons_zero, List.set_cons_succ, i64_w, i32_w]
            rfl
          refine one_ (i := 5) (N := some 20) #[true, true, true, true, true, true, false, false] rfl rfl (one_of HT_.out (by kernel_rfl)) (by decide) (fun K hK => ?_)
          refine goes_ Try.func168 (by kernel_rfl) rfl #[.slice Ao34 y938.length co34] (by rfl) rfl rfl (by (try simp only [List.map_toArray, List.map_cons, List.map_nil]); first | done | rfl | (simp only [List.length_drop, List.length_take]; rfl)) ?_
          with_reducible refine (spec_l03Hermite.calls kj2 _ _ y938 t941 t942 t943 _ ?side1 ?side2 A28.out).mono ?_
          (case side1 => repeat (first | exact (Kd.R_reads' HO940.out).2.2 | (with_reducible refine Kd.C_alloc ?_ _) | (with_reducible refine Kd.C_drewN ?_ _) | (with_reducible refine Kd.C_drew ?_)))
          (case side2 => exact (Kd.R_reads' HO940.out).2.1)
          rintro e w35 ⟨rfl, hb⟩
          refine ⟨_, rfl, ?_⟩
          have n0_ := Aside0.mk (Kd.R_below (by (with_reducible repeat (first | apply Kd.R_alloc | apply Kd.R_drewN | apply Kd.R_drew)); exact HO937.out) hb)
          have n1_ := Aside0.mk (Kd.R_below (by (with_reducible repeat (first | apply Kd.R_alloc | apply Kd.R_drewN | apply Kd.R_drew)); exact HO940.out) hb)
          have n2_ := Aside0.mk (blk_below (g := gb927) (o := .cells #[.int .i64 a0_0, .int .i64 a0_1, .int .i64 a0_2] 66 (0, 0)) (by (with_reducible repeat (first | refine blk_drewN ?_ _ | refine blk_drew ?_ | refine blk_alloc ?_ _)); exact BK927.out) hb)
          have n3_ := Aside0.mk (blk_below (g := gb928) (o := .cells #[.int .i64 a1_0, .int .i64 a1_1, .int .i64 a1_2] 66 (0, 0)) (by (with_reducible repeat (first | refine blk_drewN ?_ _ | refine blk_drew ?_ | refine blk_alloc ?_ _)); exact BK928.out) hb)
          have n4_ := Aside0.mk (blk_below (g := gb929) (o := .cells #[.int .i64 0, .int .i64 0, .int .i64 0] 66 (0, 0)) (by (with_reducible repeat (first | refine blk_drewN ?_ _ | refine blk_drew ?_ | refine blk_alloc ?_ _)); exact BK929.out) hb)
          have n5_ := Aside0.mk (below_step (by repeat (first | (with_reducible first | exact HB.out | apply below_alloc | apply pw_below_drewN | apply below_drew1 | refine below_set ?_ GE927.out | refine below_set ?_ GE928.out | refine below_set ?_ GE929.out) | exact HB.out)) hb)
          clear HO937
          clear HO940
          clear BK927
          clear BK928
          clear BK929
          clear HB
          have HO937 := n0_
          have HO940 := n1_
          have BK927 := n2_
          have BK928 := n3_
          have BK929 := n4_
          have HB := n5_
          clear n0_ n1_ n2_ n3_ n4_ n5_
          (try clear hb)
          (try clear hb2)
          (try clear hk)
          (try clear hi)
          refine hK.out _ _ ⟨(blk_cell BK927.out 0).trans rfl, (blk_cell BK927.out 1).trans rfl, (blk_cell BK927.out 2).trans rfl, (blk_cell BK928.out 0).trans rfl, (blk_cell BK928.out 1).trans rfl, (blk_cell BK928.out 2).trans rfl⟩ (fun hHeld => ?_)
          clear hK K
          refine norm_ (a' := ?_) ?_ ?_
          rotate_left
          · show Act.put _ (some 20) _ = _
            simp only [Act.put, List.setIfInBounds_toArray, List.set_cons_zero, List.set_cons_succ, i64_w, i32_w]
            rfl
          refine one_ (i := 6) (N := none) #[true, true, true, true, true, true, true, false] rfl rfl (one_of HT_.out (by kernel_rfl)) (by decide) (fun K hK => ?_)
          have hs36 : w35.cell? ⟨gb929, 0, none⟩ = some (.int .i64 0) := (blk_cell BK929.out 0).trans rfl
          have hfs36 := blk_frozen BK929.out 0
          have hns36_0 := NB927_929.out
          have hns36_1 := NB928_929.out
          have hms36_0 := NB929_927.out
          have hms36_1 := NB929_928.out
          have hs37 : w35.cell? ⟨gb929, 1, none⟩ = some (.int .i64 0) := (blk_cell BK929.out 1).trans rfl
          have hfs37 := blk_frozen BK929.out 1
          have hns37_0 := NB927_929.out
          have hns37_1 := NB928_929.out
          have hms37_0 := NB929_927.out
          have hms37_1 := NB929_928.out
          have hs38 : w35.cell? ⟨gb929, 2, none⟩ = some (.int .i64 0) := (blk_cell BK929.out 2).trans rfl
          have hfs38 := blk_frozen BK929.out 2
          have hns38_0 := NB927_929.out
          have hns38_1 := NB928_929.out
          have hms38_0 := NB929_927.out
          have hms38_1 := NB929_928.out
          refine skip_ (w1 := ?_) (by rfl) rfl ?_ ?_
          rotate_left
          · go_simp
            rfl
          refine hK.out _ _ ⟨((cell_far (p := ⟨gb929, _, none⟩) NB927_929.out _).trans (((cell_far (p := ⟨gb929, _, none⟩) NB927_929.out _).trans (((cell_far (p := ⟨gb929, _, none⟩) NB927_929.out _).trans (hHeld.1)))))), ((cell_far (p := ⟨gb929, _, none⟩) NB927_929.out _).trans (((cell_far (p := ⟨gb929, _, none⟩) NB927_929.out _).trans (((cell_far (p := ⟨gb929, _, none⟩) NB927_929.out _).trans (hHeld.2.1)))))), ((cell_far (p := ⟨gb929, _, none⟩) NB927_929.out _).trans (((cell_far (p := ⟨gb929, _, none⟩) NB927_929.out _).trans (((cell_far (p := ⟨gb929, _, none⟩) NB927_929.out _).trans (hHeld.2.2.1)))))), ((cell_far (p := ⟨gb929, _, none⟩) NB928_929.out _).trans (((cell_far (p := ⟨gb929, _, none⟩) NB928_929.out _).trans (((cell_far (p := ⟨gb929, _, none⟩) NB928_929.out _).trans (hHeld.2.2.2.1)))))), ((cell_far (p := ⟨gb929, _, none⟩) NB928_929.out _).trans (((cell_far (p := ⟨gb929, _, none⟩) NB928_929.out _).trans (((cell_far (p := ⟨gb929, _, none⟩) NB928_929.out _).trans (hHeld.2.2.2.2.1)))))), ((cell_far (p := ⟨gb929, _, none⟩) NB928_929.out _).trans (((cell_far (p := ⟨gb929, _, none⟩) NB928_929.out _).trans (((cell_far (p := ⟨gb929, _, none⟩) NB928_929.out _).trans (hHeld.2.2.2.2.2))))))⟩ (fun hHeld => ?_)
          clear hK K
          refine pure_ (i := 7) (N := some 5) (v := ?_) (a' := ?_) #[true, true, true, true, true, true, true, true] rfl rfl (any_of HT_.out (by kernel_rfl)) (fun _ _ _ h => h) (Or.inl ⟨by rfl, ?_⟩) ?_ ?_
          rotate_left
          · intro w'
            go_simp
            with_reducible rfl
          rotate_left
          · simp only [Act.put, List.setIfInBounds_toArray, List.set_cons_zero, List.set_cons_succ, i64_w, i32_w]
            rfl
          refine done_ (done_of HT_.out (by kernel_rfl)) ?_
          try go_wp2
          refine bodyPost_ret (results_ct rfl _ _ gb929 66 #[.int .i64 t941, .int .i64 t942, .int .i64 t943] (0, 0) _ rfl (by (with_reducible repeat (first | refine blk_drewN ?_ _ | refine blk_drew ?_ | refine blk_alloc ?_ _)); refine blk_put (cs := #[.int .i64 t941, .int .i64 t942, .int .i64 0]) ?_ 2 _ rfl; (with_reducible repeat (first | refine blk_drewN ?_ _ | refine blk_drew ?_ | refine blk_alloc ?_ _)); refine blk_put (cs := #[.int .i64 t941, .int .i64 0, .int .i64 0]) ?_ 1 _ rfl; (with_reducible repeat (first | refine blk_drewN ?_ _ | refine blk_drew ?_ | refine blk_alloc ?_ _)); refine blk_put (cs := #[.int .i64 0, .int .i64 0, .int .i64 0]) ?_ 0 _ rfl; (with_reducible repeat (first | refine blk_drewN ?_ _ | refine blk_drew ?_ | refine blk_alloc ?_ _)); exact BK929.out) Try.underlying66 rfl (by kernel_rfl)) rfl ?_
          exact ⟨by first | rfl | (simp [errW_none, errW_some] <;> rfl) | (simp [*, errW_none, errW_some] <;> rfl), by repeat (first | (with_reducible first | exact HB.out | apply below_alloc | apply pw_below_drewN | apply below_drew1 | refine below_set ?_ GE927.out | refine below_set ?_ GE928.out | refine below_set ?_ GE929.out) | exact HB.out)⟩
        · rw [if_neg c27] at H
          exact absurd H (by simp)

end Go.Proofs.Ytjjbjaagfjljnaa.F

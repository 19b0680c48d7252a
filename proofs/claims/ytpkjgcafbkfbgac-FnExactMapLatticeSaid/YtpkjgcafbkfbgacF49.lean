import Derived.Test.YtpkjgcafbkfbgacF0
import Derived.Test.YtpkjgcafbkfbgacF8
import Derived.Test.YtpkjgcafbkfbgacF18
import Derived.Test.YtpkjgcafbkfbgacF48
namespace Go.Proofs.Ytpkjgcafbkfbgac.F
open Go.RowKit Go.Proofs.YtpkjgcafbkfbgacW.PrintWords Go.Proofs.YtpkjgcafbkfbgacW.PrintLast Go.Proofs.YtpkjgcafbkfbgacW.PrintMore
attribute [local go_sem] max2_int min2_int max_two min_two max_three min_three max_four min_four   -- for this text's walks alone
set_option linter.unusedVariables false
set_option linter.unusedSimpArgs false
attribute [local go_sem high] eqA31

/-! ### spec_l04Image: function 88 -/
def spec_l04Image.f (k : Nat) (a0_0 : Int) (a0_1 : Int) (a0_2 : Int) (a0_3 : Int) (a1_0 : Int) (a1_1 : Int) (a1_2 : Int) : Option (Int × Int × Int) := (spec_l03Basis.f a1_0 a1_1 a1_2).bind fun t866 => (if 0 < (t866.length : Int) then ((spec_l02Apply.f a0_0 a0_1 a0_2 a0_3 ((rd_T28 t866 0).f0) ((rd_T28 t866 0).f1)).bind fun bt870 => (if 1 < (t866.length : Int) then ((spec_l02Apply.f a0_0 a0_1 a0_2 a0_3 ((rd_T28 t866 1).f0) ((rd_T28 t866 1).f1)).bind fun bt873 => ((spec_l03Hermite.f k (([(⟨bt870.1, bt870.2⟩ : S28), (⟨bt873.1, bt873.2⟩ : S28)] : List (S28)))).bind fun bt878 => (some (bt878.1, bt878.2.1, bt878.2.2)))) else (none))) else (none))
theorem spec_l04Image.mono : ∀ a0 a1 a2 a3 a4 a5 a6 k, LeO (spec_l04Image.f k a0 a1 a2 a3 a4 a5 a6) (spec_l04Image.f (k + 1) a0 a1 a2 a3 a4 a5 a6) := by
  intro a0 a1 a2 a3 a4 a5 a6 k
  unfold spec_l04Image.f
  repeat' first
      | (with_reducible exact spec_l03Hermite.mono _ _)
      | (with_reducible exact LeO.refl _)
      | (with_reducible exact LeO.none _)
      | (with_reducible refine LeO.ite ?_ ?_)
      | (with_reducible refine LeO.bind ?_ (fun _ => ?_))
      | exact spec_l03Hermite.mono _ _
      | exact LeO.none _
      | refine LeO.ite ?_ ?_
      | refine LeO.bind ?_ (fun _ => ?_)
def spec_l04Image.T2 : Bool × List (List Nat × List Nat) := (true, [([], []), ([], []), ([1], [1]), ([2], [2]), ([0, 3], [0, 3]), ([], []), ([], []), ([6], [6]), ([7], [7]), ([5, 8, 4], [5, 8]), ([4, 9], [4, 9]), ([10, 9], [10]), ([11, 11, 0, 1, 2, 3, 4, 5, 6, 7, 8, 9, 10, 11], [11])])
def spec_l04Image.B2 : List Nat := [0, 0, 2, 6, 15, 0, 0, 64, 192, 511, 1023, 2047, 4095]
theorem spec_l04Image.tab2 : rtab .any (opsOf Try.f88 2) = spec_l04Image.T2 := by kernel_rfl
theorem spec_l04Image.bits2 : waitsOk spec_l04Image.T2.2 spec_l04Image.B2 = true := by kernel_rfl
set_option maxHeartbeats 8000000 in
set_option maxRecDepth 100000 in
theorem spec_l04Image.calls (k : Nat) (a0_0 : Int) (a0_1 : Int) (a0_2 : Int) (a0_3 : Int) (a1_0 : Int) (a1_1 : Int) (a1_2 : Int) (r1 : Int) (r2 : Int) (r3 : Int) (w : World) (h : spec_l04Image.f k a0_0 a0_1 a0_2 a0_3 a1_0 a1_1 a1_2 = some (r1, r2, r3)) :
    Calls Try.prog 88 #[.agg #[.int .i64 a0_0, .int .i64 a0_1, .int .i64 a0_2, .int .i64 a0_3], .agg #[.int .i64 a1_0, .int .i64 a1_1, .int .i64 a1_2]] w fun e w' => e = .returned (.agg #[.int .i64 r1, .int .i64 r2, .int .i64 r3]) ∧ Below w.heap.size w w' := by
  have hu31 := Try.underlying31
  have hu43 := Try.underlying43
  have hu28 := Try.underlying28
  have HB := Aside0.mk (Below.refl w.heap.size w)
  have H : ((spec_l03Basis.f a1_0 a1_1 a1_2).bind fun t866 => (if 0 < (t866.length : Int) then ((spec_l02Apply.f a0_0 a0_1 a0_2 a0_3 ((rd_T28 t866 0).f0) ((rd_T28 t866 0).f1)).bind fun bt870 => (if 1 < (t866.length : Int) then ((spec_l02Apply.f a0_0 a0_1 a0_2 a0_3 ((rd_T28 t866 1).f0) ((rd_T28 t866 1).f1)).bind fun bt873 => ((spec_l03Hermite.f k (([(⟨bt870.1, bt870.2⟩ : S28), (⟨bt873.1, bt873.2⟩ : S28)] : List (S28)))).bind fun bt878 => (some (bt878.1, bt878.2.1, bt878.2.2)))) else (none))) else (none))) = some (r1, r2, r3) := h
  clear h
  replace H := Option.bind_eq_some_iff.mp H
  obtain ⟨t866, A30, H⟩ := H
  replace H : (if 0 < (t866.length : Int) then ((spec_l02Apply.f a0_0 a0_1 a0_2 a0_3 ((rd_T28 t866 0).f0) ((rd_T28 t866 0).f1)).bind fun bt870 => (if 1 < (t866.length : Int) then ((spec_l02Apply.f a0_0 a0_1 a0_2 a0_3 ((rd_T28 t866 1).f0) ((rd_T28 t866 1).f1)).bind fun bt873 => ((spec_l03Hermite.f k (([(⟨bt870.1, bt870.2⟩ : S28), (⟨bt873.1, bt873.2⟩ : S28)] : List (S28)))).bind fun bt878 => (some (bt878.1, bt878.2.1, bt878.2.2)))) else (none))) else (none)) = some (r1, r2, r3) := H
  have A3 := Aside0.mk A30
  clear A30
  by_cases c4 : 0 < (t866.length : Int)
  · rw [if_pos c4] at H
    have c4b0 : decide (0 < (t866.length : Int)) = true := decide_eq_true c4
    have c4b1 : decide (0 < t866.length) = true := decide_eq_true (by omega)
    clear c4
    replace H := Option.bind_eq_some_iff.mp H
    obtain ⟨⟨t870, t871⟩, A50, H⟩ := H
    replace H : (if 1 < (t866.length : Int) then ((spec_l02Apply.f a0_0 a0_1 a0_2 a0_3 ((rd_T28 t866 1).f0) ((rd_T28 t866 1).f1)).bind fun bt873 => ((spec_l03Hermite.f k (([(⟨t870, t871⟩ : S28), (⟨bt873.1, bt873.2⟩ : S28)] : List (S28)))).bind fun bt878 => (some (bt878.1, bt878.2.1, bt878.2.2)))) else (none)) = some (r1, r2, r3) := H
    have A5 := Aside0.mk A50
    clear A50
    by_cases c6 : 1 < (t866.length : Int)
    · rw [if_pos c6] at H
      have c6b0 : decide (1 < (t866.length : Int)) = true := decide_eq_true c6
      have c6b1 : decide (1 < t866.length) = true := decide_eq_true (by omega)
      clear c6
      replace H := Option.bind_eq_some_iff.mp H
      obtain ⟨⟨t873, t874⟩, A70, H⟩ := H
      replace H : ((spec_l03Hermite.f k (([(⟨t870, t871⟩ : S28), (⟨t873, t874⟩ : S28)] : List (S28)))).bind fun bt878 => (some (bt878.1, bt878.2.1, bt878.2.2))) = some (r1, r2, r3) := H
      have A7 := Aside0.mk A70
      clear A70
      obtain ⟨y875, hy875⟩ : ∃ y_ : List (S28), y_ = (([(⟨t870, t871⟩ : S28), (⟨t873, t874⟩ : S28)] : List (S28))) := ⟨_, rfl⟩
      replace H : ((spec_l03Hermite.f k y875).bind fun bt878 => (some (bt878.1, bt878.2.1, bt878.2.2))) = some (r1, r2, r3) := by first | (rw [hy875]; with_reducible exact H) | (have H2_ := (Option.bind_some _ _).symm.trans H; rw [hy875]; with_reducible exact H2_) | (have H2_ := (Option.bind_some _ _).symm.trans H; with_reducible exact H2_) | with_reducible exact H | (rw [hy875]; exact H) | exact H
      have Ny875 := Aside0.mk hy875
      clear hy875
      replace H := Option.bind_eq_some_iff.mp H
      obtain ⟨⟨t878, t879, t880⟩, A80, H⟩ := H
      replace H : (some (t878, t879, t880)) = some (r1, r2, r3) := H
      have A8 := Aside0.mk A80
      clear A80
      simp only [Option.some.injEq, Prod.mk.injEq] at H
      obtain ⟨rfl, rfl, rfl⟩ := H
      go_enter Try.func88, Try.ntmps88
      try go_wp2_with (first | ((with_reducible refine gate_dst (N := 2) rfl ?_); refine box_event ?hg (N := 2) ?hd (cs := #[.int .i64 a0_0, .int .i64 a0_1, .int .i64 a0_2, .int .i64 a0_3]) (t := 31) ?hr ?_; (case hd => rfl); (case hg => rfl); (case hr => first | (go_simp; done) | (go_simp; rfl)); intro gb863 hg w9 hbox hb; have n0_ := Aside0.mk (below_step (by repeat (first | (with_reducible first | exact HB.out | apply below_alloc | apply pw_below_drewN | apply below_drew1) | exact HB.out)) hb); have n1_ := Aside0.mk (hbox); have n2_ := Aside0.mk ((by rw [hg]; exact (below_size (by repeat (first | (with_reducible first | exact HB.out | apply below_alloc | apply pw_below_drewN | apply below_drew1) | exact HB.out))) : w.heap.size ≤ gb863)); have n3_ := Aside0.mk ((by rw [hg]; exact (below_size (by repeat (first | (with_reducible first | exact HB.out | apply below_alloc | apply pw_below_drewN | apply below_drew1) | exact HB.out))) : w.heap.size ≤ gb863)); clear HB; have HB := n0_; have BK863 := n1_; have GW863 := n2_; have GE863 := n3_; clear n0_ n1_ n2_ n3_; clear hb hbox hg) | ((with_reducible refine gate_dst (N := 3) rfl ?_); refine box_event ?hg (N := 3) ?hd (cs := #[.int .i64 a1_0, .int .i64 a1_1, .int .i64 a1_2]) (t := 43) ?hr ?_; (case hd => rfl); (case hg => rfl); (case hr => first | (go_simp; done) | (go_simp; rfl)); intro gb864 hg w10 hbox hb; have n0_ := Aside0.mk (blk_below (g := gb863) (o := .cells #[.int .i64 a0_0, .int .i64 a0_1, .int .i64 a0_2, .int .i64 a0_3] 31 (0, 0)) (by (with_reducible repeat (first | refine blk_drewN ?_ _ | refine blk_drew ?_ | refine blk_alloc ?_ _)); exact BK863.out) hb); have n1_ := Aside0.mk (below_step (by repeat (first | (with_reducible first | exact HB.out | apply below_alloc | apply pw_below_drewN | apply below_drew1 | refine below_set ?_ GE863.out) | exact HB.out)) hb); have n2_ := Aside0.mk (hbox); have n3_ := Aside0.mk ((by rw [hg]; exact (below_size (by repeat (first | (with_reducible first | exact HB.out | apply below_alloc | apply pw_below_drewN | apply below_drew1 | refine below_set ?_ GE863.out) | exact HB.out))) : w.heap.size ≤ gb864)); have n4_ := Aside0.mk ((by rw [hg]; exact (below_size (by repeat (first | (with_reducible first | exact HB.out | apply below_alloc | apply pw_below_drewN | apply below_drew1 | refine below_set ?_ GE863.out) | exact HB.out))) : w.heap.size ≤ gb864)); have n5_ := Aside0.mk ((by rw [hg]; exact Nat.ne_of_lt (blk_lt (g := gb863) (o := .cells #[.int .i64 a0_0, .int .i64 a0_1, .int .i64 a0_2, .int .i64 a0_3] 31 (0, 0)) (by (with_reducible repeat (first | refine blk_drewN ?_ _ | refine blk_drew ?_ | refine blk_alloc ?_ _)); exact BK863.out)) : gb863 ≠ gb864)); have n6_ := Aside0.mk ((by rw [hg]; exact Nat.ne_of_gt (blk_lt (g := gb863) (o := .cells #[.int .i64 a0_0, .int .i64 a0_1, .int .i64 a0_2, .int .i64 a0_3] 31 (0, 0)) (by (with_reducible repeat (first | refine blk_drewN ?_ _ | refine blk_drew ?_ | refine blk_alloc ?_ _)); exact BK863.out)) : gb864 ≠ gb863)); clear BK863; clear HB; have BK863 := n0_; have HB := n1_; have BK864 := n2_; have GW864 := n3_; have GE864 := n4_; have NB863_864 := n5_; have NB864_863 := n6_; clear n0_ n1_ n2_ n3_ n4_ n5_ n6_; clear hb hbox hg) | ((with_reducible refine gate_dst (N := 4) rfl ?_); refine box_event ?hg (N := 4) ?hd (cs := #[.int .i64 0, .int .i64 0, .int .i64 0]) (t := 43) ?hr ?_; (case hd => rfl); (case hg => rfl); (case hr => first | (go_simp; done) | (go_simp; rfl)); intro gb865 hg w11 hbox hb; have n0_ := Aside0.mk (blk_below (g := gb863) (o := .cells #[.int .i64 a0_0, .int .i64 a0_1, .int .i64 a0_2, .int .i64 a0_3] 31 (0, 0)) (by (with_reducible repeat (first | refine blk_drewN ?_ _ | refine blk_drew ?_ | refine blk_alloc ?_ _)); exact BK863.out) hb); have n1_ := Aside0.mk (blk_below (g := gb864) (o := .cells #[.int .i64 a1_0, .int .i64 a1_1, .int .i64 a1_2] 43 (0, 0)) (by (with_reducible repeat (first | refine blk_drewN ?_ _ | refine blk_drew ?_ | refine blk_alloc ?_ _)); exact BK864.out) hb); have n2_ := Aside0.mk (below_step (by repeat (first | (with_reducible first | exact HB.out | apply below_alloc | apply pw_below_drewN | apply below_drew1 | refine below_set ?_ GE863.out | refine below_set ?_ GE864.out) | exact HB.out)) hb); have n3_ := Aside0.mk (hbox); have n4_ := Aside0.mk ((by rw [hg]; exact (below_size (by repeat (first | (with_reducible first | exact HB.out | apply below_alloc | apply pw_below_drewN | apply below_drew1 | refine below_set ?_ GE863.out | refine below_set ?_ GE864.out) | exact HB.out))) : w.heap.size ≤ gb865)); have n5_ := Aside0.mk ((by rw [hg]; exact (below_size (by repeat (first | (with_reducible first | exact HB.out | apply below_alloc | apply pw_below_drewN | apply below_drew1 | refine below_set ?_ GE863.out | refine below_set ?_ GE864.out) | exact HB.out))) : w.heap.size ≤ gb865)); have n6_ := Aside0.mk ((by rw [hg]; exact Nat.ne_of_lt (blk_lt (g := gb863) (o := .cells #[.int .i64 a0_0, .int .i64 a0_1, .int .i64 a0_2, .int .i64 a0_3] 31 (0, 0)) (by (with_reducible repeat (first | refine blk_drewN ?_ _ | refine blk_drew ?_ | refine blk_alloc ?_ _)); exact BK863.out)) : gb863 ≠ gb865)); have n7_ := Aside0.mk ((by rw [hg]; exact Nat.ne_of_gt (blk_lt (g := gb863) (o := .cells #[.int .i64 a0_0, .int .i64 a0_1, .int .i64 a0_2, .int .i64 a0_3] 31 (0, 0)) (by (with_reducible repeat (first | refine blk_drewN ?_ _ | refine blk_drew ?_ | refine blk_alloc ?_ _)); exact BK863.out)) : gb865 ≠ gb863)); have n8_ := Aside0.mk ((by rw [hg]; exact Nat.ne_of_lt (blk_lt (g := gb864) (o := .cells #[.int .i64 a1_0, .int .i64 a1_1, .int .i64 a1_2] 43 (0, 0)) (by (with_reducible repeat (first | refine blk_drewN ?_ _ | refine blk_drew ?_ | refine blk_alloc ?_ _)); exact BK864.out)) : gb864 ≠ gb865)); have n9_ := Aside0.mk ((by rw [hg]; exact Nat.ne_of_gt (blk_lt (g := gb864) (o := .cells #[.int .i64 a1_0, .int .i64 a1_1, .int .i64 a1_2] 43 (0, 0)) (by (with_reducible repeat (first | refine blk_drewN ?_ _ | refine blk_drew ?_ | refine blk_alloc ?_ _)); exact BK864.out)) : gb865 ≠ gb864)); clear BK863; clear BK864; clear HB; have BK863 := n0_; have BK864 := n1_; have HB := n2_; have BK865 := n3_; have GW865 := n4_; have GE865 := n5_; have NB863_865 := n6_; have NB865_863 := n7_; have NB864_865 := n8_; have NB865_864 := n9_; clear n0_ n1_ n2_ n3_ n4_ n5_ n6_ n7_ n8_ n9_; clear hb hbox hg; have hnb12 := NB864_863.out; have hnc12 := NB863_864.out; have hnb13 := NB864_865.out; have hnc13 := NB865_864.out; have hcz14_0 : w11.cell? ⟨gb864, 0, none⟩ = some (.int .i64 a1_0) := (blk_cell BK864.out 0).trans rfl; have hcz14_1 : w11.cell? ⟨gb864, 1, none⟩ = some (.int .i64 a1_1) := (blk_cell BK864.out 1).trans rfl; have hcz14_2 : w11.cell? ⟨gb864, 2, none⟩ = some (.int .i64 a1_2) := (blk_cell BK864.out 2).trans rfl; have hfz14_0 := blk_frozen BK864.out 0; have hfz14_1 := blk_frozen BK864.out 1; have hfz14_2 := blk_frozen BK864.out 2) | ((with_reducible refine gate_callee (f := 122) rfl ?_); refine goesL_ (some 7) rfl rfl Try.func122 (by kernel_rfl) rfl #[.agg #[.int .i64 a1_0, .int .i64 a1_1, .int .i64 a1_2]] rfl (by (try simp only [List.map_toArray, List.map_cons, List.map_nil]); first | done | rfl | (simp only [List.length_drop, List.length_take]; rfl)) ?_; (with_reducible refine (spec_l03Basis.calls a1_0 a1_1 a1_2 t866 _ A3.out).mono ?_); rintro e w15 ⟨v867, rfl, ho0, hb⟩; refine ⟨_, rfl, ?_⟩; have n0_ := Aside0.mk (Kd.R_lower ho0 (below_size (by repeat (first | (with_reducible first | exact HB.out | apply below_alloc | apply pw_below_drewN | apply below_drew1 | refine below_set ?_ GE863.out | refine below_set ?_ GE864.out | refine below_set ?_ GE865.out) | exact HB.out)))); have n1_ := Aside0.mk (blk_below (g := gb863) (o := .cells #[.int .i64 a0_0, .int .i64 a0_1, .int .i64 a0_2, .int .i64 a0_3] 31 (0, 0)) (by (with_reducible repeat (first | refine blk_drewN ?_ _ | refine blk_drew ?_ | refine blk_alloc ?_ _)); exact BK863.out) hb); have n2_ := Aside0.mk (blk_below (g := gb864) (o := .cells #[.int .i64 a1_0, .int .i64 a1_1, .int .i64 a1_2] 43 (0, 0)) (by (with_reducible repeat (first | refine blk_drewN ?_ _ | refine blk_drew ?_ | refine blk_alloc ?_ _)); exact BK864.out) hb); have n3_ := Aside0.mk (blk_below (g := gb865) (o := .cells #[.int .i64 0, .int .i64 0, .int .i64 0] 43 (0, 0)) (by (with_reducible repeat (first | refine blk_drewN ?_ _ | refine blk_drew ?_ | refine blk_alloc ?_ _)); exact BK865.out) hb); have n4_ := Aside0.mk (below_step (by repeat (first | (with_reducible first | exact HB.out | apply below_alloc | apply pw_below_drewN | apply below_drew1 | refine below_set ?_ GE863.out | refine below_set ?_ GE864.out | refine below_set ?_ GE865.out) | exact HB.out)) hb); clear BK863; clear BK864; clear BK865; clear HB; have HO868 := n0_; have BK863 := n1_; have BK864 := n2_; have BK865 := n3_; have HB := n4_; clear n0_ n1_ n2_ n3_ n4_; (try clear hb); (try clear hb2); (try clear hk); (try clear hi); (try clear ho0)))
      have n0_ := Aside0.mk (Kd.R_drew HO868.out)
      have n1_ := Aside0.mk (blk_drew BK863.out)
      have n2_ := Aside0.mk (blk_drew BK864.out)
      have n3_ := Aside0.mk (blk_drew BK865.out)
      have n4_ := Aside0.mk (below_drew1 HB.out)
      clear HO868
      clear BK863
      clear BK864
      clear BK865
      clear HB
      have HO868 := n0_
      have BK863 := n1_
      have BK864 := n2_
      have BK865 := n3_
      have HB := n4_
      clear n0_ n1_ n2_ n3_ n4_
      obtain ⟨Ao17, co17, eo17⟩ := Kd.R_slice HO868.out
      (first | subst eo17 | (injection eo17 with f1_ f2_ f3_; have f4_ := f1_.symm; have f5_ := f3_.symm; clear f1_ f2_ f3_; subst f4_; subst f5_))
      have p869 : 0 ≤ (0 : Int) := (by omega)
      have q869 : 0 < (t866.length : Int) := of_decide_eq_true (by first | (with_reducible assumption) | assumption)
      obtain ⟨ad869, e869, hx869_0, hx869_1⟩ := at_T28 (Kd.R_reads' HO868.out).2.2 0 p869 q869
      cases e869
      have qi869 : (0 < t866.length) = True := eq_true (by omega)
      (try rw [show ((0 : Int)).toNat = 0 from rfl] at hx869_0)
      (try rw [show 0 * 2 = 0 from rfl] at hx869_0)
      (try rw [Addr.add_zero'] at hx869_0)
      (try rw [show ((0 : Int)).toNat = 0 from rfl] at hx869_1)
      (try rw [show 0 * 2 = 0 from rfl] at hx869_1)
      (try rw [Addr.add_zero'] at hx869_1)
      replace p869 := eq_true p869
      replace q869 := eq_true q869
      have p872 : 0 ≤ (1 : Int) := (by omega)
      have q872 : 1 < (t866.length : Int) := of_decide_eq_true (by first | (with_reducible assumption) | assumption)
      obtain ⟨ad872, e872, hx872_0, hx872_1⟩ := at_T28 (Kd.R_reads' HO868.out).2.2 1 p872 q872
      obtain rfl : ad869 = ad872 := (by injection e872)
      (try simp only [show (1 : Int).toNat = 1 from rfl, Nat.reduceMul, Nat.reduceEqDiff, Go.Addr.add, ↓reduceIte] at hx872_0)
      (try simp only [show (1 : Int).toNat = 1 from rfl, Nat.reduceMul, Nat.reduceEqDiff, Go.Addr.add, ↓reduceIte] at hx872_1)
      have qi872 : (1 < t866.length) = True := eq_true (by omega)
      (try rw [show ((1 : Int)).toNat = 1 from rfl] at hx872_0)
      (try rw [show 1 * 2 = 2 from rfl] at hx872_0)
      (try rw [show ((1 : Int)).toNat = 1 from rfl] at hx872_1)
      (try rw [show 1 * 2 = 2 from rfl] at hx872_1)
      replace p872 := eq_true p872
      replace q872 := eq_true q872
      refine start_ (n := 13) (S := fun w' => w'.cell? ⟨gb863, 0, none⟩ = some (.int .i64 a0_0) ∧ w'.cell? ⟨gb863, 1, none⟩ = some (.int .i64 a0_1) ∧ w'.cell? ⟨gb863, 2, none⟩ = some (.int .i64 a0_2) ∧ w'.cell? ⟨gb863, 3, none⟩ = some (.int .i64 a0_3) ∧ w'.cell? ad869 = some (.int .i64 ((rd_T28 t866 0).f0)) ∧ w'.cell? ⟨ad869.block, ad869.off + 1, none⟩ = some (.int .i64 ((rd_T28 t866 0).f1)) ∧ w'.cell? ⟨ad869.block, ad869.off + 2, none⟩ = some (.int .i64 ((rd_T28 t866 1).f0)) ∧ w'.cell? ⟨ad869.block, ad869.off + 2 + 1, none⟩ = some (.int .i64 ((rd_T28 t866 1).f1))) (ds := []) #[false, false, false, false, false, false, false, false, false, false, false, false, false] (by kernel_rfl) rfl rfl ⟨(blk_cell BK863.out 0).trans rfl, (blk_cell BK863.out 1).trans rfl, (blk_cell BK863.out 2).trans rfl, (blk_cell BK863.out 3).trans rfl, hx869_0, hx869_1, hx872_0, hx872_1⟩ (fun hHeld => ?_); refine with_tabW spec_l04Image.tab2 spec_l04Image.bits2 (fun HT_ HW_ => ?_)
      generalize w15.drew = w16 at HO868 BK863 BK864 BK865 HB hx869_0 hx869_1 hx872_0 hx872_1 hHeld ⊢
      refine pure_ (i := 1) (N := some 9) (v := ?_) (a' := ?_) #[false, true, false, false, false, false, false, false, false, false, false, false, false] rfl rfl (any_of HT_.out (by kernel_rfl)) (fun _ _ _ h => h) (Or.inl ⟨by rfl, ?_⟩) ?_ ?_
      rotate_left
      · intro w'
        go_simp
        with_reducible rfl
      rotate_left
      · simp only [Act.put, List.setIfInBounds_toArray, List.set_cons_zero, List.set_cons_succ, i64_w, i32_w]
        rfl
      refine pure_ (i := 2) (N := some 10) (v := ?_) (a' := ?_) #[false, true, true, false, false, false, false, false, false, false, false, false, false] rfl rfl (any_of HT_.out (by kernel_rfl)) (fun _ _ _ h => h) (Or.inl ⟨by rfl, ?_⟩) ?_ ?_
      rotate_left
      · intro w'
        go_simp
        with_reducible rfl
      rotate_left
      · simp only [Act.put, List.setIfInBounds_toArray, List.set_cons_zero, List.set_cons_succ, i64_w, i32_w]
        rfl
      refine pure_ (i := 6) (N := some 14) (v := ?_) (a' := ?_) #[false, true, true, false, false, false, true, false, false, false, false, false, false] rfl rfl (any_of HT_.out (by kernel_rfl)) (fun _ _ _ h => h) (Or.inl ⟨by rfl, ?_⟩) ?_ ?_
      rotate_left
      · intro w'
        go_simp
        with_reducible rfl
      rotate_left
      · simp only [Act.put, List.setIfInBounds_toArray, List.set_cons_zero, List.set_cons_succ, i64_w, i32_w]
        rfl
      refine pure_ (i := 7) (N := some 15) (v := ?_) (a' := ?_) #[false, true, true, false, false, false, true, true, false, false, false, false, false] rfl rfl (any_of HT_.out (by kernel_rfl)) (fun _ _ _ h => h) (Or.inl ⟨by rfl, ?_⟩) ?_ ?_
      rotate_left
      · intro w'
        go_simp
        with_reducible rfl
      rotate_left
      · simp only [Act.put, List.setIfInBounds_toArray, List.set_cons_zero, List.set_cons_succ, i64_w, i32_w]
        rfl
      refine take_ (i := 0) (N := some 8) (v := ?_) (a' := ?_) #[true, true, true, false, false, false, true, true, false, false, false, false, false] rfl rfl (take_ofW HT_.out HW_.out (by kernel_rfl)) (fun _ _ _ h => h) (Or.inl ⟨by rfl, ?_⟩) hHeld ?_ ?_
      rotate_left
      · rintro w' ⟨s0, s1, s2, s3, s4, s5, s6, s7⟩
        go_simp
        with_reducible rfl
      rotate_left
      · simp only [Act.put, List.setIfInBounds_toArray, List.set_cons_zero, List.set_cons_succ, i64_w, i32_w]
        rfl
      refine take_ (i := 3) (N := some 11) (v := ?_) (a' := ?_) #[true, true, true, true, false, false, true, true, false, false, false, false, false] rfl rfl (take_ofW HT_.out HW_.out (by kernel_rfl)) (fun _ _ _ h => h) (Or.inl ⟨by rfl, ?_⟩) hHeld ?_ ?_
      rotate_left
      · rintro w' ⟨s0, s1, s2, s3, s4, s5, s6, s7⟩
        go_simp
        with_reducible rfl
      rotate_left
      · simp only [Act.put, List.setIfInBounds_toArray, List.set_cons_zero, List.set_cons_succ, i64_w, i32_w]
        rfl
      refine take_ (i := 5) (N := some 13) (v := ?_) (a' := ?_) #[true, true, true, true, false, true, true, true, false, false, false, false, false] rfl rfl (take_ofW HT_.out HW_.out (by kernel_rfl)) (fun _ _ _ h => h) (Or.inl ⟨by rfl, ?_⟩) hHeld ?_ ?_
      rotate_left
      · rintro w' ⟨s0, s1, s2, s3, s4, s5, s6, s7⟩
        go_simp
        with_reducible rfl
      rotate_left
      · simp only [Act.put, List.setIfInBounds_toArray, List.set_cons_zero, List.set_cons_succ, i64_w, i32_w]
        rfl
      refine take_ (i := 8) (N := some 16) (v := ?_) (a' := ?_) #[true, true, true, true, false, true, true, true, true, false, false, false, false] rfl rfl (take_ofW HT_.out HW_.out (by kernel_rfl)) (fun _ _ _ h => h) (Or.inl ⟨by rfl, ?_⟩) hHeld ?_ ?_
      rotate_left
      · rintro w' ⟨s0, s1, s2, s3, s4, s5, s6, s7⟩
        go_simp
        with_reducible rfl
      rotate_left
      · simp only [Act.put, List.setIfInBounds_toArray, List.set_cons_zero, List.set_cons_succ, i64_w, i32_w]
        rfl
      refine one_ (i := 4) (N := some 12) #[true, true, true, true, true, true, true, true, true, false, false, false, false] rfl rfl (one_of HT_.out (by kernel_rfl)) (by decide) (fun K hK => ?_)
      refine goes_ Try.func96 (by kernel_rfl) rfl #[.agg #[.int .i64 a0_0, .int .i64 a0_1, .int .i64 a0_2, .int .i64 a0_3], .agg #[.int .i64 ((rd_T28 t866 0).f0), .int .i64 ((rd_T28 t866 0).f1)]] (by rfl) rfl rfl (by (try simp only [List.map_toArray, List.map_cons, List.map_nil]); first | done | rfl | (simp only [List.length_drop, List.length_take]; rfl)) ?_
      with_reducible refine (spec_l02Apply.calls a0_0 a0_1 a0_2 a0_3 ((rd_T28 t866 0).f0) ((rd_T28 t866 0).f1) t870 t871 _ A5.out).mono ?_
      rintro e w18 ⟨rfl, hb⟩
      have HS4_ := (hb.cell (World.block_lt_of_cell? _ _ (hHeld.2.2.2.2.1))).trans (hHeld.2.2.2.2.1)
      have HS5_ := (hb.cell (World.block_lt_of_cell? _ _ (hHeld.2.2.2.2.2.1))).trans (hHeld.2.2.2.2.2.1)
      have HS6_ := (hb.cell (World.block_lt_of_cell? _ _ (hHeld.2.2.2.2.2.2.1))).trans (hHeld.2.2.2.2.2.2.1)
      have HS7_ := (hb.cell (World.block_lt_of_cell? _ _ (hHeld.2.2.2.2.2.2.2))).trans (hHeld.2.2.2.2.2.2.2)
      refine ⟨_, rfl, ?_⟩
      have n0_ := Aside0.mk (Kd.R_below (by (with_reducible repeat (first | apply Kd.R_alloc | apply Kd.R_drewN | apply Kd.R_drew)); exact HO868.out) hb)
      have n1_ := Aside0.mk (blk_below (g := gb863) (o := .cells #[.int .i64 a0_0, .int .i64 a0_1, .int .i64 a0_2, .int .i64 a0_3] 31 (0, 0)) (by (with_reducible repeat (first | refine blk_drewN ?_ _ | refine blk_drew ?_ | refine blk_alloc ?_ _)); exact BK863.out) hb)
      have n2_ := Aside0.mk (blk_below (g := gb864) (o := .cells #[.int .i64 a1_0, .int .i64 a1_1, .int .i64 a1_2] 43 (0, 0)) (by (with_reducible repeat (first | refine blk_drewN ?_ _ | refine blk_drew ?_ | refine blk_alloc ?_ _)); exact BK864.out) hb)
      have n3_ := Aside0.mk (blk_below (g := gb865) (o := .cells #[.int .i64 0, .int .i64 0, .int .i64 0] 43 (0, 0)) (by (with_reducible repeat (first | refine blk_drewN ?_ _ | refine blk_drew ?_ | refine blk_alloc ?_ _)); exact BK865.out) hb)
      have n4_ := Aside0.mk (below_step (by repeat (first | (with_reducible first | exact HB.out | apply below_alloc | apply pw_below_drewN | apply below_drew1 | refine below_set ?_ GE863.out | refine below_set ?_ GE864.out | refine below_set ?_ GE865.out) | exact HB.out)) hb)
      clear HO868
      clear BK863
      clear BK864
      clear BK865
      clear HB
      have HO868 := n0_
      have BK863 := n1_
      have BK864 := n2_
      have BK865 := n3_
      have HB := n4_
      clear n0_ n1_ n2_ n3_ n4_
      (try clear hb)
      (try clear hb2)
      (try clear hk)
      (try clear hi)
      refine hK.out _ _ ⟨(blk_cell BK863.out 0).trans rfl, (blk_cell BK863.out 1).trans rfl, (blk_cell BK863.out 2).trans rfl, (blk_cell BK863.out 3).trans rfl, HS4_, HS5_, HS6_, HS7_⟩ (fun hHeld => ?_)
      clear hK K
      refine norm_ (a' := ?_) ?_ ?_
      rotate_left
      · show Act.put _ (some 12) _ = _
        simp only [Act.put, List.setIfInBounds_toArray, List.set_cons_zero, List.set_cons_succ, i64_w, i32_w]
        rfl
      refine one_ (i := 9) (N := some 17) #[true, true, true, true, true, true, true, true, true, true, false, false, false] rfl rfl (one_of HT_.out (by kernel_rfl)) (by decide) (fun K hK => ?_)
      refine goes_ Try.func96 (by kernel_rfl) rfl #[.agg #[.int .i64 a0_0, .int .i64 a0_1, .int .i64 a0_2, .int .i64 a0_3], .agg #[.int .i64 ((rd_T28 t866 1).f0), .int .i64 ((rd_T28 t866 1).f1)]] (by rfl) rfl rfl (by (try simp only [List.map_toArray, List.map_cons, List.map_nil]); first | done | rfl | (simp only [List.length_drop, List.length_take]; rfl)) ?_
      with_reducible refine (spec_l02Apply.calls a0_0 a0_1 a0_2 a0_3 ((rd_T28 t866 1).f0) ((rd_T28 t866 1).f1) t873 t874 _ A7.out).mono ?_
      rintro e w19 ⟨rfl, hb⟩
      have HS4_ := (hb.cell (World.block_lt_of_cell? _ _ (hHeld.2.2.2.2.1))).trans (hHeld.2.2.2.2.1)
      have HS5_ := (hb.cell (World.block_lt_of_cell? _ _ (hHeld.2.2.2.2.2.1))).trans (hHeld.2.2.2.2.2.1)
      have HS6_ := (hb.cell (World.block_lt_of_cell? _ _ (hHeld.2.2.2.2.2.2.1))).trans (hHeld.2.2.2.2.2.2.1)
      have HS7_ := (hb.cell (World.block_lt_of_cell? _ _ (hHeld.2.2.2.2.2.2.2))).trans (hHeld.2.2.2.2.2.2.2)
      refine ⟨_, rfl, ?_⟩
      have n0_ := Aside0.mk (Kd.R_below (by (with_reducible repeat (first | apply Kd.R_alloc | apply Kd.R_drewN | apply Kd.R_drew)); exact HO868.out) hb)
      have n1_ := Aside0.mk (blk_below (g := gb863) (o := .cells #[.int .i64 a0_0, .int .i64 a0_1, .int .i64 a0_2, .int .i64 a0_3] 31 (0, 0)) (by (with_reducible repeat (first | refine blk_drewN ?_ _ | refine blk_drew ?_ | refine blk_alloc ?_ _)); exact BK863.out) hb)
      have n2_ := Aside0.mk (blk_below (g := gb864) (o := .cells #[.int .i64 a1_0, .int .i64 a1_1, .int .i64 a1_2] 43 (0, 0)) (by (with_reducible repeat (first | refine blk_drewN ?_ _ | refine blk_drew ?_ | refine blk_alloc ?_ _)); exact BK864.out) hb)
      have n3_ := Aside0.mk (blk_below (g := gb865) (o := .cells #[.int .i64 0, .int .i64 0, .int .i64 0] 43 (0, 0)) (by (with_reducible repeat (first | refine blk_drewN ?_ _ | refine blk_drew ?_ | refine blk_alloc ?_ _)); exact BK865.out) hb)
      have n4_ := Aside0.mk (below_step (by repeat (first | (with_reducible first | exact HB.out | apply below_alloc | apply pw_below_drewN | apply below_drew1 | refine below_set ?_ GE863.out | refine below_set ?_ GE864.out | refine below_set ?_ GE865.out) | exact HB.out)) hb)
      clear HO868
      clear BK863
      clear BK864
      clear BK865
      clear HB
      have HO868 := n0_
      have BK863 := n1_
      have BK864 := n2_
      have BK865 := n3_
      have HB := n4_
      clear n0_ n1_ n2_ n3_ n4_
      (try clear hb)
      (try clear hb2)
      (try clear hk)
      (try clear hi)
      refine hK.out _ _ ⟨(blk_cell BK863.out 0).trans rfl, (blk_cell BK863.out 1).trans rfl, (blk_cell BK863.out 2).trans rfl, (blk_cell BK863.out 3).trans rfl, HS4_, HS5_, HS6_, HS7_⟩ (fun hHeld => ?_)
      clear hK K
      refine norm_ (a' := ?_) ?_ ?_
      rotate_left
      · show Act.put _ (some 17) _ = _
        simp only [Act.put, List.setIfInBounds_toArray, List.set_cons_zero, List.set_cons_succ, i64_w, i32_w]
        rfl
      refine one_ (i := 10) (N := some 18) #[true, true, true, true, true, true, true, true, true, true, true, false, false] rfl rfl (one_of HT_.out (by kernel_rfl)) (by decide) (fun K hK => ?_)
      refine Kd.R_lit_step k28 _ 28 ?hg (N := 18) ?hd (xs := ([(⟨t870, t871⟩ : S28), (⟨t873, t874⟩ : S28)] : List (S28))) (inner := [.int .i64 t870, .int .i64 t871, .int .i64 t873, .int .i64 t874]) (ok := fun _ => True) (okp := fun _ => True) ?hr ?hp (fun _ hk => hk) trivial (Below.refl _ _) (Nat.le_refl _) (by simp) ?_; (case hd => rfl); (case hg => rfl); (case hr => first | (go_simp; done) | (go_simp; rfl)); (case hp => exact (Reps.c2 (show Kd.M k28 _ _ _ (⟨t870, t871⟩ : S28) [.int .i64 t870, .int .i64 t871] from (k28_mkM _ _ _ (⟨t870, t871⟩ : S28) )) (Reps.c2 (show Kd.M k28 _ _ _ (⟨t873, t874⟩ : S28) [.int .i64 t873, .int .i64 t874] from (k28_mkM _ _ _ (⟨t873, t874⟩ : S28) )) (Reps.none _ _))))
      intro v876 w20 ho21 hb hg_ hnew_
      have HS4_ := (hb.cell (World.block_lt_of_cell? _ _ (hHeld.2.2.2.2.1))).trans (hHeld.2.2.2.2.1)
      have HS5_ := (hb.cell (World.block_lt_of_cell? _ _ (hHeld.2.2.2.2.2.1))).trans (hHeld.2.2.2.2.2.1)
      have HS6_ := (hb.cell (World.block_lt_of_cell? _ _ (hHeld.2.2.2.2.2.2.1))).trans (hHeld.2.2.2.2.2.2.1)
      have HS7_ := (hb.cell (World.block_lt_of_cell? _ _ (hHeld.2.2.2.2.2.2.2))).trans (hHeld.2.2.2.2.2.2.2)
      clear hg_ hnew_
      (first | rw [← Ny875.out] at ho21 | (simp only [Int.reduceToNat] at ho21; rw [← Ny875.out] at ho21))
      have n0_ := Aside0.mk (Kd.R_elder' (by (with_reducible repeat (first | apply Kd.R_alloc | apply Kd.R_drewN | apply Kd.R_drew)); exact HO868.out) (Kd.R_base ho21) hb)
      have n1_ := Aside0.mk (Kd.R_lower (Kd.R_new' ho21 (Kd.R_lt (by (with_reducible repeat (first | apply Kd.R_alloc | apply Kd.R_drewN | apply Kd.R_drew)); exact HO868.out))) (below_size (by repeat (first | (with_reducible first | exact HB.out | apply below_alloc | apply pw_below_drewN | apply below_drew1 | refine below_set ?_ GE863.out | refine below_set ?_ GE864.out | refine below_set ?_ GE865.out) | exact HB.out))))
      have n2_ := Aside0.mk (blk_below (g := gb863) (o := .cells #[.int .i64 a0_0, .int .i64 a0_1, .int .i64 a0_2, .int .i64 a0_3] 31 (0, 0)) (by (with_reducible repeat (first | refine blk_drewN ?_ _ | refine blk_drew ?_ | refine blk_alloc ?_ _)); exact BK863.out) hb)
      have n3_ := Aside0.mk (blk_below (g := gb864) (o := .cells #[.int .i64 a1_0, .int .i64 a1_1, .int .i64 a1_2] 43 (0, 0)) (by (with_reducible repeat (first | refine blk_drewN ?_ _ | refine blk_drew ?_ | refine blk_alloc ?_ _)); exact BK864.out) hb)
      have n4_ := Aside0.mk (blk_below (g := gb865) (o := .cells #[.int .i64 0, .int .i64 0, .int .i64 0] 43 (0, 0)) (by (with_reducible repeat (first | refine blk_drewN ?_ _ | refine blk_drew ?_ | refine blk_alloc ?_ _)); exact BK865.out) hb)
      have n5_ := Aside0.mk (below_step (by repeat (first | (with_reducible first | exact HB.out | apply below_alloc | apply pw_below_drewN | apply below_drew1 | refine below_set ?_ GE863.out | refine below_set ?_ GE864.out | refine below_set ?_ GE865.out) | exact HB.out)) hb)
      clear HO868
      clear BK863
      clear BK864
      clear BK865
      clear HB
      have HO868 := n0_
      have HO877 := n1_
      have BK863 := n2_
      have BK864 := n3_
      have BK865 := n4_
      have HB := n5_
      clear n0_ n1_ n2_ n3_ n4_ n5_
      clear hb ho21
      obtain ⟨Ao22, co22, eo22⟩ := Kd.R_slice HO877.out
      (first | subst eo22 | (injection eo22 with f1_ f2_ f3_; have f4_ := f1_.symm; have f5_ := f3_.symm; clear f1_ f2_ f3_; subst f4_; subst f5_))
      refine hK.out _ _ ⟨(blk_cell BK863.out 0).trans rfl, (blk_cell BK863.out 1).trans rfl, (blk_cell BK863.out 2).trans rfl, (blk_cell BK863.out 3).trans rfl, HS4_, HS5_, HS6_, HS7_⟩ (fun hHeld => ?_)
      clear hK K
      refine norm_ (a' := ?_) ?_ ?_
      rotate_left
      · show Act.put _ (some 18) _ = _
        simp only [Act.put, List.setIfInBounds_toArray, List.set_cons_zero, List.set_cons_succ, i64_w, i32_w]
        rfl
      refine one_ (i := 11) (N := some 19) #[true, true, true, true, true, true, true, true, true, true, true, true, false] rfl rfl (one_of HT_.out (by kernel_rfl)) (by decide) (fun K hK => ?_)
      refine goes_ Try.func123 (by kernel_rfl) rfl #[.slice Ao22 y875.length co22] (by rfl) rfl rfl (by (try simp only [List.map_toArray, List.map_cons, List.map_nil]); first | done | rfl | (simp only [List.length_drop, List.length_take]; rfl)) ?_
      with_reducible refine (spec_l03Hermite.calls k _ _ y875 t878 t879 t880 _ ?side1 ?side2 A8.out).mono ?_
      (case side1 => repeat (first | exact (Kd.R_reads' HO877.out).2.2 | (with_reducible refine Kd.C_alloc ?_ _) | (with_reducible refine Kd.C_drewN ?_ _) | (with_reducible refine Kd.C_drew ?_)))
      (case side2 => exact (Kd.R_reads' HO877.out).2.1)
      rintro e w23 ⟨rfl, hb⟩
      have HS4_ := (hb.cell (World.block_lt_of_cell? _ _ (hHeld.2.2.2.2.1))).trans (hHeld.2.2.2.2.1)
      have HS5_ := (hb.cell (World.block_lt_of_cell? _ _ (hHeld.2.2.2.2.2.1))).trans (hHeld.2.2.2.2.2.1)
      have HS6_ := (hb.cell (World.block_lt_of_cell? _ _ (hHeld.2.2.2.2.2.2.1))).trans (hHeld.2.2.2.2.2.2.1)
      have HS7_ := (hb.cell (World.block_lt_of_cell? _ _ (hHeld.2.2.2.2.2.2.2))).trans (hHeld.2.2.2.2.2.2.2)
      refine ⟨_, rfl, ?_⟩
      have n0_ := Aside0.mk (Kd.R_below (by (with_reducible repeat (first | apply Kd.R_alloc | apply Kd.R_drewN | apply Kd.R_drew)); exact HO868.out) hb)
      have n1_ := Aside0.mk (Kd.R_below (by (with_reducible repeat (first | apply Kd.R_alloc | apply Kd.R_drewN | apply Kd.R_drew)); exact HO877.out) hb)
      have n2_ := Aside0.mk (blk_below (g := gb863) (o := .cells #[.int .i64 a0_0, .int .i64 a0_1, .int .i64 a0_2, .int .i64 a0_3] 31 (0, 0)) (by (with_reducible repeat (first | refine blk_drewN ?_ _ | refine blk_drew ?_ | refine blk_alloc ?_ _)); exact BK863.out) hb)
      have n3_ := Aside0.mk (blk_below (g := gb864) (o := .cells #[.int .i64 a1_0, .int .i64 a1_1, .int .i64 a1_2] 43 (0, 0)) (by (with_reducible repeat (first | refine blk_drewN ?_ _ | refine blk_drew ?_ | refine blk_alloc ?_ _)); exact BK864.out) hb)
      have n4_ := Aside0.mk (blk_below (g := gb865) (o := .cells #[.int .i64 0, .int .i64 0, .int .i64 0] 43 (0, 0)) (by (with_reducible repeat (first | refine blk_drewN ?_ _ | refine blk_drew ?_ | refine blk_alloc ?_ _)); exact BK865.out) hb)
      have n5_ := Aside0.mk (below_step (by repeat (first | (with_reducible first | exact HB.out | apply below_alloc | apply pw_below_drewN | apply below_drew1 | refine below_set ?_ GE863.out | refine below_set ?_ GE864.out | refine below_set ?_ GE865.out) | exact HB.out)) hb)
      clear HO868
      clear HO877
      clear BK863
      clear BK864
      clear BK865
      clear HB
      have HO868 := n0_
      have HO877 := n1_
      have BK863 := n2_
      have BK864 := n3_
      have BK865 := n4_
      have HB := n5_
      clear n0_ n1_ n2_ n3_ n4_ n5_
      (try clear hb)
      (try clear hb2)
      (try clear hk)
      (try clear hi)
      refine hK.out _ _ ⟨(blk_cell BK863.out 0).trans rfl, (blk_cell BK863.out 1).trans rfl, (blk_cell BK863.out 2).trans rfl, (blk_cell BK863.out 3).trans rfl, HS4_, HS5_, HS6_, HS7_⟩ (fun hHeld => ?_)
      clear hK K
      refine norm_ (a' := ?_) ?_ ?_
      rotate_left
      · show Act.put _ (some 19) _ = _
        simp only [Act.put, List.setIfInBounds_toArray, List.set_cons_zero, List.set_cons_succ, i64_w, i32_w]
        rfl
      refine one_ (i := 12) (N := none) #[true, true, true, true, true, true, true, true, true, true, true, true, true] rfl rfl (one_of HT_.out (by kernel_rfl)) (by decide) (fun K hK => ?_)
      have hs24 : w23.cell? ⟨gb865, 0, none⟩ = some (.int .i64 0) := (blk_cell BK865.out 0).trans rfl
      have hfs24 := blk_frozen BK865.out 0
      have hns24_0 := NB863_865.out
      have hns24_1 := NB864_865.out
      have hms24_0 := NB865_863.out
      have hms24_1 := NB865_864.out
      have hs25 : w23.cell? ⟨gb865, 1, none⟩ = some (.int .i64 0) := (blk_cell BK865.out 1).trans rfl
      have hfs25 := blk_frozen BK865.out 1
      have hns25_0 := NB863_865.out
      have hns25_1 := NB864_865.out
      have hms25_0 := NB865_863.out
      have hms25_1 := NB865_864.out
      have hs26 : w23.cell? ⟨gb865, 2, none⟩ = some (.int .i64 0) := (blk_cell BK865.out 2).trans rfl
      have hfs26 := blk_frozen BK865.out 2
      have hns26_0 := NB863_865.out
      have hns26_1 := NB864_865.out
      have hms26_0 := NB865_863.out
      have hms26_1 := NB865_864.out
      refine skip_ (w1 := ?_) (by rfl) rfl ?_ ?_
      rotate_left
      · go_simp
        rfl
      refine hK.out _ _ ⟨((cell_far (p := ⟨gb865, _, none⟩) NB863_865.out _).trans (((cell_far (p := ⟨gb865, _, none⟩) NB863_865.out _).trans (((cell_far (p := ⟨gb865, _, none⟩) NB863_865.out _).trans (hHeld.1)))))), ((cell_far (p := ⟨gb865, _, none⟩) NB863_865.out _).trans (((cell_far (p := ⟨gb865, _, none⟩) NB863_865.out _).trans (((cell_far (p := ⟨gb865, _, none⟩) NB863_865.out _).trans (hHeld.2.1)))))), ((cell_far (p := ⟨gb865, _, none⟩) NB863_865.out _).trans (((cell_far (p := ⟨gb865, _, none⟩) NB863_865.out _).trans (((cell_far (p := ⟨gb865, _, none⟩) NB863_865.out _).trans (hHeld.2.2.1)))))), ((cell_far (p := ⟨gb865, _, none⟩) NB863_865.out _).trans (((cell_far (p := ⟨gb865, _, none⟩) NB863_865.out _).trans (((cell_far (p := ⟨gb865, _, none⟩) NB863_865.out _).trans (hHeld.2.2.2.1)))))), ((cell_far (p := ⟨gb865, _, none⟩) (by first | exact Kd.own_blk (Kd.R_ne HO868.out BK865.out (by decide)) | (rw [add_block]; exact Kd.own_blk (Kd.R_ne HO868.out BK865.out (by decide))) | (show (Addr.add _ _).block ≠ _; rw [add_block]; exact Kd.own_blk (Kd.R_ne HO868.out BK865.out (by decide))) | (dsimp only; exact Kd.own_blk (Kd.R_ne HO868.out BK865.out (by decide)))) _).trans (((cell_far (p := ⟨gb865, _, none⟩) (by first | exact Kd.own_blk (Kd.R_ne HO868.out BK865.out (by decide)) | (rw [add_block]; exact Kd.own_blk (Kd.R_ne HO868.out BK865.out (by decide))) | (show (Addr.add _ _).block ≠ _; rw [add_block]; exact Kd.own_blk (Kd.R_ne HO868.out BK865.out (by decide))) | (dsimp only; exact Kd.own_blk (Kd.R_ne HO868.out BK865.out (by decide)))) _).trans (((cell_far (p := ⟨gb865, _, none⟩) (by first | exact Kd.own_blk (Kd.R_ne HO868.out BK865.out (by decide)) | (rw [add_block]; exact Kd.own_blk (Kd.R_ne HO868.out BK865.out (by decide))) | (show (Addr.add _ _).block ≠ _; rw [add_block]; exact Kd.own_blk (Kd.R_ne HO868.out BK865.out (by decide))) | (dsimp only; exact Kd.own_blk (Kd.R_ne HO868.out BK865.out (by decide)))) _).trans (hHeld.2.2.2.2.1)))))), ((cell_far (p := ⟨gb865, _, none⟩) (by first | exact Kd.own_blk (Kd.R_ne HO868.out BK865.out (by decide)) | (rw [add_block]; exact Kd.own_blk (Kd.R_ne HO868.out BK865.out (by decide))) | (show (Addr.add _ _).block ≠ _; rw [add_block]; exact Kd.own_blk (Kd.R_ne HO868.out BK865.out (by decide))) | (dsimp only; exact Kd.own_blk (Kd.R_ne HO868.out BK865.out (by decide)))) _).trans (((cell_far (p := ⟨gb865, _, none⟩) (by first | exact Kd.own_blk (Kd.R_ne HO868.out BK865.out (by decide)) | (rw [add_block]; exact Kd.own_blk (Kd.R_ne HO868.out BK865.out (by decide))) | (show (Addr.add _ _).block ≠ _; rw [add_block]; exact Kd.own_blk (Kd.R_ne HO868.out BK865.out (by decide))) | (dsimp only; exact Kd.own_blk (Kd.R_ne HO868.out BK865.out (by decide)))) _).trans (((cell_far (p := ⟨gb865, _, none⟩) (by first | exact Kd.own_blk (Kd.R_ne HO868.out BK865.out (by decide)) | (rw [add_block]; exact Kd.own_blk (Kd.R_ne HO868.out BK865.out (by decide))) | (show (Addr.add _ _).block ≠ _; rw [add_block]; exact Kd.own_blk (Kd.R_ne HO868.out BK865.out (by decide))) | (dsimp only; exact Kd.own_blk (Kd.R_ne HO868.out BK865.out (by decide)))) _).trans (hHeld.2.2.2.2.2.1)))))), ((cell_far (p := ⟨gb865, _, none⟩) (by first | exact Kd.own_blk (Kd.R_ne HO868.out BK865.out (by decide)) | (rw [add_block]; exact Kd.own_blk (Kd.R_ne HO868.out BK865.out (by decide))) | (show (Addr.add _ _).block ≠ _; rw [add_block]; exact Kd.own_blk (Kd.R_ne HO868.out BK865.out (by decide))) | (dsimp only; exact Kd.own_blk (Kd.R_ne HO868.out BK865.out (by decide)))) _).trans (((cell_far (p := ⟨gb865, _, none⟩) (by first | exact Kd.own_blk (Kd.R_ne HO868.out BK865.out (by decide)) | (rw [add_block]; exact Kd.own_blk (Kd.R_ne HO868.out BK865.out (by decide))) | (show (Addr.add _ _).block ≠ _; rw [add_block]; exact Kd.own_blk (Kd.R_ne HO868.out BK865.out (by decide))) | (dsimp only; exact Kd.own_blk (Kd.R_ne HO868.out BK865.out (by decide)))) _).trans (((cell_far (p := ⟨gb865, _, none⟩) (by first | exact Kd.own_blk (Kd.R_ne HO868.out BK865.out (by decide)) | (rw [add_block]; exact Kd.own_blk (Kd.R_ne HO868.out BK865.out (by decide))) | (show (Addr.add _ _).block ≠ _; rw [add_block]; exact Kd.own_blk (Kd.R_ne HO868.out BK865.out (by decide))) | (dsimp only; exact Kd.own_blk (Kd.R_ne HO868.out BK865.out (by decide)))) _).trans (hHeld.2.2.2.2.2.2.1)))))), ((cell_far (p := ⟨gb865, _, none⟩) (by first | exact Kd.own_blk (Kd.R_ne HO868.out BK865.out (by decide)) | (rw [add_block]; exact Kd.own_blk (Kd.R_ne HO868.out BK865.out (by decide))) | (show (Addr.add _ _).block ≠ _; rw [add_block]; exact Kd.own_blk (Kd.R_ne HO868.out BK865.out (by decide))) | (dsimp only; exact Kd.own_blk (Kd.R_ne HO868.out BK865.out (by decide)))) _).trans (((cell_far (p := ⟨gb865, _, none⟩) (by first | exact Kd.own_blk (Kd.R_ne HO868.out BK865.out (by decide)) | (rw [add_block]; exact Kd.own_blk (Kd.R_ne HO868.out BK865.out (by decide))) | (show (Addr.add _ _).block ≠ _; rw [add_block]; exact Kd.own_blk (Kd.R_ne HO868.out BK865.out (by decide))) | (dsimp only; exact Kd.own_blk (Kd.R_ne HO868.out BK865.out (by decide)))) _).trans (((cell_far (p := ⟨gb865, _, none⟩) (by first | exact Kd.own_blk (Kd.R_ne HO868.out BK865.out (by decide)) | (rw [add_block]; exact Kd.own_blk (Kd.R_ne HO868.out BK865.out (by decide))) | (show (Addr.add _ _).block ≠ _; rw [add_block]; exact Kd.own_blk (Kd.R_ne HO868.out BK865.out (by decide))) | (dsimp only; exact Kd.own_blk (Kd.R_ne HO868.out BK865.out (by decide)))) _).trans (hHeld.2.2.2.2.2.2.2))))))⟩ (fun hHeld => ?_)
      clear hK K
      refine done_ (done_of HT_.out (by kernel_rfl)) ?_
      try go_wp2
      refine bodyPost_ret (results_cell_row rfl _ _ gb865 43 #[.int .i64 t878, .int .i64 t879, .int .i64 t880] (0, 0) _ rfl (by (with_reducible repeat (first | refine blk_drewN ?_ _ | refine blk_drew ?_ | refine blk_alloc ?_ _)); refine blk_put (cs := #[.int .i64 t878, .int .i64 t879, .int .i64 0]) ?_ 2 _ rfl; (with_reducible repeat (first | refine blk_drewN ?_ _ | refine blk_drew ?_ | refine blk_alloc ?_ _)); refine blk_put (cs := #[.int .i64 t878, .int .i64 0, .int .i64 0]) ?_ 1 _ rfl; (with_reducible repeat (first | refine blk_drewN ?_ _ | refine blk_drew ?_ | refine blk_alloc ?_ _)); refine blk_put (cs := #[.int .i64 0, .int .i64 0, .int .i64 0]) ?_ 0 _ rfl; (with_reducible repeat (first | refine blk_drewN ?_ _ | refine blk_drew ?_ | refine blk_alloc ?_ _)); exact BK865.out) Try.underlying43 rfl (by kernel_rfl)) rfl ?_
      exact ⟨by first | rfl | (simp [errW_none, errW_some] <;> rfl) | (simp [*, errW_none, errW_some] <;> rfl), by repeat (first | (with_reducible first | exact HB.out | apply below_alloc | apply pw_below_drewN | apply below_drew1 | refine below_set ?_ GE863.out | refine below_set ?_ GE864.out | refine below_set ?_ GE865.out) | exact HB.out)⟩
    · rw [if_neg c6] at H
      exact absurd H (by simp)
  · rw [if_neg c4] at H
    exact absurd H (by simp)

/-! ### spec_MapLattice: function 37 -/
mutual
def spec_MapLattice.j0 : Nat → Int → Bool → Int → Int → Int → Int → Int → Int → Int → Option (Int × Int × Int × Int)
  | 0, _, _, _, _, _, _, _, _, _ => none
  | k + 1, x8, x19, x882000, x882001, x882002, x882003, x883000, x883001, x883002 => if x19 = true then (spec_MapLattice.j1 k 2 x882000 x882001 x882002 x882003 x883000 x883001 x883002) else (spec_MapLattice.j1 k x8 x882000 x882001 x882002 x882003 x883000 x883001 x883002)
def spec_MapLattice.j1 : Nat → Int → Int → Int → Int → Int → Int → Int → Int → Option (Int × Int × Int × Int)
  | 0, _, _, _, _, _, _, _, _ => none
  | k + 1, x8, x882000, x882001, x882002, x882003, x883000, x883001, x883002 => if x8 = 0 then ((spec_l04Image.f k x882000 x882001 x882002 x882003 x883000 x883001 x883002).bind fun bt886 => ((spec_l03Result.f bt886.1 bt886.2.1 bt886.2.2).bind fun bt889 => (some (bt889.1, bt889.2.1, bt889.2.2.1, bt889.2.2.2)))) else (some (0, 0, 0, x8))
end
def spec_MapLattice.f (k : Nat) (a0 : Int) (a1_0 : Int) (a1_1 : Int) (a1_2 : Int) (a1_3 : Int) (a2_0 : Int) (a2_1 : Int) (a2_2 : Int) : Option (Int × Int × Int × Int) := (spec_l04Code.f a0 a2_0 a2_1 a2_2).bind fun t884 => (if t884 = 0 then ((spec_IsPointMat.f a0 a1_0 a1_1 a1_2 a1_3).bind fun t885 => (spec_MapLattice.j0 k t884 (!t885) a1_0 a1_1 a1_2 a1_3 a2_0 a2_1 a2_2)) else (spec_MapLattice.j0 k t884 false a1_0 a1_1 a1_2 a1_3 a2_0 a2_1 a2_2))
theorem spec_MapLattice.mono_l : ∀ k, (∀ y0 y1 y2 y3 y4 y5 y6 y7 y8, LeO (spec_MapLattice.j0 k y0 y1 y2 y3 y4 y5 y6 y7 y8) (spec_MapLattice.j0 (k + 1) y0 y1 y2 y3 y4 y5 y6 y7 y8)) ∧ (∀ y0 y1 y2 y3 y4 y5 y6 y7, LeO (spec_MapLattice.j1 k y0 y1 y2 y3 y4 y5 y6 y7) (spec_MapLattice.j1 (k + 1) y0 y1 y2 y3 y4 y5 y6 y7))
  | 0 => ⟨fun _ _ _ _ _ _ _ _ _ r h => by simp [spec_MapLattice.j0] at h, fun _ _ _ _ _ _ _ _ r h => by simp [spec_MapLattice.j1] at h⟩
  | k + 1 => by
    obtain ⟨ih0, ih1⟩ := spec_MapLattice.mono_l k
    refine ⟨?_, ?_⟩
    · intro y0 y1 y2 y3 y4 y5 y6 y7 y8
      unfold spec_MapLattice.j0
      repeat' first
      | (with_reducible exact ih0 _ _ _ _ _ _ _ _ _)
      | (with_reducible exact ih1 _ _ _ _ _ _ _ _)
      | (with_reducible exact spec_l04Image.mono _ _ _ _ _ _ _ _)
      | (with_reducible exact LeO.refl _)
      | (with_reducible exact LeO.none _)
      | (with_reducible refine LeO.ite ?_ ?_)
      | (with_reducible refine LeO.bind ?_ (fun _ => ?_))
      | exact ih0 _ _ _ _ _ _ _ _ _
      | exact ih1 _ _ _ _ _ _ _ _
      | exact spec_l04Image.mono _ _ _ _ _ _ _ _
      | exact LeO.none _
      | refine LeO.ite ?_ ?_
      | refine LeO.bind ?_ (fun _ => ?_)
    · intro y0 y1 y2 y3 y4 y5 y6 y7
      unfold spec_MapLattice.j1
      repeat' first
      | (with_reducible exact ih0 _ _ _ _ _ _ _ _ _)
      | (with_reducible exact ih1 _ _ _ _ _ _ _ _)
      | (with_reducible exact spec_l04Image.mono _ _ _ _ _ _ _ _)
      | (with_reducible exact LeO.refl _)
      | (with_reducible exact LeO.none _)
      | (with_reducible refine LeO.ite ?_ ?_)
      | (with_reducible refine LeO.bind ?_ (fun _ => ?_))
      | exact ih0 _ _ _ _ _ _ _ _ _
      | exact ih1 _ _ _ _ _ _ _ _
      | exact spec_l04Image.mono _ _ _ _ _ _ _ _
      | exact LeO.none _
      | refine LeO.ite ?_ ?_
      | refine LeO.bind ?_ (fun _ => ?_)
theorem spec_MapLattice.mono : ∀ a0 a1 a2 a3 a4 a5 a6 a7 k, LeO (spec_MapLattice.f k a0 a1 a2 a3 a4 a5 a6 a7) (spec_MapLattice.f (k + 1) a0 a1 a2 a3 a4 a5 a6 a7) := by
  intro a0 a1 a2 a3 a4 a5 a6 a7 k
  obtain ⟨ih0, ih1⟩ := spec_MapLattice.mono_l k
  unfold spec_MapLattice.f
  repeat' first
      | (with_reducible exact ih0 _ _ _ _ _ _ _ _ _)
      | (with_reducible exact ih1 _ _ _ _ _ _ _ _)
      | (with_reducible exact spec_l04Image.mono _ _ _ _ _ _ _ _)
      | (with_reducible exact LeO.refl _)
      | (with_reducible exact LeO.none _)
      | (with_reducible refine LeO.ite ?_ ?_)
      | (with_reducible refine LeO.bind ?_ (fun _ => ?_))
      | exact ih0 _ _ _ _ _ _ _ _ _
      | exact ih1 _ _ _ _ _ _ _ _
      | exact spec_l04Image.mono _ _ _ _ _ _ _ _
      | exact LeO.none _
      | refine LeO.ite ?_ ?_
      | refine LeO.bind ?_ (fun _ => ?_)
set_option maxHeartbeats 8000000 in
set_option maxRecDepth 100000 in
theorem spec_MapLattice.calls (k : Nat) (a0 : Int) (a1_0 : Int) (a1_1 : Int) (a1_2 : Int) (a1_3 : Int) (a2_0 : Int) (a2_1 : Int) (a2_2 : Int) (r1 : Int) (r2 : Int) (r3 : Int) (r4 : Int) (w : World) (h : spec_MapLattice.f k a0 a1_0 a1_1 a1_2 a1_3 a2_0 a2_1 a2_2 = some (r1, r2, r3, r4)) :
    Calls Try.prog 37 #[.int .i64 a0, .agg #[.int .i64 a1_0, .int .i64 a1_1, .int .i64 a1_2, .int .i64 a1_3], .agg #[.int .i64 a2_0, .int .i64 a2_1, .int .i64 a2_2]] w fun e w' => e = .returned (.tuple #[.agg #[.int .i64 r1, .int .i64 r2, .int .i64 r3], .int .i64 r4]) ∧ Below w.heap.size w w' := by
  have hu31 := Try.underlying31
  have hu43 := Try.underlying43
  have HB := Aside0.mk (Below.refl w.heap.size w)
  have H : ((spec_l04Code.f a0 a2_0 a2_1 a2_2).bind fun t884 => (if t884 = 0 then ((spec_IsPointMat.f a0 a1_0 a1_1 a1_2 a1_3).bind fun t885 => (spec_MapLattice.j0 k t884 (!t885) a1_0 a1_1 a1_2 a1_3 a2_0 a2_1 a2_2)) else (spec_MapLattice.j0 k t884 false a1_0 a1_1 a1_2 a1_3 a2_0 a2_1 a2_2))) = some (r1, r2, r3, r4) := h
  clear h
  replace H := Option.bind_eq_some_iff.mp H
  obtain ⟨t884, A40, H⟩ := H
  replace H : (if t884 = 0 then ((spec_IsPointMat.f a0 a1_0 a1_1 a1_2 a1_3).bind fun t885 => (spec_MapLattice.j0 k t884 (!t885) a1_0 a1_1 a1_2 a1_3 a2_0 a2_1 a2_2)) else (spec_MapLattice.j0 k t884 false a1_0 a1_1 a1_2 a1_3 a2_0 a2_1 a2_2)) = some (r1, r2, r3, r4) := H
  have A4 := Aside0.mk A40
  clear A40
  have HC5 := Aside0.mk H
  clear H
  go_enter Try.func37, Try.ntmps37
  go_upto_region 2 with (first | ((with_reducible refine gate_dst (N := 4) rfl ?_); refine box_event ?hg (N := 4) ?hd (cs := #[.int .i64 a1_0, .int .i64 a1_1, .int .i64 a1_2, .int .i64 a1_3]) (t := 31) ?hr ?_; (case hd => rfl); (case hg => rfl); (case hr => first | (go_simp; done) | (go_simp; rfl)); intro gb881 hg w6 hbox hb; have n0_ := Aside0.mk (below_step (by repeat (first | (with_reducible first | exact HB.out | apply below_alloc | apply pw_below_drewN | apply below_drew1) | exact HB.out)) hb); have n1_ := Aside0.mk (hbox); have n2_ := Aside0.mk ((by rw [hg]; exact (below_size (by repeat (first | (with_reducible first | exact HB.out | apply below_alloc | apply pw_below_drewN | apply below_drew1) | exact HB.out))) : w.heap.size ≤ gb881)); have n3_ := Aside0.mk ((by rw [hg]; exact (below_size (by repeat (first | (with_reducible first | exact HB.out | apply below_alloc | apply pw_below_drewN | apply below_drew1) | exact HB.out))) : w.heap.size ≤ gb881)); clear HB; have HB := n0_; have BK881 := n1_; have GW881 := n2_; have GE881 := n3_; clear n0_ n1_ n2_ n3_; clear hb hbox hg) | ((with_reducible refine gate_dst (N := 5) rfl ?_); refine box_event ?hg (N := 5) ?hd (cs := #[.int .i64 a2_0, .int .i64 a2_1, .int .i64 a2_2]) (t := 43) ?hr ?_; (case hd => rfl); (case hg => rfl); (case hr => first | (go_simp; done) | (go_simp; rfl)); intro gb882 hg w7 hbox hb; have n0_ := Aside0.mk (blk_below (g := gb881) (o := .cells #[.int .i64 a1_0, .int .i64 a1_1, .int .i64 a1_2, .int .i64 a1_3] 31 (0, 0)) (by (with_reducible repeat (first | refine blk_drewN ?_ _ | refine blk_drew ?_ | refine blk_alloc ?_ _)); exact BK881.out) hb); have n1_ := Aside0.mk (below_step (by repeat (first | (with_reducible first | exact HB.out | apply below_alloc | apply pw_below_drewN | apply below_drew1 | refine below_set ?_ GE881.out) | exact HB.out)) hb); have n2_ := Aside0.mk (hbox); have n3_ := Aside0.mk ((by rw [hg]; exact (below_size (by repeat (first | (with_reducible first | exact HB.out | apply below_alloc | apply pw_below_drewN | apply below_drew1 | refine below_set ?_ GE881.out) | exact HB.out))) : w.heap.size ≤ gb882)); have n4_ := Aside0.mk ((by rw [hg]; exact (below_size (by repeat (first | (with_reducible first | exact HB.out | apply below_alloc | apply pw_below_drewN | apply below_drew1 | refine below_set ?_ GE881.out) | exact HB.out))) : w.heap.size ≤ gb882)); have n5_ := Aside0.mk ((by rw [hg]; exact Nat.ne_of_lt (blk_lt (g := gb881) (o := .cells #[.int .i64 a1_0, .int .i64 a1_1, .int .i64 a1_2, .int .i64 a1_3] 31 (0, 0)) (by (with_reducible repeat (first | refine blk_drewN ?_ _ | refine blk_drew ?_ | refine blk_alloc ?_ _)); exact BK881.out)) : gb881 ≠ gb882)); have n6_ := Aside0.mk ((by rw [hg]; exact Nat.ne_of_gt (blk_lt (g := gb881) (o := .cells #[.int .i64 a1_0, .int .i64 a1_1, .int .i64 a1_2, .int .i64 a1_3] 31 (0, 0)) (by (with_reducible repeat (first | refine blk_drewN ?_ _ | refine blk_drew ?_ | refine blk_alloc ?_ _)); exact BK881.out)) : gb882 ≠ gb881)); clear BK881; clear HB; have BK881 := n0_; have HB := n1_; have BK882 := n2_; have GW882 := n3_; have GE882 := n4_; have NB881_882 := n5_; have NB882_881 := n6_; clear n0_ n1_ n2_ n3_ n4_ n5_ n6_; clear hb hbox hg) | ((with_reducible refine gate_dst (N := 6) rfl ?_); refine box_event ?hg (N := 6) ?hd (cs := #[.int .i64 0, .int .i64 0, .int .i64 0]) (t := 43) ?hr ?_; (case hd => rfl); (case hg => rfl); (case hr => first | (go_simp; done) | (go_simp; rfl)); intro gb883 hg w8 hbox hb; have n0_ := Aside0.mk (blk_below (g := gb881) (o := .cells #[.int .i64 a1_0, .int .i64 a1_1, .int .i64 a1_2, .int .i64 a1_3] 31 (0, 0)) (by (with_reducible repeat (first | refine blk_drewN ?_ _ | refine blk_drew ?_ | refine blk_alloc ?_ _)); exact BK881.out) hb); have n1_ := Aside0.mk (blk_below (g := gb882) (o := .cells #[.int .i64 a2_0, .int .i64 a2_1, .int .i64 a2_2] 43 (0, 0)) (by (with_reducible repeat (first | refine blk_drewN ?_ _ | refine blk_drew ?_ | refine blk_alloc ?_ _)); exact BK882.out) hb); have n2_ := Aside0.mk (below_step (by repeat (first | (with_reducible first | exact HB.out | apply below_alloc | apply pw_below_drewN | apply below_drew1 | refine below_set ?_ GE881.out | refine below_set ?_ GE882.out) | exact HB.out)) hb); have n3_ := Aside0.mk (hbox); have n4_ := Aside0.mk ((by rw [hg]; exact (below_size (by repeat (first | (with_reducible first | exact HB.out | apply below_alloc | apply pw_below_drewN | apply below_drew1 | refine below_set ?_ GE881.out | refine below_set ?_ GE882.out) | exact HB.out))) : w.heap.size ≤ gb883)); have n5_ := Aside0.mk ((by rw [hg]; exact (below_size (by repeat (first | (with_reducible first | exact HB.out | apply below_alloc | apply pw_below_drewN | apply below_drew1 | refine below_set ?_ GE881.out | refine below_set ?_ GE882.out) | exact HB.out))) : w.heap.size ≤ gb883)); have n6_ := Aside0.mk ((by rw [hg]; exact Nat.ne_of_lt (blk_lt (g := gb881) (o := .cells #[.int .i64 a1_0, .int .i64 a1_1, .int .i64 a1_2, .int .i64 a1_3] 31 (0, 0)) (by (with_reducible repeat (first | refine blk_drewN ?_ _ | refine blk_drew ?_ | refine blk_alloc ?_ _)); exact BK881.out)) : gb881 ≠ gb883)); have n7_ := Aside0.mk ((by rw [hg]; exact Nat.ne_of_gt (blk_lt (g := gb881) (o := .cells #[.int .i64 a1_0, .int .i64 a1_1, .int .i64 a1_2, .int .i64 a1_3] 31 (0, 0)) (by (with_reducible repeat (first | refine blk_drewN ?_ _ | refine blk_drew ?_ | refine blk_alloc ?_ _)); exact BK881.out)) : gb883 ≠ gb881)); have n8_ := Aside0.mk ((by rw [hg]; exact Nat.ne_of_lt (blk_lt (g := gb882) (o := .cells #[.int .i64 a2_0, .int .i64 a2_1, .int .i64 a2_2] 43 (0, 0)) (by (with_reducible repeat (first | refine blk_drewN ?_ _ | refine blk_drew ?_ | refine blk_alloc ?_ _)); exact BK882.out)) : gb882 ≠ gb883)); have n9_ := Aside0.mk ((by rw [hg]; exact Nat.ne_of_gt (blk_lt (g := gb882) (o := .cells #[.int .i64 a2_0, .int .i64 a2_1, .int .i64 a2_2] 43 (0, 0)) (by (with_reducible repeat (first | refine blk_drewN ?_ _ | refine blk_drew ?_ | refine blk_alloc ?_ _)); exact BK882.out)) : gb883 ≠ gb882)); clear BK881; clear BK882; clear HB; have BK881 := n0_; have BK882 := n1_; have HB := n2_; have BK883 := n3_; have GW883 := n4_; have GE883 := n5_; have NB881_883 := n6_; have NB883_881 := n7_; have NB882_883 := n8_; have NB883_882 := n9_; clear n0_ n1_ n2_ n3_ n4_ n5_ n6_ n7_ n8_ n9_; clear hb hbox hg; have hnb9 := NB882_881.out; have hnc9 := NB881_882.out; have hnb10 := NB882_883.out; have hnc10 := NB883_882.out; have hcz11_0 : w8.cell? ⟨gb882, 0, none⟩ = some (.int .i64 a2_0) := (blk_cell BK882.out 0).trans rfl; have hcz11_1 : w8.cell? ⟨gb882, 1, none⟩ = some (.int .i64 a2_1) := (blk_cell BK882.out 1).trans rfl; have hcz11_2 : w8.cell? ⟨gb882, 2, none⟩ = some (.int .i64 a2_2) := (blk_cell BK882.out 2).trans rfl; have hfz11_0 := blk_frozen BK882.out 0; have hfz11_1 := blk_frozen BK882.out 1; have hfz11_2 := blk_frozen BK882.out 2) | ((with_reducible refine gate_callee (f := 58) rfl ?_); refine goesL_ (some 11) rfl rfl Try.func58 (by kernel_rfl) rfl #[.int .i64 a0, .agg #[.int .i64 a2_0, .int .i64 a2_1, .int .i64 a2_2]] rfl (by (try simp only [List.map_toArray, List.map_cons, List.map_nil]); first | done | rfl | (simp only [List.length_drop, List.length_take]; rfl)) ?_; (with_reducible refine (spec_l04Code.calls a0 a2_0 a2_1 a2_2 t884 _ A4.out).mono ?_); rintro e w12 ⟨rfl, hb⟩; refine ⟨_, rfl, ?_⟩; have n0_ := Aside0.mk (blk_below (g := gb881) (o := .cells #[.int .i64 a1_0, .int .i64 a1_1, .int .i64 a1_2, .int .i64 a1_3] 31 (0, 0)) (by (with_reducible repeat (first | refine blk_drewN ?_ _ | refine blk_drew ?_ | refine blk_alloc ?_ _)); exact BK881.out) hb); have n1_ := Aside0.mk (blk_below (g := gb882) (o := .cells #[.int .i64 a2_0, .int .i64 a2_1, .int .i64 a2_2] 43 (0, 0)) (by (with_reducible repeat (first | refine blk_drewN ?_ _ | refine blk_drew ?_ | refine blk_alloc ?_ _)); exact BK882.out) hb); have n2_ := Aside0.mk (blk_below (g := gb883) (o := .cells #[.int .i64 0, .int .i64 0, .int .i64 0] 43 (0, 0)) (by (with_reducible repeat (first | refine blk_drewN ?_ _ | refine blk_drew ?_ | refine blk_alloc ?_ _)); exact BK883.out) hb); have n3_ := Aside0.mk (below_step (by repeat (first | (with_reducible first | exact HB.out | apply below_alloc | apply pw_below_drewN | apply below_drew1 | refine below_set ?_ GE881.out | refine below_set ?_ GE882.out | refine below_set ?_ GE883.out) | exact HB.out)) hb); clear BK881; clear BK882; clear BK883; clear HB; have BK881 := n0_; have BK882 := n1_; have BK883 := n2_; have HB := n3_; clear n0_ n1_ n2_ n3_; (try clear hb); (try clear hb2); (try clear hk); (try clear hi)))
  (try simp only [Act.put, List.setIfInBounds_toArray, List.set_cons_zero, List.set_cons_succ])
  go_cut [19] (fun v19 wc => ∃ (kq : Nat) (x19_4 : Bool), v19 = .bool x19_4 ∧ Aside0 (spec_MapLattice.j0 kq t884 x19_4 a1_0 a1_1 a1_2 a1_3 a2_0 a2_1 a2_2 = some (r1, r2, r3, r4)) ∧ Aside0 (kq ≤ k) ∧ Aside0 (wc.heap[gb881]? = some (.cells #[.int .i64 a1_0, .int .i64 a1_1, .int .i64 a1_2, .int .i64 a1_3] 31 (0, 0))) ∧ Aside0 (wc.heap[gb882]? = some (.cells #[.int .i64 a2_0, .int .i64 a2_1, .int .i64 a2_2] 43 (0, 0))) ∧ Aside0 (wc.heap[gb883]? = some (.cells #[.int .i64 0, .int .i64 0, .int .i64 0] 43 (0, 0))) ∧ Aside0 (Below w.heap.size w wc))
  case first =>
    have H := HC5.out
    clear HC5
    by_cases c13 : t884 = 0
    · rw [if_pos c13] at H
      have c13b0 : (t884 == 0) = true := beq_iff_eq.mpr c13
      have c13b1 : (t884 != 0) = false := bne_eq_false_iff_eq.mpr c13
      clear c13
      (first | rw [c13b0] | (simp only [i64_w, i32_w]; rw [c13b0]) | skip)
      replace H := Option.bind_eq_some_iff.mp H
      obtain ⟨t885, A140, H⟩ := H
      replace H : (spec_MapLattice.j0 k t884 (!t885) a1_0 a1_1 a1_2 a1_3 a2_0 a2_1 a2_2) = some (r1, r2, r3, r4) := H
      have A14 := Aside0.mk A140
      clear A140
      have H' := Aside0.mk H
      clear H
      have hnb15 := NB881_882.out
      have hnc15 := NB882_881.out
      have hnb16 := NB881_883.out
      have hnc16 := NB883_881.out
      have hcz17_0 : w12.cell? ⟨gb881, 0, none⟩ = some (.int .i64 a1_0) := (blk_cell BK881.out 0).trans rfl
      have hcz17_1 : w12.cell? ⟨gb881, 1, none⟩ = some (.int .i64 a1_1) := (blk_cell BK881.out 1).trans rfl
      have hcz17_2 : w12.cell? ⟨gb881, 2, none⟩ = some (.int .i64 a1_2) := (blk_cell BK881.out 2).trans rfl
      have hcz17_3 : w12.cell? ⟨gb881, 3, none⟩ = some (.int .i64 a1_3) := (blk_cell BK881.out 3).trans rfl
      have hfz17_0 := blk_frozen BK881.out 0
      have hfz17_1 := blk_frozen BK881.out 1
      have hfz17_2 := blk_frozen BK881.out 2
      have hfz17_3 := blk_frozen BK881.out 3
      go_wp2_with (first | (go_at_call 86; (with_reducible refine (spec_IsPointMat.calls a0 a1_0 a1_1 a1_2 a1_3 t885 _ A14.out).mono ?_); rintro e w18 ⟨rfl, hb⟩; have n0_ := Aside0.mk (blk_below (g := gb881) (o := .cells #[.int .i64 a1_0, .int .i64 a1_1, .int .i64 a1_2, .int .i64 a1_3] 31 (0, 0)) (by (with_reducible repeat (first | refine blk_drewN ?_ _ | refine blk_drew ?_ | refine blk_alloc ?_ _)); exact BK881.out) hb); have n1_ := Aside0.mk (blk_below (g := gb882) (o := .cells #[.int .i64 a2_0, .int .i64 a2_1, .int .i64 a2_2] 43 (0, 0)) (by (with_reducible repeat (first | refine blk_drewN ?_ _ | refine blk_drew ?_ | refine blk_alloc ?_ _)); exact BK882.out) hb); have n2_ := Aside0.mk (blk_below (g := gb883) (o := .cells #[.int .i64 0, .int .i64 0, .int .i64 0] 43 (0, 0)) (by (with_reducible repeat (first | refine blk_drewN ?_ _ | refine blk_drew ?_ | refine blk_alloc ?_ _)); exact BK883.out) hb); have n3_ := Aside0.mk (below_step (by repeat (first | (with_reducible first | exact HB.out | apply below_alloc | apply pw_below_drewN | apply below_drew1 | refine below_set ?_ GE881.out | refine below_set ?_ GE882.out | refine below_set ?_ GE883.out) | exact HB.out)) hb); clear BK881; clear BK882; clear BK883; clear HB; have BK881 := n0_; have BK882 := n1_; have BK883 := n2_; have HB := n3_; clear n0_ n1_ n2_ n3_; (try clear hb); (try clear hb2); (try clear hk); (try clear hi)))
      go_meet
      case rel => exact ⟨_, (!t885), (by first | rfl | (simp; done) | (simp [*]; done)), H', ⟨by first | omega | exact Nat.le_refl _⟩, ⟨by (with_reducible repeat (first | refine blk_drewN ?_ _ | refine blk_drew ?_ | refine blk_alloc ?_ _)); exact BK881.out⟩, ⟨by (with_reducible repeat (first | refine blk_drewN ?_ _ | refine blk_drew ?_ | refine blk_alloc ?_ _)); exact BK882.out⟩, ⟨by (with_reducible repeat (first | refine blk_drewN ?_ _ | refine blk_drew ?_ | refine blk_alloc ?_ _)); exact BK883.out⟩, ⟨by repeat (first | (with_reducible first | exact HB.out | apply below_alloc | apply pw_below_drewN | apply below_drew1 | refine below_set ?_ GE881.out | refine below_set ?_ GE882.out | refine below_set ?_ GE883.out) | exact HB.out)⟩⟩
    · rw [if_neg c13] at H
      have c13b0 : (t884 == 0) = false := beq_eq_false_iff_ne.mpr c13
      have c13b1 : (t884 != 0) = true := bne_iff_ne.mpr c13
      (first | rw [c13b0] | (simp only [i64_w, i32_w]; rw [c13b0]) | skip)
      have H' := Aside0.mk H
      clear H
      go_wp2
      go_meet
      case rel => exact ⟨_, (false), (by first | rfl | (simp; done) | (simp [*]; done)), H', ⟨by first | omega | exact Nat.le_refl _⟩, ⟨by (with_reducible repeat (first | refine blk_drewN ?_ _ | refine blk_drew ?_ | refine blk_alloc ?_ _)); exact BK881.out⟩, ⟨by (with_reducible repeat (first | refine blk_drewN ?_ _ | refine blk_drew ?_ | refine blk_alloc ?_ _)); exact BK882.out⟩, ⟨by (with_reducible repeat (first | refine blk_drewN ?_ _ | refine blk_drew ?_ | refine blk_alloc ?_ _)); exact BK883.out⟩, ⟨by repeat (first | (with_reducible first | exact HB.out | apply below_alloc | apply pw_below_drewN | apply below_drew1 | refine below_set ?_ GE881.out | refine below_set ?_ GE882.out | refine below_set ?_ GE883.out) | exact HB.out)⟩⟩
  case rest =>
    clear HC5
    try clear c1
    try clear p2
    try clear c3
    try clear c5
    try clear c9
    try clear c10
    try clear c13
    try clear c13b0
    try clear c13b1
    try clear c15
    try clear c16
    try clear hcz11_0
    try clear hcz11_1
    try clear hcz11_2
    try clear hcz17_0
    try clear hcz17_1
    try clear hcz17_2
    try clear hcz17_3
    try clear hfz11_0
    try clear hfz11_1
    try clear hfz11_2
    try clear hfz17_0
    try clear hfz17_1
    try clear hfz17_2
    try clear hfz17_3
    obtain ⟨kq, x19_4, rfl, HA, HJ4, BK881, BK882, BK883, HB⟩ := hcut
    cases kq with
    | zero => exact absurd HA.out (by simp [spec_MapLattice.j0])
    | succ kj4 =>
      have H := HA.out
      clear HA
      simp only [spec_MapLattice.j0] at H
      have HC19 := Aside0.mk H
      clear H
      go_upto_if 19 with (fail)
      go_cut [8] (fun v8 wc => ∃ (kq : Nat) (x8_18 : Int), v8 = .int .i64 x8_18 ∧ Aside0 (spec_MapLattice.j1 kq x8_18 a1_0 a1_1 a1_2 a1_3 a2_0 a2_1 a2_2 = some (r1, r2, r3, r4)) ∧ Aside0 (kq ≤ kj4) ∧ Aside0 (wc.heap[gb881]? = some (.cells #[.int .i64 a1_0, .int .i64 a1_1, .int .i64 a1_2, .int .i64 a1_3] 31 (0, 0))) ∧ Aside0 (wc.heap[gb882]? = some (.cells #[.int .i64 a2_0, .int .i64 a2_1, .int .i64 a2_2] 43 (0, 0))) ∧ Aside0 (wc.heap[gb883]? = some (.cells #[.int .i64 0, .int .i64 0, .int .i64 0] 43 (0, 0))) ∧ Aside0 (Below w.heap.size w wc))
      case first =>
        have H := HC19.out
        clear HC19
        by_cases c20 : x19_4 = true
        · subst c20
          have H1 : (spec_MapLattice.j1 kj4 2 a1_0 a1_1 a1_2 a1_3 a2_0 a2_1 a2_2) = some (r1, r2, r3, r4) := by rw [if_pos rfl] at H; exact H
          clear H
          have H := H1
          clear H1
          have H' := Aside0.mk H
          clear H
          go_wp2
          go_meet
          case rel => exact ⟨_, (2), (by first | rfl | (simp; done) | (simp [*]; done)), H', ⟨by have := HJ4.out; first | omega | exact Nat.le_refl _⟩, ⟨by (with_reducible repeat (first | refine blk_drewN ?_ _ | refine blk_drew ?_ | refine blk_alloc ?_ _)); exact BK881.out⟩, ⟨by (with_reducible repeat (first | refine blk_drewN ?_ _ | refine blk_drew ?_ | refine blk_alloc ?_ _)); exact BK882.out⟩, ⟨by (with_reducible repeat (first | refine blk_drewN ?_ _ | refine blk_drew ?_ | refine blk_alloc ?_ _)); exact BK883.out⟩, ⟨by repeat (first | (with_reducible first | exact HB.out | apply below_alloc | apply pw_below_drewN | apply below_drew1 | refine below_set ?_ GE881.out | refine below_set ?_ GE882.out | refine below_set ?_ GE883.out) | exact HB.out)⟩⟩
        · replace c20 := Bool.eq_false_iff.mpr c20
          subst c20
          have H1 : (spec_MapLattice.j1 kj4 t884 a1_0 a1_1 a1_2 a1_3 a2_0 a2_1 a2_2) = some (r1, r2, r3, r4) := by rw [if_neg (show ¬ (false = true) by decide)] at H; exact H
          clear H
          have H := H1
          clear H1
          have H' := Aside0.mk H
          clear H
          go_wp2
          go_meet
          case rel => exact ⟨_, (t884), (by first | rfl | (simp; done) | (simp [*]; done)), H', ⟨by have := HJ4.out; first | omega | exact Nat.le_refl _⟩, ⟨by (with_reducible repeat (first | refine blk_drewN ?_ _ | refine blk_drew ?_ | refine blk_alloc ?_ _)); exact BK881.out⟩, ⟨by (with_reducible repeat (first | refine blk_drewN ?_ _ | refine blk_drew ?_ | refine blk_alloc ?_ _)); exact BK882.out⟩, ⟨by (with_reducible repeat (first | refine blk_drewN ?_ _ | refine blk_drew ?_ | refine blk_alloc ?_ _)); exact BK883.out⟩, ⟨by repeat (first | (with_reducible first | exact HB.out | apply below_alloc | apply pw_below_drewN | apply below_drew1 | refine below_set ?_ GE881.out | refine below_set ?_ GE882.out | refine below_set ?_ GE883.out) | exact HB.out)⟩⟩
      case rest =>
        clear HC19
        try clear c1
        try clear c2
        try clear p2
        try clear c3
        try clear c5
        try clear c9
        try clear c10
        try clear c13
        try clear c13b0
        try clear c13b1
        try clear c15
        try clear c16
        try clear c20
        try clear hcz11_0
        try clear hcz11_1
        try clear hcz11_2
        try clear hcz17_0
        try clear hcz17_1
        try clear hcz17_2
        try clear hcz17_3
        try clear hfz11_0
        try clear hfz11_1
        try clear hfz11_2
        try clear hfz17_0
        try clear hfz17_1
        try clear hfz17_2
        try clear hfz17_3
        try clear p2
        obtain ⟨kq, x8_18, rfl, HA, HJ18, BK881, BK882, BK883, HB⟩ := hcut
        cases kq with
        | zero => exact absurd HA.out (by simp [spec_MapLattice.j1])
        | succ kj18 =>
          have H := HA.out
          clear HA
          simp only [spec_MapLattice.j1] at H
          by_cases c21 : x8_18 = 0
          · rw [if_pos c21] at H
            have c21b0 : (x8_18 == 0) = true := beq_iff_eq.mpr c21
            have c21b1 : (x8_18 != 0) = false := bne_eq_false_iff_eq.mpr c21
            clear c21
            replace H := Option.bind_eq_some_iff.mp H
            obtain ⟨⟨t886, t887, t888⟩, A220, H⟩ := H
            replace H : ((spec_l03Result.f t886 t887 t888).bind fun bt889 => (some (bt889.1, bt889.2.1, bt889.2.2.1, bt889.2.2.2))) = some (r1, r2, r3, r4) := H
            have A22 := Aside0.mk A220
            clear A220
            replace H := Option.bind_eq_some_iff.mp H
            obtain ⟨⟨t889, t890, t891, t892⟩, A230, H⟩ := H
            replace H : (some (t889, t890, t891, t892)) = some (r1, r2, r3, r4) := H
            have A23 := Aside0.mk A230
            clear A230
            simp only [Option.some.injEq, Prod.mk.injEq] at H
            obtain ⟨rfl, rfl, rfl, rfl⟩ := H
            have hnb24 := NB881_882.out
            have hnc24 := NB882_881.out
            have hnb25 := NB881_883.out
            have hnc25 := NB883_881.out
            have hcz26_0 : wc.cell? ⟨gb881, 0, none⟩ = some (.int .i64 a1_0) := (blk_cell BK881.out 0).trans rfl
            have hcz26_1 : wc.cell? ⟨gb881, 1, none⟩ = some (.int .i64 a1_1) := (blk_cell BK881.out 1).trans rfl
            have hcz26_2 : wc.cell? ⟨gb881, 2, none⟩ = some (.int .i64 a1_2) := (blk_cell BK881.out 2).trans rfl
            have hcz26_3 : wc.cell? ⟨gb881, 3, none⟩ = some (.int .i64 a1_3) := (blk_cell BK881.out 3).trans rfl
            have hfz26_0 := blk_frozen BK881.out 0
            have hfz26_1 := blk_frozen BK881.out 1
            have hfz26_2 := blk_frozen BK881.out 2
            have hfz26_3 := blk_frozen BK881.out 3
            have hnb27 := NB882_883.out
            have hnc27 := NB883_882.out
            have hcz28_0 : wc.cell? ⟨gb882, 0, none⟩ = some (.int .i64 a2_0) := (blk_cell BK882.out 0).trans rfl
            have hcz28_1 : wc.cell? ⟨gb882, 1, none⟩ = some (.int .i64 a2_1) := (blk_cell BK882.out 1).trans rfl
            have hcz28_2 : wc.cell? ⟨gb882, 2, none⟩ = some (.int .i64 a2_2) := (blk_cell BK882.out 2).trans rfl
            have hfz28_0 := blk_frozen BK882.out 0
            have hfz28_1 := blk_frozen BK882.out 1
            have hfz28_2 := blk_frozen BK882.out 2
            go_wp2_with (first | ((with_reducible refine gate_callee (f := 88) rfl ?_); refine goesL_ (some 26) rfl rfl Try.func88 (by kernel_rfl) rfl #[.agg #[.int .i64 a1_0, .int .i64 a1_1, .int .i64 a1_2, .int .i64 a1_3], .agg #[.int .i64 a2_0, .int .i64 a2_1, .int .i64 a2_2]] rfl (by (try simp only [List.map_toArray, List.map_cons, List.map_nil]); first | done | rfl | (simp only [List.length_drop, List.length_take]; rfl)) ?_; (with_reducible refine (spec_l04Image.calls kj18 a1_0 a1_1 a1_2 a1_3 a2_0 a2_1 a2_2 t886 t887 t888 _ A22.out).mono ?_); rintro e w29 ⟨rfl, hb⟩; refine ⟨_, rfl, ?_⟩; have n0_ := Aside0.mk (blk_below (g := gb881) (o := .cells #[.int .i64 a1_0, .int .i64 a1_1, .int .i64 a1_2, .int .i64 a1_3] 31 (0, 0)) (by (with_reducible repeat (first | refine blk_drewN ?_ _ | refine blk_drew ?_ | refine blk_alloc ?_ _)); exact BK881.out) hb); have n1_ := Aside0.mk (blk_below (g := gb882) (o := .cells #[.int .i64 a2_0, .int .i64 a2_1, .int .i64 a2_2] 43 (0, 0)) (by (with_reducible repeat (first | refine blk_drewN ?_ _ | refine blk_drew ?_ | refine blk_alloc ?_ _)); exact BK882.out) hb); have n2_ := Aside0.mk (blk_below (g := gb883) (o := .cells #[.int .i64 0, .int .i64 0, .int .i64 0] 43 (0, 0)) (by (with_reducible repeat (first | refine blk_drewN ?_ _ | refine blk_drew ?_ | refine blk_alloc ?_ _)); exact BK883.out) hb); have n3_ := Aside0.mk (below_step (by repeat (first | (with_reducible first | exact HB.out | apply below_alloc | apply pw_below_drewN | apply below_drew1 | refine below_set ?_ GE881.out | refine below_set ?_ GE882.out | refine below_set ?_ GE883.out) | exact HB.out)) hb); clear BK881; clear BK882; clear BK883; clear HB; have BK881 := n0_; have BK882 := n1_; have BK883 := n2_; have HB := n3_; clear n0_ n1_ n2_ n3_; (try clear hb); (try clear hb2); (try clear hk); (try clear hi)) | ((with_reducible refine gate_callee (f := 87) rfl ?_); refine goesL_ (some 27) rfl rfl Try.func87 (by kernel_rfl) rfl #[.agg #[.int .i64 t886, .int .i64 t887, .int .i64 t888]] rfl (by (try simp only [List.map_toArray, List.map_cons, List.map_nil]); first | done | rfl | (simp only [List.length_drop, List.length_take]; rfl)) ?_; (with_reducible refine (spec_l03Result.calls t886 t887 t888 t889 t890 t891 t892 _ A23.out).mono ?_); rintro e w30 ⟨rfl, hb⟩; refine ⟨_, rfl, ?_⟩; have n0_ := Aside0.mk (blk_below (g := gb881) (o := .cells #[.int .i64 a1_0, .int .i64 a1_1, .int .i64 a1_2, .int .i64 a1_3] 31 (0, 0)) (by (with_reducible repeat (first | refine blk_drewN ?_ _ | refine blk_drew ?_ | refine blk_alloc ?_ _)); exact BK881.out) hb); have n1_ := Aside0.mk (blk_below (g := gb882) (o := .cells #[.int .i64 a2_0, .int .i64 a2_1, .int .i64 a2_2] 43 (0, 0)) (by (with_reducible repeat (first | refine blk_drewN ?_ _ | refine blk_drew ?_ | refine blk_alloc ?_ _)); exact BK882.out) hb); have n2_ := Aside0.mk (blk_below (g := gb883) (o := .cells #[.int .i64 0, .int .i64 0, .int .i64 0] 43 (0, 0)) (by (with_reducible repeat (first | refine blk_drewN ?_ _ | refine blk_drew ?_ | refine blk_alloc ?_ _)); exact BK883.out) hb); have n3_ := Aside0.mk (below_step (by repeat (first | (with_reducible first | exact HB.out | apply below_alloc | apply pw_below_drewN | apply below_drew1 | refine below_set ?_ GE881.out | refine below_set ?_ GE882.out | refine below_set ?_ GE883.out) | exact HB.out)) hb); clear BK881; clear BK882; clear BK883; clear HB; have BK881 := n0_; have BK882 := n1_; have BK883 := n2_; have HB := n3_; clear n0_ n1_ n2_ n3_; (try clear hb); (try clear hb2); (try clear hk); (try clear hi); have hcz31_0 : w30.cell? ⟨gb883, 0, none⟩ = some (.int .i64 0) := (blk_cell BK883.out 0).trans rfl; have hcz31_1 : w30.cell? ⟨gb883, 1, none⟩ = some (.int .i64 0) := (blk_cell BK883.out 1).trans rfl; have hcz31_2 : w30.cell? ⟨gb883, 2, none⟩ = some (.int .i64 0) := (blk_cell BK883.out 2).trans rfl; have hfz31_0 := blk_frozen BK883.out 0; have hfz31_1 := blk_frozen BK883.out 1; have hfz31_2 := blk_frozen BK883.out 2))
            refine bodyPost_ret (results_ct rfl _ _ gb883 43 #[.int .i64 t889, .int .i64 t890, .int .i64 t891] (0, 0) _ rfl (by (with_reducible repeat (first | refine blk_drewN ?_ _ | refine blk_drew ?_ | refine blk_alloc ?_ _)); refine blk_put (cs := #[.int .i64 t889, .int .i64 t890, .int .i64 0]) ?_ 2 _ rfl; (with_reducible repeat (first | refine blk_drewN ?_ _ | refine blk_drew ?_ | refine blk_alloc ?_ _)); refine blk_put (cs := #[.int .i64 t889, .int .i64 0, .int .i64 0]) ?_ 1 _ rfl; (with_reducible repeat (first | refine blk_drewN ?_ _ | refine blk_drew ?_ | refine blk_alloc ?_ _)); refine blk_put (cs := #[.int .i64 0, .int .i64 0, .int .i64 0]) ?_ 0 _ rfl; (with_reducible repeat (first | refine blk_drewN ?_ _ | refine blk_drew ?_ | refine blk_alloc ?_ _)); exact BK883.out) Try.underlying43 rfl (by kernel_rfl)) rfl ?_
            exact ⟨by first | rfl | (simp [errW_none, errW_some] <;> rfl) | (simp [*, errW_none, errW_some] <;> rfl), by repeat (first | (with_reducible first | exact HB.out | apply below_alloc | apply pw_below_drewN | apply below_drew1 | refine below_set ?_ GE881.out | refine below_set ?_ GE882.out | refine below_set ?_ GE883.out) | exact HB.out)⟩
          · rw [if_neg c21] at H
            have c21b0 : (x8_18 == 0) = false := beq_eq_false_iff_ne.mpr c21
            have c21b1 : (x8_18 != 0) = true := bne_iff_ne.mpr c21
            simp only [Option.some.injEq, Prod.mk.injEq] at H
            obtain ⟨rfl, rfl, rfl, rfl⟩ := H
            have hnb32 := NB883_881.out
            have hnc32 := NB881_883.out
            have hnb33 := NB883_882.out
            have hnc33 := NB882_883.out
            have hcz34_0 : wc.cell? ⟨gb883, 0, none⟩ = some (.int .i64 0) := (blk_cell BK883.out 0).trans rfl
            have hcz34_1 : wc.cell? ⟨gb883, 1, none⟩ = some (.int .i64 0) := (blk_cell BK883.out 1).trans rfl
            have hcz34_2 : wc.cell? ⟨gb883, 2, none⟩ = some (.int .i64 0) := (blk_cell BK883.out 2).trans rfl
            have hfz34_0 := blk_frozen BK883.out 0
            have hfz34_1 := blk_frozen BK883.out 1
            have hfz34_2 := blk_frozen BK883.out 2
            go_wp2
            refine bodyPost_ret (results_ct rfl _ _ gb883 43 #[.int .i64 0, .int .i64 0, .int .i64 0] (0, 0) _ rfl (by (with_reducible repeat (first | refine blk_drewN ?_ _ | refine blk_drew ?_ | refine blk_alloc ?_ _)); refine blk_put (cs := #[.int .i64 0, .int .i64 0, .int .i64 0]) ?_ 2 _ rfl; (with_reducible repeat (first | refine blk_drewN ?_ _ | refine blk_drew ?_ | refine blk_alloc ?_ _)); refine blk_put (cs := #[.int .i64 0, .int .i64 0, .int .i64 0]) ?_ 1 _ rfl; (with_reducible repeat (first | refine blk_drewN ?_ _ | refine blk_drew ?_ | refine blk_alloc ?_ _)); refine blk_put (cs := #[.int .i64 0, .int .i64 0, .int .i64 0]) ?_ 0 _ rfl; (with_reducible repeat (first | refine blk_drewN ?_ _ | refine blk_drew ?_ | refine blk_alloc ?_ _)); exact BK883.out) Try.underlying43 rfl (by kernel_rfl)) rfl ?_
            exact ⟨by first | rfl | (simp [errW_none, errW_some] <;> rfl) | (simp [*, errW_none, errW_some] <;> rfl), by repeat (first | (with_reducible first | exact HB.out | apply below_alloc | apply pw_below_drewN | apply below_drew1 | refine below_set ?_ GE881.out | refine below_set ?_ GE882.out | refine below_set ?_ GE883.out) | exact HB.out)⟩

/-! ### impl_Mat_133: function 133 -/
def impl_Mat_133.l0 : Nat → List (S31) → Int → Int → Int → Int → Int → Int → Option (Int)
  | 0, _, _, _, _, _, _, _ => none
  | k + 1, x0, x7, x8, x894000, x894001, x894002, x894003 => if x8 < x7 then (if 0 ≤ x8 then (if x8 < (x0.length : Int) then (if (x894000 == ((rd_T31 x0 x8).f0) && (x894001 == ((rd_T31 x0 x8).f1) && (x894002 == ((rd_T31 x0 x8).f2) && (x894003 == ((rd_T31 x0 x8).f3))))) = true then (some x8) else (impl_Mat_133.l0 k x0 x7 (wrap64 (x8 + 1)) x894000 x894001 x894002 x894003)) else (none)) else (none)) else (some (-1))
def impl_Mat_133.f (k : Nat) (l0 : List (S31)) (a1_0 : Int) (a1_1 : Int) (a1_2 : Int) (a1_3 : Int) : Option (Int) := impl_Mat_133.l0 k l0 (l0.length : Int) 0 a1_0 a1_1 a1_2 a1_3
theorem impl_Mat_133.mono_l : ∀ k, (∀ y0 y1 y2 y3 y4 y5 y6, LeO (impl_Mat_133.l0 k y0 y1 y2 y3 y4 y5 y6) (impl_Mat_133.l0 (k + 1) y0 y1 y2 y3 y4 y5 y6))
  | 0 => fun _ _ _ _ _ _ _ r h => by simp [impl_Mat_133.l0] at h
  | k + 1 => by
    have ih0 := impl_Mat_133.mono_l k
    · intro y0 y1 y2 y3 y4 y5 y6
      unfold impl_Mat_133.l0
      repeat' first
      | (with_reducible exact ih0 _ _ _ _ _ _ _)
      | (with_reducible exact LeO.refl _)
      | (with_reducible exact LeO.none _)
      | (with_reducible refine LeO.ite ?_ ?_)
      | (with_reducible refine LeO.bind ?_ (fun _ => ?_))
      | exact ih0 _ _ _ _ _ _ _
      | exact LeO.none _
      | refine LeO.ite ?_ ?_
      | refine LeO.bind ?_ (fun _ => ?_)
theorem impl_Mat_133.mono : ∀ a0 a1 a2 a3 a4 k, LeO (impl_Mat_133.f k a0 a1 a2 a3 a4) (impl_Mat_133.f (k + 1) a0 a1 a2 a3 a4) := by
  intro a0 a1 a2 a3 a4 k
  have ih0 := impl_Mat_133.mono_l k
  unfold impl_Mat_133.f
  repeat' first
      | (with_reducible exact ih0 _ _ _ _ _ _ _)
      | (with_reducible exact LeO.refl _)
      | (with_reducible exact LeO.none _)
      | (with_reducible refine LeO.ite ?_ ?_)
      | (with_reducible refine LeO.bind ?_ (fun _ => ?_))
      | exact ih0 _ _ _ _ _ _ _
      | exact LeO.none _
      | refine LeO.ite ?_ ?_
      | refine LeO.bind ?_ (fun _ => ?_)
set_option maxHeartbeats 8000000 in
set_option maxRecDepth 100000 in
theorem impl_Mat_133.calls (k : Nat) (A0 : Option Addr) (c0 : Nat) (l0 : List (S31)) (a1_0 : Int) (a1_1 : Int) (a1_2 : Int) (a1_3 : Int) (r : Int) (w : World) (hr0 : Kd.C k31 w A0 l0.length l0) (hc0 : l0.length ≤ c0) (h : impl_Mat_133.f k l0 a1_0 a1_1 a1_2 a1_3 = some r) :
    Calls Try.prog 133 #[.slice A0 l0.length c0, .agg #[.int .i64 a1_0, .int .i64 a1_1, .int .i64 a1_2, .int .i64 a1_3]] w fun e w' => e = .returned (.int .i64 r) ∧ Below w.heap.size w w' := by
  have hu31 := Try.underlying31
  have HR0 := Aside0.mk hr0
  have HC0 := Aside0.mk hc0
  clear hr0 hc0
  have HB := Aside0.mk (Below.refl w.heap.size w)
  have H : (impl_Mat_133.l0 k l0 (l0.length : Int) 0 a1_0 a1_1 a1_2 a1_3) = some r := h
  clear h
  have H' := Aside0.mk H
  clear H
  go_enter Try.func133, Try.ntmps133
  go_wp2_with (first | ((with_reducible refine gate_dst (N := 3) rfl ?_); refine box_event ?hg (N := 3) ?hd (cs := #[.int .i64 a1_0, .int .i64 a1_1, .int .i64 a1_2, .int .i64 a1_3]) (t := 31) ?hr ?_; (case hd => rfl); (case hg => rfl); (case hr => first | (go_simp; done) | (go_simp; rfl)); intro gb893 hg w3 hbox hb; have n0_ := Aside0.mk (below_step (by repeat (first | (with_reducible first | exact HB.out | apply below_alloc | apply pw_below_drewN | apply below_drew1) | exact HB.out)) hb); have n1_ := Aside0.mk (hbox); have n2_ := Aside0.mk ((by rw [hg]; exact (below_size (by repeat (first | (with_reducible first | exact HB.out | apply below_alloc | apply pw_below_drewN | apply below_drew1) | exact HB.out))) : w.heap.size ≤ gb893)); have n3_ := Aside0.mk ((by rw [hg]; exact (below_size (by repeat (first | (with_reducible first | exact HB.out | apply below_alloc | apply pw_below_drewN | apply below_drew1) | exact HB.out))) : w.heap.size ≤ gb893)); clear HB; have HB := n0_; have BK893 := n1_; have GW893 := n2_; have GE893 := n3_; clear n0_ n1_ n2_ n3_; clear hb hbox hg))
  repeat (go_quiet (first | ((with_reducible refine gate_dst (N := 3) rfl ?_); refine box_event ?hg (N := 3) ?hd (cs := #[.int .i64 a1_0, .int .i64 a1_1, .int .i64 a1_2, .int .i64 a1_3]) (t := 31) ?hr ?_; (case hd => rfl); (case hg => rfl); (case hr => first | (go_simp; done) | (go_simp; rfl)); intro gb893 hg w3 hbox hb; have n0_ := Aside0.mk (below_step (by repeat (first | (with_reducible first | exact HB.out | apply below_alloc | apply pw_below_drewN | apply below_drew1) | exact HB.out)) hb); have n1_ := Aside0.mk (hbox); have n2_ := Aside0.mk ((by rw [hg]; exact (below_size (by repeat (first | (with_reducible first | exact HB.out | apply below_alloc | apply pw_below_drewN | apply below_drew1) | exact HB.out))) : w.heap.size ≤ gb893)); have n3_ := Aside0.mk ((by rw [hg]; exact (below_size (by repeat (first | (with_reducible first | exact HB.out | apply below_alloc | apply pw_below_drewN | apply below_drew1) | exact HB.out))) : w.heap.size ≤ gb893)); clear HB; have HB := n0_; have BK893 := n1_; have GW893 := n2_; have GE893 := n3_; clear n0_ n1_ n2_ n3_; clear hb hbox hg)); try go_wp2_with (first | ((with_reducible refine gate_dst (N := 3) rfl ?_); refine box_event ?hg (N := 3) ?hd (cs := #[.int .i64 a1_0, .int .i64 a1_1, .int .i64 a1_2, .int .i64 a1_3]) (t := 31) ?hr ?_; (case hd => rfl); (case hg => rfl); (case hr => first | (go_simp; done) | (go_simp; rfl)); intro gb893 hg w3 hbox hb; have n0_ := Aside0.mk (below_step (by repeat (first | (with_reducible first | exact HB.out | apply below_alloc | apply pw_below_drewN | apply below_drew1) | exact HB.out)) hb); have n1_ := Aside0.mk (hbox); have n2_ := Aside0.mk ((by rw [hg]; exact (below_size (by repeat (first | (with_reducible first | exact HB.out | apply below_alloc | apply pw_below_drewN | apply below_drew1) | exact HB.out))) : w.heap.size ≤ gb893)); have n3_ := Aside0.mk ((by rw [hg]; exact (below_size (by repeat (first | (with_reducible first | exact HB.out | apply below_alloc | apply pw_below_drewN | apply below_drew1) | exact HB.out))) : w.heap.size ≤ gb893)); clear HB; have HB := n0_; have BK893 := n1_; have GW893 := n2_; have GE893 := n3_; clear n0_ n1_ n2_ n3_; clear hb hbox hg)))
  go_loopg [8] k (fun kq v8 w' => ∃ (x8_1 : Int), v8 = .int .i64 x8_1 ∧ Aside0 (impl_Mat_133.l0 kq l0 (l0.length : Int) x8_1 a1_0 a1_1 a1_2 a1_3 = some r) ∧ Aside0 (kq ≤ k) ∧ Aside0 (w'.heap[gb893]? = some (.cells #[.int .i64 a1_0, .int .i64 a1_1, .int .i64 a1_2, .int .i64 a1_3] 31 (0, 0))) ∧ Aside0 (Below w.heap.size w w'))
  case atStart => exact ⟨(0), (by first | rfl | (simp; done) | (simp [*]; done)), H', ⟨Nat.le_refl _⟩, ⟨by (with_reducible repeat (first | refine blk_drewN ?_ _ | refine blk_drew ?_ | refine blk_alloc ?_ _)); exact BK893.out⟩, ⟨by repeat (first | (with_reducible first | exact HB.out | apply below_alloc | apply pw_below_drewN | apply below_drew1 | refine below_set ?_ GE893.out) | exact HB.out)⟩⟩
  case round =>
    clear H'
    try clear c1
    try clear p2
    obtain ⟨x8_1, rfl, HA, HK1, BK893, HB⟩ := hrel
    cases gk with
    | zero => exact absurd HA.out (by simp [impl_Mat_133.l0])
    | succ k1 =>
      have H := HA.out
      clear HA
      simp only [impl_Mat_133.l0] at H
      by_cases c4 : x8_1 < (l0.length : Int)
      · rw [if_pos c4] at H
        have c4b0 : decide (x8_1 < (l0.length : Int)) = true := decide_eq_true c4
        clear c4
        by_cases c5 : 0 ≤ x8_1
        · rw [if_pos c5] at H
          have c5b0 : decide (0 ≤ x8_1) = true := decide_eq_true c5
          clear c5
          by_cases c6 : x8_1 < (l0.length : Int)
          · rw [if_pos c6] at H
            have c6b0 : decide (x8_1 < (l0.length : Int)) = true := decide_eq_true c6
            clear c6
            by_cases c7 : (a1_0 == ((rd_T31 l0 x8_1).f0) && (a1_1 == ((rd_T31 l0 x8_1).f1) && (a1_2 == ((rd_T31 l0 x8_1).f2) && (a1_3 == ((rd_T31 l0 x8_1).f3))))) = true
            · rw [if_pos c7] at H
              have c7b0 : (a1_0 == ((rd_T31 l0 x8_1).f0) && (a1_1 == ((rd_T31 l0 x8_1).f1) && (a1_2 == ((rd_T31 l0 x8_1).f2) && (a1_3 == ((rd_T31 l0 x8_1).f3))))) = true := c7
              (try (have c7b1 : decide (a1_0 = ((rd_T31 l0 x8_1).f0) && (a1_1 == ((rd_T31 l0 x8_1).f1) && (a1_2 == ((rd_T31 l0 x8_1).f2) && (a1_3 == ((rd_T31 l0 x8_1).f3))))) = true := by simpa using c7))
              (try (have c7b2 : (a1_0 == ((rd_T31 l0 x8_1).f0) && (a1_1 == ((rd_T31 l0 x8_1).f1) && (a1_2 == ((rd_T31 l0 x8_1).f2) && (a1_3 == ((rd_T31 l0 x8_1).f3))))) = true := by simpa using c7))
              clear c7
              obtain rfl := Option.some.inj H
              have hcz8_0 : wr.cell? ⟨gb893, 0, none⟩ = some (.int .i64 a1_0) := (blk_cell BK893.out 0).trans rfl
              have hcz8_1 : wr.cell? ⟨gb893, 1, none⟩ = some (.int .i64 a1_1) := (blk_cell BK893.out 1).trans rfl
              have hcz8_2 : wr.cell? ⟨gb893, 2, none⟩ = some (.int .i64 a1_2) := (blk_cell BK893.out 2).trans rfl
              have hcz8_3 : wr.cell? ⟨gb893, 3, none⟩ = some (.int .i64 a1_3) := (blk_cell BK893.out 3).trans rfl
              have hfz8_0 := blk_frozen BK893.out 0
              have hfz8_1 := blk_frozen BK893.out 1
              have hfz8_2 := blk_frozen BK893.out 2
              have hfz8_3 := blk_frozen BK893.out 3
              have p894 : 0 ≤ (x8_1 : Int) := of_decide_eq_true (by first | (with_reducible assumption) | assumption)
              have q894 : x8_1 < (l0.length : Int) := of_decide_eq_true (by first | (with_reducible assumption) | assumption)
              obtain ⟨ad894, e894, hx894_0, hx894_1, hx894_2, hx894_3⟩ := at_T31 HR0.out x8_1 p894 q894
              cases e894
              replace hx894_0 := (HB.out.cell (World.block_lt_of_cell? w _ hx894_0)).trans hx894_0
              replace hx894_1 := (HB.out.cell (World.block_lt_of_cell? w _ hx894_1)).trans hx894_1
              replace hx894_2 := (HB.out.cell (World.block_lt_of_cell? w _ hx894_2)).trans hx894_2
              replace hx894_3 := (HB.out.cell (World.block_lt_of_cell? w _ hx894_3)).trans hx894_3
              replace p894 := eq_true p894
              replace q894 := eq_true q894
              go_wp2
              repeat (go_quiet (fail); try go_wp2)
              go_ret
              exact ⟨by first | rfl | (simp [errW_none, errW_some] <;> rfl) | (simp [*, errW_none, errW_some] <;> rfl), by repeat (first | (with_reducible first | exact HB.out | apply below_alloc | apply pw_below_drewN | apply below_drew1 | refine below_set ?_ GE893.out) | exact HB.out)⟩
            · rw [if_neg c7] at H
              have c7b0 : (a1_0 == ((rd_T31 l0 x8_1).f0) && (a1_1 == ((rd_T31 l0 x8_1).f1) && (a1_2 == ((rd_T31 l0 x8_1).f2) && (a1_3 == ((rd_T31 l0 x8_1).f3))))) = false := by simpa using c7
              (try (have c7b1 : decide (a1_0 = ((rd_T31 l0 x8_1).f0) && (a1_1 == ((rd_T31 l0 x8_1).f1) && (a1_2 == ((rd_T31 l0 x8_1).f2) && (a1_3 == ((rd_T31 l0 x8_1).f3))))) = false := by simpa using c7))
              (try (have c7b2 : (a1_0 == ((rd_T31 l0 x8_1).f0) && (a1_1 == ((rd_T31 l0 x8_1).f1) && (a1_2 == ((rd_T31 l0 x8_1).f2) && (a1_3 == ((rd_T31 l0 x8_1).f3))))) = false := by simpa using c7))
              (try (have c7b3 : ¬ (a1_0 = ((rd_T31 l0 x8_1).f0) && (a1_1 == ((rd_T31 l0 x8_1).f1) && (a1_2 == ((rd_T31 l0 x8_1).f2) && (a1_3 == ((rd_T31 l0 x8_1).f3))))) := by simpa using c7))
              clear c7
              have H' := Aside0.mk H
              clear H
              have hcz9_0 : wr.cell? ⟨gb893, 0, none⟩ = some (.int .i64 a1_0) := (blk_cell BK893.out 0).trans rfl
              have hcz9_1 : wr.cell? ⟨gb893, 1, none⟩ = some (.int .i64 a1_1) := (blk_cell BK893.out 1).trans rfl
              have hcz9_2 : wr.cell? ⟨gb893, 2, none⟩ = some (.int .i64 a1_2) := (blk_cell BK893.out 2).trans rfl
              have hcz9_3 : wr.cell? ⟨gb893, 3, none⟩ = some (.int .i64 a1_3) := (blk_cell BK893.out 3).trans rfl
              have hfz9_0 := blk_frozen BK893.out 0
              have hfz9_1 := blk_frozen BK893.out 1
              have hfz9_2 := blk_frozen BK893.out 2
              have hfz9_3 := blk_frozen BK893.out 3
              have p894 : 0 ≤ (x8_1 : Int) := of_decide_eq_true (by first | (with_reducible assumption) | assumption)
              have q894 : x8_1 < (l0.length : Int) := of_decide_eq_true (by first | (with_reducible assumption) | assumption)
              obtain ⟨ad894, e894, hx894_0, hx894_1, hx894_2, hx894_3⟩ := at_T31 HR0.out x8_1 p894 q894
              cases e894
              replace hx894_0 := (HB.out.cell (World.block_lt_of_cell? w _ hx894_0)).trans hx894_0
              replace hx894_1 := (HB.out.cell (World.block_lt_of_cell? w _ hx894_1)).trans hx894_1
              replace hx894_2 := (HB.out.cell (World.block_lt_of_cell? w _ hx894_2)).trans hx894_2
              replace hx894_3 := (HB.out.cell (World.block_lt_of_cell? w _ hx894_3)).trans hx894_3
              replace p894 := eq_true p894
              replace q894 := eq_true q894
              go_wp2
              repeat (go_quiet (fail); try go_wp2)
              go_roundg k1
              case measure => have := HK1.out; omega
              case rel => exact ⟨(wrap64 (x8_1 + 1)), (by first | rfl | (simp; done) | (simp [*]; done)), H', ⟨by have := HK1.out; omega⟩, ⟨by (with_reducible repeat (first | refine blk_drewN ?_ _ | refine blk_drew ?_ | refine blk_alloc ?_ _)); exact BK893.out⟩, ⟨by repeat (first | (with_reducible first | exact HB.out | apply below_alloc | apply pw_below_drewN | apply below_drew1 | refine below_set ?_ GE893.out) | exact HB.out)⟩⟩
          · rw [if_neg c6] at H
            exact absurd H (by simp)
        · rw [if_neg c5] at H
          exact absurd H (by simp)
      · rw [if_neg c4] at H
        have c4b0 : decide (x8_1 < (l0.length : Int)) = false := decide_eq_false c4
        clear c4
        obtain rfl := Option.some.inj H
        go_wp2
        repeat (go_quiet (fail); try go_wp2)
        go_ret
        exact ⟨by first | rfl | (simp [errW_none, errW_some] <;> rfl) | (simp [*, errW_none, errW_some] <;> rfl), by repeat (first | (with_reducible first | exact HB.out | apply below_alloc | apply pw_below_drewN | apply below_drew1 | refine below_set ?_ GE893.out) | exact HB.out)⟩

/-! ### impl_Mat_124: function 124 -/
def impl_Mat_124.f (k : Nat) (l0 : List (S31)) (a1_0 : Int) (a1_1 : Int) (a1_2 : Int) (a1_3 : Int) : Option (Bool) := (impl_Mat_133.f k l0 a1_0 a1_1 a1_2 a1_3).bind fun t896 => (some (decide (t896 ≥ 0)))
theorem impl_Mat_124.mono : ∀ a0 a1 a2 a3 a4 k, LeO (impl_Mat_124.f k a0 a1 a2 a3 a4) (impl_Mat_124.f (k + 1) a0 a1 a2 a3 a4) := by
  intro a0 a1 a2 a3 a4 k
  unfold impl_Mat_124.f
  repeat' first
      | (with_reducible exact impl_Mat_133.mono _ _ _ _ _ _)
      | (with_reducible exact LeO.refl _)
      | (with_reducible exact LeO.none _)
      | (with_reducible refine LeO.ite ?_ ?_)
      | (with_reducible refine LeO.bind ?_ (fun _ => ?_))
      | exact impl_Mat_133.mono _ _ _ _ _ _
      | exact LeO.none _
      | refine LeO.ite ?_ ?_
      | refine LeO.bind ?_ (fun _ => ?_)
set_option maxHeartbeats 8000000 in
set_option maxRecDepth 100000 in
theorem impl_Mat_124.calls (k : Nat) (A0 : Option Addr) (c0 : Nat) (l0 : List (S31)) (a1_0 : Int) (a1_1 : Int) (a1_2 : Int) (a1_3 : Int) (r : Bool) (w : World) (hr0 : Kd.C k31 w A0 l0.length l0) (hc0 : l0.length ≤ c0) (h : impl_Mat_124.f k l0 a1_0 a1_1 a1_2 a1_3 = some r) :
    Calls Try.prog 124 #[.slice A0 l0.length c0, .agg #[.int .i64 a1_0, .int .i64 a1_1, .int .i64 a1_2, .int .i64 a1_3]] w fun e w' => e = .returned (.bool r) ∧ Below w.heap.size w w' := by
  have hu31 := Try.underlying31
  have HR0 := Aside0.mk hr0
  have HC0 := Aside0.mk hc0
  clear hr0 hc0
  have HB := Aside0.mk (Below.refl w.heap.size w)
  have H : ((impl_Mat_133.f k l0 a1_0 a1_1 a1_2 a1_3).bind fun t896 => (some (decide (t896 ≥ 0)))) = some r := h
  clear h
  replace H := Option.bind_eq_some_iff.mp H
  obtain ⟨t896, A30, H⟩ := H
  replace H : (some (decide (t896 ≥ 0))) = some r := H
  have A3 := Aside0.mk A30
  clear A30
  obtain rfl := Option.some.inj H
  go_enter Try.func124, Try.ntmps124
  go_wp2_with (first | ((with_reducible refine gate_dst (N := 3) rfl ?_); refine box_event ?hg (N := 3) ?hd (cs := #[.int .i64 a1_0, .int .i64 a1_1, .int .i64 a1_2, .int .i64 a1_3]) (t := 31) ?hr ?_; (case hd => rfl); (case hg => rfl); (case hr => first | (go_simp; done) | (go_simp; rfl)); intro gb895 hg w4 hbox hb; have n0_ := Aside0.mk (below_step (by repeat (first | (with_reducible first | exact HB.out | apply below_alloc | apply pw_below_drewN | apply below_drew1) | exact HB.out)) hb); have n1_ := Aside0.mk (hbox); have n2_ := Aside0.mk ((by rw [hg]; exact (below_size (by repeat (first | (with_reducible first | exact HB.out | apply below_alloc | apply pw_below_drewN | apply below_drew1) | exact HB.out))) : w.heap.size ≤ gb895)); have n3_ := Aside0.mk ((by rw [hg]; exact (below_size (by repeat (first | (with_reducible first | exact HB.out | apply below_alloc | apply pw_below_drewN | apply below_drew1) | exact HB.out))) : w.heap.size ≤ gb895)); clear HB; have HB := n0_; have BK895 := n1_; have GW895 := n2_; have GE895 := n3_; clear n0_ n1_ n2_ n3_; clear hb hbox hg; have hcz5_0 : w4.cell? ⟨gb895, 0, none⟩ = some (.int .i64 a1_0) := (blk_cell BK895.out 0).trans rfl; have hcz5_1 : w4.cell? ⟨gb895, 1, none⟩ = some (.int .i64 a1_1) := (blk_cell BK895.out 1).trans rfl; have hcz5_2 : w4.cell? ⟨gb895, 2, none⟩ = some (.int .i64 a1_2) := (blk_cell BK895.out 2).trans rfl; have hcz5_3 : w4.cell? ⟨gb895, 3, none⟩ = some (.int .i64 a1_3) := (blk_cell BK895.out 3).trans rfl; have hfz5_0 := blk_frozen BK895.out 0; have hfz5_1 := blk_frozen BK895.out 1; have hfz5_2 := blk_frozen BK895.out 2; have hfz5_3 := blk_frozen BK895.out 3) | ((with_reducible refine gate_callee (f := 133) rfl ?_); refine goesL_ (some 7) rfl rfl Try.func133 (by kernel_rfl) rfl #[.slice A0 l0.length c0, .agg #[.int .i64 a1_0, .int .i64 a1_1, .int .i64 a1_2, .int .i64 a1_3]] rfl (by (try simp only [List.map_toArray, List.map_cons, List.map_nil]); first | done | rfl | (simp only [List.length_drop, List.length_take]; rfl)) ?_; (with_reducible refine (impl_Mat_133.calls k _ _ l0 a1_0 a1_1 a1_2 a1_3 t896 _ ?side1 ?side2 A3.out).mono ?_); (case side1 => repeat (first | exact (Kd.C_below HR0.out HB.out) | (with_reducible refine Kd.C_alloc ?_ _) | (with_reducible refine Kd.C_drewN ?_ _) | (with_reducible refine Kd.C_drew ?_))); (case side2 => exact HC0.out); rintro e w6 ⟨rfl, hb⟩; refine ⟨_, rfl, ?_⟩; have n0_ := Aside0.mk (blk_below (g := gb895) (o := .cells #[.int .i64 a1_0, .int .i64 a1_1, .int .i64 a1_2, .int .i64 a1_3] 31 (0, 0)) (by (with_reducible repeat (first | refine blk_drewN ?_ _ | refine blk_drew ?_ | refine blk_alloc ?_ _)); exact BK895.out) hb); have n1_ := Aside0.mk (below_step (by repeat (first | (with_reducible first | exact HB.out | apply below_alloc | apply pw_below_drewN | apply below_drew1 | refine below_set ?_ GE895.out) | exact HB.out)) hb); clear BK895; clear HB; have BK895 := n0_; have HB := n1_; clear n0_ n1_; (try clear hb); (try clear hb2); (try clear hk); (try clear hi)))
  go_ret
  exact ⟨by first | rfl | (simp [errW_none, errW_some] <;> rfl) | (simp [*, errW_none, errW_some] <;> rfl), by repeat (first | (with_reducible first | exact HB.out | apply below_alloc | apply pw_below_drewN | apply below_drew1 | refine below_set ?_ GE895.out) | exact HB.out)⟩

end Go.Proofs.Ytpkjgcafbkfbgac.F

import Derived.Test.YtpkjgcafbkfbgacF0
import Derived.Test.YtpkjgcafbkfbgacF2
import Derived.Test.YtpkjgcafbkfbgacF18
import Derived.Test.YtpkjgcafbkfbgacF49
import Derived.Test.YtpkjgcafbkfbgacF52
namespace Go.Proofs.Ytpkjgcafbkfbgac.F
open Go.RowKit Go.Proofs.YtpkjgcafbkfbgacW.PrintWords Go.Proofs.YtpkjgcafbkfbgacW.PrintLast Go.Proofs.YtpkjgcafbkfbgacW.PrintMore
attribute [local go_sem] max2_int min2_int max_two min_two max_three min_three max_four min_four   -- for this text's walks alone
set_option linter.unusedVariables false
set_option linter.unusedSimpArgs false

/-! ### laws_FnExactMapLattice: function 11 -/
def laws_FnExactMapLattice.f (k : Nat) (a0 : Int) (a1_0 : Int) (a1_1 : Int) (a1_2 : Int) (a1_3 : Int) (a2_0 : Int) (a2_1 : Int) (a2_2 : Int) : Option (Bool) := (laws_toMat.f a1_0 a1_1 a1_2 a1_3).bind fun bt963 => ((laws_toLattice.f a2_0 a2_1 a2_2).bind fun bt967 => ((spec_MapLattice.f k a0 bt963.1 bt963.2.1 bt963.2.2.1 bt963.2.2.2 bt967.1 bt967.2.1 bt967.2.2).bind fun bt970 => ((laws_toMat.f a1_0 a1_1 a1_2 a1_3).bind fun bt975 => ((laws_toLattice.f a2_0 a2_1 a2_2).bind fun bt979 => ((impl_MapLattice.f k a0 bt975.1 bt975.2.1 bt975.2.2.1 bt975.2.2.2 bt979.1 bt979.2.1 bt979.2.2).bind fun bt982 => ((laws_eqLattice.f bt982.1 bt982.2.1 bt982.2.2.1 bt970.1 bt970.2.1 bt970.2.2.1).bind fun t987 => (if t987 = true then (if bt982.2.2.2 = bt970.2.2.2 then (some true) else (some false)) else (some false))))))))
theorem laws_FnExactMapLattice.mono : ∀ a0 a1 a2 a3 a4 a5 a6 a7 k, LeO (laws_FnExactMapLattice.f k a0 a1 a2 a3 a4 a5 a6 a7) (laws_FnExactMapLattice.f (k + 1) a0 a1 a2 a3 a4 a5 a6 a7) := by
  intro a0 a1 a2 a3 a4 a5 a6 a7 k
  unfold laws_FnExactMapLattice.f
  repeat' first
      | (with_reducible exact impl_MapLattice.mono _ _ _ _ _ _ _ _ _)
      | (with_reducible exact spec_MapLattice.mono _ _ _ _ _ _ _ _ _)
      | (with_reducible exact LeO.refl _)
      | (with_reducible exact LeO.none _)
      | (with_reducible refine LeO.ite ?_ ?_)
      | (with_reducible refine LeO.bind ?_ (fun _ => ?_))
      | exact impl_MapLattice.mono _ _ _ _ _ _ _ _ _
      | exact spec_MapLattice.mono _ _ _ _ _ _ _ _ _
      | exact LeO.none _
      | refine LeO.ite ?_ ?_
      | refine LeO.bind ?_ (fun _ => ?_)
def laws_FnExactMapLattice.T1 : Bool × List (List Nat × List Nat) := (true, [([], []), ([], []), ([1], [1]), ([], []), ([3, 2], [3]), ([0, 2, 4, 4], [0, 2, 4]), ([5], [5]), ([6], [6]), ([6], [6]), ([], []), ([9, 7, 5, 0, 1, 2, 3, 4, 5, 6, 7, 9], [7, 9]), ([8, 10, 0, 1, 2, 3, 4, 5, 6, 7, 8, 9, 10], [8])])
def laws_FnExactMapLattice.B1 : List Nat := [0, 0, 2, 0, 14, 31, 63, 127, 127, 0, 767, 2047]
theorem laws_FnExactMapLattice.tab1 : rtab .any (opsOf Try.f11 1) = laws_FnExactMapLattice.T1 := by kernel_rfl
theorem laws_FnExactMapLattice.bits1 : waitsOk laws_FnExactMapLattice.T1.2 laws_FnExactMapLattice.B1 = true := by kernel_rfl
def laws_FnExactMapLattice.T2 : Bool × List (List Nat × List Nat) := (true, [([], []), ([], []), ([1], [1]), ([], []), ([3, 2], [3]), ([0, 2, 4, 4], [0, 2, 4]), ([5], [5]), ([6], [6]), ([6], [6]), ([], []), ([9, 7, 5, 0, 1, 2, 3, 4, 5, 6, 7, 9], [7, 9]), ([8, 10, 0, 1, 2, 3, 4, 5, 6, 7, 8, 9, 10], [8])])
def laws_FnExactMapLattice.B2 : List Nat := [0, 0, 2, 0, 14, 31, 63, 127, 127, 0, 767, 2047]
theorem laws_FnExactMapLattice.tab2 : rtab .any (opsOf Try.f11 2) = laws_FnExactMapLattice.T2 := by kernel_rfl
theorem laws_FnExactMapLattice.bits2 : waitsOk laws_FnExactMapLattice.T2.2 laws_FnExactMapLattice.B2 = true := by kernel_rfl
set_option maxHeartbeats 8000000 in
set_option maxRecDepth 100000 in
theorem laws_FnExactMapLattice.calls (k : Nat) (a0 : Int) (a1_0 : Int) (a1_1 : Int) (a1_2 : Int) (a1_3 : Int) (a2_0 : Int) (a2_1 : Int) (a2_2 : Int) (w : World) (h : laws_FnExactMapLattice.f k a0 a1_0 a1_1 a1_2 a1_3 a2_0 a2_1 a2_2 = some true) :
    Calls Try.prog 11 #[.int .i64 a0, .agg #[.int .i64 a1_0, .int .i64 a1_1, .int .i64 a1_2, .int .i64 a1_3], .agg #[.int .i64 a2_0, .int .i64 a2_1, .int .i64 a2_2]] w fun e w' => e = .returned (.bool true) ∧ Below w.heap.size w w' := by
  have hu23 := Try.underlying23
  have hu40 := Try.underlying40
  have hu43 := Try.underlying43
  have HB := Aside0.mk (Below.refl w.heap.size w)
  have H : ((laws_toMat.f a1_0 a1_1 a1_2 a1_3).bind fun bt963 => ((laws_toLattice.f a2_0 a2_1 a2_2).bind fun bt967 => ((spec_MapLattice.f k a0 bt963.1 bt963.2.1 bt963.2.2.1 bt963.2.2.2 bt967.1 bt967.2.1 bt967.2.2).bind fun bt970 => ((laws_toMat.f a1_0 a1_1 a1_2 a1_3).bind fun bt975 => ((laws_toLattice.f a2_0 a2_1 a2_2).bind fun bt979 => ((impl_MapLattice.f k a0 bt975.1 bt975.2.1 bt975.2.2.1 bt975.2.2.2 bt979.1 bt979.2.1 bt979.2.2).bind fun bt982 => ((laws_eqLattice.f bt982.1 bt982.2.1 bt982.2.2.1 bt970.1 bt970.2.1 bt970.2.2.1).bind fun t987 => (if t987 = true then (if bt982.2.2.2 = bt970.2.2.2 then (some true) else (some false)) else (some false))))))))) = some true := h
  clear h
  replace H := Option.bind_eq_some_iff.mp H
  obtain ⟨⟨t963, t964, t965, t966⟩, A40, H⟩ := H
  replace H : ((laws_toLattice.f a2_0 a2_1 a2_2).bind fun bt967 => ((spec_MapLattice.f k a0 t963 t964 t965 t966 bt967.1 bt967.2.1 bt967.2.2).bind fun bt970 => ((laws_toMat.f a1_0 a1_1 a1_2 a1_3).bind fun bt975 => ((laws_toLattice.f a2_0 a2_1 a2_2).bind fun bt979 => ((impl_MapLattice.f k a0 bt975.1 bt975.2.1 bt975.2.2.1 bt975.2.2.2 bt979.1 bt979.2.1 bt979.2.2).bind fun bt982 => ((laws_eqLattice.f bt982.1 bt982.2.1 bt982.2.2.1 bt970.1 bt970.2.1 bt970.2.2.1).bind fun t987 => (if t987 = true then (if bt982.2.2.2 = bt970.2.2.2 then (some true) else (some false)) else (some false)))))))) = some true := H
  have A4 := Aside0.mk A40
  clear A40
  replace H := Option.bind_eq_some_iff.mp H
  obtain ⟨⟨t967, t968, t969⟩, A50, H⟩ := H
  replace H : ((spec_MapLattice.f k a0 t963 t964 t965 t966 t967 t968 t969).bind fun bt970 => ((laws_toMat.f a1_0 a1_1 a1_2 a1_3).bind fun bt975 => ((laws_toLattice.f a2_0 a2_1 a2_2).bind fun bt979 => ((impl_MapLattice.f k a0 bt975.1 bt975.2.1 bt975.2.2.1 bt975.2.2.2 bt979.1 bt979.2.1 bt979.2.2).bind fun bt982 => ((laws_eqLattice.f bt982.1 bt982.2.1 bt982.2.2.1 bt970.1 bt970.2.1 bt970.2.2.1).bind fun t987 => (if t987 = true then (if bt982.2.2.2 = bt970.2.2.2 then (some true) else (some false)) else (some false))))))) = some true := H
  have A5 := Aside0.mk A50
  clear A50
  replace H := Option.bind_eq_some_iff.mp H
  obtain ⟨⟨t970, t971, t972, t973⟩, A60, H⟩ := H
  replace H : ((laws_toMat.f a1_0 a1_1 a1_2 a1_3).bind fun bt975 => ((laws_toLattice.f a2_0 a2_1 a2_2).bind fun bt979 => ((impl_MapLattice.f k a0 bt975.1 bt975.2.1 bt975.2.2.1 bt975.2.2.2 bt979.1 bt979.2.1 bt979.2.2).bind fun bt982 => ((laws_eqLattice.f bt982.1 bt982.2.1 bt982.2.2.1 t970 t971 t972).bind fun t987 => (if t987 = true then (if bt982.2.2.2 = t973 then (some true) else (some false)) else (some false)))))) = some true := H
  have A6 := Aside0.mk A60
  clear A60
  replace H := Option.bind_eq_some_iff.mp H
  obtain ⟨⟨t975, t976, t977, t978⟩, A70, H⟩ := H
  replace H : ((laws_toLattice.f a2_0 a2_1 a2_2).bind fun bt979 => ((impl_MapLattice.f k a0 t975 t976 t977 t978 bt979.1 bt979.2.1 bt979.2.2).bind fun bt982 => ((laws_eqLattice.f bt982.1 bt982.2.1 bt982.2.2.1 t970 t971 t972).bind fun t987 => (if t987 = true then (if bt982.2.2.2 = t973 then (some true) else (some false)) else (some false))))) = some true := H
  have A7 := Aside0.mk A70
  clear A70
  replace H := Option.bind_eq_some_iff.mp H
  obtain ⟨⟨t979, t980, t981⟩, A80, H⟩ := H
  replace H : ((impl_MapLattice.f k a0 t975 t976 t977 t978 t979 t980 t981).bind fun bt982 => ((laws_eqLattice.f bt982.1 bt982.2.1 bt982.2.2.1 t970 t971 t972).bind fun t987 => (if t987 = true then (if bt982.2.2.2 = t973 then (some true) else (some false)) else (some false)))) = some true := H
  have A8 := Aside0.mk A80
  clear A80
  replace H := Option.bind_eq_some_iff.mp H
  obtain ⟨⟨t982, t983, t984, t985⟩, A90, H⟩ := H
  replace H : ((laws_eqLattice.f t982 t983 t984 t970 t971 t972).bind fun t987 => (if t987 = true then (if t985 = t973 then (some true) else (some false)) else (some false))) = some true := H
  have A9 := Aside0.mk A90
  clear A90
  replace H := Option.bind_eq_some_iff.mp H
  obtain ⟨t987, A100, H⟩ := H
  replace H : (if t987 = true then (if t985 = t973 then (some true) else (some false)) else (some false)) = some true := H
  have A10 := Aside0.mk A100
  clear A100
  by_cases c11 : t987 = true
  · subst c11
    have H1 : (if t985 = t973 then (some true) else (some false)) = some true := by rw [if_pos rfl] at H; exact H
    clear H
    have H := H1
    clear H1
    by_cases c12 : t985 = t973
    · rw [if_pos c12] at H
      have c12b0 : (t985 == t973) = true := beq_iff_eq.mpr c12
      have c12b1 : (t985 != t973) = false := bne_eq_false_iff_eq.mpr c12
      clear c12
      clear H
      go_enter Try.func11, Try.ntmps11
      try go_wp2_with (first | ((with_reducible refine gate_dst (N := 4) rfl ?_); refine box_event ?hg (N := 4) ?hd (cs := #[.int .i64 a1_0, .int .i64 a1_1, .int .i64 a1_2, .int .i64 a1_3]) (t := 23) ?hr ?_; (case hd => rfl); (case hg => rfl); (case hr => first | (go_simp; done) | (go_simp; rfl)); intro gb961 hg w13 hbox hb; have n0_ := Aside0.mk (below_step (by repeat (first | (with_reducible first | exact HB.out | apply below_alloc | apply pw_below_drewN | apply below_drew1) | exact HB.out)) hb); have n1_ := Aside0.mk (hbox); have n2_ := Aside0.mk ((by rw [hg]; exact (below_size (by repeat (first | (with_reducible first | exact HB.out | apply below_alloc | apply pw_below_drewN | apply below_drew1) | exact HB.out))) : w.heap.size ≤ gb961)); have n3_ := Aside0.mk ((by rw [hg]; exact (below_size (by repeat (first | (with_reducible first | exact HB.out | apply below_alloc | apply pw_below_drewN | apply below_drew1) | exact HB.out))) : w.heap.size ≤ gb961)); clear HB; have HB := n0_; have BK961 := n1_; have GW961 := n2_; have GE961 := n3_; clear n0_ n1_ n2_ n3_; clear hb hbox hg) | ((with_reducible refine gate_dst (N := 5) rfl ?_); refine box_event ?hg (N := 5) ?hd (cs := #[.int .i64 a2_0, .int .i64 a2_1, .int .i64 a2_2]) (t := 40) ?hr ?_; (case hd => rfl); (case hg => rfl); (case hr => first | (go_simp; done) | (go_simp; rfl)); intro gb962 hg w14 hbox hb; have n0_ := Aside0.mk (blk_below (g := gb961) (o := .cells #[.int .i64 a1_0, .int .i64 a1_1, .int .i64 a1_2, .int .i64 a1_3] 23 (0, 0)) (by (with_reducible repeat (first | refine blk_drewN ?_ _ | refine blk_drew ?_ | refine blk_alloc ?_ _)); exact BK961.out) hb); have n1_ := Aside0.mk (below_step (by repeat (first | (with_reducible first | exact HB.out | apply below_alloc | apply pw_below_drewN | apply below_drew1 | refine below_set ?_ GE961.out) | exact HB.out)) hb); have n2_ := Aside0.mk (hbox); have n3_ := Aside0.mk ((by rw [hg]; exact (below_size (by repeat (first | (with_reducible first | exact HB.out | apply below_alloc | apply pw_below_drewN | apply below_drew1 | refine below_set ?_ GE961.out) | exact HB.out))) : w.heap.size ≤ gb962)); have n4_ := Aside0.mk ((by rw [hg]; exact (below_size (by repeat (first | (with_reducible first | exact HB.out | apply below_alloc | apply pw_below_drewN | apply below_drew1 | refine below_set ?_ GE961.out) | exact HB.out))) : w.heap.size ≤ gb962)); have n5_ := Aside0.mk ((by rw [hg]; exact Nat.ne_of_lt (blk_lt (g := gb961) (o := .cells #[.int .i64 a1_0, .int .i64 a1_1, .int .i64 a1_2, .int .i64 a1_3] 23 (0, 0)) (by (with_reducible repeat (first | refine blk_drewN ?_ _ | refine blk_drew ?_ | refine blk_alloc ?_ _)); exact BK961.out)) : gb961 ≠ gb962)); have n6_ := Aside0.mk ((by rw [hg]; exact Nat.ne_of_gt (blk_lt (g := gb961) (o := .cells #[.int .i64 a1_0, .int .i64 a1_1, .int .i64 a1_2, .int .i64 a1_3] 23 (0, 0)) (by (with_reducible repeat (first | refine blk_drewN ?_ _ | refine blk_drew ?_ | refine blk_alloc ?_ _)); exact BK961.out)) : gb962 ≠ gb961)); clear BK961; clear HB; have BK961 := n0_; have HB := n1_; have BK962 := n2_; have GW962 := n3_; have GE962 := n4_; have NB961_962 := n5_; have NB962_961 := n6_; clear n0_ n1_ n2_ n3_ n4_ n5_ n6_; clear hb hbox hg))
      have n0_ := Aside0.mk (blk_drew BK961.out)
      have n1_ := Aside0.mk (blk_drew BK962.out)
      have n2_ := Aside0.mk (below_drew1 HB.out)
      clear BK961
      clear BK962
      clear HB
      have BK961 := n0_
      have BK962 := n1_
      have HB := n2_
      clear n0_ n1_ n2_
      refine start_ (n := 12) (S := fun w' => w'.cell? ⟨gb961, 0, none⟩ = some (.int .i64 a1_0) ∧ w'.cell? ⟨gb961, 1, none⟩ = some (.int .i64 a1_1) ∧ w'.cell? ⟨gb961, 2, none⟩ = some (.int .i64 a1_2) ∧ w'.cell? ⟨gb961, 3, none⟩ = some (.int .i64 a1_3) ∧ w'.cell? ⟨gb962, 0, none⟩ = some (.int .i64 a2_0) ∧ w'.cell? ⟨gb962, 1, none⟩ = some (.int .i64 a2_1) ∧ w'.cell? ⟨gb962, 2, none⟩ = some (.int .i64 a2_2)) (ds := []) #[false, false, false, false, false, false, false, false, false, false, false, false] (by kernel_rfl) rfl rfl ⟨(blk_cell BK961.out 0).trans rfl, (blk_cell BK961.out 1).trans rfl, (blk_cell BK961.out 2).trans rfl, (blk_cell BK961.out 3).trans rfl, (blk_cell BK962.out 0).trans rfl, (blk_cell BK962.out 1).trans rfl, (blk_cell BK962.out 2).trans rfl⟩ (fun hHeld => ?_); refine with_tabW laws_FnExactMapLattice.tab1 laws_FnExactMapLattice.bits1 (fun HT_ HW_ => ?_)
      generalize w14.drew = w15 at BK961 BK962 HB hHeld ⊢
      refine pure_ (i := 0) (N := some 12) (v := ?_) (a' := ?_) #[true, false, false, false, false, false, false, false, false, false, false, false] rfl rfl (any_of HT_.out (by kernel_rfl)) (fun _ _ _ h => h) (Or.inl ⟨by rfl, ?_⟩) ?_ ?_
      rotate_left
      · intro w'
        go_simp
        with_reducible rfl
      rotate_left
      · simp only [Act.put, List.setIfInBounds_toArray, List.set_cons_zero, List.set_cons_succ, i64_w, i32_w]
        rfl
      refine take_ (i := 1) (N := some 13) (v := ?_) (a' := ?_) #[true, true, false, false, false, false, false, false, false, false, false, false] rfl rfl (take_ofW HT_.out HW_.out (by kernel_rfl)) (fun _ _ _ h => h) (Or.inl ⟨by rfl, ?_⟩) hHeld ?_ ?_
      rotate_left
      · rintro w' ⟨s0, s1, s2, s3, s4, s5, s6⟩
        go_simp
        with_reducible rfl
      rotate_left
      · simp only [Act.put, List.setIfInBounds_toArray, List.set_cons_zero, List.set_cons_succ, i64_w, i32_w]
        rfl
      refine take_ (i := 3) (N := some 15) (v := ?_) (a' := ?_) #[true, true, false, true, false, false, false, false, false, false, false, false] rfl rfl (take_ofW HT_.out HW_.out (by kernel_rfl)) (fun _ _ _ h => h) (Or.inl ⟨by rfl, ?_⟩) hHeld ?_ ?_
      rotate_left
      · rintro w' ⟨s0, s1, s2, s3, s4, s5, s6⟩
        go_simp
        with_reducible rfl
      rotate_left
      · simp only [Act.put, List.setIfInBounds_toArray, List.set_cons_zero, List.set_cons_succ, i64_w, i32_w]
        rfl
      refine join_ (σ := Nat) 2 #[true, true, true, true, true, true, true, true, true, true, false, false] (fun s_ => [(14, .agg #[.int .i64 t963, .int .i64 t964, .int .i64 t965, .int .i64 t966]), (16, .agg #[.int .i64 t967, .int .i64 t968, .int .i64 t969]), (17, .tuple #[.agg #[.int .i64 t970, .int .i64 t971, .int .i64 t972], .int .i64 t973]), (7, .pointer (some ⟨s_, 0, none⟩)), (11, .tuple #[.agg #[.int .i64 t970, .int .i64 t971, .int .i64 t972], .int .i64 t973]), (18, .agg #[.int .i64 t970, .int .i64 t971, .int .i64 t972]), (19, .int .i64 t973)]) (fun s_ w' => (w'.cell? ⟨gb961, 0, none⟩ = some (.int .i64 a1_0) ∧ w'.cell? ⟨gb961, 1, none⟩ = some (.int .i64 a1_1) ∧ w'.cell? ⟨gb961, 2, none⟩ = some (.int .i64 a1_2) ∧ w'.cell? ⟨gb961, 3, none⟩ = some (.int .i64 a1_3) ∧ w'.cell? ⟨gb962, 0, none⟩ = some (.int .i64 a2_0) ∧ w'.cell? ⟨gb962, 1, none⟩ = some (.int .i64 a2_1) ∧ w'.cell? ⟨gb962, 2, none⟩ = some (.int .i64 a2_2)) ∧ (w'.heap[gb961]? = some (.cells #[.int .i64 a1_0, .int .i64 a1_1, .int .i64 a1_2, .int .i64 a1_3] 23 (0, 0))) ∧ (w'.heap[gb962]? = some (.cells #[.int .i64 a2_0, .int .i64 a2_1, .int .i64 a2_2] 40 (0, 0))) ∧ (w'.heap[s_]? = some (.cells #[.int .i64 0, .int .i64 0, .int .i64 0] 43 (0, 0))) ∧ (w.heap.size ≤ s_) ∧ (w.heap.size ≤ s_) ∧ (gb961 ≠ s_) ∧ (s_ ≠ gb961) ∧ (gb962 ≠ s_) ∧ (s_ ≠ gb962) ∧ (Below w.heap.size w w')) ?_ ?_
      rotate_left
      · intro hCont
        refine two_ (i := 2) (j := 9) (Ni := some 14) (Nj := some 7) #[true, true, true, true, false, false, false, false, false, false, false, false] #[true, true, false, true, false, false, false, false, false, true, false, false] rfl rfl rfl rfl (two_of HT_.out (by kernel_rfl)) (by decide) (by decide) (fun K hK => ?_) (fun K hK => ?_)
        · skip
          refine goes_ Try.func23 (by kernel_rfl) rfl #[.agg #[.int .i64 a1_0, .int .i64 a1_1, .int .i64 a1_2, .int .i64 a1_3]] (by rfl) rfl rfl (by (try simp only [List.map_toArray, List.map_cons, List.map_nil]); first | done | rfl | (simp only [List.length_drop, List.length_take]; rfl)) ?_
          with_reducible refine (laws_toMat.calls a1_0 a1_1 a1_2 a1_3 t963 t964 t965 t966 _ A4.out).mono ?_
          rintro e w16 ⟨rfl, hb⟩
          refine ⟨_, rfl, ?_⟩
          have n0_ := Aside0.mk (blk_below (g := gb961) (o := .cells #[.int .i64 a1_0, .int .i64 a1_1, .int .i64 a1_2, .int .i64 a1_3] 23 (0, 0)) (by (with_reducible repeat (first | refine blk_drewN ?_ _ | refine blk_drew ?_ | refine blk_alloc ?_ _)); exact BK961.out) hb)
          have n1_ := Aside0.mk (blk_below (g := gb962) (o := .cells #[.int .i64 a2_0, .int .i64 a2_1, .int .i64 a2_2] 40 (0, 0)) (by (with_reducible repeat (first | refine blk_drewN ?_ _ | refine blk_drew ?_ | refine blk_alloc ?_ _)); exact BK962.out) hb)
          have n2_ := Aside0.mk (below_step (by repeat (first | (with_reducible first | exact HB.out | apply below_alloc | apply pw_below_drewN | apply below_drew1 | refine below_set ?_ GE961.out | refine below_set ?_ GE962.out) | exact HB.out)) hb)
          clear BK961
          clear BK962
          clear HB
          have BK961 := n0_
          have BK962 := n1_
          have HB := n2_
          clear n0_ n1_ n2_
          (try clear hb)
          (try clear hb2)
          (try clear hk)
          (try clear hi)
          refine hK.out _ _ ⟨(blk_cell BK961.out 0).trans rfl, (blk_cell BK961.out 1).trans rfl, (blk_cell BK961.out 2).trans rfl, (blk_cell BK961.out 3).trans rfl, (blk_cell BK962.out 0).trans rfl, (blk_cell BK962.out 1).trans rfl, (blk_cell BK962.out 2).trans rfl⟩ (fun hHeld => ?_)
          clear hK K
          refine norm_ (a' := ?_) ?_ ?_
          rotate_left
          · show Act.put _ (some 14) _ = _
            simp only [Act.put, List.setIfInBounds_toArray, List.set_cons_zero, List.set_cons_succ, i64_w, i32_w]
            rfl
          refine two_ (i := 4) (j := 9) (Ni := some 16) (Nj := some 7) #[true, true, true, true, true, false, false, false, false, false, false, false] #[true, true, true, true, false, false, false, false, false, true, false, false] rfl rfl rfl rfl (two_of HT_.out (by kernel_rfl)) (by decide) (by decide) (fun K hK => ?_) (fun K hK => ?_)
          · skip
            refine goes_ Try.func20 (by kernel_rfl) rfl #[.agg #[.int .i64 a2_0, .int .i64 a2_1, .int .i64 a2_2]] (by rfl) rfl rfl (by (try simp only [List.map_toArray, List.map_cons, List.map_nil]); first | done | rfl | (simp only [List.length_drop, List.length_take]; rfl)) ?_
            with_reducible refine (laws_toLattice.calls a2_0 a2_1 a2_2 t967 t968 t969 _ A5.out).mono ?_
            rintro e w17 ⟨rfl, hb⟩
            refine ⟨_, rfl, ?_⟩
            have n0_ := Aside0.mk (blk_below (g := gb961) (o := .cells #[.int .i64 a1_0, .int .i64 a1_1, .int .i64 a1_2, .int .i64 a1_3] 23 (0, 0)) (by (with_reducible repeat (first | refine blk_drewN ?_ _ | refine blk_drew ?_ | refine blk_alloc ?_ _)); exact BK961.out) hb)
            have n1_ := Aside0.mk (blk_below (g := gb962) (o := .cells #[.int .i64 a2_0, .int .i64 a2_1, .int .i64 a2_2] 40 (0, 0)) (by (with_reducible repeat (first | refine blk_drewN ?_ _ | refine blk_drew ?_ | refine blk_alloc ?_ _)); exact BK962.out) hb)
            have n2_ := Aside0.mk (below_step (by repeat (first | (with_reducible first | exact HB.out | apply below_alloc | apply pw_below_drewN | apply below_drew1 | refine below_set ?_ GE961.out | refine below_set ?_ GE962.out) | exact HB.out)) hb)
            clear BK961
            clear BK962
            clear HB
            have BK961 := n0_
            have BK962 := n1_
            have HB := n2_
            clear n0_ n1_ n2_
            (try clear hb)
            (try clear hb2)
            (try clear hk)
            (try clear hi)
            refine hK.out _ _ ⟨(blk_cell BK961.out 0).trans rfl, (blk_cell BK961.out 1).trans rfl, (blk_cell BK961.out 2).trans rfl, (blk_cell BK961.out 3).trans rfl, (blk_cell BK962.out 0).trans rfl, (blk_cell BK962.out 1).trans rfl, (blk_cell BK962.out 2).trans rfl⟩ (fun hHeld => ?_)
            clear hK K
            refine norm_ (a' := ?_) ?_ ?_
            rotate_left
            · show Act.put _ (some 16) _ = _
              simp only [Act.put, List.setIfInBounds_toArray, List.set_cons_zero, List.set_cons_succ, i64_w, i32_w]
              rfl
            refine two_ (i := 5) (j := 9) (Ni := some 17) (Nj := some 7) #[true, true, true, true, true, true, false, false, false, false, false, false] #[true, true, true, true, true, false, false, false, false, true, false, false] rfl rfl rfl rfl (two_of HT_.out (by kernel_rfl)) (by decide) (by decide) (fun K hK => ?_) (fun K hK => ?_)
            · skip
              refine goes_ Try.func37 (by kernel_rfl) rfl #[.int .i64 a0, .agg #[.int .i64 t963, .int .i64 t964, .int .i64 t965, .int .i64 t966], .agg #[.int .i64 t967, .int .i64 t968, .int .i64 t969]] (by rfl) rfl rfl (by (try simp only [List.map_toArray, List.map_cons, List.map_nil]); first | done | rfl | (simp only [List.length_drop, List.length_take]; rfl)) ?_
              with_reducible refine (spec_MapLattice.calls k a0 t963 t964 t965 t966 t967 t968 t969 t970 t971 t972 t973 _ A6.out).mono ?_
              rintro e w18 ⟨rfl, hb⟩
              refine ⟨_, rfl, ?_⟩
              have n0_ := Aside0.mk (blk_below (g := gb961) (o := .cells #[.int .i64 a1_0, .int .i64 a1_1, .int .i64 a1_2, .int .i64 a1_3] 23 (0, 0)) (by (with_reducible repeat (first | refine blk_drewN ?_ _ | refine blk_drew ?_ | refine blk_alloc ?_ _)); exact BK961.out) hb)
              have n1_ := Aside0.mk (blk_below (g := gb962) (o := .cells #[.int .i64 a2_0, .int .i64 a2_1, .int .i64 a2_2] 40 (0, 0)) (by (with_reducible repeat (first | refine blk_drewN ?_ _ | refine blk_drew ?_ | refine blk_alloc ?_ _)); exact BK962.out) hb)
              have n2_ := Aside0.mk (below_step (by repeat (first | (with_reducible first | exact HB.out | apply below_alloc | apply pw_below_drewN | apply below_drew1 | refine below_set ?_ GE961.out | refine below_set ?_ GE962.out) | exact HB.out)) hb)
              clear BK961
              clear BK962
              clear HB
              have BK961 := n0_
              have BK962 := n1_
              have HB := n2_
              clear n0_ n1_ n2_
              (try clear hb)
              (try clear hb2)
              (try clear hk)
              (try clear hi)
              refine hK.out _ _ ⟨(blk_cell BK961.out 0).trans rfl, (blk_cell BK961.out 1).trans rfl, (blk_cell BK961.out 2).trans rfl, (blk_cell BK961.out 3).trans rfl, (blk_cell BK962.out 0).trans rfl, (blk_cell BK962.out 1).trans rfl, (blk_cell BK962.out 2).trans rfl⟩ (fun hHeld => ?_)
              clear hK K
              refine norm_ (a' := ?_) ?_ ?_
              rotate_left
              · show Act.put _ (some 17) _ = _
                simp only [Act.put, List.setIfInBounds_toArray, List.set_cons_zero, List.set_cons_succ, i64_w, i32_w]
                rfl
              refine pure_ (i := 6) (N := some 11) (v := ?_) (a' := ?_) #[true, true, true, true, true, true, true, false, false, false, false, false] rfl rfl (any_of HT_.out (by kernel_rfl)) (fun _ _ _ h => h) (Or.inl ⟨by rfl, ?_⟩) ?_ ?_
              rotate_left
              · intro w'
                go_simp
                with_reducible rfl
              rotate_left
              · simp only [Act.put, List.setIfInBounds_toArray, List.set_cons_zero, List.set_cons_succ, i64_w, i32_w]
                rfl
              refine pure_ (i := 7) (N := some 18) (v := ?_) (a' := ?_) #[true, true, true, true, true, true, true, true, false, false, false, false] rfl rfl (any_of HT_.out (by kernel_rfl)) (fun _ _ _ h => h) (Or.inl ⟨by rfl, ?_⟩) ?_ ?_
              rotate_left
              · intro w'
                go_simp
                with_reducible rfl
              rotate_left
              · simp only [Act.put, List.setIfInBounds_toArray, List.set_cons_zero, List.set_cons_succ, i64_w, i32_w]
                rfl
              refine pure_ (i := 8) (N := some 19) (v := ?_) (a' := ?_) #[true, true, true, true, true, true, true, true, true, false, false, false] rfl rfl (any_of HT_.out (by kernel_rfl)) (fun _ _ _ h => h) (Or.inl ⟨by rfl, ?_⟩) ?_ ?_
              rotate_left
              · intro w'
                go_simp
                with_reducible rfl
              rotate_left
              · simp only [Act.put, List.setIfInBounds_toArray, List.set_cons_zero, List.set_cons_succ, i64_w, i32_w]
                rfl
              refine one_ (i := 9) (N := some 7) #[true, true, true, true, true, true, true, true, true, true, false, false] rfl rfl (one_of HT_.out (by kernel_rfl)) (by decide) (fun K hK => ?_)
              refine box_step ?hg (N := 7) ?hd (cs := #[.int .i64 0, .int .i64 0, .int .i64 0]) (t := 43) ?hr ?_; (case hd => rfl); (case hg => rfl); (case hr => first | (go_simp; done) | (go_simp; rfl))
              intro gb974 hg w19 hbox hb
              have n0_ := Aside0.mk (blk_below (g := gb961) (o := .cells #[.int .i64 a1_0, .int .i64 a1_1, .int .i64 a1_2, .int .i64 a1_3] 23 (0, 0)) (by (with_reducible repeat (first | refine blk_drewN ?_ _ | refine blk_drew ?_ | refine blk_alloc ?_ _)); exact BK961.out) hb)
              have n1_ := Aside0.mk (blk_below (g := gb962) (o := .cells #[.int .i64 a2_0, .int .i64 a2_1, .int .i64 a2_2] 40 (0, 0)) (by (with_reducible repeat (first | refine blk_drewN ?_ _ | refine blk_drew ?_ | refine blk_alloc ?_ _)); exact BK962.out) hb)
              have n2_ := Aside0.mk (below_step (by repeat (first | (with_reducible first | exact HB.out | apply below_alloc | apply pw_below_drewN | apply below_drew1 | refine below_set ?_ GE961.out | refine below_set ?_ GE962.out) | exact HB.out)) hb)
              have n3_ := Aside0.mk (hbox)
              have n4_ := Aside0.mk ((by rw [hg]; exact (below_size (by repeat (first | (with_reducible first | exact HB.out | apply below_alloc | apply pw_below_drewN | apply below_drew1 | refine below_set ?_ GE961.out | refine below_set ?_ GE962.out) | exact HB.out))) : w.heap.size ≤ gb974))
              have n5_ := Aside0.mk ((by rw [hg]; exact (below_size (by repeat (first | (with_reducible first | exact HB.out | apply below_alloc | apply pw_below_drewN | apply below_drew1 | refine below_set ?_ GE961.out | refine below_set ?_ GE962.out) | exact HB.out))) : w.heap.size ≤ gb974))
              have n6_ := Aside0.mk ((by rw [hg]; exact Nat.ne_of_lt (blk_lt (g := gb961) (o := .cells #[.int .i64 a1_0, .int .i64 a1_1, .int .i64 a1_2, .int .i64 a1_3] 23 (0, 0)) (by (with_reducible repeat (first | refine blk_drewN ?_ _ | refine blk_drew ?_ | refine blk_alloc ?_ _)); exact BK961.out)) : gb961 ≠ gb974))
              have n7_ := Aside0.mk ((by rw [hg]; exact Nat.ne_of_gt (blk_lt (g := gb961) (o := .cells #[.int .i64 a1_0, .int .i64 a1_1, .int .i64 a1_2, .int .i64 a1_3] 23 (0, 0)) (by (with_reducible repeat (first | refine blk_drewN ?_ _ | refine blk_drew ?_ | refine blk_alloc ?_ _)); exact BK961.out)) : gb974 ≠ gb961))
              have n8_ := Aside0.mk ((by rw [hg]; exact Nat.ne_of_lt (blk_lt (g := gb962) (o := .cells #[.int .i64 a2_0, .int .i64 a2_1, .int .i64 a2_2] 40 (0, 0)) (by (with_reducible repeat (first | refine blk_drewN ?_ _ | refine blk_drew ?_ | refine blk_alloc ?_ _)); exact BK962.out)) : gb962 ≠ gb974))
              have n9_ := Aside0.mk ((by rw [hg]; exact Nat.ne_of_gt (blk_lt (g := gb962) (o := .cells #[.int .i64 a2_0, .int .i64 a2_1, .int .i64 a2_2] 40 (0, 0)) (by (with_reducible repeat (first | refine blk_drewN ?_ _ | refine blk_drew ?_ | refine blk_alloc ?_ _)); exact BK962.out)) : gb974 ≠ gb962))
              clear BK961
              clear BK962
              clear HB
              have BK961 := n0_
              have BK962 := n1_
              have HB := n2_
              have BK974 := n3_
              have GW974 := n4_
              have GE974 := n5_
              have NB961_974 := n6_
              have NB974_961 := n7_
              have NB962_974 := n8_
              have NB974_962 := n9_
              clear n0_ n1_ n2_ n3_ n4_ n5_ n6_ n7_ n8_ n9_
              clear hb hbox hg
              refine hK.out _ _ ⟨(blk_cell BK961.out 0).trans rfl, (blk_cell BK961.out 1).trans rfl, (blk_cell BK961.out 2).trans rfl, (blk_cell BK961.out 3).trans rfl, (blk_cell BK962.out 0).trans rfl, (blk_cell BK962.out 1).trans rfl, (blk_cell BK962.out 2).trans rfl⟩ (fun hHeld => ?_)
              clear hK K
              refine norm_ (a' := ?_) ?_ ?_
              rotate_left
              · show Act.put _ (some 7) _ = _
                simp only [Act.put, List.setIfInBounds_toArray, List.set_cons_zero, List.set_cons_succ, i64_w, i32_w]
                rfl
              exact norm_ (by simp only [putAll, Act.put, List.setIfInBounds_toArray, List.set_cons_zero, List.set_cons_succ]) (hCont (gb974) _ ⟨hHeld, (by (with_reducible repeat (first | refine blk_drewN ?_ _ | refine blk_drew ?_ | refine blk_alloc ?_ _)); exact BK961.out), (by (with_reducible repeat (first | refine blk_drewN ?_ _ | refine blk_drew ?_ | refine blk_alloc ?_ _)); exact BK962.out), (by (with_reducible repeat (first | refine blk_drewN ?_ _ | refine blk_drew ?_ | refine blk_alloc ?_ _)); exact BK974.out), GW974.out, GE974.out, NB961_974.out, NB974_961.out, NB962_974.out, NB974_962.out, (by repeat (first | (with_reducible first | exact HB.out | apply below_alloc | apply pw_below_drewN | apply below_drew1 | refine below_set ?_ GE961.out | refine below_set ?_ GE962.out | refine below_set ?_ GE974.out) | exact HB.out))⟩)
            · skip
              refine box_step ?hg (N := 7) ?hd (cs := #[.int .i64 0, .int .i64 0, .int .i64 0]) (t := 43) ?hr ?_; (case hd => rfl); (case hg => rfl); (case hr => first | (go_simp; done) | (go_simp; rfl))
              intro gb974 hg w18 hbox hb
              have n0_ := Aside0.mk (blk_below (g := gb961) (o := .cells #[.int .i64 a1_0, .int .i64 a1_1, .int .i64 a1_2, .int .i64 a1_3] 23 (0, 0)) (by (with_reducible repeat (first | refine blk_drewN ?_ _ | refine blk_drew ?_ | refine blk_alloc ?_ _)); exact BK961.out) hb)
              have n1_ := Aside0.mk (blk_below (g := gb962) (o := .cells #[.int .i64 a2_0, .int .i64 a2_1, .int .i64 a2_2] 40 (0, 0)) (by (with_reducible repeat (first | refine blk_drewN ?_ _ | refine blk_drew ?_ | refine blk_alloc ?_ _)); exact BK962.out) hb)
              have n2_ := Aside0.mk (below_step (by repeat (first | (with_reducible first | exact HB.out | apply below_alloc | apply pw_below_drewN | apply below_drew1 | refine below_set ?_ GE961.out | refine below_set ?_ GE962.out) | exact HB.out)) hb)
              have n3_ := Aside0.mk (hbox)
              have n4_ := Aside0.mk ((by rw [hg]; exact (below_size (by repeat (first | (with_reducible first | exact HB.out | apply below_alloc | apply pw_below_drewN | apply below_drew1 | refine below_set ?_ GE961.out | refine below_set ?_ GE962.out) | exact HB.out))) : w.heap.size ≤ gb974))
              have n5_ := Aside0.mk ((by rw [hg]; exact (below_size (by repeat (first | (with_reducible first | exact HB.out | apply below_alloc | apply pw_below_drewN | apply below_drew1 | refine below_set ?_ GE961.out | refine below_set ?_ GE962.out) | exact HB.out))) : w.heap.size ≤ gb974))
              have n6_ := Aside0.mk ((by rw [hg]; exact Nat.ne_of_lt (blk_lt (g := gb961) (o := .cells #[.int .i64 a1_0, .int .i64 a1_1, .int .i64 a1_2, .int .i64 a1_3] 23 (0, 0)) (by (with_reducible repeat (first | refine blk_drewN ?_ _ | refine blk_drew ?_ | refine blk_alloc ?_ _)); exact BK961.out)) : gb961 ≠ gb974))
              have n7_ := Aside0.mk ((by rw [hg]; exact Nat.ne_of_gt (blk_lt (g := gb961) (o := .cells #[.int .i64 a1_0, .int .i64 a1_1, .int .i64 a1_2, .int .i64 a1_3] 23 (0, 0)) (by (with_reducible repeat (first | refine blk_drewN ?_ _ | refine blk_drew ?_ | refine blk_alloc ?_ _)); exact BK961.out)) : gb974 ≠ gb961))
              have n8_ := Aside0.mk ((by rw [hg]; exact Nat.ne_of_lt (blk_lt (g := gb962) (o := .cells #[.int .i64 a2_0, .int .i64 a2_1, .int .i64 a2_2] 40 (0, 0)) (by (with_reducible repeat (first | refine blk_drewN ?_ _ | refine blk_drew ?_ | refine blk_alloc ?_ _)); exact BK962.out)) : gb962 ≠ gb974))
              have n9_ := Aside0.mk ((by rw [hg]; exact Nat.ne_of_gt (blk_lt (g := gb962) (o := .cells #[.int .i64 a2_0, .int .i64 a2_1, .int .i64 a2_2] 40 (0, 0)) (by (with_reducible repeat (first | refine blk_drewN ?_ _ | refine blk_drew ?_ | refine blk_alloc ?_ _)); exact BK962.out)) : gb974 ≠ gb962))
              clear BK961
              clear BK962
              clear HB
              have BK961 := n0_
              have BK962 := n1_
              have HB := n2_
              have BK974 := n3_
              have GW974 := n4_
              have GE974 := n5_
              have NB961_974 := n6_
              have NB974_961 := n7_
              have NB962_974 := n8_
              have NB974_962 := n9_
              clear n0_ n1_ n2_ n3_ n4_ n5_ n6_ n7_ n8_ n9_
              clear hb hbox hg
              refine hK.out _ _ ⟨(blk_cell BK961.out 0).trans rfl, (blk_cell BK961.out 1).trans rfl, (blk_cell BK961.out 2).trans rfl, (blk_cell BK961.out 3).trans rfl, (blk_cell BK962.out 0).trans rfl, (blk_cell BK962.out 1).trans rfl, (blk_cell BK962.out 2).trans rfl⟩ (fun hHeld => ?_)
              clear hK K
              refine norm_ (a' := ?_) ?_ ?_
              rotate_left
              · show Act.put _ (some 7) _ = _
                simp only [Act.put, List.setIfInBounds_toArray, List.set_cons_zero, List.set_cons_succ, i64_w, i32_w]
                rfl
              refine one_ (i := 5) (N := some 17) #[true, true, true, true, true, true, false, false, false, true, false, false] rfl rfl (one_of HT_.out (by kernel_rfl)) (by decide) (fun K hK => ?_)
              refine goes_ Try.func37 (by kernel_rfl) rfl #[.int .i64 a0, .agg #[.int .i64 t963, .int .i64 t964, .int .i64 t965, .int .i64 t966], .agg #[.int .i64 t967, .int .i64 t968, .int .i64 t969]] (by rfl) rfl rfl (by (try simp only [List.map_toArray, List.map_cons, List.map_nil]); first | done | rfl | (simp only [List.length_drop, List.length_take]; rfl)) ?_
              with_reducible refine (spec_MapLattice.calls k a0 t963 t964 t965 t966 t967 t968 t969 t970 t971 t972 t973 _ A6.out).mono ?_
              rintro e w19 ⟨rfl, hb⟩
              refine ⟨_, rfl, ?_⟩
              have n0_ := Aside0.mk (blk_below (g := gb961) (o := .cells #[.int .i64 a1_0, .int .i64 a1_1, .int .i64 a1_2, .int .i64 a1_3] 23 (0, 0)) (by (with_reducible repeat (first | refine blk_drewN ?_ _ | refine blk_drew ?_ | refine blk_alloc ?_ _)); exact BK961.out) hb)
              have n1_ := Aside0.mk (blk_below (g := gb962) (o := .cells #[.int .i64 a2_0, .int .i64 a2_1, .int .i64 a2_2] 40 (0, 0)) (by (with_reducible repeat (first | refine blk_drewN ?_ _ | refine blk_drew ?_ | refine blk_alloc ?_ _)); exact BK962.out) hb)
              have n2_ := Aside0.mk (blk_below (g := gb974) (o := .cells #[.int .i64 0, .int .i64 0, .int .i64 0] 43 (0, 0)) (by (with_reducible repeat (first | refine blk_drewN ?_ _ | refine blk_drew ?_ | refine blk_alloc ?_ _)); exact BK974.out) hb)
              have n3_ := Aside0.mk (below_step (by repeat (first | (with_reducible first | exact HB.out | apply below_alloc | apply pw_below_drewN | apply below_drew1 | refine below_set ?_ GE961.out | refine below_set ?_ GE962.out | refine below_set ?_ GE974.out) | exact HB.out)) hb)
              clear BK961
              clear BK962
              clear BK974
              clear HB
              have BK961 := n0_
              have BK962 := n1_
              have BK974 := n2_
              have HB := n3_
              clear n0_ n1_ n2_ n3_
              (try clear hb)
              (try clear hb2)
              (try clear hk)
              (try clear hi)
              refine hK.out _ _ ⟨(blk_cell BK961.out 0).trans rfl, (blk_cell BK961.out 1).trans rfl, (blk_cell BK961.out 2).trans rfl, (blk_cell BK961.out 3).trans rfl, (blk_cell BK962.out 0).trans rfl, (blk_cell BK962.out 1).trans rfl, (blk_cell BK962.out 2).trans rfl⟩ (fun hHeld => ?_)
              clear hK K
              refine norm_ (a' := ?_) ?_ ?_
              rotate_left
              · show Act.put _ (some 17) _ = _
                simp only [Act.put, List.setIfInBounds_toArray, List.set_cons_zero, List.set_cons_succ, i64_w, i32_w]
                rfl
              refine pure_ (i := 6) (N := some 11) (v := ?_) (a' := ?_) #[true, true, true, true, true, true, true, false, false, true, false, false] rfl rfl (any_of HT_.out (by kernel_rfl)) (fun _ _ _ h => h) (Or.inl ⟨by rfl, ?_⟩) ?_ ?_
              rotate_left
              · intro w'
                go_simp
                with_reducible rfl
              rotate_left
              · simp only [Act.put, List.setIfInBounds_toArray, List.set_cons_zero, List.set_cons_succ, i64_w, i32_w]
                rfl
              refine pure_ (i := 7) (N := some 18) (v := ?_) (a' := ?_) #[true, true, true, true, true, true, true, true, false, true, false, false] rfl rfl (any_of HT_.out (by kernel_rfl)) (fun _ _ _ h => h) (Or.inl ⟨by rfl, ?_⟩) ?_ ?_
              rotate_left
              · intro w'
                go_simp
                with_reducible rfl
              rotate_left
              · simp only [Act.put, List.setIfInBounds_toArray, List.set_cons_zero, List.set_cons_succ, i64_w, i32_w]
                rfl
              refine pure_ (i := 8) (N := some 19) (v := ?_) (a' := ?_) #[true, true, true, true, true, true, true, true, true, true, false, false] rfl rfl (any_of HT_.out (by kernel_rfl)) (fun _ _ _ h => h) (Or.inl ⟨by rfl, ?_⟩) ?_ ?_
              rotate_left
              · intro w'
                go_simp
                with_reducible rfl
              rotate_left
              · simp only [Act.put, List.setIfInBounds_toArray, List.set_cons_zero, List.set_cons_succ, i64_w, i32_w]
                rfl
              exact norm_ (by simp only [putAll, Act.put, List.setIfInBounds_toArray, List.set_cons_zero, List.set_cons_succ]) (hCont (gb974) _ ⟨hHeld, (by (with_reducible repeat (first | refine blk_drewN ?_ _ | refine blk_drew ?_ | refine blk_alloc ?_ _)); exact BK961.out), (by (with_reducible repeat (first | refine blk_drewN ?_ _ | refine blk_drew ?_ | refine blk_alloc ?_ _)); exact BK962.out), (by (with_reducible repeat (first | refine blk_drewN ?_ _ | refine blk_drew ?_ | refine blk_alloc ?_ _)); exact BK974.out), GW974.out, GE974.out, NB961_974.out, NB974_961.out, NB962_974.out, NB974_962.out, (by repeat (first | (with_reducible first | exact HB.out | apply below_alloc | apply pw_below_drewN | apply below_drew1 | refine below_set ?_ GE961.out | refine below_set ?_ GE962.out | refine below_set ?_ GE974.out) | exact HB.out))⟩)
          · skip
            refine box_step ?hg (N := 7) ?hd (cs := #[.int .i64 0, .int .i64 0, .int .i64 0]) (t := 43) ?hr ?_; (case hd => rfl); (case hg => rfl); (case hr => first | (go_simp; done) | (go_simp; rfl))
            intro gb974 hg w17 hbox hb
            have n0_ := Aside0.mk (blk_below (g := gb961) (o := .cells #[.int .i64 a1_0, .int .i64 a1_1, .int .i64 a1_2, .int .i64 a1_3] 23 (0, 0)) (by (with_reducible repeat (first | refine blk_drewN ?_ _ | refine blk_drew ?_ | refine blk_alloc ?_ _)); exact BK961.out) hb)
            have n1_ := Aside0.mk (blk_below (g := gb962) (o := .cells #[.int .i64 a2_0, .int .i64 a2_1, .int .i64 a2_2] 40 (0, 0)) (by (with_reducible repeat (first | refine blk_drewN ?_ _ | refine blk_drew ?_ | refine blk_alloc ?_ _)); exact BK962.out) hb)
            have n2_ := Aside0.mk (below_step (by repeat (first | (with_reducible first | exact HB.out | apply below_alloc | apply pw_below_drewN | apply below_drew1 | refine below_set ?_ GE961.out | refine below_set ?_ GE962.out) | exact HB.out)) hb)
            have n3_ := Aside0.mk (hbox)
            have n4_ := Aside0.mk ((by rw [hg]; exact (below_size (by repeat (first | (with_reducible first | exact HB.out | apply below_alloc | apply pw_below_drewN | apply below_drew1 | refine below_set ?_ GE961.out | refine below_set ?_ GE962.out) | exact HB.out))) : w.heap.size ≤ gb974))
            have n5_ := Aside0.mk ((by rw [hg]; exact (below_size (by repeat (first | (with_reducible first | exact HB.out | apply below_alloc | apply pw_below_drewN | apply below_drew1 | refine below_set ?_ GE961.out | refine below_set ?_ GE962.out) | exact HB.out))) : w.heap.size ≤ gb974))
            have n6_ := Aside0.mk ((by rw [hg]; exact Nat.ne_of_lt (blk_lt (g := gb961) (o := .cells #[.int .i64 a1_0, .int .i64 a1_1, .int .i64 a1_2, .int .i64 a1_3] 23 (0, 0)) (by (with_reducible repeat (first | refine blk_drewN ?_ _ | refine blk_drew ?_ | refine blk_alloc ?_ _)); exact BK961.out)) : gb961 ≠ gb974))
            have n7_ := Aside0.mk ((by rw [hg]; exact Nat.ne_of_gt (blk_lt (g := gb961) (o := .cells #[.int .i64 a1_0, .int .i64 a1_1, .int .i64 a1_2, .int .i64 a1_3] 23 (0, 0)) (by (with_reducible repeat (first | refine blk_drewN ?_ _ | refine blk_drew ?_ | refine blk_alloc ?_ _)); exact BK961.out)) : gb974 ≠ gb961))
            have n8_ := Aside0.mk ((by rw [hg]; exact Nat.ne_of_lt (blk_lt (g := gb962) (o := .cells #[.int .i64 a2_0, .int .i64 a2_1, .int .i64 a2_2] 40 (0, 0)) (by (with_reducible repeat (first | refine blk_drewN ?_ _ | refine blk_drew ?_ | refine blk_alloc ?_ _)); exact BK962.out)) : gb962 ≠ gb974))
            have n9_ := Aside0.mk ((by rw [hg]; exact Nat.ne_of_gt (blk_lt (g := gb962) (o := .cells #[.int .i64 a2_0, .int .i64 a2_1, .int .i64 a2_2] 40 (0, 0)) (by (with_reducible repeat (first | refine blk_drewN ?_ _ | refine blk_drew ?_ | refine blk_alloc ?_ _)); exact BK962.out)) : gb974 ≠ gb962))
            clear BK961
            clear BK962
            clear HB
            have BK961 := n0_
            have BK962 := n1_
            have HB := n2_
            have BK974 := n3_
            have GW974 := n4_
            have GE974 := n5_
            have NB961_974 := n6_
            have NB974_961 := n7_
            have NB962_974 := n8_
            have NB974_962 := n9_
            clear n0_ n1_ n2_ n3_ n4_ n5_ n6_ n7_ n8_ n9_
            clear hb hbox hg
            refine hK.out _ _ ⟨(blk_cell BK961.out 0).trans rfl, (blk_cell BK961.out 1).trans rfl, (blk_cell BK961.out 2).trans rfl, (blk_cell BK961.out 3).trans rfl, (blk_cell BK962.out 0).trans rfl, (blk_cell BK962.out 1).trans rfl, (blk_cell BK962.out 2).trans rfl⟩ (fun hHeld => ?_)
            clear hK K
            refine norm_ (a' := ?_) ?_ ?_
            rotate_left
            · show Act.put _ (some 7) _ = _
              simp only [Act.put, List.setIfInBounds_toArray, List.set_cons_zero, List.set_cons_succ, i64_w, i32_w]
              rfl
            refine one_ (i := 4) (N := some 16) #[true, true, true, true, true, false, false, false, false, true, false, false] rfl rfl (one_of HT_.out (by kernel_rfl)) (by decide) (fun K hK => ?_)
            refine goes_ Try.func20 (by kernel_rfl) rfl #[.agg #[.int .i64 a2_0, .int .i64 a2_1, .int .i64 a2_2]] (by rfl) rfl rfl (by (try simp only [List.map_toArray, List.map_cons, List.map_nil]); first | done | rfl | (simp only [List.length_drop, List.length_take]; rfl)) ?_
            with_reducible refine (laws_toLattice.calls a2_0 a2_1 a2_2 t967 t968 t969 _ A5.out).mono ?_
            rintro e w18 ⟨rfl, hb⟩
            refine ⟨_, rfl, ?_⟩
            have n0_ := Aside0.mk (blk_below (g := gb961) (o := .cells #[.int .i64 a1_0, .int .i64 a1_1, .int .i64 a1_2, .int .i64 a1_3] 23 (0, 0)) (by (with_reducible repeat (first | refine blk_drewN ?_ _ | refine blk_drew ?_ | refine blk_alloc ?_ _)); exact BK961.out) hb)
            have n1_ := Aside0.mk (blk_below (g := gb962) (o := .cells #[.int .i64 a2_0, .int .i64 a2_1, .int .i64 a2_2] 40 (0, 0)) (by (with_reducible repeat (first | refine blk_drewN ?_ _ | refine blk_drew ?_ | refine blk_alloc ?_ _)); exact BK962.out) hb)
            have n2_ := Aside0.mk (blk_below (g := gb974) (o := .cells #[.int .i64 0, .int .i64 0, .int .i64 0] 43 (0, 0)) (by (with_reducible repeat (first | refine blk_drewN ?_ _ | refine blk_drew ?_ | refine blk_alloc ?_ _)); exact BK974.out) hb)
            have n3_ := Aside0.mk (below_step (by repeat (first | (with_reducible first | exact HB.out | apply below_alloc | apply pw_below_drewN | apply below_drew1 | refine below_set ?_ GE961.out | refine below_set ?_ GE962.out | refine below_set ?_ GE974.out) | exact HB.out)) hb)
            clear BK961
            clear BK962
            clear BK974
            clear HB
            have BK961 := n0_
            have BK962 := n1_
            have BK974 := n2_
            have HB := n3_
            clear n0_ n1_ n2_ n3_
            (try clear hb)
            (try clear hb2)
            (try clear hk)
            (try clear hi)
            refine hK.out _ _ ⟨(blk_cell BK961.out 0).trans rfl, (blk_cell BK961.out 1).trans rfl, (blk_cell BK961.out 2).trans rfl, (blk_cell BK961.out 3).trans rfl, (blk_cell BK962.out 0).trans rfl, (blk_cell BK962.out 1).trans rfl, (blk_cell BK962.out 2).trans rfl⟩ (fun hHeld => ?_)
            clear hK K
            refine norm_ (a' := ?_) ?_ ?_
            rotate_left
            · show Act.put _ (some 16) _ = _
              simp only [Act.put, List.setIfInBounds_toArray, List.set_cons_zero, List.set_cons_succ, i64_w, i32_w]
              rfl
            refine one_ (i := 5) (N := some 17) #[true, true, true, true, true, true, false, false, false, true, false, false] rfl rfl (one_of HT_.out (by kernel_rfl)) (by decide) (fun K hK => ?_)
            refine goes_ Try.func37 (by kernel_rfl) rfl #[.int .i64 a0, .agg #[.int .i64 t963, .int .i64 t964, .int .i64 t965, .int .i64 t966], .agg #[.int .i64 t967, .int .i64 t968, .int .i64 t969]] (by rfl) rfl rfl (by (try simp only [List.map_toArray, List.map_cons, List.map_nil]); first | done | rfl | (simp only [List.length_drop, List.length_take]; rfl)) ?_
            with_reducible refine (spec_MapLattice.calls k a0 t963 t964 t965 t966 t967 t968 t969 t970 t971 t972 t973 _ A6.out).mono ?_
            rintro e w19 ⟨rfl, hb⟩
            refine ⟨_, rfl, ?_⟩
            have n0_ := Aside0.mk (blk_below (g := gb961) (o := .cells #[.int .i64 a1_0, .int .i64 a1_1, .int .i64 a1_2, .int .i64 a1_3] 23 (0, 0)) (by (with_reducible repeat (first | refine blk_drewN ?_ _ | refine blk_drew ?_ | refine blk_alloc ?_ _)); exact BK961.out) hb)
            have n1_ := Aside0.mk (blk_below (g := gb962) (o := .cells #[.int .i64 a2_0, .int .i64 a2_1, .int .i64 a2_2] 40 (0, 0)) (by (with_reducible repeat (first | refine blk_drewN ?_ _ | refine blk_drew ?_ | refine blk_alloc ?_ _)); exact BK962.out) hb)
            have n2_ := Aside0.mk (blk_below (g := gb974) (o := .cells #[.int .i64 0, .int .i64 0, .int .i64 0] 43 (0, 0)) (by (with_reducible repeat (first | refine blk_drewN ?_ _ | refine blk_drew ?_ | refine blk_alloc ?_ _)); exact BK974.out) hb)
            have n3_ := Aside0.mk (below_step (by repeat (first | (with_reducible first | exact HB.out | apply below_alloc | apply pw_below_drewN | apply below_drew1 | refine below_set ?_ GE961.out | refine below_set ?_ GE962.out | refine below_set ?_ GE974.out) | exact HB.out)) hb)
            clear BK961
            clear BK962
            clear BK974
            clear HB
            have BK961 := n0_
            have BK962 := n1_
            have BK974 := n2_
            have HB := n3_
            clear n0_ n1_ n2_ n3_
            (try clear hb)
            (try clear hb2)
            (try clear hk)
            (try clear hi)
            refine hK.out _ _ ⟨(blk_cell BK961.out 0).trans rfl, (blk_cell BK961.out 1).trans rfl, (blk_cell BK961.out 2).trans rfl, (blk_cell BK961.out 3).trans rfl, (blk_cell BK962.out 0).trans rfl, (blk_cell BK962.out 1).trans rfl, (blk_cell BK962.out 2).trans rfl⟩ (fun hHeld => ?_)
            clear hK K
            refine norm_ (a' := ?_) ?_ ?_
            rotate_left
            · show Act.put _ (some 17) _ = _
              simp only [Act.put, List.setIfInBounds_toArray, List.set_cons_zero, List.set_cons_succ, i64_w, i32_w]
              rfl
            refine pure_ (i := 6) (N := some 11) (v := ?_) (a' := ?_) #[true, true, true, true, true, true, true, false, false, true, false, false] rfl rfl (any_of HT_.out (by kernel_rfl)) (fun _ _ _ h => h) (Or.inl ⟨by rfl, ?_⟩) ?_ ?_
            rotate_left
            · intro w'
              go_simp
              with_reducible rfl
            rotate_left
            · simp only [Act.put, List.setIfInBounds_toArray, List.set_cons_zero, List.set_cons_succ, i64_w, i32_w]
              rfl
            refine pure_ (i := 7) (N := some 18) (v := ?_) (a' := ?_) #[true, true, true, true, true, true, true, true, false, true, false, false] rfl rfl (any_of HT_.out (by kernel_rfl)) (fun _ _ _ h => h) (Or.inl ⟨by rfl, ?_⟩) ?_ ?_
            rotate_left
            · intro w'
              go_simp
              with_reducible rfl
            rotate_left
            · simp only [Act.put, List.setIfInBounds_toArray, List.set_cons_zero, List.set_cons_succ, i64_w, i32_w]
              rfl
            refine pure_ (i := 8) (N := some 19) (v := ?_) (a' := ?_) #[true, true, true, true, true, true, true, true, true, true, false, false] rfl rfl (any_of HT_.out (by kernel_rfl)) (fun _ _ _ h => h) (Or.inl ⟨by rfl, ?_⟩) ?_ ?_
            rotate_left
            · intro w'
              go_simp
              with_reducible rfl
            rotate_left
            · simp only [Act.put, List.setIfInBounds_toArray, List.set_cons_zero, List.set_cons_succ, i64_w, i32_w]
              rfl
            exact norm_ (by simp only [putAll, Act.put, List.setIfInBounds_toArray, List.set_cons_zero, List.set_cons_succ]) (hCont (gb974) _ ⟨hHeld, (by (with_reducible repeat (first | refine blk_drewN ?_ _ | refine blk_drew ?_ | refine blk_alloc ?_ _)); exact BK961.out), (by (with_reducible repeat (first | refine blk_drewN ?_ _ | refine blk_drew ?_ | refine blk_alloc ?_ _)); exact BK962.out), (by (with_reducible repeat (first | refine blk_drewN ?_ _ | refine blk_drew ?_ | refine blk_alloc ?_ _)); exact BK974.out), GW974.out, GE974.out, NB961_974.out, NB974_961.out, NB962_974.out, NB974_962.out, (by repeat (first | (with_reducible first | exact HB.out | apply below_alloc | apply pw_below_drewN | apply below_drew1 | refine below_set ?_ GE961.out | refine below_set ?_ GE962.out | refine below_set ?_ GE974.out) | exact HB.out))⟩)
        · skip
          refine box_step ?hg (N := 7) ?hd (cs := #[.int .i64 0, .int .i64 0, .int .i64 0]) (t := 43) ?hr ?_; (case hd => rfl); (case hg => rfl); (case hr => first | (go_simp; done) | (go_simp; rfl))
          intro gb974 hg w16 hbox hb
          have n0_ := Aside0.mk (blk_below (g := gb961) (o := .cells #[.int .i64 a1_0, .int .i64 a1_1, .int .i64 a1_2, .int .i64 a1_3] 23 (0, 0)) (by (with_reducible repeat (first | refine blk_drewN ?_ _ | refine blk_drew ?_ | refine blk_alloc ?_ _)); exact BK961.out) hb)
          have n1_ := Aside0.mk (blk_below (g := gb962) (o := .cells #[.int .i64 a2_0, .int .i64 a2_1, .int .i64 a2_2] 40 (0, 0)) (by (with_reducible repeat (first | refine blk_drewN ?_ _ | refine blk_drew ?_ | refine blk_alloc ?_ _)); exact BK962.out) hb)
          have n2_ := Aside0.mk (below_step (by repeat (first | (with_reducible first | exact HB.out | apply below_alloc | apply pw_below_drewN | apply below_drew1 | refine below_set ?_ GE961.out | refine below_set ?_ GE962.out) | exact HB.out)) hb)
          have n3_ := Aside0.mk (hbox)
          have n4_ := Aside0.mk ((by rw [hg]; exact (below_size (by repeat (first | (with_reducible first | exact HB.out | apply below_alloc | apply pw_below_drewN | apply below_drew1 | refine below_set ?_ GE961.out | refine below_set ?_ GE962.out) | exact HB.out))) : w.heap.size ≤ gb974))
          have n5_ := Aside0.mk ((by rw [hg]; exact (below_size (by repeat (first | (with_reducible first | exact HB.out | apply below_alloc | apply pw_below_drewN | apply below_drew1 | refine below_set ?_ GE961.out | refine below_set ?_ GE962.out) | exact HB.out))) : w.heap.size ≤ gb974))
          have n6_ := Aside0.mk ((by rw [hg]; exact Nat.ne_of_lt (blk_lt (g := gb961) (o := .cells #[.int .i64 a1_0, .int .i64 a1_1, .int .i64 a1_2, .int .i64 a1_3] 23 (0, 0)) (by (with_reducible repeat (first | refine blk_drewN ?_ _ | refine blk_drew ?_ | refine blk_alloc ?_ _)); exact BK961.out)) : gb961 ≠ gb974))
          have n7_ := Aside0.mk ((by rw [hg]; exact Nat.ne_of_gt (blk_lt (g := gb961) (o := .cells #[.int .i64 a1_0, .int .i64 a1_1, .int .i64 a1_2, .int .i64 a1_3] 23 (0, 0)) (by (with_reducible repeat (first | refine blk_drewN ?_ _ | refine blk_drew ?_ | refine blk_alloc ?_ _)); exact BK961.out)) : gb974 ≠ gb961))
          have n8_ := Aside0.mk ((by rw [hg]; exact Nat.ne_of_lt (blk_lt (g := gb962) (o := .cells #[.int .i64 a2_0, .int .i64 a2_1, .int .i64 a2_2] 40 (0, 0)) (by (with_reducible repeat (first | refine blk_drewN ?_ _ | refine blk_drew ?_ | refine blk_alloc ?_ _)); exact BK962.out)) : gb962 ≠ gb974))
          have n9_ := Aside0.mk ((by rw [hg]; exact Nat.ne_of_gt (blk_lt (g := gb962) (o := .cells #[.int .i64 a2_0, .int .i64 a2_1, .int .i64 a2_2] 40 (0, 0)) (by (with_reducible repeat (first | refine blk_drewN ?_ _ | refine blk_drew ?_ | refine blk_alloc ?_ _)); exact BK962.out)) : gb974 ≠ gb962))
          clear BK961
          clear BK962
          clear HB
          have BK961 := n0_
          have BK962 := n1_
          have HB := n2_
          have BK974 := n3_
          have GW974 := n4_
          have GE974 := n5_
          have NB961_974 := n6_
          have NB974_961 := n7_
          have NB962_974 := n8_
          have NB974_962 := n9_
          clear n0_ n1_ n2_ n3_ n4_ n5_ n6_ n7_ n8_ n9_
          clear hb hbox hg
          refine hK.out _ _ ⟨(blk_cell BK961.out 0).trans rfl, (blk_cell BK961.out 1).trans rfl, (blk_cell BK961.out 2).trans rfl, (blk_cell BK961.out 3).trans rfl, (blk_cell BK962.out 0).trans rfl, (blk_cell BK962.out 1).trans rfl, (blk_cell BK962.out 2).trans rfl⟩ (fun hHeld => ?_)
          clear hK K
          refine norm_ (a' := ?_) ?_ ?_
          rotate_left
          · show Act.put _ (some 7) _ = _
            simp only [Act.put, List.setIfInBounds_toArray, List.set_cons_zero, List.set_cons_succ, i64_w, i32_w]
            rfl
          refine one_ (i := 2) (N := some 14) #[true, true, true, true, false, false, false, false, false, true, false, false] rfl rfl (one_of HT_.out (by kernel_rfl)) (by decide) (fun K hK => ?_)
          refine goes_ Try.func23 (by kernel_rfl) rfl #[.agg #[.int .i64 a1_0, .int .i64 a1_1, .int .i64 a1_2, .int .i64 a1_3]] (by rfl) rfl rfl (by (try simp only [List.map_toArray, List.map_cons, List.map_nil]); first | done | rfl | (simp only [List.length_drop, List.length_take]; rfl)) ?_
          with_reducible refine (laws_toMat.calls a1_0 a1_1 a1_2 a1_3 t963 t964 t965 t966 _ A4.out).mono ?_
          rintro e w17 ⟨rfl, hb⟩
          refine ⟨_, rfl, ?_⟩
          have n0_ := Aside0.mk (blk_below (g := gb961) (o := .cells #[.int .i64 a1_0, .int .i64 a1_1, .int .i64 a1_2, .int .i64 a1_3] 23 (0, 0)) (by (with_reducible repeat (first | refine blk_drewN ?_ _ | refine blk_drew ?_ | refine blk_alloc ?_ _)); exact BK961.out) hb)
          have n1_ := Aside0.mk (blk_below (g := gb962) (o := .cells #[.int .i64 a2_0, .int .i64 a2_1, .int .i64 a2_2] 40 (0, 0)) (by (with_reducible repeat (first | refine blk_drewN ?_ _ | refine blk_drew ?_ | refine blk_alloc ?_ _)); exact BK962.out) hb)
          have n2_ := Aside0.mk (blk_below (g := gb974) (o := .cells #[.int .i64 0, .int .i64 0, .int .i64 0] 43 (0, 0)) (by (with_reducible repeat (first | refine blk_drewN ?_ _ | refine blk_drew ?_ | refine blk_alloc ?_ _)); exact BK974.out) hb)
          have n3_ := Aside0.mk (below_step (by repeat (first | (with_reducible first | exact HB.out | apply below_alloc | apply pw_below_drewN | apply below_drew1 | refine below_set ?_ GE961.out | refine below_set ?_ GE962.out | refine below_set ?_ GE974.out) | exact HB.out)) hb)
          clear BK961
          clear BK962
          clear BK974
          clear HB
          have BK961 := n0_
          have BK962 := n1_
          have BK974 := n2_
          have HB := n3_
          clear n0_ n1_ n2_ n3_
          (try clear hb)
          (try clear hb2)
          (try clear hk)
          (try clear hi)
          refine hK.out _ _ ⟨(blk_cell BK961.out 0).trans rfl, (blk_cell BK961.out 1).trans rfl, (blk_cell BK961.out 2).trans rfl, (blk_cell BK961.out 3).trans rfl, (blk_cell BK962.out 0).trans rfl, (blk_cell BK962.out 1).trans rfl, (blk_cell BK962.out 2).trans rfl⟩ (fun hHeld => ?_)
          clear hK K
          refine norm_ (a' := ?_) ?_ ?_
          rotate_left
          · show Act.put _ (some 14) _ = _
            simp only [Act.put, List.setIfInBounds_toArray, List.set_cons_zero, List.set_cons_succ, i64_w, i32_w]
            rfl
          refine one_ (i := 4) (N := some 16) #[true, true, true, true, true, false, false, false, false, true, false, false] rfl rfl (one_of HT_.out (by kernel_rfl)) (by decide) (fun K hK => ?_)
          refine goes_ Try.func20 (by kernel_rfl) rfl #[.agg #[.int .i64 a2_0, .int .i64 a2_1, .int .i64 a2_2]] (by rfl) rfl rfl (by (try simp only [List.map_toArray, List.map_cons, List.map_nil]); first | done | rfl | (simp only [List.length_drop, List.length_take]; rfl)) ?_
          with_reducible refine (laws_toLattice.calls a2_0 a2_1 a2_2 t967 t968 t969 _ A5.out).mono ?_
          rintro e w18 ⟨rfl, hb⟩
          refine ⟨_, rfl, ?_⟩
          have n0_ := Aside0.mk (blk_below (g := gb961) (o := .cells #[.int .i64 a1_0, .int .i64 a1_1, .int .i64 a1_2, .int .i64 a1_3] 23 (0, 0)) (by (with_reducible repeat (first | refine blk_drewN ?_ _ | refine blk_drew ?_ | refine blk_alloc ?_ _)); exact BK961.out) hb)
          have n1_ := Aside0.mk (blk_below (g := gb962) (o := .cells #[.int .i64 a2_0, .int .i64 a2_1, .int .i64 a2_2] 40 (0, 0)) (by (with_reducible repeat (first | refine blk_drewN ?_ _ | refine blk_drew ?_ | refine blk_alloc ?_ _)); exact BK962.out) hb)
          have n2_ := Aside0.mk (blk_below (g := gb974) (o := .cells #[.int .i64 0, .int .i64 0, .int .i64 0] 43 (0, 0)) (by (with_reducible repeat (first | refine blk_drewN ?_ _ | refine blk_drew ?_ | refine blk_alloc ?_ _)); exact BK974.out) hb)
          have n3_ := Aside0.mk (below_step (by repeat (first | (with_reducible first | exact HB.out | apply below_alloc | apply pw_below_drewN | apply below_drew1 | refine below_set ?_ GE961.out | refine below_set ?_ GE962.out | refine below_set ?_ GE974.out) | exact HB.out)) hb)
          clear BK961
          clear BK962
          clear BK974
          clear HB
          have BK961 := n0_
          have BK962 := n1_
          have BK974 := n2_
          have HB := n3_
          clear n0_ n1_ n2_ n3_
          (try clear hb)
          (try clear hb2)
          (try clear hk)
          (try clear hi)
          refine hK.out _ _ ⟨(blk_cell BK961.out 0).trans rfl, (blk_cell BK961.out 1).trans rfl, (blk_cell BK961.out 2).trans rfl, (blk_cell BK961.out 3).trans rfl, (blk_cell BK962.out 0).trans rfl, (blk_cell BK962.out 1).trans rfl, (blk_cell BK962.out 2).trans rfl⟩ (fun hHeld => ?_)
          clear hK K
          refine norm_ (a' := ?_) ?_ ?_
          rotate_left
          · show Act.put _ (some 16) _ = _
            simp only [Act.put, List.setIfInBounds_toArray, List.set_cons_zero, List.set_cons_succ, i64_w, i32_w]
            rfl
          refine one_ (i := 5) (N := some 17) #[true, true, true, true, true, true, false, false, false, true, false, false] rfl rfl (one_of HT_.out (by kernel_rfl)) (by decide) (fun K hK => ?_)
          refine goes_ Try.func37 (by kernel_rfl) rfl #[.int .i64 a0, .agg #[.int .i64 t963, .int .i64 t964, .int .i64 t965, .int .i64 t966], .agg #[.int .i64 t967, .int .i64 t968, .int .i64 t969]] (by rfl) rfl rfl (by (try simp only [List.map_toArray, List.map_cons, List.map_nil]); first | done | rfl | (simp only [List.length_drop, List.length_take]; rfl)) ?_
          with_reducible refine (spec_MapLattice.calls k a0 t963 t964 t965 t966 t967 t968 t969 t970 t971 t972 t973 _ A6.out).mono ?_
          rintro e w19 ⟨rfl, hb⟩
          refine ⟨_, rfl, ?_⟩
          have n0_ := Aside0.mk (blk_below (g := gb961) (o := .cells #[.int .i64 a1_0, .int .i64 a1_1, .int .i64 a1_2, .int .i64 a1_3] 23 (0, 0)) (by (with_reducible repeat (first | refine blk_drewN ?_ _ | refine blk_drew ?_ | refine blk_alloc ?_ _)); exact BK961.out) hb)
          have n1_ := Aside0.mk (blk_below (g := gb962) (o := .cells #[.int .i64 a2_0, .int .i64 a2_1, .int .i64 a2_2] 40 (0, 0)) (by (with_reducible repeat (first | refine blk_drewN ?_ _ | refine blk_drew ?_ | refine blk_alloc ?_ _)); exact BK962.out) hb)
          have n2_ := Aside0.mk (blk_below (g := gb974) (o := .cells #[.int .i64 0, .int .i64 0, .int .i64 0] 43 (0, 0)) (by (with_reducible repeat (first | refine blk_drewN ?_ _ | refine blk_drew ?_ | refine blk_alloc ?_ _)); exact BK974.out) hb)
          have n3_ := Aside0.mk (below_step (by repeat (first | (with_reducible first | exact HB.out | apply below_alloc | apply pw_below_drewN | apply below_drew1 | refine below_set ?_ GE961.out | refine below_set ?_ GE962.out | refine below_set ?_ GE974.out) | exact HB.out)) hb)
          clear BK961
          clear BK962
          clear BK974
          clear HB
          have BK961 := n0_
          have BK962 := n1_
          have BK974 := n2_
          have HB := n3_
          clear n0_ n1_ n2_ n3_
          (try clear hb)
          (try clear hb2)
          (try clear hk)
          (try clear hi)
          refine hK.out _ _ ⟨(blk_cell BK961.out 0).trans rfl, (blk_cell BK961.out 1).trans rfl, (blk_cell BK961.out 2).trans rfl, (blk_cell BK961.out 3).trans rfl, (blk_cell BK962.out 0).trans rfl, (blk_cell BK962.out 1).trans rfl, (blk_cell BK962.out 2).trans rfl⟩ (fun hHeld => ?_)
          clear hK K
          refine norm_ (a' := ?_) ?_ ?_
          rotate_left
          · show Act.put _ (some 17) _ = _
            simp only [Act.put, List.setIfInBounds_toArray, List.set_cons_zero, List.set_cons_succ, i64_w, i32_w]
            rfl
          refine pure_ (i := 6) (N := some 11) (v := ?_) (a' := ?_) #[true, true, true, true, true, true, true, false, false, true, false, false] rfl rfl (any_of HT_.out (by kernel_rfl)) (fun _ _ _ h => h) (Or.inl ⟨by rfl, ?_⟩) ?_ ?_
          rotate_left
          · intro w'
            go_simp
            with_reducible rfl
          rotate_left
          · simp only [Act.put, List.setIfInBounds_toArray, List.set_cons_zero, List.set_cons_succ, i64_w, i32_w]
            rfl
          refine pure_ (i := 7) (N := some 18) (v := ?_) (a' := ?_) #[true, true, true, true, true, true, true, true, false, true, false, false] rfl rfl (any_of HT_.out (by kernel_rfl)) (fun _ _ _ h => h) (Or.inl ⟨by rfl, ?_⟩) ?_ ?_
          rotate_left
          · intro w'
            go_simp
            with_reducible rfl
          rotate_left
          · simp only [Act.put, List.setIfInBounds_toArray, List.set_cons_zero, List.set_cons_succ, i64_w, i32_w]
            rfl
          refine pure_ (i := 8) (N := some 19) (v := ?_) (a' := ?_) #[true, true, true, true, true, true, true, true, true, true, false, false] rfl rfl (any_of HT_.out (by kernel_rfl)) (fun _ _ _ h => h) (Or.inl ⟨by rfl, ?_⟩) ?_ ?_
          rotate_left
          · intro w'
            go_simp
            with_reducible rfl
          rotate_left
          · simp only [Act.put, List.setIfInBounds_toArray, List.set_cons_zero, List.set_cons_succ, i64_w, i32_w]
            rfl
          exact norm_ (by simp only [putAll, Act.put, List.setIfInBounds_toArray, List.set_cons_zero, List.set_cons_succ]) (hCont (gb974) _ ⟨hHeld, (by (with_reducible repeat (first | refine blk_drewN ?_ _ | refine blk_drew ?_ | refine blk_alloc ?_ _)); exact BK961.out), (by (with_reducible repeat (first | refine blk_drewN ?_ _ | refine blk_drew ?_ | refine blk_alloc ?_ _)); exact BK962.out), (by (with_reducible repeat (first | refine blk_drewN ?_ _ | refine blk_drew ?_ | refine blk_alloc ?_ _)); exact BK974.out), GW974.out, GE974.out, NB961_974.out, NB974_961.out, NB962_974.out, NB974_962.out, (by repeat (first | (with_reducible first | exact HB.out | apply below_alloc | apply pw_below_drewN | apply below_drew1 | refine below_set ?_ GE961.out | refine below_set ?_ GE962.out | refine below_set ?_ GE974.out) | exact HB.out))⟩)
      rintro gb974 w20 ⟨hS_, h0_, h1_, h2_, h3_, h4_, h5_, h6_, h7_, h8_, h9_⟩
      have n0_ : Aside0 (w20.heap[gb961]? = some (.cells #[.int .i64 a1_0, .int .i64 a1_1, .int .i64 a1_2, .int .i64 a1_3] 23 (0, 0))) := ⟨h0_⟩
      have n1_ : Aside0 (w20.heap[gb962]? = some (.cells #[.int .i64 a2_0, .int .i64 a2_1, .int .i64 a2_2] 40 (0, 0))) := ⟨h1_⟩
      have n2_ : Aside0 (w20.heap[gb974]? = some (.cells #[.int .i64 0, .int .i64 0, .int .i64 0] 43 (0, 0))) := ⟨h2_⟩
      have n3_ : Aside0 (w.heap.size ≤ gb974) := ⟨h3_⟩
      have n4_ : Aside0 (w.heap.size ≤ gb974) := ⟨h4_⟩
      have n5_ : Aside0 (gb961 ≠ gb974) := ⟨h5_⟩
      have n6_ : Aside0 (gb974 ≠ gb961) := ⟨h6_⟩
      have n7_ : Aside0 (gb962 ≠ gb974) := ⟨h7_⟩
      have n8_ : Aside0 (gb974 ≠ gb962) := ⟨h8_⟩
      have n9_ : Aside0 (Below w.heap.size w w20) := ⟨h9_⟩
      clear BK961
      clear BK962
      clear HB
      clear h0_ h1_ h2_ h3_ h4_ h5_ h6_ h7_ h8_ h9_
      have BK961 := n0_
      have BK962 := n1_
      have BK974 := n2_
      have GW974 := n3_
      have GE974 := n4_
      have NB961_974 := n5_
      have NB974_961 := n6_
      have NB962_974 := n7_
      have NB974_962 := n8_
      have HB := n9_
      clear n0_ n1_ n2_ n3_ n4_ n5_ n6_ n7_ n8_ n9_
      have hHeld : w20.cell? ⟨gb961, 0, none⟩ = some (.int .i64 a1_0) ∧ w20.cell? ⟨gb961, 1, none⟩ = some (.int .i64 a1_1) ∧ w20.cell? ⟨gb961, 2, none⟩ = some (.int .i64 a1_2) ∧ w20.cell? ⟨gb961, 3, none⟩ = some (.int .i64 a1_3) ∧ w20.cell? ⟨gb962, 0, none⟩ = some (.int .i64 a2_0) ∧ w20.cell? ⟨gb962, 1, none⟩ = some (.int .i64 a2_1) ∧ w20.cell? ⟨gb962, 2, none⟩ = some (.int .i64 a2_2) := hS_
      refine norm_ (a' := ?_) ?_ ?_
      rotate_left
      · simp only [putAll, Act.put, List.setIfInBounds_toArray, List.set_cons_zero, List.set_cons_succ]
        rfl
      refine one_ (i := 10) (N := none) #[true, true, true, true, true, true, true, true, true, true, true, false] rfl rfl (one_of HT_.out (by kernel_rfl)) (by decide) (fun K hK => ?_)
      have hs21 : w20.cell? ⟨gb974, 0, none⟩ = some (.int .i64 0) := (blk_cell BK974.out 0).trans rfl
      have hfs21 := blk_frozen BK974.out 0
      have hns21_0 := NB961_974.out
      have hns21_1 := NB962_974.out
      have hms21_0 := NB974_961.out
      have hms21_1 := NB974_962.out
      have hs22 : w20.cell? ⟨gb974, 1, none⟩ = some (.int .i64 0) := (blk_cell BK974.out 1).trans rfl
      have hfs22 := blk_frozen BK974.out 1
      have hns22_0 := NB961_974.out
      have hns22_1 := NB962_974.out
      have hms22_0 := NB974_961.out
      have hms22_1 := NB974_962.out
      have hs23 : w20.cell? ⟨gb974, 2, none⟩ = some (.int .i64 0) := (blk_cell BK974.out 2).trans rfl
      have hfs23 := blk_frozen BK974.out 2
      have hns23_0 := NB961_974.out
      have hns23_1 := NB962_974.out
      have hms23_0 := NB974_961.out
      have hms23_1 := NB974_962.out
      refine skip_ (w1 := ?_) (by rfl) rfl ?_ ?_
      rotate_left
      · go_simp
        rfl
      refine hK.out _ _ ⟨((cell_far (p := ⟨gb974, _, none⟩) NB961_974.out _).trans (((cell_far (p := ⟨gb974, _, none⟩) NB961_974.out _).trans (((cell_far (p := ⟨gb974, _, none⟩) NB961_974.out _).trans (hHeld.1)))))), ((cell_far (p := ⟨gb974, _, none⟩) NB961_974.out _).trans (((cell_far (p := ⟨gb974, _, none⟩) NB961_974.out _).trans (((cell_far (p := ⟨gb974, _, none⟩) NB961_974.out _).trans (hHeld.2.1)))))), ((cell_far (p := ⟨gb974, _, none⟩) NB961_974.out _).trans (((cell_far (p := ⟨gb974, _, none⟩) NB961_974.out _).trans (((cell_far (p := ⟨gb974, _, none⟩) NB961_974.out _).trans (hHeld.2.2.1)))))), ((cell_far (p := ⟨gb974, _, none⟩) NB961_974.out _).trans (((cell_far (p := ⟨gb974, _, none⟩) NB961_974.out _).trans (((cell_far (p := ⟨gb974, _, none⟩) NB961_974.out _).trans (hHeld.2.2.2.1)))))), ((cell_far (p := ⟨gb974, _, none⟩) NB962_974.out _).trans (((cell_far (p := ⟨gb974, _, none⟩) NB962_974.out _).trans (((cell_far (p := ⟨gb974, _, none⟩) NB962_974.out _).trans (hHeld.2.2.2.2.1)))))), ((cell_far (p := ⟨gb974, _, none⟩) NB962_974.out _).trans (((cell_far (p := ⟨gb974, _, none⟩) NB962_974.out _).trans (((cell_far (p := ⟨gb974, _, none⟩) NB962_974.out _).trans (hHeld.2.2.2.2.2.1)))))), ((cell_far (p := ⟨gb974, _, none⟩) NB962_974.out _).trans (((cell_far (p := ⟨gb974, _, none⟩) NB962_974.out _).trans (((cell_far (p := ⟨gb974, _, none⟩) NB962_974.out _).trans (hHeld.2.2.2.2.2.2))))))⟩ (fun hHeld => ?_)
      clear hK K
      refine pure_ (i := 11) (N := some 8) (v := ?_) (a' := ?_) #[true, true, true, true, true, true, true, true, true, true, true, true] rfl rfl (any_of HT_.out (by kernel_rfl)) (fun _ _ _ h => h) (Or.inl ⟨by rfl, ?_⟩) ?_ ?_
      rotate_left
      · intro w'
        go_simp
        with_reducible rfl
      rotate_left
      · simp only [Act.put, List.setIfInBounds_toArray, List.set_cons_zero, List.set_cons_succ, i64_w, i32_w]
        rfl
      refine done_ (done_of HT_.out (by kernel_rfl)) ?_
      try go_wp2
      have n0_ : Aside0 ((((w20.setCell ⟨gb974, 0, none⟩ (.int .i64 t970)).setCell ⟨gb974, 1, none⟩ (.int .i64 t971)).setCell ⟨gb974, 2, none⟩ (.int .i64 t972)).heap[gb961]? = some (.cells #[.int .i64 a1_0, .int .i64 a1_1, .int .i64 a1_2, .int .i64 a1_3] 23 (0, 0))) := ⟨by (with_reducible repeat (first | refine blk_drewN ?_ _ | refine blk_drew ?_ | refine blk_alloc ?_ _)); refine blk_far ?_ NB961_974.out _; (with_reducible repeat (first | refine blk_drewN ?_ _ | refine blk_drew ?_ | refine blk_alloc ?_ _)); refine blk_far ?_ NB961_974.out _; (with_reducible repeat (first | refine blk_drewN ?_ _ | refine blk_drew ?_ | refine blk_alloc ?_ _)); refine blk_far ?_ NB961_974.out _; (with_reducible repeat (first | refine blk_drewN ?_ _ | refine blk_drew ?_ | refine blk_alloc ?_ _)); exact BK961.out⟩
      have n1_ : Aside0 ((((w20.setCell ⟨gb974, 0, none⟩ (.int .i64 t970)).setCell ⟨gb974, 1, none⟩ (.int .i64 t971)).setCell ⟨gb974, 2, none⟩ (.int .i64 t972)).heap[gb962]? = some (.cells #[.int .i64 a2_0, .int .i64 a2_1, .int .i64 a2_2] 40 (0, 0))) := ⟨by (with_reducible repeat (first | refine blk_drewN ?_ _ | refine blk_drew ?_ | refine blk_alloc ?_ _)); refine blk_far ?_ NB962_974.out _; (with_reducible repeat (first | refine blk_drewN ?_ _ | refine blk_drew ?_ | refine blk_alloc ?_ _)); refine blk_far ?_ NB962_974.out _; (with_reducible repeat (first | refine blk_drewN ?_ _ | refine blk_drew ?_ | refine blk_alloc ?_ _)); refine blk_far ?_ NB962_974.out _; (with_reducible repeat (first | refine blk_drewN ?_ _ | refine blk_drew ?_ | refine blk_alloc ?_ _)); exact BK962.out⟩
      have n2_ : Aside0 ((((w20.setCell ⟨gb974, 0, none⟩ (.int .i64 t970)).setCell ⟨gb974, 1, none⟩ (.int .i64 t971)).setCell ⟨gb974, 2, none⟩ (.int .i64 t972)).heap[gb974]? = some (.cells #[.int .i64 t970, .int .i64 t971, .int .i64 t972] 43 (0, 0))) := ⟨by (with_reducible repeat (first | refine blk_drewN ?_ _ | refine blk_drew ?_ | refine blk_alloc ?_ _)); refine blk_put (cs := #[.int .i64 t970, .int .i64 t971, .int .i64 0]) ?_ 2 _ rfl; (with_reducible repeat (first | refine blk_drewN ?_ _ | refine blk_drew ?_ | refine blk_alloc ?_ _)); refine blk_put (cs := #[.int .i64 t970, .int .i64 0, .int .i64 0]) ?_ 1 _ rfl; (with_reducible repeat (first | refine blk_drewN ?_ _ | refine blk_drew ?_ | refine blk_alloc ?_ _)); refine blk_put (cs := #[.int .i64 0, .int .i64 0, .int .i64 0]) ?_ 0 _ rfl; (with_reducible repeat (first | refine blk_drewN ?_ _ | refine blk_drew ?_ | refine blk_alloc ?_ _)); exact BK974.out⟩
      have n3_ : Aside0 (Below w.heap.size w (((w20.setCell ⟨gb974, 0, none⟩ (.int .i64 t970)).setCell ⟨gb974, 1, none⟩ (.int .i64 t971)).setCell ⟨gb974, 2, none⟩ (.int .i64 t972))) := ⟨by repeat (first | (with_reducible first | exact HB.out | apply below_alloc | apply pw_below_drewN | apply below_drew1 | refine below_set ?_ GE961.out | refine below_set ?_ GE962.out | refine below_set ?_ GE974.out) | exact HB.out)⟩
      (try clear BK961)
      (try clear BK962)
      (try clear BK974)
      (try clear HB)
      generalize (((w20.setCell ⟨gb974, 0, none⟩ (.int .i64 t970)).setCell ⟨gb974, 1, none⟩ (.int .i64 t971)).setCell ⟨gb974, 2, none⟩ (.int .i64 t972)) = w24 at n0_ n1_ n2_ n3_ ⊢
      have BK961 := n0_
      have BK962 := n1_
      have BK974 := n2_
      have HB := n3_
      clear n0_ n1_ n2_ n3_
      have n0_ := Aside0.mk (blk_drew BK961.out)
      have n1_ := Aside0.mk (blk_drew BK962.out)
      have n2_ := Aside0.mk (blk_drew BK974.out)
      have n3_ := Aside0.mk (below_drew1 HB.out)
      clear BK961
      clear BK962
      clear BK974
      clear HB
      have BK961 := n0_
      have BK962 := n1_
      have BK974 := n2_
      have HB := n3_
      clear n0_ n1_ n2_ n3_
      refine start_ (n := 12) (S := fun w' => w'.cell? ⟨gb961, 0, none⟩ = some (.int .i64 a1_0) ∧ w'.cell? ⟨gb961, 1, none⟩ = some (.int .i64 a1_1) ∧ w'.cell? ⟨gb961, 2, none⟩ = some (.int .i64 a1_2) ∧ w'.cell? ⟨gb961, 3, none⟩ = some (.int .i64 a1_3) ∧ w'.cell? ⟨gb962, 0, none⟩ = some (.int .i64 a2_0) ∧ w'.cell? ⟨gb962, 1, none⟩ = some (.int .i64 a2_1) ∧ w'.cell? ⟨gb962, 2, none⟩ = some (.int .i64 a2_2)) (ds := []) #[false, false, false, false, false, false, false, false, false, false, false, false] (by kernel_rfl) rfl rfl ⟨(blk_cell BK961.out 0).trans rfl, (blk_cell BK961.out 1).trans rfl, (blk_cell BK961.out 2).trans rfl, (blk_cell BK961.out 3).trans rfl, (blk_cell BK962.out 0).trans rfl, (blk_cell BK962.out 1).trans rfl, (blk_cell BK962.out 2).trans rfl⟩ (fun hHeld => ?_); refine with_tabW laws_FnExactMapLattice.tab2 laws_FnExactMapLattice.bits2 (fun HT_ HW_ => ?_)
      generalize w24.drew = w25 at BK961 BK962 BK974 HB hHeld ⊢
      refine pure_ (i := 0) (N := some 21) (v := ?_) (a' := ?_) #[true, false, false, false, false, false, false, false, false, false, false, false] rfl rfl (any_of HT_.out (by kernel_rfl)) (fun _ _ _ h => h) (Or.inl ⟨by rfl, ?_⟩) ?_ ?_
      rotate_left
      · intro w'
        go_simp
        with_reducible rfl
      rotate_left
      · simp only [Act.put, List.setIfInBounds_toArray, List.set_cons_zero, List.set_cons_succ, i64_w, i32_w]
        rfl
      refine take_ (i := 1) (N := some 22) (v := ?_) (a' := ?_) #[true, true, false, false, false, false, false, false, false, false, false, false] rfl rfl (take_ofW HT_.out HW_.out (by kernel_rfl)) (fun _ _ _ h => h) (Or.inl ⟨by rfl, ?_⟩) hHeld ?_ ?_
      rotate_left
      · rintro w' ⟨s0, s1, s2, s3, s4, s5, s6⟩
        go_simp
        with_reducible rfl
      rotate_left
      · simp only [Act.put, List.setIfInBounds_toArray, List.set_cons_zero, List.set_cons_succ, i64_w, i32_w]
        rfl
      refine take_ (i := 3) (N := some 24) (v := ?_) (a' := ?_) #[true, true, false, true, false, false, false, false, false, false, false, false] rfl rfl (take_ofW HT_.out HW_.out (by kernel_rfl)) (fun _ _ _ h => h) (Or.inl ⟨by rfl, ?_⟩) hHeld ?_ ?_
      rotate_left
      · rintro w' ⟨s0, s1, s2, s3, s4, s5, s6⟩
        go_simp
        with_reducible rfl
      rotate_left
      · simp only [Act.put, List.setIfInBounds_toArray, List.set_cons_zero, List.set_cons_succ, i64_w, i32_w]
        rfl
      refine join_ (σ := Nat) 2 #[true, true, true, true, true, true, true, true, true, true, false, false] (fun s_ => [(23, .agg #[.int .i64 t975, .int .i64 t976, .int .i64 t977, .int .i64 t978]), (25, .agg #[.int .i64 t979, .int .i64 t980, .int .i64 t981]), (26, .tuple #[.agg #[.int .i64 t982, .int .i64 t983, .int .i64 t984], .int .i64 t985]), (9, .pointer (some ⟨s_, 0, none⟩)), (20, .tuple #[.agg #[.int .i64 t982, .int .i64 t983, .int .i64 t984], .int .i64 t985]), (27, .agg #[.int .i64 t982, .int .i64 t983, .int .i64 t984]), (28, .int .i64 t985)]) (fun s_ w' => (w'.cell? ⟨gb961, 0, none⟩ = some (.int .i64 a1_0) ∧ w'.cell? ⟨gb961, 1, none⟩ = some (.int .i64 a1_1) ∧ w'.cell? ⟨gb961, 2, none⟩ = some (.int .i64 a1_2) ∧ w'.cell? ⟨gb961, 3, none⟩ = some (.int .i64 a1_3) ∧ w'.cell? ⟨gb962, 0, none⟩ = some (.int .i64 a2_0) ∧ w'.cell? ⟨gb962, 1, none⟩ = some (.int .i64 a2_1) ∧ w'.cell? ⟨gb962, 2, none⟩ = some (.int .i64 a2_2)) ∧ (w'.heap[gb961]? = some (.cells #[.int .i64 a1_0, .int .i64 a1_1, .int .i64 a1_2, .int .i64 a1_3] 23 (0, 0))) ∧ (w'.heap[gb962]? = some (.cells #[.int .i64 a2_0, .int .i64 a2_1, .int .i64 a2_2] 40 (0, 0))) ∧ (w'.heap[gb974]? = some (.cells #[.int .i64 t970, .int .i64 t971, .int .i64 t972] 43 (0, 0))) ∧ (w'.heap[s_]? = some (.cells #[.int .i64 0, .int .i64 0, .int .i64 0] 43 (0, 0))) ∧ (w.heap.size ≤ s_) ∧ (w.heap.size ≤ s_) ∧ (gb961 ≠ s_) ∧ (s_ ≠ gb961) ∧ (gb962 ≠ s_) ∧ (s_ ≠ gb962) ∧ (gb974 ≠ s_) ∧ (s_ ≠ gb974) ∧ (Below w.heap.size w w')) ?_ ?_
      rotate_left
      · intro hCont
        refine two_ (i := 2) (j := 9) (Ni := some 23) (Nj := some 9) #[true, true, true, true, false, false, false, false, false, false, false, false] #[true, true, false, true, false, false, false, false, false, true, false, false] rfl rfl rfl rfl (two_of HT_.out (by kernel_rfl)) (by decide) (by decide) (fun K hK => ?_) (fun K hK => ?_)
        · skip
          refine goes_ Try.func23 (by kernel_rfl) rfl #[.agg #[.int .i64 a1_0, .int .i64 a1_1, .int .i64 a1_2, .int .i64 a1_3]] (by rfl) rfl rfl (by (try simp only [List.map_toArray, List.map_cons, List.map_nil]); first | done | rfl | (simp only [List.length_drop, List.length_take]; rfl)) ?_
          with_reducible refine (laws_toMat.calls a1_0 a1_1 a1_2 a1_3 t975 t976 t977 t978 _ A7.out).mono ?_
          rintro e w26 ⟨rfl, hb⟩
          refine ⟨_, rfl, ?_⟩
          have n0_ := Aside0.mk (blk_below (g := gb961) (o := .cells #[.int .i64 a1_0, .int .i64 a1_1, .int .i64 a1_2, .int .i64 a1_3] 23 (0, 0)) (by (with_reducible repeat (first | refine blk_drewN ?_ _ | refine blk_drew ?_ | refine blk_alloc ?_ _)); exact BK961.out) hb)
          have n1_ := Aside0.mk (blk_below (g := gb962) (o := .cells #[.int .i64 a2_0, .int .i64 a2_1, .int .i64 a2_2] 40 (0, 0)) (by (with_reducible repeat (first | refine blk_drewN ?_ _ | refine blk_drew ?_ | refine blk_alloc ?_ _)); exact BK962.out) hb)
          have n2_ := Aside0.mk (blk_below (g := gb974) (o := .cells #[.int .i64 t970, .int .i64 t971, .int .i64 t972] 43 (0, 0)) (by (with_reducible repeat (first | refine blk_drewN ?_ _ | refine blk_drew ?_ | refine blk_alloc ?_ _)); exact BK974.out) hb)
          have n3_ := Aside0.mk (below_step (by repeat (first | (with_reducible first | exact HB.out | apply below_alloc | apply pw_below_drewN | apply below_drew1 | refine below_set ?_ GE961.out | refine below_set ?_ GE962.out | refine below_set ?_ GE974.out) | exact HB.out)) hb)
          clear BK961
          clear BK962
          clear BK974
          clear HB
          have BK961 := n0_
          have BK962 := n1_
          have BK974 := n2_
          have HB := n3_
          clear n0_ n1_ n2_ n3_
          (try clear hb)
          (try clear hb2)
          (try clear hk)
          (try clear hi)
          refine hK.out _ _ ⟨(blk_cell BK961.out 0).trans rfl, (blk_cell BK961.out 1).trans rfl, (blk_cell BK961.out 2).trans rfl, (blk_cell BK961.out 3).trans rfl, (blk_cell BK962.out 0).trans rfl, (blk_cell BK962.out 1).trans rfl, (blk_cell BK962.out 2).trans rfl⟩ (fun hHeld => ?_)
          clear hK K
          refine norm_ (a' := ?_) ?_ ?_
          rotate_left
          · show Act.put _ (some 23) _ = _
            simp only [Act.put, List.setIfInBounds_toArray, List.set_cons_zero, List.set_cons_succ, i64_w, i32_w]
            rfl
          refine two_ (i := 4) (j := 9) (Ni := some 25) (Nj := some 9) #[true, true, true, true, true, false, false, false, false, false, false, false] #[true, true, true, true, false, false, false, false, false, true, false, false] rfl rfl rfl rfl (two_of HT_.out (by kernel_rfl)) (by decide) (by decide) (fun K hK => ?_) (fun K hK => ?_)
          · skip
            refine goes_ Try.func20 (by kernel_rfl) rfl #[.agg #[.int .i64 a2_0, .int .i64 a2_1, .int .i64 a2_2]] (by rfl) rfl rfl (by (try simp only [List.map_toArray, List.map_cons, List.map_nil]); first | done | rfl | (simp only [List.length_drop, List.length_take]; rfl)) ?_
            with_reducible refine (laws_toLattice.calls a2_0 a2_1 a2_2 t979 t980 t981 _ A8.out).mono ?_
            rintro e w27 ⟨rfl, hb⟩
            refine ⟨_, rfl, ?_⟩
            have n0_ := Aside0.mk (blk_below (g := gb961) (o := .cells #[.int .i64 a1_0, .int .i64 a1_1, .int .i64 a1_2, .int .i64 a1_3] 23 (0, 0)) (by (with_reducible repeat (first | refine blk_drewN ?_ _ | refine blk_drew ?_ | refine blk_alloc ?_ _)); exact BK961.out) hb)
            have n1_ := Aside0.mk (blk_below (g := gb962) (o := .cells #[.int .i64 a2_0, .int .i64 a2_1, .int .i64 a2_2] 40 (0, 0)) (by (with_reducible repeat (first | refine blk_drewN ?_ _ | refine blk_drew ?_ | refine blk_alloc ?_ _)); exact BK962.out) hb)
            have n2_ := Aside0.mk (blk_below (g := gb974) (o := .cells #[.int .i64 t970, .int .i64 t971, .int .i64 t972] 43 (0, 0)) (by (with_reducible repeat (first | refine blk_drewN ?_ _ | refine blk_drew ?_ | refine blk_alloc ?_ _)); exact BK974.out) hb)
            have n3_ := Aside0.mk (below_step (by repeat (first | (with_reducible first | exact HB.out | apply below_alloc | apply pw_below_drewN | apply below_drew1 | refine below_set ?_ GE961.out | refine below_set ?_ GE962.out | refine below_set ?_ GE974.out) | exact HB.out)) hb)
            clear BK961
            clear BK962
            clear BK974
            clear HB
            have BK961 := n0_
            have BK962 := n1_
            have BK974 := n2_
            have HB := n3_
            clear n0_ n1_ n2_ n3_
            (try clear hb)
            (try clear hb2)
            (try clear hk)
            (try clear hi)
            refine hK.out _ _ ⟨(blk_cell BK961.out 0).trans rfl, (blk_cell BK961.out 1).trans rfl, (blk_cell BK961.out 2).trans rfl, (blk_cell BK961.out 3).trans rfl, (blk_cell BK962.out 0).trans rfl, (blk_cell BK962.out 1).trans rfl, (blk_cell BK962.out 2).trans rfl⟩ (fun hHeld => ?_)
            clear hK K
            refine norm_ (a' := ?_) ?_ ?_
            rotate_left
            · show Act.put _ (some 25) _ = _
              simp only [Act.put, List.setIfInBounds_toArray, List.set_cons_zero, List.set_cons_succ, i64_w, i32_w]
              rfl
            refine two_ (i := 5) (j := 9) (Ni := some 26) (Nj := some 9) #[true, true, true, true, true, true, false, false, false, false, false, false] #[true, true, true, true, true, false, false, false, false, true, false, false] rfl rfl rfl rfl (two_of HT_.out (by kernel_rfl)) (by decide) (by decide) (fun K hK => ?_) (fun K hK => ?_)
            · skip
              refine goes_ Try.func38 (by kernel_rfl) rfl #[.int .i64 a0, .agg #[.int .i64 t975, .int .i64 t976, .int .i64 t977, .int .i64 t978], .agg #[.int .i64 t979, .int .i64 t980, .int .i64 t981]] (by rfl) rfl rfl (by (try simp only [List.map_toArray, List.map_cons, List.map_nil]); first | done | rfl | (simp only [List.length_drop, List.length_take]; rfl)) ?_
              with_reducible refine (impl_MapLattice.calls k a0 t975 t976 t977 t978 t979 t980 t981 t982 t983 t984 t985 _ A9.out).mono ?_
              rintro e w28 ⟨rfl, hb⟩
              refine ⟨_, rfl, ?_⟩
              have n0_ := Aside0.mk (blk_below (g := gb961) (o := .cells #[.int .i64 a1_0, .int .i64 a1_1, .int .i64 a1_2, .int .i64 a1_3] 23 (0, 0)) (by (with_reducible repeat (first | refine blk_drewN ?_ _ | refine blk_drew ?_ | refine blk_alloc ?_ _)); exact BK961.out) hb)
              have n1_ := Aside0.mk (blk_below (g := gb962) (o := .cells #[.int .i64 a2_0, .int .i64 a2_1, .int .i64 a2_2] 40 (0, 0)) (by (with_reducible repeat (first | refine blk_drewN ?_ _ | refine blk_drew ?_ | refine blk_alloc ?_ _)); exact BK962.out) hb)
              have n2_ := Aside0.mk (blk_below (g := gb974) (o := .cells #[.int .i64 t970, .int .i64 t971, .int .i64 t972] 43 (0, 0)) (by (with_reducible repeat (first | refine blk_drewN ?_ _ | refine blk_drew ?_ | refine blk_alloc ?_ _)); exact BK974.out) hb)
              have n3_ := Aside0.mk (below_step (by repeat (first | (with_reducible first | exact HB.out | apply below_alloc | apply pw_below_drewN | apply below_drew1 | refine below_set ?_ GE961.out | refine below_set ?_ GE962.out | refine below_set ?_ GE974.out) | exact HB.out)) hb)
              clear BK961
              clear BK962
              clear BK974
              clear HB
              have BK961 := n0_
              have BK962 := n1_
              have BK974 := n2_
              have HB := n3_
              clear n0_ n1_ n2_ n3_
              (try clear hb)
              (try clear hb2)
              (try clear hk)
              (try clear hi)
              refine hK.out _ _ ⟨(blk_cell BK961.out 0).trans rfl, (blk_cell BK961.out 1).trans rfl, (blk_cell BK961.out 2).trans rfl, (blk_cell BK961.out 3).trans rfl, (blk_cell BK962.out 0).trans rfl, (blk_cell BK962.out 1).trans rfl, (blk_cell BK962.out 2).trans rfl⟩ (fun hHeld => ?_)
              clear hK K
              refine norm_ (a' := ?_) ?_ ?_
              rotate_left
              · show Act.put _ (some 26) _ = _
                simp only [Act.put, List.setIfInBounds_toArray, List.set_cons_zero, List.set_cons_succ, i64_w, i32_w]
                rfl
              refine pure_ (i := 6) (N := some 20) (v := ?_) (a' := ?_) #[true, true, true, true, true, true, true, false, false, false, false, false] rfl rfl (any_of HT_.out (by kernel_rfl)) (fun _ _ _ h => h) (Or.inl ⟨by rfl, ?_⟩) ?_ ?_
              rotate_left
              · intro w'
                go_simp
                with_reducible rfl
              rotate_left
              · simp only [Act.put, List.setIfInBounds_toArray, List.set_cons_zero, List.set_cons_succ, i64_w, i32_w]
                rfl
              refine pure_ (i := 7) (N := some 27) (v := ?_) (a' := ?_) #[true, true, true, true, true, true, true, true, false, false, false, false] rfl rfl (any_of HT_.out (by kernel_rfl)) (fun _ _ _ h => h) (Or.inl ⟨by rfl, ?_⟩) ?_ ?_
              rotate_left
              · intro w'
                go_simp
                with_reducible rfl
              rotate_left
              · simp only [Act.put, List.setIfInBounds_toArray, List.set_cons_zero, List.set_cons_succ, i64_w, i32_w]
                rfl
              refine pure_ (i := 8) (N := some 28) (v := ?_) (a' := ?_) #[true, true, true, true, true, true, true, true, true, false, false, false] rfl rfl (any_of HT_.out (by kernel_rfl)) (fun _ _ _ h => h) (Or.inl ⟨by rfl, ?_⟩) ?_ ?_
              rotate_left
              · intro w'
                go_simp
                with_reducible rfl
              rotate_left
              · simp only [Act.put, List.setIfInBounds_toArray, List.set_cons_zero, List.set_cons_succ, i64_w, i32_w]
                rfl
              refine one_ (i := 9) (N := some 9) #[true, true, true, true, true, true, true, true, true, true, false, false] rfl rfl (one_of HT_.out (by kernel_rfl)) (by decide) (fun K hK => ?_)
              refine box_step ?hg (N := 9) ?hd (cs := #[.int .i64 0, .int .i64 0, .int .i64 0]) (t := 43) ?hr ?_; (case hd => rfl); (case hg => rfl); (case hr => first | (go_simp; done) | (go_simp; rfl))
              intro gb986 hg w29 hbox hb
              have n0_ := Aside0.mk (blk_below (g := gb961) (o := .cells #[.int .i64 a1_0, .int .i64 a1_1, .int .i64 a1_2, .int .i64 a1_3] 23 (0, 0)) (by (with_reducible repeat (first | refine blk_drewN ?_ _ | refine blk_drew ?_ | refine blk_alloc ?_ _)); exact BK961.out) hb)
              have n1_ := Aside0.mk (blk_below (g := gb962) (o := .cells #[.int .i64 a2_0, .int .i64 a2_1, .int .i64 a2_2] 40 (0, 0)) (by (with_reducible repeat (first | refine blk_drewN ?_ _ | refine blk_drew ?_ | refine blk_alloc ?_ _)); exact BK962.out) hb)
              have n2_ := Aside0.mk (blk_below (g := gb974) (o := .cells #[.int .i64 t970, .int .i64 t971, .int .i64 t972] 43 (0, 0)) (by (with_reducible repeat (first | refine blk_drewN ?_ _ | refine blk_drew ?_ | refine blk_alloc ?_ _)); exact BK974.out) hb)
              have n3_ := Aside0.mk (below_step (by repeat (first | (with_reducible first | exact HB.out | apply below_alloc | apply pw_below_drewN | apply below_drew1 | refine below_set ?_ GE961.out | refine below_set ?_ GE962.out | refine below_set ?_ GE974.out) | exact HB.out)) hb)
              have n4_ := Aside0.mk (hbox)
              have n5_ := Aside0.mk ((by rw [hg]; exact (below_size (by repeat (first | (with_reducible first | exact HB.out | apply below_alloc | apply pw_below_drewN | apply below_drew1 | refine below_set ?_ GE961.out | refine below_set ?_ GE962.out | refine below_set ?_ GE974.out) | exact HB.out))) : w.heap.size ≤ gb986))
              have n6_ := Aside0.mk ((by rw [hg]; exact (below_size (by repeat (first | (with_reducible first | exact HB.out | apply below_alloc | apply pw_below_drewN | apply below_drew1 | refine below_set ?_ GE961.out | refine below_set ?_ GE962.out | refine below_set ?_ GE974.out) | exact HB.out))) : w.heap.size ≤ gb986))
              have n7_ := Aside0.mk ((by rw [hg]; exact Nat.ne_of_lt (blk_lt (g := gb961) (o := .cells #[.int .i64 a1_0, .int .i64 a1_1, .int .i64 a1_2, .int .i64 a1_3] 23 (0, 0)) (by (with_reducible repeat (first | refine blk_drewN ?_ _ | refine blk_drew ?_ | refine blk_alloc ?_ _)); exact BK961.out)) : gb961 ≠ gb986))
              have n8_ := Aside0.mk ((by rw [hg]; exact Nat.ne_of_gt (blk_lt (g := gb961) (o := .cells #[.int .i64 a1_0, .int .i64 a1_1, .int .i64 a1_2, .int .i64 a1_3] 23 (0, 0)) (by (with_reducible repeat (first | refine blk_drewN ?_ _ | refine blk_drew ?_ | refine blk_alloc ?_ _)); exact BK961.out)) : gb986 ≠ gb961))
              have n9_ := Aside0.mk ((by rw [hg]; exact Nat.ne_of_lt (blk_lt (g := gb962) (o := .cells #[.int .i64 a2_0, .int .i64 a2_1, .int .i64 a2_2] 40 (0, 0)) (by (with_reducible repeat (first | refine blk_drewN ?_ _ | refine blk_drew ?_ | refine blk_alloc ?_ _)); exact BK962.out)) : gb962 ≠ gb986))
              have n10_ := Aside0.mk ((by rw [hg]; exact Nat.ne_of_gt (blk_lt (g := gb962) (o := .cells #[.int .i64 a2_0, .int .i64 a2_1, .int .i64 a2_2] 40 (0, 0)) (by (with_reducible repeat (first | refine blk_drewN ?_ _ | refine blk_drew ?_ | refine blk_alloc ?_ _)); exact BK962.out)) : gb986 ≠ gb962))
              have n11_ := Aside0.mk ((by rw [hg]; exact Nat.ne_of_lt (blk_lt (g := gb974) (o := .cells #[.int .i64 t970, .int .i64 t971, .int .i64 t972] 43 (0, 0)) (by (with_reducible repeat (first | refine blk_drewN ?_ _ | refine blk_drew ?_ | refine blk_alloc ?_ _)); exact BK974.out)) : gb974 ≠ gb986))
              have n12_ := Aside0.mk ((by rw [hg]; exact Nat.ne_of_gt (blk_lt (g := gb974) (o := .cells #[.int .i64 t970, .int .i64 t971, .int .i64 t972] 43 (0, 0)) (by (with_reducible repeat (first | refine blk_drewN ?_ _ | refine blk_drew ?_ | refine blk_alloc ?_ _)); exact BK974.out)) : gb986 ≠ gb974))
              clear BK961
              clear BK962
              clear BK974
              clear HB
              have BK961 := n0_
              have BK962 := n1_
              have BK974 := n2_
              have HB := n3_
              have BK986 := n4_
              have GW986 := n5_
              have GE986 := n6_
              have NB961_986 := n7_
              have NB986_961 := n8_
              have NB962_986 := n9_
              have NB986_962 := n10_
              have NB974_986 := n11_
              have NB986_974 := n12_
              clear n0_ n1_ n2_ n3_ n4_ n5_ n6_ n7_ n8_ n9_ n10_ n11_ n12_
              clear hb hbox hg
              refine hK.out _ _ ⟨(blk_cell BK961.out 0).trans rfl, (blk_cell BK961.out 1).trans rfl, (blk_cell BK961.out 2).trans rfl, (blk_cell BK961.out 3).trans rfl, (blk_cell BK962.out 0).trans rfl, (blk_cell BK962.out 1).trans rfl, (blk_cell BK962.out 2).trans rfl⟩ (fun hHeld => ?_)
              clear hK K
              refine norm_ (a' := ?_) ?_ ?_
              rotate_left
              · show Act.put _ (some 9) _ = _
                simp only [Act.put, List.setIfInBounds_toArray, List.set_cons_zero, List.set_cons_succ, i64_w, i32_w]
                rfl
              exact norm_ (by simp only [putAll, Act.put, List.setIfInBounds_toArray, List.set_cons_zero, List.set_cons_succ]) (hCont (gb986) _ ⟨hHeld, (by (with_reducible repeat (first | refine blk_drewN ?_ _ | refine blk_drew ?_ | refine blk_alloc ?_ _)); exact BK961.out), (by (with_reducible repeat (first | refine blk_drewN ?_ _ | refine blk_drew ?_ | refine blk_alloc ?_ _)); exact BK962.out), (by (with_reducible repeat (first | refine blk_drewN ?_ _ | refine blk_drew ?_ | refine blk_alloc ?_ _)); exact BK974.out), (by (with_reducible repeat (first | refine blk_drewN ?_ _ | refine blk_drew ?_ | refine blk_alloc ?_ _)); exact BK986.out), GW986.out, GE986.out, NB961_986.out, NB986_961.out, NB962_986.out, NB986_962.out, NB974_986.out, NB986_974.out, (by repeat (first | (with_reducible first | exact HB.out | apply below_alloc | apply pw_below_drewN | apply below_drew1 | refine below_set ?_ GE961.out | refine below_set ?_ GE962.out | refine below_set ?_ GE974.out | refine below_set ?_ GE986.out) | exact HB.out))⟩)
            · skip
              refine box_step ?hg (N := 9) ?hd (cs := #[.int .i64 0, .int .i64 0, .int .i64 0]) (t := 43) ?hr ?_; (case hd => rfl); (case hg => rfl); (case hr => first | (go_simp; done) | (go_simp; rfl))
              intro gb986 hg w28 hbox hb
              have n0_ := Aside0.mk (blk_below (g := gb961) (o := .cells #[.int .i64 a1_0, .int .i64 a1_1, .int .i64 a1_2, .int .i64 a1_3] 23 (0, 0)) (by (with_reducible repeat (first | refine blk_drewN ?_ _ | refine blk_drew ?_ | refine blk_alloc ?_ _)); exact BK961.out) hb)
              have n1_ := Aside0.mk (blk_below (g := gb962) (o := .cells #[.int .i64 a2_0, .int .i64 a2_1, .int .i64 a2_2] 40 (0, 0)) (by (with_reducible repeat (first | refine blk_drewN ?_ _ | refine blk_drew ?_ | refine blk_alloc ?_ _)); exact BK962.out) hb)
              have n2_ := Aside0.mk (blk_below (g := gb974) (o := .cells #[.int .i64 t970, .int .i64 t971, .int .i64 t972] 43 (0, 0)) (by (with_reducible repeat (first | refine blk_drewN ?_ _ | refine blk_drew ?_ | refine blk_alloc ?_ _)); exact BK974.out) hb)
              have n3_ := Aside0.mk (below_step (by repeat (first | (with_reducible first | exact HB.out | apply below_alloc | apply pw_below_drewN | apply below_drew1 | refine below_set ?_ GE961.out | refine below_set ?_ GE962.out | refine below_set ?_ GE974.out) | exact HB.out)) hb)
              have n4_ := Aside0.mk (hbox)
              have n5_ := Aside0.mk ((by rw [hg]; exact (below_size (by repeat (first | (with_reducible first | exact HB.out | apply below_alloc | apply pw_below_drewN | apply below_drew1 | refine below_set ?_ GE961.out | refine below_set ?_ GE962.out | refine below_set ?_ GE974.out) | exact HB.out))) : w.heap.size ≤ gb986))
              have n6_ := Aside0.mk ((by rw [hg]; exact (below_size (by repeat (first | (with_reducible first | exact HB.out | apply below_alloc | apply pw_below_drewN | apply below_drew1 | refine below_set ?_ GE961.out | refine below_set ?_ GE962.out | refine below_set ?_ GE974.out) | exact HB.out))) : w.heap.size ≤ gb986))
              have n7_ := Aside0.mk ((by rw [hg]; exact Nat.ne_of_lt (blk_lt (g := gb961) (o := .cells #[.int .i64 a1_0, .int .i64 a1_1, .int .i64 a1_2, .int .i64 a1_3] 23 (0, 0)) (by (with_reducible repeat (first | refine blk_drewN ?_ _ | refine blk_drew ?_ | refine blk_alloc ?_ _)); exact BK961.out)) : gb961 ≠ gb986))
              have n8_ := Aside0.mk ((by rw [hg]; exact Nat.ne_of_gt (blk_lt (g := gb961) (o := .cells #[.int .i64 a1_0, .int .i64 a1_1, .int .i64 a1_2, .int .i64 a1_3] 23 (0, 0)) (by (with_reducible repeat (first | refine blk_drewN ?_ _ | refine blk_drew ?_ | refine blk_alloc ?_ _)); exact BK961.out)) : gb986 ≠ gb961))
              have n9_ := Aside0.mk ((by rw [hg]; exact Nat.ne_of_lt (blk_lt (g := gb962) (o := .cells #[.int .i64 a2_0, .int .i64 a2_1, .int .i64 a2_2] 40 (0, 0)) (by (with_reducible repeat (first | refine blk_drewN ?_ _ | refine blk_drew ?_ | refine blk_alloc ?_ _)); exact BK962.out)) : gb962 ≠ gb986))
              have n10_ := Aside0.mk ((by rw [hg]; exact Nat.ne_of_gt (blk_lt (g := gb962) (o := .cells #[.int .i64 a2_0, .int .i64 a2_1, .int .i64 a2_2] 40 (0, 0)) (by (with_reducible repeat (first | refine blk_drewN ?_ _ | refine blk_drew ?_ | refine blk_alloc ?_ _)); exact BK962.out)) : gb986 ≠ gb962))
              have n11_ := Aside0.mk ((by rw [hg]; exact Nat.ne_of_lt (blk_lt (g := gb974) (o := .cells #[.int .i64 t970, .int .i64 t971, .int .i64 t972] 43 (0, 0)) (by (with_reducible repeat (first | refine blk_drewN ?_ _ | refine blk_drew ?_ | refine blk_alloc ?_ _)); exact BK974.out)) : gb974 ≠ gb986))
              have n12_ := Aside0.mk ((by rw [hg]; exact Nat.ne_of_gt (blk_lt (g := gb974) (o := .cells #[.int .i64 t970, .int .i64 t971, .int .i64 t972] 43 (0, 0)) (by (with_reducible repeat (first | refine blk_drewN ?_ _ | refine blk_drew ?_ | refine blk_alloc ?_ _)); exact BK974.out)) : gb986 ≠ gb974))
              clear BK961
              clear BK962
              clear BK974
              clear HB
              have BK961 := n0_
              have BK962 := n1_
              have BK974 := n2_
              have HB := n3_
              have BK986 := n4_
              have GW986 := n5_
              have GE986 := n6_
              have NB961_986 := n7_
              have NB986_961 := n8_
              have NB962_986 := n9_
              have NB986_962 := n10_
              have NB974_986 := n11_
              have NB986_974 := n12_
              clear n0_ n1_ n2_ n3_ n4_ n5_ n6_ n7_ n8_ n9_ n10_ n11_ n12_
              clear hb hbox hg
              refine hK.out _ _ ⟨(blk_cell BK961.out 0).trans rfl, (blk_cell BK961.out 1).trans rfl, (blk_cell BK961.out 2).trans rfl, (blk_cell BK961.out 3).trans rfl, (blk_cell BK962.out 0).trans rfl, (blk_cell BK962.out 1).trans rfl, (blk_cell BK962.out 2).trans rfl⟩ (fun hHeld => ?_)
              clear hK K
              refine norm_ (a' := ?_) ?_ ?_
              rotate_left
              · show Act.put _ (some 9) _ = _
                simp only [Act.put, List.setIfInBounds_toArray, List.set_cons_zero, List.set_cons_succ, i64_w, i32_w]
                rfl
              refine one_ (i := 5) (N := some 26) #[true, true, true, true, true, true, false, false, false, true, false, false] rfl rfl (one_of HT_.out (by kernel_rfl)) (by decide) (fun K hK => ?_)
              refine goes_ Try.func38 (by kernel_rfl) rfl #[.int .i64 a0, .agg #[.int .i64 t975, .int .i64 t976, .int .i64 t977, .int .i64 t978], .agg #[.int .i64 t979, .int .i64 t980, .int .i64 t981]] (by rfl) rfl rfl (by (try simp only [List.map_toArray, List.map_cons, List.map_nil]); first | done | rfl | (simp only [List.length_drop, List.length_take]; rfl)) ?_
              with_reducible refine (impl_MapLattice.calls k a0 t975 t976 t977 t978 t979 t980 t981 t982 t983 t984 t985 _ A9.out).mono ?_
              rintro e w29 ⟨rfl, hb⟩
              refine ⟨_, rfl, ?_⟩
              have n0_ := Aside0.mk (blk_below (g := gb961) (o := .cells #[.int .i64 a1_0, .int .i64 a1_1, .int .i64 a1_2, .int .i64 a1_3] 23 (0, 0)) (by (with_reducible repeat (first | refine blk_drewN ?_ _ | refine blk_drew ?_ | refine blk_alloc ?_ _)); exact BK961.out) hb)
              have n1_ := Aside0.mk (blk_below (g := gb962) (o := .cells #[.int .i64 a2_0, .int .i64 a2_1, .int .i64 a2_2] 40 (0, 0)) (by (with_reducible repeat (first | refine blk_drewN ?_ _ | refine blk_drew ?_ | refine blk_alloc ?_ _)); exact BK962.out) hb)
              have n2_ := Aside0.mk (blk_below (g := gb974) (o := .cells #[.int .i64 t970, .int .i64 t971, .int .i64 t972] 43 (0, 0)) (by (with_reducible repeat (first | refine blk_drewN ?_ _ | refine blk_drew ?_ | refine blk_alloc ?_ _)); exact BK974.out) hb)
              have n3_ := Aside0.mk (blk_below (g := gb986) (o := .cells #[.int .i64 0, .int .i64 0, .int .i64 0] 43 (0, 0)) (by (with_reducible repeat (first | refine blk_drewN ?_ _ | refine blk_drew ?_ | refine blk_alloc ?_ _)); exact BK986.out) hb)
              have n4_ := Aside0.mk (below_step (by repeat (first | (with_reducible first | exact HB.out | apply below_alloc | apply pw_below_drewN | apply below_drew1 | refine below_set ?_ GE961.out | refine below_set ?_ GE962.out | refine below_set ?_ GE974.out | refine below_set ?_ GE986.out) | exact HB.out)) hb)
              clear BK961
              clear BK962
              clear BK974
              clear BK986
              clear HB
              have BK961 := n0_
              have BK962 := n1_
              have BK974 := n2_
              have BK986 := n3_
              have HB := n4_
              clear n0_ n1_ n2_ n3_ n4_
              (try clear hb)
              (try clear hb2)
              (try clear hk)
              (try clear hi)
              refine hK.out _ _ ⟨(blk_cell BK961.out 0).trans rfl, (blk_cell BK961.out 1).trans rfl, (blk_cell BK961.out 2).trans rfl, (blk_cell BK961.out 3).trans rfl, (blk_cell BK962.out 0).trans rfl, (blk_cell BK962.out 1).trans rfl, (blk_cell BK962.out 2).trans rfl⟩ (fun hHeld => ?_)
              clear hK K
              refine norm_ (a' := ?_) ?_ ?_
              rotate_left
              · show Act.put _ (some 26) _ = _
                simp only [Act.put, List.setIfInBounds_toArray, List.set_cons_zero, List.set_cons_succ, i64_w, i32_w]
                rfl
              refine pure_ (i := 6) (N := some 20) (v := ?_) (a' := ?_) #[true, true, true, true, true, true, true, false, false, true, false, false] rfl rfl (any_of HT_.out (by kernel_rfl)) (fun _ _ _ h => h) (Or.inl ⟨by rfl, ?_⟩) ?_ ?_
              rotate_left
              · intro w'
                go_simp
                with_reducible rfl
              rotate_left
              · simp only [Act.put, List.setIfInBounds_toArray, List.set_cons_zero, List.set_cons_succ, i64_w, i32_w]
                rfl
              refine pure_ (i := 7) (N := some 27) (v := ?_) (a' := ?_) #[true, true, true, true, true, true, true, true, false, true, false, false] rfl rfl (any_of HT_.out (by kernel_rfl)) (fun _ _ _ h => h) (Or.inl ⟨by rfl, ?_⟩) ?_ ?_
              rotate_left
              · intro w'
                go_simp
                with_reducible rfl
              rotate_left
              · simp only [Act.put, List.setIfInBounds_toArray, List.set_cons_zero, List.set_cons_succ, i64_w, i32_w]
                rfl
              refine pure_ (i := 8) (N := some 28) (v := ?_) (a' := ?_) #[true, true, true, true, true, true, true, true, true, true, false, false] rfl rfl (any_of HT_.out (by kernel_rfl)) (fun _ _ _ h => h) (Or.inl ⟨by rfl, ?_⟩) ?_ ?_
              rotate_left
              · intro w'
                go_simp
                with_reducible rfl
              rotate_left
              · simp only [Act.put, List.setIfInBounds_toArray, List.set_cons_zero, List.set_cons_succ, i64_w, i32_w]
                rfl
              exact norm_ (by simp only [putAll, Act.put, List.setIfInBounds_toArray, List.set_cons_zero, List.set_cons_succ]) (hCont (gb986) _ ⟨hHeld, (by (with_reducible repeat (first | refine blk_drewN ?_ _ | refine blk_drew ?_ | refine blk_alloc ?_ _)); exact BK961.out), (by (with_reducible repeat (first | refine blk_drewN ?_ _ | refine blk_drew ?_ | refine blk_alloc ?_ _)); exact BK962.out), (by (with_reducible repeat (first | refine blk_drewN ?_ _ | refine blk_drew ?_ | refine blk_alloc ?_ _)); exact BK974.out), (by (with_reducible repeat (first | refine blk_drewN ?_ _ | refine blk_drew ?_ | refine blk_alloc ?_ _)); exact BK986.out), GW986.out, GE986.out, NB961_986.out, NB986_961.out, NB962_986.out, NB986_962.out, NB974_986.out, NB986_974.out, (by repeat (first | (with_reducible first | exact HB.out | apply below_alloc | apply pw_below_drewN | apply below_drew1 | refine below_set ?_ GE961.out | refine below_set ?_ GE962.out | refine below_set ?_ GE974.out | refine below_set ?_ GE986.out) | exact HB.out))⟩)
          · skip
            refine box_step ?hg (N := 9) ?hd (cs := #[.int .i64 0, .int .i64 0, .int .i64 0]) (t := 43) ?hr ?_; (case hd => rfl); (case hg => rfl); (case hr => first | (go_simp; done) | (go_simp; rfl))
            intro gb986 hg w27 hbox hb
            have n0_ := Aside0.mk (blk_below (g := gb961) (o := .cells #[.int .i64 a1_0, .int .i64 a1_1, .int .i64 a1_2, .int .i64 a1_3] 23 (0, 0)) (by (with_reducible repeat (first | refine blk_drewN ?_ _ | refine blk_drew ?_ | refine blk_alloc ?_ _)); exact BK961.out) hb)
            have n1_ := Aside0.mk (blk_below (g := gb962) (o := .cells #[.int .i64 a2_0, .int .i64 a2_1, .int .i64 a2_2] 40 (0, 0)) (by (with_reducible repeat (first | refine blk_drewN ?_ _ | refine blk_drew ?_ | refine blk_alloc ?_ _)); exact BK962.out) hb)
            have n2_ := Aside0.mk (blk_below (g := gb974) (o := .cells #[.int .i64 t970, .int .i64 t971, .int .i64 t972] 43 (0, 0)) (by (with_reducible repeat (first | refine blk_drewN ?_ _ | refine blk_drew ?_ | refine blk_alloc ?_ _)); exact BK974.out) hb)
            have n3_ := Aside0.mk (below_step (by repeat (first | (with_reducible first | exact HB.out | apply below_alloc | apply pw_below_drewN | apply below_drew1 | refine below_set ?_ GE961.out | refine below_set ?_ GE962.out | refine below_set ?_ GE974.out) | exact HB.out)) hb)
            have n4_ := Aside0.mk (hbox)
            have n5_ := Aside0.mk ((by rw [hg]; exact (below_size (by repeat (first | (with_reducible first | exact HB.out | apply below_alloc | apply pw_below_drewN | apply below_drew1 | refine below_set ?_ GE961.out | refine below_set ?_ GE962.out | refine below_set ?_ GE974.out) | exact HB.out))) : w.heap.size ≤ gb986))
            have n6_ := Aside0.mk ((by rw [hg]; exact (below_size (by repeat (first | (with_reducible first | exact HB.out | apply below_alloc | apply pw_below_drewN | apply below_drew1 | refine below_set ?_ GE961.out | refine below_set ?_ GE962.out | refine below_set ?_ GE974.out) | exact HB.out))) : w.heap.size ≤ gb986))
            have n7_ := Aside0.mk ((by rw [hg]; exact Nat.ne_of_lt (blk_lt (g := gb961) (o := .cells #[.int .i64 a1_0, .int .i64 a1_1, .int .i64 a1_2, .int .i64 a1_3] 23 (0, 0)) (by (with_reducible repeat (first | refine blk_drewN ?_ _ | refine blk_drew ?_ | refine blk_alloc ?_ _)); exact BK961.out)) : gb961 ≠ gb986))
            have n8_ := Aside0.mk ((by rw [hg]; exact Nat.ne_of_gt (blk_lt (g := gb961) (o := .cells #[.int .i64 a1_0, .int .i64 a1_1, .int .i64 a1_2, .int .i64 a1_3] 23 (0, 0)) (by (with_reducible repeat (first | refine blk_drewN ?_ _ | refine blk_drew ?_ | refine blk_alloc ?_ _)); exact BK961.out)) : gb986 ≠ gb961))
            have n9_ := Aside0.mk ((by rw [hg]; exact Nat.ne_of_lt (blk_lt (g := gb962) (o := .cells #[.int .i64 a2_0, .int .i64 a2_1, .int .i64 a2_2] 40 (0, 0)) (by (with_reducible repeat (first | refine blk_drewN ?_ _ | refine blk_drew ?_ | refine blk_alloc ?_ _)); exact BK962.out)) : gb962 ≠ gb986))
            have n10_ := Aside0.mk ((by rw [hg]; exact Nat.ne_of_gt (blk_lt (g := gb962) (o := .cells #[.int .i64 a2_0, .int .i64 a2_1, .int .i64 a2_2] 40 (0, 0)) (by (with_reducible repeat (first | refine blk_drewN ?_ _ | refine blk_drew ?_ | refine blk_alloc ?_ _)); exact BK962.out)) : gb986 ≠ gb962))
            have n11_ := Aside0.mk ((by rw [hg]; exact Nat.ne_of_lt (blk_lt (g := gb974) (o := .cells #[.int .i64 t970, .int .i64 t971, .int .i64 t972] 43 (0, 0)) (by (with_reducible repeat (first | refine blk_drewN ?_ _ | refine blk_drew ?_ | refine blk_alloc ?_ _)); exact BK974.out)) : gb974 ≠ gb986))
            have n12_ := Aside0.mk ((by rw [hg]; exact Nat.ne_of_gt (blk_lt (g := gb974) (o := .cells #[.int .i64 t970, .int .i64 t971, .int .i64 t972] 43 (0, 0)) (by (with_reducible repeat (first | refine blk_drewN ?_ _ | refine blk_drew ?_ | refine blk_alloc ?_ _)); exact BK974.out)) : gb986 ≠ gb974))
            clear BK961
            clear BK962
            clear BK974
            clear HB
            have BK961 := n0_
            have BK962 := n1_
            have BK974 := n2_
            have HB := n3_
            have BK986 := n4_
            have GW986 := n5_
            have GE986 := n6_
            have NB961_986 := n7_
            have NB986_961 := n8_
            have NB962_986 := n9_
            have NB986_962 := n10_
            have NB974_986 := n11_
            have NB986_974 := n12_
            clear n0_ n1_ n2_ n3_ n4_ n5_ n6_ n7_ n8_ n9_ n10_ n11_ n12_
            clear hb hbox hg
            refine hK.out _ _ ⟨(blk_cell BK961.out 0).trans rfl, (blk_cell BK961.out 1).trans rfl, (blk_cell BK961.out 2).trans rfl, (blk_cell BK961.out 3).trans rfl, (blk_cell BK962.out 0).trans rfl, (blk_cell BK962.out 1).trans rfl, (blk_cell BK962.out 2).trans rfl⟩ (fun hHeld => ?_)
            clear hK K
            refine norm_ (a' := ?_) ?_ ?_
            rotate_left
            · show Act.put _ (some 9) _ = _
              simp only [Act.put, List.setIfInBounds_toArray, List.set_cons_zero, List.set_cons_succ, i64_w, i32_w]
              rfl
            refine one_ (i := 4) (N := some 25) #[true, true, true, true, true, false, false, false, false, true, false, false] rfl rfl (one_of HT_.out (by kernel_rfl)) (by decide) (fun K hK => ?_)
            refine goes_ Try.func20 (by kernel_rfl) rfl #[.agg #[.int .i64 a2_0, .int .i64 a2_1, .int .i64 a2_2]] (by rfl) rfl rfl (by (try simp only [List.map_toArray, List.map_cons, List.map_nil]); first | done | rfl | (simp only [List.length_drop, List.length_take]; rfl)) ?_
            with_reducible refine (laws_toLattice.calls a2_0 a2_1 a2_2 t979 t980 t981 _ A8.out).mono ?_
            rintro e w28 ⟨rfl, hb⟩
            refine ⟨_, rfl, ?_⟩
            have n0_ := Aside0.mk (blk_below (g := gb961) (o := .cells #[.int .i64 a1_0, .int .i64 a1_1, .int .i64 a1_2, .int .i64 a1_3] 23 (0, 0)) (by (with_reducible repeat (first | refine blk_drewN ?_ _ | refine blk_drew ?_ | refine blk_alloc ?_ _)); exact BK961.out) hb)
            have n1_ := Aside0.mk (blk_below (g := gb962) (o := .cells #[.int .i64 a2_0, .int .i64 a2_1, .int .i64 a2_2] 40 (0, 0)) (by (with_reducible repeat (first | refine blk_drewN ?_ _ | refine blk_drew ?_ | refine blk_alloc ?_ _)); exact BK962.out) hb)
            have n2_ := Aside0.mk (blk_below (g := gb974) (o := .cells #[.int .i64 t970, .int .i64 t971, .int .i64 t972] 43 (0, 0)) (by (with_reducible repeat (first | refine blk_drewN ?_ _ | refine blk_drew ?_ | refine blk_alloc ?_ _)); exact BK974.out) hb)
            have n3_ := Aside0.mk (blk_below (g := gb986) (o := .cells #[.int .i64 0, .int .i64 0, .int .i64 0] 43 (0, 0)) (by (with_reducible repeat (first | refine blk_drewN ?_ _ | refine blk_drew ?_ | refine blk_alloc ?_ _)); exact BK986.out) hb)
            have n4_ := Aside0.mk (below_step (by repeat (first | (with_reducible first | exact HB.out | apply below_alloc | apply pw_below_drewN | apply below_drew1 | refine below_set ?_ GE961.out | refine below_set ?_ GE962.out | refine below_set ?_ GE974.out | refine below_set ?_ GE986.out) | exact HB.out)) hb)
            clear BK961
            clear BK962
            clear BK974
            clear BK986
            clear HB
            have BK961 := n0_
            have BK962 := n1_
            have BK974 := n2_
            have BK986 := n3_
            have HB := n4_
            clear n0_ n1_ n2_ n3_ n4_
            (try clear hb)
            (try clear hb2)
            (try clear hk)
            (try clear hi)
            refine hK.out _ _ ⟨(blk_cell BK961.out 0).trans rfl, (blk_cell BK961.out 1).trans rfl, (blk_cell BK961.out 2).trans rfl, (blk_cell BK961.out 3).trans rfl, (blk_cell BK962.out 0).trans rfl, (blk_cell BK962.out 1).trans rfl, (blk_cell BK962.out 2).trans rfl⟩ (fun hHeld => ?_)
            clear hK K
            refine norm_ (a' := ?_) ?_ ?_
            rotate_left
            · show Act.put _ (some 25) _ = _
              simp only [Act.put, List.setIfInBounds_toArray, List.set_cons_zero, List.set_cons_succ, i64_w, i32_w]
              rfl
            refine one_ (i := 5) (N := some 26) #[true, true, true, true, true, true, false, false, false, true, false, false] rfl rfl (one_of HT_.out (by kernel_rfl)) (by decide) (fun K hK => ?_)
            refine goes_ Try.func38 (by kernel_rfl) rfl #[.int .i64 a0, .agg #[.int .i64 t975, .int .i64 t976, .int .i64 t977, .int .i64 t978], .agg #[.int .i64 t979, .int .i64 t980, .int .i64 t981]] (by rfl) rfl rfl (by (try simp only [List.map_toArray, List.map_cons, List.map_nil]); first | done | rfl | (simp only [List.length_drop, List.length_take]; rfl)) ?_
            with_reducible refine (impl_MapLattice.calls k a0 t975 t976 t977 t978 t979 t980 t981 t982 t983 t984 t985 _ A9.out).mono ?_
            rintro e w29 ⟨rfl, hb⟩
            refine ⟨_, rfl, ?_⟩
            have n0_ := Aside0.mk (blk_below (g := gb961) (o := .cells #[.int .i64 a1_0, .int .i64 a1_1, .int .i64 a1_2, .int .i64 a1_3] 23 (0, 0)) (by (with_reducible repeat (first | refine blk_drewN ?_ _ | refine blk_drew ?_ | refine blk_alloc ?_ _)); exact BK961.out) hb)
            have n1_ := Aside0.mk (blk_below (g := gb962) (o := .cells #[.int .i64 a2_0, .int .i64 a2_1, .int .i64 a2_2] 40 (0, 0)) (by (with_reducible repeat (first | refine blk_drewN ?_ _ | refine blk_drew ?_ | refine blk_alloc ?_ _)); exact BK962.out) hb)
            have n2_ := Aside0.mk (blk_below (g := gb974) (o := .cells #[.int .i64 t970, .int .i64 t971, .int .i64 t972] 43 (0, 0)) (by (with_reducible repeat (first | refine blk_drewN ?_ _ | refine blk_drew ?_ | refine blk_alloc ?_ _)); exact BK974.out) hb)
            have n3_ := Aside0.mk (blk_below (g := gb986) (o := .cells #[.int .i64 0, .int .i64 0, .int .i64 0] 43 (0, 0)) (by (with_reducible repeat (first | refine blk_drewN ?_ _ | refine blk_drew ?_ | refine blk_alloc ?_ _)); exact BK986.out) hb)
            have n4_ := Aside0.mk (below_step (by repeat (first | (with_reducible first | exact HB.out | apply below_alloc | apply pw_below_drewN | apply below_drew1 | refine below_set ?_ GE961.out | refine below_set ?_ GE962.out | refine below_set ?_ GE974.out | refine below_set ?_ GE986.out) | exact HB.out)) hb)
            clear BK961
            clear BK962
            clear BK974
            clear BK986
            clear HB
            have BK961 := n0_
            have BK962 := n1_
            have BK974 := n2_
            have BK986 := n3_
            have HB := n4_
            clear n0_ n1_ n2_ n3_ n4_
            (try clear hb)
            (try clear hb2)
            (try clear hk)
            (try clear hi)
            refine hK.out _ _ ⟨(blk_cell BK961.out 0).trans rfl, (blk_cell BK961.out 1).trans rfl, (blk_cell BK961.out 2).trans rfl, (blk_cell BK961.out 3).trans rfl, (blk_cell BK962.out 0).trans rfl, (blk_cell BK962.out 1).trans rfl, (blk_cell BK962.out 2).trans rfl⟩ (fun hHeld => ?_)
            clear hK K
            refine norm_ (a' := ?_) ?_ ?_
            rotate_left
            · show Act.put _ (some 26) _ = _
              simp only [Act.put, List.setIfInBounds_toArray, List.set_cons_zero, List.set_cons_succ, i64_w, i32_w]
              rfl
            refine pure_ (i := 6) (N := some 20) (v := ?_) (a' := ?_) #[true, true, true, true, true, true, true, false, false, true, false, false] rfl rfl (any_of HT_.out (by kernel_rfl)) (fun _ _ _ h => h) (Or.inl ⟨by rfl, ?_⟩) ?_ ?_
            rotate_left
            · intro w'
              go_simp
              with_reducible rfl
            rotate_left
            · simp only [Act.put, List.setIfInBounds_toArray, List.set_cons_zero, List.set_cons_succ, i64_w, i32_w]
              rfl
            refine pure_ (i := 7) (N := some 27) (v := ?_) (a' := ?_) #[true, true, true, true, true, true, true, true, false, true, false, false] rfl rfl (any_of HT_.out (by kernel_rfl)) (fun _ _ _ h => h) (Or.inl ⟨by rfl, ?_⟩) ?_ ?_
            rotate_left
            · intro w'
              go_simp
              with_reducible rfl
            rotate_left
            · simp only [Act.put, List.setIfInBounds_toArray, List.set_cons_zero, List.set_cons_succ, i64_w, i32_w]
              rfl
            refine pure_ (i := 8) (N := some 28) (v := ?_) (a' := ?_) #[true, true, true, true, true, true, true, true, true, true, false, false] rfl rfl (any_of HT_.out (by kernel_rfl)) (fun _ _ _ h => h) (Or.inl ⟨by rfl, ?_⟩) ?_ ?_
            rotate_left
            · intro w'
              go_simp
              with_reducible rfl
            rotate_left
            · simp only [Act.put, List.setIfInBounds_toArray, List.set_cons_zero, List.set_cons_succ, i64_w, i32_w]
              rfl
            exact norm_ (by simp only [putAll, Act.put, List.setIfInBounds_toArray, List.set_cons_zero, List.set_cons_succ]) (hCont (gb986) _ ⟨hHeld, (by (with_reducible repeat (first | refine blk_drewN ?_ _ | refine blk_drew ?_ | refine blk_alloc ?_ _)); exact BK961.out), (by (with_reducible repeat (first | refine blk_drewN ?_ _ | refine blk_drew ?_ | refine blk_alloc ?_ _)); exact BK962.out), (by (with_reducible repeat (first | refine blk_drewN ?_ _ | refine blk_drew ?_ | refine blk_alloc ?_ _)); exact BK974.out), (by (with_reducible repeat (first | refine blk_drewN ?_ _ | refine blk_drew ?_ | refine blk_alloc ?_ _)); exact BK986.out), GW986.out, GE986.out, NB961_986.out, NB986_961.out, NB962_986.out, NB986_962.out, NB974_986.out, NB986_974.out, (by repeat (first | (with_reducible first | exact HB.out | apply below_alloc | apply pw_below_drewN | apply below_drew1 | refine below_set ?_ GE961.out | refine below_set ?_ GE962.out | refine below_set ?_ GE974.out | refine below_set ?_ GE986.out) | exact HB.out))⟩)
        · skip
          refine box_step ?hg (N := 9) ?hd (cs := #[.int .i64 0, .int .i64 0, .int .i64 0]) (t := 43) ?hr ?_; (case hd => rfl); (case hg => rfl); (case hr => first | (go_simp; done) | (go_simp; rfl))
          intro gb986 hg w26 hbox hb
          have n0_ := Aside0.mk (blk_below (g := gb961) (o := .cells #[.int .i64 a1_0, .int .i64 a1_1, .int .i64 a1_2, .int .i64 a1_3] 23 (0, 0)) (by (with_reducible repeat (first | refine blk_drewN ?_ _ | refine blk_drew ?_ | refine blk_alloc ?_ _)); exact BK961.out) hb)
          have n1_ := Aside0.mk (blk_below (g := gb962) (o := .cells #[.int .i64 a2_0, .int .i64 a2_1, .int .i64 a2_2] 40 (0, 0)) (by (with_reducible repeat (first | refine blk_drewN ?_ _ | refine blk_drew ?_ | refine blk_alloc ?_ _)); exact BK962.out) hb)
          have n2_ := Aside0.mk (blk_below (g := gb974) (o := .cells #[.int .i64 t970, .int .i64 t971, .int .i64 t972] 43 (0, 0)) (by (with_reducible repeat (first | refine blk_drewN ?_ _ | refine blk_drew ?_ | refine blk_alloc ?_ _)); exact BK974.out) hb)
          have n3_ := Aside0.mk (below_step (by repeat (first | (with_reducible first | exact HB.out | apply below_alloc | apply pw_below_drewN | apply below_drew1 | refine below_set ?_ GE961.out | refine below_set ?_ GE962.out | refine below_set ?_ GE974.out) | exact HB.out)) hb)
          have n4_ := Aside0.mk (hbox)
          have n5_ := Aside0.mk ((by rw [hg]; exact (below_size (by repeat (first | (with_reducible first | exact HB.out | apply below_alloc | apply pw_below_drewN | apply below_drew1 | refine below_set ?_ GE961.out | refine below_set ?_ GE962.out | refine below_set ?_ GE974.out) | exact HB.out))) : w.heap.size ≤ gb986))
          have n6_ := Aside0.mk ((by rw [hg]; exact (below_size (by repeat (first | (with_reducible first | exact HB.out | apply below_alloc | apply pw_below_drewN | apply below_drew1 | refine below_set ?_ GE961.out | refine below_set ?_ GE962.out | refine below_set ?_ GE974.out) | exact HB.out))) : w.heap.size ≤ gb986))
          have n7_ := Aside0.mk ((by rw [hg]; exact Nat.ne_of_lt (blk_lt (g := gb961) (o := .cells #[.int .i64 a1_0, .int .i64 a1_1, .int .i64 a1_2, .int .i64 a1_3] 23 (0, 0)) (by (with_reducible repeat (first | refine blk_drewN ?_ _ | refine blk_drew ?_ | refine blk_alloc ?_ _)); exact BK961.out)) : gb961 ≠ gb986))
          have n8_ := Aside0.mk ((by rw [hg]; exact Nat.ne_of_gt (blk_lt (g := gb961) (o := .cells #[.int .i64 a1_0, .int .i64 a1_1, .int .i64 a1_2, .int .i64 a1_3] 23 (0, 0)) (by (with_reducible repeat (first | refine blk_drewN ?_ _ | refine blk_drew ?_ | refine blk_alloc ?_ _)); exact BK961.out)) : gb986 ≠ gb961))
          have n9_ := Aside0.mk ((by rw [hg]; exact Nat.ne_of_lt (blk_lt (g := gb962) (o := .cells #[.int .i64 a2_0, .int .i64 a2_1, .int .i64 a2_2] 40 (0, 0)) (by (with_reducible repeat (first | refine blk_drewN ?_ _ | refine blk_drew ?_ | refine blk_alloc ?_ _)); exact BK962.out)) : gb962 ≠ gb986))
          have n10_ := Aside0.mk ((by rw [hg]; exact Nat.ne_of_gt (blk_lt (g := gb962) (o := .cells #[.int .i64 a2_0, .int .i64 a2_1, .int .i64 a2_2] 40 (0, 0)) (by (with_reducible repeat (first | refine blk_drewN ?_ _ | refine blk_drew ?_ | refine blk_alloc ?_ _)); exact BK962.out)) : gb986 ≠ gb962))
          have n11_ := Aside0.mk ((by rw [hg]; exact Nat.ne_of_lt (blk_lt (g := gb974) (o := .cells #[.int .i64 t970, .int .i64 t971, .int .i64 t972] 43 (0, 0)) (by (with_reducible repeat (first | refine blk_drewN ?_ _ | refine blk_drew ?_ | refine blk_alloc ?_ _)); exact BK974.out)) : gb974 ≠ gb986))
          have n12_ := Aside0.mk ((by rw [hg]; exact Nat.ne_of_gt (blk_lt (g := gb974) (o := .cells #[.int .i64 t970, .int .i64 t971, .int .i64 t972] 43 (0, 0)) (by (with_reducible repeat (first | refine blk_drewN ?_ _ | refine blk_drew ?_ | refine blk_alloc ?_ _)); exact BK974.out)) : gb986 ≠ gb974))
          clear BK961
          clear BK962
          clear BK974
          clear HB
          have BK961 := n0_
          have BK962 := n1_
          have BK974 := n2_
          have HB := n3_
          have BK986 := n4_
          have GW986 := n5_
          have GE986 := n6_
          have NB961_986 := n7_
          have NB986_961 := n8_
          have NB962_986 := n9_
          have NB986_962 := n10_
          have NB974_986 := n11_
          have NB986_974 := n12_
          clear n0_ n1_ n2_ n3_ n4_ n5_ n6_ n7_ n8_ n9_ n10_ n11_ n12_
          clear hb hbox hg
          refine hK.out _ _ ⟨(blk_cell BK961.out 0).trans rfl, (blk_cell BK961.out 1).trans rfl, (blk_cell BK961.out 2).trans rfl, (blk_cell BK961.out 3).trans rfl, (blk_cell BK962.out 0).trans rfl, (blk_cell BK962.out 1).trans rfl, (blk_cell BK962.out 2).trans rfl⟩ (fun hHeld => ?_)
          clear hK K
          refine norm_ (a' := ?_) ?_ ?_
          rotate_left
          · show Act.put _ (some 9) _ = _
            simp only [Act.put, List.setIfInBounds_toArray, List.set_cons_zero, List.set_cons_succ, i64_w, i32_w]
            rfl
          refine one_ (i := 2) (N := some 23) #[true, true, true, true, false, false, false, false, false, true, false, false] rfl rfl (one_of HT_.out (by kernel_rfl)) (by decide) (fun K hK => ?_)
          refine goes_ Try.func23 (by kernel_rfl) rfl #[.agg #[.int .i64 a1_0, .int .i64 a1_1, .int .i64 a1_2, .int .i64 a1_3]] (by rfl) rfl rfl (by (try simp only [List.map_toArray, List.map_cons, List.map_nil]); first | done | rfl | (simp only [List.length_drop, List.length_take]; rfl)) ?_
          with_reducible refine (laws_toMat.calls a1_0 a1_1 a1_2 a1_3 t975 t976 t977 t978 _ A7.out).mono ?_
          rintro e w27 ⟨rfl, hb⟩
          refine ⟨_, rfl, ?_⟩
          have n0_ := Aside0.mk (blk_below (g := gb961) (o := .cells #[.int .i64 a1_0, .int .i64 a1_1, .int .i64 a1_2, .int .i64 a1_3] 23 (0, 0)) (by (with_reducible repeat (first | refine blk_drewN ?_ _ | refine blk_drew ?_ | refine blk_alloc ?_ _)); exact BK961.out) hb)
          have n1_ := Aside0.mk (blk_below (g := gb962) (o := .cells #[.int .i64 a2_0, .int .i64 a2_1, .int .i64 a2_2] 40 (0, 0)) (by (with_reducible repeat (first | refine blk_drewN ?_ _ | refine blk_drew ?_ | refine blk_alloc ?_ _)); exact BK962.out) hb)
          have n2_ := Aside0.mk (blk_below (g := gb974) (o := .cells #[.int .i64 t970, .int .i64 t971, .int .i64 t972] 43 (0, 0)) (by (with_reducible repeat (first | refine blk_drewN ?_ _ | refine blk_drew ?_ | refine blk_alloc ?_ _)); exact BK974.out) hb)
          have n3_ := Aside0.mk (blk_below (g := gb986) (o := .cells #[.int .i64 0, .int .i64 0, .int .i64 0] 43 (0, 0)) (by (with_reducible repeat (first | refine blk_drewN ?_ _ | refine blk_drew ?_ | refine blk_alloc ?_ _)); exact BK986.out) hb)
          have n4_ := Aside0.mk (below_step (by repeat (first | (with_reducible first | exact HB.out | apply below_alloc | apply pw_below_drewN | apply below_drew1 | refine below_set ?_ GE961.out | refine below_set ?_ GE962.out | refine below_set ?_ GE974.out | refine below_set ?_ GE986.out) | exact HB.out)) hb)
          clear BK961
          clear BK962
          clear BK974
          clear BK986
          clear HB
          have BK961 := n0_
          have BK962 := n1_
          have BK974 := n2_
          have BK986 := n3_
          have HB := n4_
          clear n0_ n1_ n2_ n3_ n4_
          (try clear hb)
          (try clear hb2)
          (try clear hk)
          (try clear hi)
          refine hK.out _ _ ⟨(blk_cell BK961.out 0).trans rfl, (blk_cell BK961.out 1).trans rfl, (blk_cell BK961.out 2).trans rfl, (blk_cell BK961.out 3).trans rfl, (blk_cell BK962.out 0).trans rfl, (blk_cell BK962.out 1).trans rfl, (blk_cell BK962.out 2).trans rfl⟩ (fun hHeld => ?_)
          clear hK K
          refine norm_ (a' := ?_) ?_ ?_
          rotate_left
          · show Act.put _ (some 23) _ = _
            simp only [Act.put, List.setIfInBounds_toArray, List.set_cons_zero, List.set_cons_succ, i64_w, i32_w]
            rfl
          refine one_ (i := 4) (N := some 25) #[true, true, true, true, true, false, false, false, false, true, false, false] rfl rfl (one_of HT_.out (by kernel_rfl)) (by decide) (fun K hK => ?_)
          refine goes_ Try.func20 (by kernel_rfl) rfl #[.agg #[.int .i64 a2_0, .int .i64 a2_1, .int .i64 a2_2]] (by rfl) rfl rfl (by (try simp only [List.map_toArray, List.map_cons, List.map_nil]); first | done | rfl | (simp only [List.length_drop, List.length_take]; rfl)) ?_
          with_reducible refine (laws_toLattice.calls a2_0 a2_1 a2_2 t979 t980 t981 _ A8.out).mono ?_
          rintro e w28 ⟨rfl, hb⟩
          refine ⟨_, rfl, ?_⟩
          have n0_ := Aside0.mk (blk_below (g := gb961) (o := .cells #[.int .i64 a1_0, .int .i64 a1_1, .int .i64 a1_2, .int .i64 a1_3] 23 (0, 0)) (by (with_reducible repeat (first | refine blk_drewN ?_ _ | refine blk_drew ?_ | refine blk_alloc ?_ _)); exact BK961.out) hb)
          have n1_ := Aside0.mk (blk_below (g := gb962) (o := .cells #[.int .i64 a2_0, .int .i64 a2_1, .int .i64 a2_2] 40 (0, 0)) (by (with_reducible repeat (first | refine blk_drewN ?_ _ | refine blk_drew ?_ | refine blk_alloc ?_ _)); exact BK962.out) hb)
          have n2_ := Aside0.mk (blk_below (g := gb974) (o := .cells #[.int .i64 t970, .int .i64 t971, .int .i64 t972] 43 (0, 0)) (by (with_reducible repeat (first | refine blk_drewN ?_ _ | refine blk_drew ?_ | refine blk_alloc ?_ _)); exact BK974.out) hb)
          have n3_ := Aside0.mk (blk_below (g := gb986) (o := .cells #[.int .i64 0, .int .i64 0, .int .i64 0] 43 (0, 0)) (by (with_reducible repeat (first | refine blk_drewN ?_ _ | refine blk_drew ?_ | refine blk_alloc ?_ _)); exact BK986.out) hb)
          have n4_ := Aside0.mk (below_step (by repeat (first | (with_reducible first | exact HB.out | apply below_alloc | apply pw_below_drewN | apply below_drew1 | refine below_set ?_ GE961.out | refine below_set ?_ GE962.out | refine below_set ?_ GE974.out | refine below_set ?_ GE986.out) | exact HB.out)) hb)
          clear BK961
          clear BK962
          clear BK974
          clear BK986
          clear HB
          have BK961 := n0_
          have BK962 := n1_
          have BK974 := n2_
          have BK986 := n3_
          have HB := n4_
          clear n0_ n1_ n2_ n3_ n4_
          (try clear hb)
          (try clear hb2)
          (try clear hk)
          (try clear hi)
          refine hK.out _ _ ⟨(blk_cell BK961.out 0).trans rfl, (blk_cell BK961.out 1).trans rfl, (blk_cell BK961.out 2).trans rfl, (blk_cell BK961.out 3).trans rfl, (blk_cell BK962.out 0).trans rfl, (blk_cell BK962.out 1).trans rfl, (blk_cell BK962.out 2).trans rfl⟩ (fun hHeld => ?_)
          clear hK K
          refine norm_ (a' := ?_) ?_ ?_
          rotate_left
          · show Act.put _ (some 25) _ = _
            simp only [Act.put, List.setIfInBounds_toArray, List.set_cons_zero, List.set_cons_succ, i64_w, i32_w]
            rfl
          refine one_ (i := 5) (N := some 26) #[true, true, true, true, true, true, false, false, false, true, false, false] rfl rfl (one_of HT_.out (by kernel_rfl)) (by decide) (fun K hK => ?_)
          refine goes_ Try.func38 (by kernel_rfl) rfl #[.int .i64 a0, .agg #[.int .i64 t975, .int .i64 t976, .int .i64 t977, .int .i64 t978], .agg #[.int .i64 t979, .int .i64 t980, .int .i64 t981]] (by rfl) rfl rfl (by (try simp only [List.map_toArray, List.map_cons, List.map_nil]); first | done | rfl | (simp only [List.length_drop, List.length_take]; rfl)) ?_
          with_reducible refine (impl_MapLattice.calls k a0 t975 t976 t977 t978 t979 t980 t981 t982 t983 t984 t985 _ A9.out).mono ?_
          rintro e w29 ⟨rfl, hb⟩
          refine ⟨_, rfl, ?_⟩
          have n0_ := Aside0.mk (blk_below (g := gb961) (o := .cells #[.int .i64 a1_0, .int .i64 a1_1, .int .i64 a1_2, .int .i64 a1_3] 23 (0, 0)) (by (with_reducible repeat (first | refine blk_drewN ?_ _ | refine blk_drew ?_ | refine blk_alloc ?_ _)); exact BK961.out) hb)
          have n1_ := Aside0.mk (blk_below (g := gb962) (o := .cells #[.int .i64 a2_0, .int .i64 a2_1, .int .i64 a2_2] 40 (0, 0)) (by (with_reducible repeat (first | refine blk_drewN ?_ _ | refine blk_drew ?_ | refine blk_alloc ?_ _)); exact BK962.out) hb)
          have n2_ := Aside0.mk (blk_below (g := gb974) (o := .cells #[.int .i64 t970, .int .i64 t971, .int .i64 t972] 43 (0, 0)) (by (with_reducible repeat (first | refine blk_drewN ?_ _ | refine blk_drew ?_ | refine blk_alloc ?_ _)); exact BK974.out) hb)
          have n3_ := Aside0.mk (blk_below (g := gb986) (o := .cells #[.int .i64 0, .int .i64 0, .int .i64 0] 43 (0, 0)) (by (with_reducible repeat (first | refine blk_drewN ?_ _ | refine blk_drew ?_ | refine blk_alloc ?_ _)); exact BK986.out) hb)
          have n4_ := Aside0.mk (below_step (by repeat (first | (with_reducible first | exact HB.out | apply below_alloc | apply pw_below_drewN | apply below_drew1 | refine below_set ?_ GE961.out | refine below_set ?_ GE962.out | refine below_set ?_ GE974.out | refine below_set ?_ GE986.out) | exact HB.out)) hb)
          clear BK961
          clear BK962
          clear BK974
          clear BK986
          clear HB
          have BK961 := n0_
          have BK962 := n1_
          have BK974 := n2_
          have BK986 := n3_
          have HB := n4_
          clear n0_ n1_ n2_ n3_ n4_
          (try clear hb)
          (try clear hb2)
          (try clear hk)
          (try clear hi)
          refine hK.out _ _ ⟨(blk_cell BK961.out 0).trans rfl, (blk_cell BK961.out 1).trans rfl, (blk_cell BK961.out 2).trans rfl, (blk_cell BK961.out 3).trans rfl, (blk_cell BK962.out 0).trans rfl, (blk_cell BK962.out 1).trans rfl, (blk_cell BK962.out 2).trans rfl⟩ (fun hHeld => ?_)
          clear hK K
          refine norm_ (a' := ?_) ?_ ?_
          rotate_left
          · show Act.put _ (some 26) _ = _
            simp only [Act.put, List.setIfInBounds_toArray, List.set_cons_zero, List.set_cons_succ, i64_w, i32_w]
            rfl
          refine pure_ (i := 6) (N := some 20) (v := ?_) (a' := ?_) #[true, true, true, true, true, true, true, false, false, true, false, false] rfl rfl (any_of HT_.out (by kernel_rfl)) (fun _ _ _ h => h) (Or.inl ⟨by rfl, ?_⟩) ?_ ?_
          rotate_left
          · intro w'
            go_simp
            with_reducible rfl
          rotate_left
          · simp only [Act.put, List.setIfInBounds_toArray, List.set_cons_zero, List.set_cons_succ, i64_w, i32_w]
            rfl
          refine pure_ (i := 7) (N := some 27) (v := ?_) (a' := ?_) #[true, true, true, true, true, true, true, true, false, true, false, false] rfl rfl (any_of HT_.out (by kernel_rfl)) (fun _ _ _ h => h) (Or.inl ⟨by rfl, ?_⟩) ?_ ?_
          rotate_left
          · intro w'
            go_simp
            with_reducible rfl
          rotate_left
          · simp only [Act.put, List.setIfInBounds_toArray, List.set_cons_zero, List.set_cons_succ, i64_w, i32_w]
            rfl
          refine pure_ (i := 8) (N := some 28) (v := ?_) (a' := ?_) #[true, true, true, true, true, true, true, true, true, true, false, false] rfl rfl (any_of HT_.out (by kernel_rfl)) (fun _ _ _ h => h) (Or.inl ⟨by rfl, ?_⟩) ?_ ?_
          rotate_left
          · intro w'
            go_simp
            with_reducible rfl
          rotate_left
          · simp only [Act.put, List.setIfInBounds_toArray, List.set_cons_zero, List.set_cons_succ, i64_w, i32_w]
            rfl
          exact norm_ (by simp only [putAll, Act.put, List.setIfInBounds_toArray, List.set_cons_zero, List.set_cons_succ]) (hCont (gb986) _ ⟨hHeld, (by (with_reducible repeat (first | refine blk_drewN ?_ _ | refine blk_drew ?_ | refine blk_alloc ?_ _)); exact BK961.out), (by (with_reducible repeat (first | refine blk_drewN ?_ _ | refine blk_drew ?_ | refine blk_alloc ?_ _)); exact BK962.out), (by (with_reducible repeat (first | refine blk_drewN ?_ _ | refine blk_drew ?_ | refine blk_alloc ?_ _)); exact BK974.out), (by (with_reducible repeat (first | refine blk_drewN ?_ _ | refine blk_drew ?_ | refine blk_alloc ?_ _)); exact BK986.out), GW986.out, GE986.out, NB961_986.out, NB986_961.out, NB962_986.out, NB986_962.out, NB974_986.out, NB986_974.out, (by repeat (first | (with_reducible first | exact HB.out | apply below_alloc | apply pw_below_drewN | apply below_drew1 | refine below_set ?_ GE961.out | refine below_set ?_ GE962.out | refine below_set ?_ GE974.out | refine below_set ?_ GE986.out) | exact HB.out))⟩)
      rintro gb986 w30 ⟨hS_, h0_, h1_, h2_, h3_, h4_, h5_, h6_, h7_, h8_, h9_, h10_, h11_, h12_⟩
      have n0_ : Aside0 (w30.heap[gb961]? = some (.cells #[.int .i64 a1_0, .int .i64 a1_1, .int .i64 a1_2, .int .i64 a1_3] 23 (0, 0))) := ⟨h0_⟩
      have n1_ : Aside0 (w30.heap[gb962]? = some (.cells #[.int .i64 a2_0, .int .i64 a2_1, .int .i64 a2_2] 40 (0, 0))) := ⟨h1_⟩
      have n2_ : Aside0 (w30.heap[gb974]? = some (.cells #[.int .i64 t970, .int .i64 t971, .int .i64 t972] 43 (0, 0))) := ⟨h2_⟩
      have n3_ : Aside0 (w30.heap[gb986]? = some (.cells #[.int .i64 0, .int .i64 0, .int .i64 0] 43 (0, 0))) := ⟨h3_⟩
      have n4_ : Aside0 (w.heap.size ≤ gb986) := ⟨h4_⟩
      have n5_ : Aside0 (w.heap.size ≤ gb986) := ⟨h5_⟩
      have n6_ : Aside0 (gb961 ≠ gb986) := ⟨h6_⟩
      have n7_ : Aside0 (gb986 ≠ gb961) := ⟨h7_⟩
      have n8_ : Aside0 (gb962 ≠ gb986) := ⟨h8_⟩
      have n9_ : Aside0 (gb986 ≠ gb962) := ⟨h9_⟩
      have n10_ : Aside0 (gb974 ≠ gb986) := ⟨h10_⟩
      have n11_ : Aside0 (gb986 ≠ gb974) := ⟨h11_⟩
      have n12_ : Aside0 (Below w.heap.size w w30) := ⟨h12_⟩
      clear BK961
      clear BK962
      clear BK974
      clear HB
      clear h0_ h1_ h2_ h3_ h4_ h5_ h6_ h7_ h8_ h9_ h10_ h11_ h12_
      have BK961 := n0_
      have BK962 := n1_
      have BK974 := n2_
      have BK986 := n3_
      have GW986 := n4_
      have GE986 := n5_
      have NB961_986 := n6_
      have NB986_961 := n7_
      have NB962_986 := n8_
      have NB986_962 := n9_
      have NB974_986 := n10_
      have NB986_974 := n11_
      have HB := n12_
      clear n0_ n1_ n2_ n3_ n4_ n5_ n6_ n7_ n8_ n9_ n10_ n11_ n12_
      have hHeld : w30.cell? ⟨gb961, 0, none⟩ = some (.int .i64 a1_0) ∧ w30.cell? ⟨gb961, 1, none⟩ = some (.int .i64 a1_1) ∧ w30.cell? ⟨gb961, 2, none⟩ = some (.int .i64 a1_2) ∧ w30.cell? ⟨gb961, 3, none⟩ = some (.int .i64 a1_3) ∧ w30.cell? ⟨gb962, 0, none⟩ = some (.int .i64 a2_0) ∧ w30.cell? ⟨gb962, 1, none⟩ = some (.int .i64 a2_1) ∧ w30.cell? ⟨gb962, 2, none⟩ = some (.int .i64 a2_2) := hS_
      refine norm_ (a' := ?_) ?_ ?_
      rotate_left
      · simp only [putAll, Act.put, List.setIfInBounds_toArray, List.set_cons_zero, List.set_cons_succ]
        rfl
      refine one_ (i := 10) (N := none) #[true, true, true, true, true, true, true, true, true, true, true, false] rfl rfl (one_of HT_.out (by kernel_rfl)) (by decide) (fun K hK => ?_)
      have hs31 : w30.cell? ⟨gb986, 0, none⟩ = some (.int .i64 0) := (blk_cell BK986.out 0).trans rfl
      have hfs31 := blk_frozen BK986.out 0
      have hns31_0 := NB961_986.out
      have hns31_1 := NB962_986.out
      have hns31_2 := NB974_986.out
      have hms31_0 := NB986_961.out
      have hms31_1 := NB986_962.out
      have hms31_2 := NB986_974.out
      have hs32 : w30.cell? ⟨gb986, 1, none⟩ = some (.int .i64 0) := (blk_cell BK986.out 1).trans rfl
      have hfs32 := blk_frozen BK986.out 1
      have hns32_0 := NB961_986.out
      have hns32_1 := NB962_986.out
      have hns32_2 := NB974_986.out
      have hms32_0 := NB986_961.out
      have hms32_1 := NB986_962.out
      have hms32_2 := NB986_974.out
      have hs33 : w30.cell? ⟨gb986, 2, none⟩ = some (.int .i64 0) := (blk_cell BK986.out 2).trans rfl
      have hfs33 := blk_frozen BK986.out 2
      have hns33_0 := NB961_986.out
      have hns33_1 := NB962_986.out
      have hns33_2 := NB974_986.out
      have hms33_0 := NB986_961.out
      have hms33_1 := NB986_962.out
      have hms33_2 := NB986_974.out
      refine skip_ (w1 := ?_) (by rfl) rfl ?_ ?_
      rotate_left
      · go_simp
        rfl
      refine hK.out _ _ ⟨((cell_far (p := ⟨gb986, _, none⟩) NB961_986.out _).trans (((cell_far (p := ⟨gb986, _, none⟩) NB961_986.out _).trans (((cell_far (p := ⟨gb986, _, none⟩) NB961_986.out _).trans (hHeld.1)))))), ((cell_far (p := ⟨gb986, _, none⟩) NB961_986.out _).trans (((cell_far (p := ⟨gb986, _, none⟩) NB961_986.out _).trans (((cell_far (p := ⟨gb986, _, none⟩) NB961_986.out _).trans (hHeld.2.1)))))), ((cell_far (p := ⟨gb986, _, none⟩) NB961_986.out _).trans (((cell_far (p := ⟨gb986, _, none⟩) NB961_986.out _).trans (((cell_far (p := ⟨gb986, _, none⟩) NB961_986.out _).trans (hHeld.2.2.1)))))), ((cell_far (p := ⟨gb986, _, none⟩) NB961_986.out _).trans (((cell_far (p := ⟨gb986, _, none⟩) NB961_986.out _).trans (((cell_far (p := ⟨gb986, _, none⟩) NB961_986.out _).trans (hHeld.2.2.2.1)))))), ((cell_far (p := ⟨gb986, _, none⟩) NB962_986.out _).trans (((cell_far (p := ⟨gb986, _, none⟩) NB962_986.out _).trans (((cell_far (p := ⟨gb986, _, none⟩) NB962_986.out _).trans (hHeld.2.2.2.2.1)))))), ((cell_far (p := ⟨gb986, _, none⟩) NB962_986.out _).trans (((cell_far (p := ⟨gb986, _, none⟩) NB962_986.out _).trans (((cell_far (p := ⟨gb986, _, none⟩) NB962_986.out _).trans (hHeld.2.2.2.2.2.1)))))), ((cell_far (p := ⟨gb986, _, none⟩) NB962_986.out _).trans (((cell_far (p := ⟨gb986, _, none⟩) NB962_986.out _).trans (((cell_far (p := ⟨gb986, _, none⟩) NB962_986.out _).trans (hHeld.2.2.2.2.2.2))))))⟩ (fun hHeld => ?_)
      clear hK K
      refine pure_ (i := 11) (N := some 10) (v := ?_) (a' := ?_) #[true, true, true, true, true, true, true, true, true, true, true, true] rfl rfl (any_of HT_.out (by kernel_rfl)) (fun _ _ _ h => h) (Or.inl ⟨by rfl, ?_⟩) ?_ ?_
      rotate_left
      · intro w'
        go_simp
        with_reducible rfl
      rotate_left
      · simp only [Act.put, List.setIfInBounds_toArray, List.set_cons_zero, List.set_cons_succ, i64_w, i32_w]
        rfl
      refine done_ (done_of HT_.out (by kernel_rfl)) ?_
      have hnb34 := NB986_961.out
      have hnc34 := NB961_986.out
      have hnb35 := NB986_962.out
      have hnc35 := NB962_986.out
      have hnb36 := NB986_974.out
      have hnc36 := NB974_986.out
      have hcz37_0 : w30.cell? ⟨gb986, 0, none⟩ = some (.int .i64 0) := (blk_cell BK986.out 0).trans rfl
      have hcz37_1 : w30.cell? ⟨gb986, 1, none⟩ = some (.int .i64 0) := (blk_cell BK986.out 1).trans rfl
      have hcz37_2 : w30.cell? ⟨gb986, 2, none⟩ = some (.int .i64 0) := (blk_cell BK986.out 2).trans rfl
      have hfz37_0 := blk_frozen BK986.out 0
      have hfz37_1 := blk_frozen BK986.out 1
      have hfz37_2 := blk_frozen BK986.out 2
      have hnb38 := NB974_961.out
      have hnc38 := NB961_974.out
      have hnb39 := NB974_962.out
      have hnc39 := NB962_974.out
      have hcz40_0 : w30.cell? ⟨gb974, 0, none⟩ = some (.int .i64 t970) := (blk_cell BK974.out 0).trans rfl
      have hcz40_1 : w30.cell? ⟨gb974, 1, none⟩ = some (.int .i64 t971) := (blk_cell BK974.out 1).trans rfl
      have hcz40_2 : w30.cell? ⟨gb974, 2, none⟩ = some (.int .i64 t972) := (blk_cell BK974.out 2).trans rfl
      have hfz40_0 := blk_frozen BK974.out 0
      have hfz40_1 := blk_frozen BK974.out 1
      have hfz40_2 := blk_frozen BK974.out 2
      try go_wp2_with (first | ((with_reducible refine gate_callee (f := 39) rfl ?_); refine goesL_ (some 31) rfl rfl Try.func39 (by kernel_rfl) rfl #[.agg #[.int .i64 t982, .int .i64 t983, .int .i64 t984], .agg #[.int .i64 t970, .int .i64 t971, .int .i64 t972]] rfl (by (try simp only [List.map_toArray, List.map_cons, List.map_nil]); first | done | rfl | (simp only [List.length_drop, List.length_take]; rfl)) ?_; (with_reducible refine (laws_eqLattice.calls t982 t983 t984 t970 t971 t972 true _ A10.out).mono ?_); rintro e w41 ⟨rfl, hb⟩; refine ⟨_, rfl, ?_⟩; have n0_ := Aside0.mk (blk_below (g := gb961) (o := .cells #[.int .i64 a1_0, .int .i64 a1_1, .int .i64 a1_2, .int .i64 a1_3] 23 (0, 0)) (by (with_reducible repeat (first | refine blk_drewN ?_ _ | refine blk_drew ?_ | refine blk_alloc ?_ _)); refine blk_far ?_ NB961_986.out _; (with_reducible repeat (first | refine blk_drewN ?_ _ | refine blk_drew ?_ | refine blk_alloc ?_ _)); refine blk_far ?_ NB961_986.out _; (with_reducible repeat (first | refine blk_drewN ?_ _ | refine blk_drew ?_ | refine blk_alloc ?_ _)); refine blk_far ?_ NB961_986.out _; (with_reducible repeat (first | refine blk_drewN ?_ _ | refine blk_drew ?_ | refine blk_alloc ?_ _)); exact BK961.out) hb); have n1_ := Aside0.mk (blk_below (g := gb962) (o := .cells #[.int .i64 a2_0, .int .i64 a2_1, .int .i64 a2_2] 40 (0, 0)) (by (with_reducible repeat (first | refine blk_drewN ?_ _ | refine blk_drew ?_ | refine blk_alloc ?_ _)); refine blk_far ?_ NB962_986.out _; (with_reducible repeat (first | refine blk_drewN ?_ _ | refine blk_drew ?_ | refine blk_alloc ?_ _)); refine blk_far ?_ NB962_986.out _; (with_reducible repeat (first | refine blk_drewN ?_ _ | refine blk_drew ?_ | refine blk_alloc ?_ _)); refine blk_far ?_ NB962_986.out _; (with_reducible repeat (first | refine blk_drewN ?_ _ | refine blk_drew ?_ | refine blk_alloc ?_ _)); exact BK962.out) hb); have n2_ := Aside0.mk (blk_below (g := gb974) (o := .cells #[.int .i64 t970, .int .i64 t971, .int .i64 t972] 43 (0, 0)) (by (with_reducible repeat (first | refine blk_drewN ?_ _ | refine blk_drew ?_ | refine blk_alloc ?_ _)); refine blk_far ?_ NB974_986.out _; (with_reducible repeat (first | refine blk_drewN ?_ _ | refine blk_drew ?_ | refine blk_alloc ?_ _)); refine blk_far ?_ NB974_986.out _; (with_reducible repeat (first | refine blk_drewN ?_ _ | refine blk_drew ?_ | refine blk_alloc ?_ _)); refine blk_far ?_ NB974_986.out _; (with_reducible repeat (first | refine blk_drewN ?_ _ | refine blk_drew ?_ | refine blk_alloc ?_ _)); exact BK974.out) hb); have n3_ := Aside0.mk (blk_below (g := gb986) (o := .cells #[.int .i64 t982, .int .i64 t983, .int .i64 t984] 43 (0, 0)) (by (with_reducible repeat (first | refine blk_drewN ?_ _ | refine blk_drew ?_ | refine blk_alloc ?_ _)); refine blk_put (cs := #[.int .i64 t982, .int .i64 t983, .int .i64 0]) ?_ 2 _ rfl; (with_reducible repeat (first | refine blk_drewN ?_ _ | refine blk_drew ?_ | refine blk_alloc ?_ _)); refine blk_put (cs := #[.int .i64 t982, .int .i64 0, .int .i64 0]) ?_ 1 _ rfl; (with_reducible repeat (first | refine blk_drewN ?_ _ | refine blk_drew ?_ | refine blk_alloc ?_ _)); refine blk_put (cs := #[.int .i64 0, .int .i64 0, .int .i64 0]) ?_ 0 _ rfl; (with_reducible repeat (first | refine blk_drewN ?_ _ | refine blk_drew ?_ | refine blk_alloc ?_ _)); exact BK986.out) hb); have n4_ := Aside0.mk (below_step (by repeat (first | (with_reducible first | exact HB.out | apply below_alloc | apply pw_below_drewN | apply below_drew1 | refine below_set ?_ GE961.out | refine below_set ?_ GE962.out | refine below_set ?_ GE974.out | refine below_set ?_ GE986.out) | exact HB.out)) hb); clear BK961; clear BK962; clear BK974; clear BK986; clear HB; have BK961 := n0_; have BK962 := n1_; have BK974 := n2_; have BK986 := n3_; have HB := n4_; clear n0_ n1_ n2_ n3_ n4_; (try clear hb); (try clear hb2); (try clear hk); (try clear hi)))
      go_ret
      exact ⟨by first | rfl | (simp [errW_none, errW_some] <;> rfl) | (simp [*, errW_none, errW_some] <;> rfl), by repeat (first | (with_reducible first | exact HB.out | apply below_alloc | apply pw_below_drewN | apply below_drew1 | refine below_set ?_ GE961.out | refine below_set ?_ GE962.out | refine below_set ?_ GE974.out | refine below_set ?_ GE986.out) | exact HB.out)⟩
    · rw [if_neg c12] at H
      have c12b0 : (t985 == t973) = false := beq_eq_false_iff_ne.mpr c12
      have c12b1 : (t985 != t973) = true := bne_iff_ne.mpr c12
      exact absurd (Option.some.inj H) (by decide)
  · replace c11 := Bool.eq_false_iff.mpr c11
    subst c11
    have H1 : (some false) = some true := by rw [if_neg (show ¬ (false = true) by decide)] at H; exact H
    clear H
    have H := H1
    clear H1
    exact absurd (Option.some.inj H) (by decide)
end Go.Proofs.Ytpkjgcafbkfbgac.F

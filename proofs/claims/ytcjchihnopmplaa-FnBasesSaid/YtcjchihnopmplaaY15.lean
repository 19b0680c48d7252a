import Derived.Test.YtcjchihnopmplaaY0
import Derived.Test.YtcjchihnopmplaaY1
import Derived.Test.YtcjchihnopmplaaY7
import Derived.Test.YtcjchihnopmplaaY12
import Derived.Test.YtcjchihnopmplaaY13
import Derived.Test.YtcjchihnopmplaaY14
namespace Go.Proofs.Ytcjchihnopmplaa.F
open Go.RowKit Go.Proofs.YtcjchihnopmplaaW.PrintWords Go.Proofs.YtcjchihnopmplaaW.PrintLast Go.Proofs.YtcjchihnopmplaaW.PrintMore
attribute [local go_sem] max2_int min2_int max_two min_two max_three min_three max_four min_four   -- for this text's walks alone
set_option linter.unusedVariables false
set_option linter.unusedSimpArgs false

def impl_reducedBasis.l0 : Nat → Int → Int → List (S47) → Int → Int → Int → Int → Int → Int → Int → Int → Int → Option (Int × Int × Int × Int)
 | 0, _, _, _, _, _, _, _, _, _, _, _, _ => none
 | k + 1, x0, x9, x23, x24, x25, x748000, x748001, x748002, x755000, x755001, x756000, x756001 => if x25 < x24 then (if 0 ≤ x25 then (if x25 < (x23.length : Int) then ((impl_norm.f x0 ((rd_T47 x23 x25).f0) ((rd_T47 x23 x25).f1)).bind fun t761 => ((impl_det.f x755000 x755001 ((rd_T47 x23 x25).f0) ((rd_T47 x23 x25).f1)).bind fun t762 => ((impl_Lattice_index.f x748000 x748001 x748002).bind fun t763 => (if t762 = t763 then (if x9 = 0 then ((impl_Lattice_has.f x748000 x748001 x748002 ((rd_T47 x23 x25).f0) ((rd_T47 x23 x25).f1)).bind fun t764 => (if t764 = true then (impl_reducedBasis.l0 k x0 t761 x23 x24 (wrap64 (x25 + 1)) x748000 x748001 x748002 x755000 x755001 ((rd_T47 x23 x25).f0) ((rd_T47 x23 x25).f1)) else (impl_reducedBasis.l0 k x0 x9 x23 x24 (wrap64 (x25 + 1)) x748000 x748001 x748002 x755000 x755001 x756000 x756001))) else (if t761 ≤ x9 then ((impl_Lattice_has.f x748000 x748001 x748002 ((rd_T47 x23 x25).f0) ((rd_T47 x23 x25).f1)).bind fun t765 => (if t765 = true then (impl_reducedBasis.l0 k x0 t761 x23 x24 (wrap64 (x25 + 1)) x748000 x748001 x748002 x755000 x755001 ((rd_T47 x23 x25).f0) ((rd_T47 x23 x25).f1)) else (impl_reducedBasis.l0 k x0 x9 x23 x24 (wrap64 (x25 + 1)) x748000 x748001 x748002 x755000 x755001 x756000 x756001))) else (impl_reducedBasis.l0 k x0 x9 x23 x24 (wrap64 (x25 + 1)) x748000 x748001 x748002 x755000 x755001 x756000 x756001))) else (impl_reducedBasis.l0 k x0 x9 x23 x24 (wrap64 (x25 + 1)) x748000 x748001 x748002 x755000 x755001 x756000 x756001))))) else (none)) else (none)) else (some (x755000, x755001, x756000, x756001))
def impl_reducedBasis.f (k : Nat) (a0 : Int) (a1_0 : Int) (a1_1 : Int) (a1_2 : Int) : Option (Int × Int × Int × Int) := (impl_shortestVecs.f k a0 a1_0 a1_1 a1_2).bind fun t750 => (if 0 ≤ (wrap64 ((t750.length : Int) - 1)) then (if (wrap64 ((t750.length : Int) - 1)) < (t750.length : Int) then ((impl_vecsAround.f k 76).bind fun t756 => (impl_reducedBasis.l0 k a0 0 t756 (t756.length : Int) 0 a1_0 a1_1 a1_2 ((rd_T47 t750 (wrap64 ((t750.length : Int) - 1))).f0) ((rd_T47 t750 (wrap64 ((t750.length : Int) - 1))).f1) 0 0)) else (none)) else (none))
def impl_reducedBasis.T7 : Bool × List (List Nat × List Nat) := (true, [([], []), ([], []), ([0, 1], [0, 1]), ([], []), ([3, 2], [3]), ([2, 4], [2, 4]), ([5, 4], [5]), ([6], [6]), ([7, 6], [6, 7]), ([8, 6, 6], [6, 8]), ([9], [9]), ([9], [9]), ([10, 11, 9], [9, 10, 11]), ([9, 12, 6], [6, 9, 12]), ([6, 13], [6, 13]), ([14, 9], [14]), ([15], [15]), ([15], [15]), ([16, 17, 15, 15], [15, 16, 17]), ([15, 18], [15, 18])])
def impl_reducedBasis.B7 : List Nat := [0, 0, 3, 0, 15, 31, 63, 127, 255, 511, 1023, 1023, 4095, 8191, 16383, 32767, 65535, 65535, 262143, 524287]
theorem impl_reducedBasis.tab7 : rtab .any (opsOf Try.f125 7) = impl_reducedBasis.T7 := by kernel_rfl
theorem impl_reducedBasis.bits7 : waitsOk impl_reducedBasis.T7.2 impl_reducedBasis.B7 = true := by kernel_rfl
set_option maxHeartbeats 8000000 in
set_option maxRecDepth 100000 in
theorem impl_reducedBasis.calls (k : Nat) (a0 : Int) (a1_0 : Int) (a1_1 : Int) (a1_2 : Int) (r1 : Int) (r2 : Int) (r3 : Int) (r4 : Int) (w : World) (h : impl_reducedBasis.f k a0 a1_0 a1_1 a1_2 = some (r1, r2, r3, r4)) :
  Calls Try.prog 125 #[.int .i64 a0, .agg #[.int .i64 a1_0, .int .i64 a1_1, .int .i64 a1_2]] w fun e w' => e = .returned (.tuple #[.agg #[.int .i64 r1, .int .i64 r2], .agg #[.int .i64 r3, .int .i64 r4]]) ∧ Below w.heap.size w w' := by
 have hu33 := Try.underlying33
 have hu47 := Try.underlying47
 have HB := aM (Below.refl w.heap.size w)
 have H : ((impl_shortestVecs.f k a0 a1_0 a1_1 a1_2).bind fun t750 => (if 0 ≤ (wrap64 ((t750.length : Int) - 1)) then (if (wrap64 ((t750.length : Int) - 1)) < (t750.length : Int) then ((impl_vecsAround.f k 76).bind fun t756 => (impl_reducedBasis.l0 k a0 0 t756 (t756.length : Int) 0 a1_0 a1_1 a1_2 ((rd_T47 t750 (wrap64 ((t750.length : Int) - 1))).f0) ((rd_T47 t750 (wrap64 ((t750.length : Int) - 1))).f1) 0 0)) else (none)) else (none))) = some (r1, r2, r3, r4) := h
 clear h
 obtain ⟨t750, A3, H⟩ := oB H
 try dsimp only at H
 obtain ⟨ji4, hji4⟩ : ∃ j_ : Int, (wrap64 ((t750.length : Int) - 1)) = j_ := ⟨_, rfl⟩
 replace H : (if 0 ≤ (ji4) then (if (ji4) < (t750.length : Int) then ((impl_vecsAround.f k 76).bind fun t756 => (impl_reducedBasis.l0 k a0 0 t756 (t756.length : Int) 0 a1_0 a1_1 a1_2 ((rd_T47 t750 (ji4)).f0) ((rd_T47 t750 (ji4)).f1) 0 0)) else (none)) else (none)) = some (r1, r2, r3, r4) := by first | (rw [hji4] at H; exact H) | (simp only [hji4] at H ⊢; exact H)
 (try rw [hji4] at A3)
 have hji4w : (IntKind.i64.wrap ((t750.length : Int) - 1)) = ji4 := (i64_w _).trans hji4
 by_cases c5 : 0 ≤ (ji4)
 ·rw [if_pos c5] at H
  have c5b0 : decide (0 ≤ (ji4)) = true := decide_eq_true c5
  clear c5
  by_cases c6 : (ji4) < (t750.length : Int)
  ·rw [if_pos c6] at H
   have c6b0 : decide ((ji4) < (t750.length : Int)) = true := decide_eq_true c6
   clear c6
   obtain ⟨t756, A7, H⟩ := oB H
   try dsimp only at H
   have H' := aM H
   clear H
   go_enter Try.func125, Try.ntmps125
   go_wp2_with (first | (refine bE 3 #[.int .i64 a1_0, .int .i64 a1_1, .int .i64 a1_2] 33 ?_; intro gb747 hg w8 hbox hb; have BK747 := aM hbox; have GW747 := bZ hg HB; have GE747 := bZ hg HB; replace HB := bS HB hb; clear hb hbox hg) | (refine bE 4 #[.int .i64 0, .int .i64 0] 47 ?_; intro gb748 hg w9 hbox hb; have BK748 := aM hbox; have GW748 := bZ hg HB; have GE748 := bZ hg HB; have NB747_748 := nL hg BK747; have NB748_747 := nG hg BK747; replace BK747 := bB BK747 hb; replace HB := bS HB hb; clear hb hbox hg) | (refine bE 5 #[.int .i64 0, .int .i64 0] 47 ?_; intro gb749 hg w10 hbox hb; have BK749 := aM hbox; have GW749 := bZ hg HB; have GE749 := bZ hg HB; have NB747_749 := nL hg BK747; have NB749_747 := nG hg BK747; have NB748_749 := nL hg BK748; have NB749_748 := nG hg BK748; replace BK747 := bB BK747 hb; replace BK748 := bB BK748 hb; replace HB := bS HB hb; clear hb hbox hg; have hnb11 := NB747_748.out; have hnc11 := NB748_747.out; have hnb12 := NB747_749.out; have hnc12 := NB749_747.out; obtain ⟨hcz13_0, hcz13_1, hcz13_2⟩ := z3 BK747; obtain ⟨hfz13_0, hfz13_1, hfz13_2⟩ := y3 BK747) | ((with_reducible refine gate_callee (f := 129) rfl ?_); refine goesL_ (some 15) rfl rfl Try.func129 (by kernel_rfl) rfl #[.int .i64 a0, .agg #[.int .i64 a1_0, .int .i64 a1_1, .int .i64 a1_2]] rfl (by first|rfl|(simp only [List.map_toArray, List.map_cons, List.map_nil]; try rfl)) ?_; (with_reducible refine (impl_shortestVecs.calls k a0 a1_0 a1_1 a1_2 t750 _ A3.out).mono ?_); rintro e w14 ⟨v751, rfl, ho0, hb⟩; refine ⟨_, rfl, ?_⟩; have HO752 := aM (Kd.R_lower (Kd.R_newB (Kd.R_newB ho0 (g := gb748) (o := .cells #[.int .i64 0, .int .i64 0] 47 (0, 0)) (bk BK748)) (g := gb749) (o := .cells #[.int .i64 0, .int .i64 0] 47 (0, 0)) (bk BK749)) (below_size qB)); replace BK747 := bB BK747 hb; replace BK748 := bB BK748 hb; replace BK749 := bB BK749 hb; replace HB := bS HB hb; (try clear hb); (try clear ho0); obtain ⟨Ao15, co15, eo15⟩ := Kd.R_slice HO752.out; subst eo15; have p753 : 0 ≤ ((ji4) : Int) := of_decide_eq_true (by first | (with_reducible assumption) | assumption); have q753 : (ji4) < (t750.length : Int) := of_decide_eq_true (by first | (with_reducible assumption) | assumption); obtain ⟨ad753, e753, hx753_0, hx753_1⟩ := at_T47 (Kd.R_reads' HO752.out).2.2 (ji4) p753 q753; cases e753; replace p753 := eq_true p753; replace q753 := eq_true q753) | (refine bE 7 #[.int .i64 0, .int .i64 0] 47 ?_; intro gb754 hg w16 hbox hb; have BK754 := aM hbox; have GW754 := bZ hg HB; have GE754 := bZ hg HB; have NB747_754 := nL hg BK747; have NB754_747 := nG hg BK747; have NB748_754 := nL hg BK748; have NB754_748 := nG hg BK748; have NB749_754 := nL hg BK749; have NB754_749 := nG hg BK749; replace HO752 := aM (Kd.R_below (Kd.R_elderB (by (with_reducible repeat (first | apply Kd.R_alloc | apply Kd.R_drewN | apply Kd.R_drew)); exact HO752.out) gb754 (Nat.le_of_eq hg.symm)) hb); replace BK747 := bB BK747 hb; replace BK748 := bB BK748 hb; replace BK749 := bB BK749 hb; replace HB := bS HB hb; clear hb hbox hg) | (refine bE 8 #[.int .i64 0, .int .i64 0] 47 ?_; intro gb755 hg w17 hbox hb; have BK755 := aM hbox; have GW755 := bZ hg HB; have GE755 := bZ hg HB; have NB747_755 := nL hg BK747; have NB755_747 := nG hg BK747; have NB748_755 := nL hg BK748; have NB755_748 := nG hg BK748; have NB749_755 := nL hg BK749; have NB755_749 := nG hg BK749; have NB754_755 := nL hg BK754; have NB755_754 := nG hg BK754; replace HO752 := aM (Kd.R_below (Kd.R_elderB (by (with_reducible repeat (first | apply Kd.R_alloc | apply Kd.R_drewN | apply Kd.R_drew)); exact HO752.out) gb755 (Nat.le_of_eq hg.symm)) hb); replace BK747 := bB BK747 hb; replace BK748 := bB BK748 hb; replace BK749 := bB BK749 hb; replace BK754 := bB BK754 hb; replace HB := bS HB hb; clear hb hbox hg; have hnb18 := NB754_747.out; have hnc18 := NB747_754.out; have hnb19 := NB754_748.out; have hnc19 := NB748_754.out; have hnb20 := NB754_749.out; have hnc20 := NB749_754.out; have hnb21 := NB754_755.out; have hnc21 := NB755_754.out; obtain ⟨hcz22_0, hcz22_1⟩ := z2 BK754; obtain ⟨hfz22_0, hfz22_1⟩ := y2 BK754; have hnb23 := NB755_747.out; have hnc23 := NB747_755.out; have hnb24 := NB755_748.out; have hnc24 := NB748_755.out; have hnb25 := NB755_749.out; have hnc25 := NB749_755.out; obtain ⟨hcz26_0, hcz26_1⟩ := z2 BK755; obtain ⟨hfz26_0, hfz26_1⟩ := y2 BK755) | ((with_reducible refine gate_callee (f := 74) rfl ?_); refine goesL_ (some 23) rfl rfl Try.func74 (by kernel_rfl) rfl #[.int .i64 76] rfl (by first|rfl|(simp only [List.map_toArray, List.map_cons, List.map_nil]; try rfl)) ?_; (with_reducible refine (impl_vecsAround.calls k 76 t756 _ A7.out).mono ?_); rintro e w27 ⟨v757, rfl, ho0, hb⟩; refine ⟨_, rfl, ?_⟩; have HO758 := aM (Kd.R_lower (Kd.R_newB (Kd.R_newB (Kd.R_newB (Kd.R_newB (Kd.R_new' ho0 (Kd.R_lt (by (with_reducible repeat (first | apply Kd.R_alloc | apply Kd.R_drewN | apply Kd.R_drew)); exact (Kd.R_mono (Kd.R_mono (Kd.R_far (p := ⟨gb755, 1, none⟩) (Kd.R_far (p := ⟨gb755, 0, none⟩) (Kd.R_far (p := ⟨gb754, 1, none⟩) (Kd.R_far (p := ⟨gb754, 0, none⟩) (Kd.R_mono (Kd.R_mono HO752.out (fun k_ hk => (⟨hk, hk.1.2⟩ : _ ∧ k_ ≠ gb754))) (fun k_ hk => (⟨hk, hk.1.2⟩ : _ ∧ k_ ≠ gb755))) (fun _ hk => hk.1.2) (.int .i64 ((rd_T47 t750 (ji4)).f0))) (fun _ hk => hk.1.2) (.int .i64 ((rd_T47 t750 (ji4)).f1))) (fun _ hk => hk.2) (.int .i64 0)) (fun _ hk => hk.2) (.int .i64 0)) (fun _ h_ => h_.1)) (fun _ h_ => h_.1))))) (g := gb748) (o := .cells #[.int .i64 0, .int .i64 0] 47 (0, 0)) (by (repeat (first|(with_reducible first|apply kN|apply kD|apply kA)|refine blk_far ?_ NB748_755.out _|refine blk_far ?_ NB748_754.out _)); exact BK748.out)) (g := gb749) (o := .cells #[.int .i64 0, .int .i64 0] 47 (0, 0)) (by (repeat (first|(with_reducible first|apply kN|apply kD|apply kA)|refine blk_far ?_ NB749_755.out _|refine blk_far ?_ NB749_754.out _)); exact BK749.out)) (g := gb754) (o := .cells #[.int .i64 ((rd_T47 t750 (ji4)).f0), .int .i64 ((rd_T47 t750 (ji4)).f1)] 47 (0, 0)) (by (repeat (first|(with_reducible first|apply kN|apply kD|apply kA)|refine blk_far ?_ NB754_755.out _)); refine blk_put (cs := #[.int .i64 ((rd_T47 t750 (ji4)).f0), .int .i64 0]) ?_ 1 _ rfl; (with_reducible repeat (first|apply kN|apply kD|apply kA)); refine blk_put (cs := #[.int .i64 0, .int .i64 0]) ?_ 0 _ rfl; (with_reducible repeat (first|apply kN|apply kD|apply kA)); exact BK754.out)) (g := gb755) (o := .cells #[.int .i64 0, .int .i64 0] 47 (0, 0)) (by (with_reducible repeat (first|apply kN|apply kD|apply kA)); refine blk_put (cs := #[.int .i64 0, .int .i64 0]) ?_ 1 _ rfl; (with_reducible repeat (first|apply kN|apply kD|apply kA)); refine blk_put (cs := #[.int .i64 0, .int .i64 0]) ?_ 0 _ rfl; (repeat (first|(with_reducible first|apply kN|apply kD|apply kA)|refine blk_far ?_ NB755_754.out _)); exact BK755.out)) (below_size qB)); replace HO752 := aM (Kd.R_elder' (by (with_reducible repeat (first | apply Kd.R_alloc | apply Kd.R_drewN | apply Kd.R_drew)); exact (Kd.R_mono (Kd.R_mono (Kd.R_far (p := ⟨gb755, 1, none⟩) (Kd.R_far (p := ⟨gb755, 0, none⟩) (Kd.R_far (p := ⟨gb754, 1, none⟩) (Kd.R_far (p := ⟨gb754, 0, none⟩) (Kd.R_mono (Kd.R_mono HO752.out (fun k_ hk => (⟨hk, hk.1.2⟩ : _ ∧ k_ ≠ gb754))) (fun k_ hk => (⟨hk, hk.1.2⟩ : _ ∧ k_ ≠ gb755))) (fun _ hk => hk.1.2) (.int .i64 ((rd_T47 t750 (ji4)).f0))) (fun _ hk => hk.1.2) (.int .i64 ((rd_T47 t750 (ji4)).f1))) (fun _ hk => hk.2) (.int .i64 0)) (fun _ hk => hk.2) (.int .i64 0)) (fun _ h_ => h_.1)) (fun _ h_ => h_.1))) (Kd.R_base ho0) hb); replace BK747 := bF BK747 hb; replace BK748 := bF BK748 hb; replace BK749 := bF BK749 hb; replace BK754 := bW (.cells #[.int .i64 ((rd_T47 t750 (ji4)).f0), .int .i64 ((rd_T47 t750 (ji4)).f1)] 47 (0, 0)) BK754 hb; replace BK755 := bW (.cells #[.int .i64 0, .int .i64 0] 47 (0, 0)) BK755 hb; replace HB := bS HB hb; (try clear hb); (try clear ho0); obtain ⟨Ao28, co28, eo28⟩ := Kd.R_slice HO758.out; subst eo28))
   go_loopg [9, 25] k (fun kq v9 v25 w' => ∃ (x9_1 : Int) (x25_1 : Int) (x756000_1 : Int) (x756001_1 : Int), v9 = .int .i64 x9_1 ∧ v25 = .int .i64 x25_1 ∧ Aside0 (impl_reducedBasis.l0 kq a0 x9_1 t756 (t756.length : Int) x25_1 a1_0 a1_1 a1_2 ((rd_T47 t750 (ji4)).f0) ((rd_T47 t750 (ji4)).f1) x756000_1 x756001_1 = some (r1, r2, r3, r4)) ∧ Aside0 (kq ≤ k) ∧ Aside0 (Kd.R k47 47 w' w.heap.size (fun k_ => k_ ≠ gb748 ∧ k_ ≠ gb749 ∧ k_ ≠ gb754 ∧ k_ ≠ gb755) (.slice Ao28 t756.length co28) t756) ∧ Aside0 (w'.heap[gb747]? = some (.cells #[.int .i64 a1_0, .int .i64 a1_1, .int .i64 a1_2] 33 (0, 0))) ∧ Aside0 (w'.heap[gb748]? = some (.cells #[.int .i64 0, .int .i64 0] 47 (0, 0))) ∧ Aside0 (w'.heap[gb749]? = some (.cells #[.int .i64 0, .int .i64 0] 47 (0, 0))) ∧ Aside0 (w'.heap[gb754]? = some (.cells #[.int .i64 ((rd_T47 t750 (ji4)).f0), .int .i64 ((rd_T47 t750 (ji4)).f1)] 47 (0, 0))) ∧ Aside0 (w'.heap[gb755]? = some (.cells #[.int .i64 x756000_1, .int .i64 x756001_1] 47 (0, 0))) ∧ Aside0 (Below w.heap.size w w'))
   case atStart => exact ⟨(0), (0), (0), (0), (by first | rfl | (simp; done) | (simp [*]; done)), (by first | rfl | (simp; done) | (simp [*]; done)), H', ⟨Nat.le_refl _⟩, ⟨by (with_reducible repeat (first | apply Kd.R_alloc | apply Kd.R_drewN | apply Kd.R_drew)); exact Kd.R_mono HO758.out (fun _ hk => ⟨hk.1.1.1.2, ⟨hk.1.1.2, ⟨hk.1.2, hk.2⟩⟩⟩)⟩, ⟨bk BK747⟩, ⟨bk BK748⟩, ⟨bk BK749⟩, ⟨bk BK754⟩, ⟨bk BK755⟩, ⟨qB⟩⟩
   case round =>
    clear H'
    try clear c1
    try clear c2
    try clear p2
    try clear c5
    try clear c5b0
    try clear c6
    try clear c6b0
    try clear p6
    try clear c7
    try clear p7
    try clear q7
    try clear hx7
    try clear c11
    try clear c12
    try clear c18
    try clear c19
    try clear c20
    try clear c21
    try clear c23
    try clear c24
    try clear c25
    try clear hcz13_0
    try clear hcz13_1
    try clear hcz13_2
    try clear hcz22_0
    try clear hcz22_1
    try clear hcz26_0
    try clear hcz26_1
    try clear hfz13_0
    try clear hfz13_1
    try clear hfz13_2
    try clear hfz22_0
    try clear hfz22_1
    try clear hfz26_0
    try clear hfz26_1
    try clear hx753_0
    try clear hx753_1
    try clear p753
    try clear q753
    obtain ⟨x9_1, x25_1, x756000_1, x756001_1, rfl, rfl, HA, HK1, HO_23, BK747, BK748, BK749, BK754, BK755, HB⟩ := hrel
    cases gk with
    | zero => exact absurd HA.out (by simp [impl_reducedBasis.l0])
    | succ k1 =>
     have H := HA.out
     clear HA
     simp only [impl_reducedBasis.l0] at H
     by_cases c29 : x25_1 < (t756.length : Int)
     ·rw [if_pos c29] at H
      have c29b0 : decide (x25_1 < (t756.length : Int)) = true := decide_eq_true c29
      clear c29
      by_cases c30 : 0 ≤ x25_1
      ·rw [if_pos c30] at H
       have c30b0 : decide (0 ≤ x25_1) = true := decide_eq_true c30
       clear c30
       by_cases c31 : x25_1 < (t756.length : Int)
       ·rw [if_pos c31] at H
        have c31b0 : decide (x25_1 < (t756.length : Int)) = true := decide_eq_true c31
        clear c31
        obtain ⟨t761, A32, H⟩ := oB H
        try dsimp only at H
        obtain ⟨t762, A33, H⟩ := oB H
        try dsimp only at H
        obtain ⟨t763, A34, H⟩ := oB H
        try dsimp only at H
        by_cases c35 : t762 = t763
        ·rw [if_pos c35] at H
         have c35b0 : (t762 == t763) = true := beq_iff_eq.mpr c35
         have c35b1 : (t762 != t763) = false := bne_eq_false_iff_eq.mpr c35
         clear c35
         by_cases c36 : x9_1 = 0
         ·rw [if_pos c36] at H
          have c36b0 : (x9_1 == 0) = true := beq_iff_eq.mpr c36
          have c36b1 : (x9_1 != 0) = false := bne_eq_false_iff_eq.mpr c36
          clear c36
          obtain ⟨t764, A37, H⟩ := oB H
          try dsimp only at H
          by_cases c38 : t764 = true
          ·subst c38
           have H1 : (impl_reducedBasis.l0 k1 a0 t761 t756 (t756.length : Int) (wrap64 (x25_1 + 1)) a1_0 a1_1 a1_2 ((rd_T47 t750 (ji4)).f0) ((rd_T47 t750 (ji4)).f1) ((rd_T47 t756 x25_1).f0) ((rd_T47 t756 x25_1).f1)) = some (r1, r2, r3, r4) := by rw [if_pos rfl] at H; exact H
           clear H
           have H := H1
           clear H1
           have H' := aM H
           clear H
           have p759 : 0 ≤ (x25_1 : Int) := of_decide_eq_true (by first | (with_reducible assumption) | assumption)
           have q759 : x25_1 < (t756.length : Int) := of_decide_eq_true (by first | (with_reducible assumption) | assumption)
           obtain ⟨ad759, e759, hx759_0, hx759_1⟩ := at_T47 (Kd.R_reads' HO_23.out).2.2 x25_1 p759 q759
           cases e759
           replace p759 := eq_true p759
           replace q759 := eq_true q759
           try go_wp2_with (first | (refine bE 11 #[.int .i64 0, .int .i64 0] 47 ?_; intro gb760 hg w39 hbox hb; have BK760 := aM hbox; have GW760 := bZ hg HB; have GE760 := bZ hg HB; have NB747_760 := nL hg BK747; have NB760_747 := nG hg BK747; have NB748_760 := nL hg BK748; have NB760_748 := nG hg BK748; have NB749_760 := nL hg BK749; have NB760_749 := nG hg BK749; have NB754_760 := nL hg BK754; have NB760_754 := nG hg BK754; have NB755_760 := nL hg BK755; have NB760_755 := nG hg BK755; replace HO_23 := aM (Kd.R_below (Kd.R_elderB (by (with_reducible repeat (first | apply Kd.R_alloc | apply Kd.R_drewN | apply Kd.R_drew)); exact HO_23.out) gb760 (Nat.le_of_eq hg.symm)) hb); replace BK747 := bB BK747 hb; replace BK748 := bB BK748 hb; replace BK749 := bB BK749 hb; replace BK754 := bB BK754 hb; replace BK755 := bB BK755 hb; replace HB := bS HB hb; clear hb hbox hg; have hnb40 := NB760_747.out; have hnc40 := NB747_760.out; have hnb41 := NB760_748.out; have hnc41 := NB748_760.out; have hnb42 := NB760_749.out; have hnc42 := NB749_760.out; have hnb43 := NB760_754.out; have hnc43 := NB754_760.out; have hnb44 := NB760_755.out; have hnc44 := NB755_760.out; obtain ⟨hcz45_0, hcz45_1⟩ := z2 BK760; obtain ⟨hfz45_0, hfz45_1⟩ := y2 BK760) | (refine gC 76 ?_; refine gM 31 (impl_norm.calls a0 ((rd_T47 t756 x25_1).f0) ((rd_T47 t756 x25_1).f1) t761 _ A32.out) Try.func76 ?_; rintro w46 hb; replace HO_23 := aM (Kd.R_below (by (with_reducible repeat (first | apply Kd.R_alloc | apply Kd.R_drewN | apply Kd.R_drew)); exact (Kd.R_mono (Kd.R_far (p := ⟨gb760, 1, none⟩) (Kd.R_far (p := ⟨gb760, 0, none⟩) (Kd.R_mono HO_23.out (fun k_ hk => (⟨hk, hk.2⟩ : _ ∧ k_ ≠ gb760))) (fun _ hk => hk.2) (.int .i64 ((rd_T47 t756 x25_1).f0))) (fun _ hk => hk.2) (.int .i64 ((rd_T47 t756 x25_1).f1))) (fun _ h_ => h_.1))) hb); replace BK747 := bF BK747 hb; replace BK748 := bF BK748 hb; replace BK749 := bF BK749 hb; replace BK754 := bF BK754 hb; replace BK755 := bF BK755 hb; replace BK760 := bW (.cells #[.int .i64 ((rd_T47 t756 x25_1).f0), .int .i64 ((rd_T47 t756 x25_1).f1)] 47 (0, 0)) BK760 hb; replace HB := bS HB hb; (try clear hb)))
           replace HO_23 := aM (Kd.R_drew HO_23.out)
           replace BK747 := aM (blk_drew BK747.out)
           replace BK748 := aM (blk_drew BK748.out)
           replace BK749 := aM (blk_drew BK749.out)
           replace BK754 := aM (blk_drew BK754.out)
           replace BK755 := aM (blk_drew BK755.out)
           replace BK760 := aM (blk_drew BK760.out)
           replace HB := aM (below_drew1 HB.out)
           refine sT (fun w' => w'.cell? ⟨gb754, 0, none⟩ = some (.int .i64 ((rd_T47 t750 (ji4)).f0)) ∧ w'.cell? ⟨gb754, 1, none⟩ = some (.int .i64 ((rd_T47 t750 (ji4)).f1)) ∧ w'.cell? ⟨gb760, 0, none⟩ = some (.int .i64 ((rd_T47 t756 x25_1).f0)) ∧ w'.cell? ⟨gb760, 1, none⟩ = some (.int .i64 ((rd_T47 t756 x25_1).f1)) ∧ w'.cell? ⟨gb747, 0, none⟩ = some (.int .i64 a1_0) ∧ w'.cell? ⟨gb747, 1, none⟩ = some (.int .i64 a1_1) ∧ w'.cell? ⟨gb747, 2, none⟩ = some (.int .i64 a1_2)) [] ⟨cB BK754, cB BK754, cB BK760, cB BK760, cB BK747, cB BK747, cB BK747⟩ (fun hHeld => ?_); refine with_tabW impl_reducedBasis.tab7 impl_reducedBasis.bits7 (fun HT_ HW_ => ?_)
           generalize w46.drew = w47 at HO_23 BK747 BK748 BK749 BK754 BK755 BK760 HB hHeld ⊢
           refine tU 0 (some 32) 1 HT_ HW_ hHeld ?_
           refine tU 1 (some 33) 3 HT_ HW_ hHeld ?_
           refine tU 3 (some 35) 11 HT_ HW_ hHeld ?_
           refine oU 2 (some 34) 15 HT_ (fun K hK => ?_)
           refine goes_ Try.func130 (by kernel_rfl) rfl #[.agg #[.int .i64 ((rd_T47 t750 (ji4)).f0), .int .i64 ((rd_T47 t750 (ji4)).f1)], .agg #[.int .i64 ((rd_T47 t756 x25_1).f0), .int .i64 ((rd_T47 t756 x25_1).f1)]] (by rfl) rfl rfl (by (try simp only [List.map_toArray, List.map_cons, List.map_nil]); first | done | (simp only [hji4]; rfl) | rfl | (simp only [List.length_drop, List.length_take]; rfl)) ?_
           with_reducible refine (impl_det.calls ((rd_T47 t750 (ji4)).f0) ((rd_T47 t750 (ji4)).f1) ((rd_T47 t756 x25_1).f0) ((rd_T47 t756 x25_1).f1) t762 _ A33.out).mono ?_
           rintro e w48 ⟨rfl, hb⟩
           refine ⟨_, rfl, ?_⟩
           have n0_ := aM (Kd.R_below (by (with_reducible repeat (first | apply Kd.R_alloc | apply Kd.R_drewN | apply Kd.R_drew)); exact HO_23.out) hb)
           have n1_ := bB BK747 hb
           have n2_ := bB BK748 hb
           have n3_ := bB BK749 hb
           have n4_ := bB BK754 hb
           have n5_ := bB BK755 hb
           have n6_ := bB BK760 hb
           have n7_ := bS HB hb
           clear HO_23
           clear BK747
           clear BK748
           clear BK749
           clear BK754
           clear BK755
           clear BK760
           clear HB
           have HO_23 := n0_
           have BK747 := n1_
           have BK748 := n2_
           have BK749 := n3_
           have BK754 := n4_
           have BK755 := n5_
           have BK760 := n6_
           have HB := n7_
           clear n0_ n1_ n2_ n3_ n4_ n5_ n6_ n7_
           (try clear hb)
           (try clear hb2)
           (try clear hk)
           (try clear hi)
           refine hK.out _ _ ⟨cB BK754, cB BK754, cB BK760, cB BK760, cB BK747, cB BK747, cB BK747⟩ (fun hHeld => ?_)
           clear hK K
           refine nM 34 ?_
           refine oU 4 (some 36) 31 HT_ (fun K hK => ?_)
           refine gO Try.func152 #[.agg #[.int .i64 a1_0, .int .i64 a1_1, .int .i64 a1_2]] ?_
           with_reducible refine (impl_Lattice_index.calls a1_0 a1_1 a1_2 t763 _ A34.out).mono ?_
           rintro e w49 ⟨rfl, hb⟩
           refine ⟨_, rfl, ?_⟩
           have n0_ := aM (Kd.R_below (by (with_reducible repeat (first | apply Kd.R_alloc | apply Kd.R_drewN | apply Kd.R_drew)); exact HO_23.out) hb)
           have n1_ := bB BK747 hb
           have n2_ := bB BK748 hb
           have n3_ := bB BK749 hb
           have n4_ := bB BK754 hb
           have n5_ := bB BK755 hb
           have n6_ := bB BK760 hb
           have n7_ := bS HB hb
           clear HO_23
           clear BK747
           clear BK748
           clear BK749
           clear BK754
           clear BK755
           clear BK760
           clear HB
           have HO_23 := n0_
           have BK747 := n1_
           have BK748 := n2_
           have BK749 := n3_
           have BK754 := n4_
           have BK755 := n5_
           have BK760 := n6_
           have HB := n7_
           clear n0_ n1_ n2_ n3_ n4_ n5_ n6_ n7_
           (try clear hb)
           (try clear hb2)
           (try clear hk)
           (try clear hi)
           refine hK.out _ _ ⟨cB BK754, cB BK754, cB BK760, cB BK760, cB BK747, cB BK747, cB BK747⟩ (fun hHeld => ?_)
           clear hK K
           refine nM 36 ?_
           refine pU 5 (some 37) 63 HT_ ?_
           refine pU 6 (some 38) 127 HT_ ?_
           refine pU 7 (some 39) 255 HT_ ?_
           refine pU 8 (some 40) 511 HT_ ?_
           refine pU 9 (some 41) 1023 HT_ ?_
           refine pV 10 (some 42) 2047 HT_ ?_
           refine pV 11 (some 43) 4095 HT_ ?_
           refine pV 12 (some 44) 8191 HT_ ?_
           refine pU 13 (some 45) 16383 HT_ ?_
           refine pU 14 (some 46) 32767 HT_ ?_
           refine pU 15 (some 47) 65535 HT_ ?_
           refine tU 16 (some 48) 131071 HT_ HW_ hHeld ?_
           refine tU 17 (some 49) 262143 HT_ HW_ hHeld ?_
           refine oU 18 (some 50) 524287 HT_ (fun K hK => ?_)
           refine gO Try.func136 #[.agg #[.int .i64 a1_0, .int .i64 a1_1, .int .i64 a1_2], .agg #[.int .i64 ((rd_T47 t756 x25_1).f0), .int .i64 ((rd_T47 t756 x25_1).f1)]] ?_
           with_reducible refine (impl_Lattice_has.calls a1_0 a1_1 a1_2 ((rd_T47 t756 x25_1).f0) ((rd_T47 t756 x25_1).f1) true _ A37.out).mono ?_
           rintro e w50 ⟨rfl, hb⟩
           refine ⟨_, rfl, ?_⟩
           have n0_ := aM (Kd.R_below (by (with_reducible repeat (first | apply Kd.R_alloc | apply Kd.R_drewN | apply Kd.R_drew)); exact HO_23.out) hb)
           have n1_ := bB BK747 hb
           have n2_ := bB BK748 hb
           have n3_ := bB BK749 hb
           have n4_ := bB BK754 hb
           have n5_ := bB BK755 hb
           have n6_ := bB BK760 hb
           have n7_ := bS HB hb
           clear HO_23
           clear BK747
           clear BK748
           clear BK749
           clear BK754
           clear BK755
           clear BK760
           clear HB
           have HO_23 := n0_
           have BK747 := n1_
           have BK748 := n2_
           have BK749 := n3_
           have BK754 := n4_
           have BK755 := n5_
           have BK760 := n6_
           have HB := n7_
           clear n0_ n1_ n2_ n3_ n4_ n5_ n6_ n7_
           (try clear hb)
           (try clear hb2)
           (try clear hk)
           (try clear hi)
           refine hK.out _ _ ⟨cB BK754, cB BK754, cB BK760, cB BK760, cB BK747, cB BK747, cB BK747⟩ (fun hHeld => ?_)
           clear hK K
           refine nM 50 ?_
           refine pU 19 (some 51) 1048575 HT_ ?_
           refine dN HT_ ?_
           obtain ⟨hcz51_0, hcz51_1⟩ := z2 BK760
           obtain ⟨hfz51_0, hfz51_1⟩ := y2 BK760
           have hnb52 := NB755_747.out
           have hnc52 := NB747_755.out
           have hnb53 := NB755_748.out
           have hnc53 := NB748_755.out
           have hnb54 := NB755_749.out
           have hnc54 := NB749_755.out
           have hnb55 := NB755_754.out
           have hnc55 := NB754_755.out
           obtain ⟨hcz56_0, hcz56_1⟩ := z2 BK755
           obtain ⟨hfz56_0, hfz56_1⟩ := y2 BK755
           try go_wp2
           go_roundg k1
           case measure => have := HK1.out; omega
           case rel => exact ⟨(t761), (wrap64 (x25_1 + 1)), ((rd_T47 t756 x25_1).f0), ((rd_T47 t756 x25_1).f1), (by first | rfl | (simp; done) | (simp [*]; done)), (by first | rfl | (simp; done) | (simp [*]; done)), H', ⟨by have := HK1.out; omega⟩, ⟨by (with_reducible repeat (first | apply Kd.R_alloc | apply Kd.R_drewN | apply Kd.R_drew)); exact Kd.R_mono (Kd.R_far (p := ⟨gb755, 1, none⟩) (Kd.R_far (p := ⟨gb755, 0, none⟩) (Kd.R_mono HO_23.out (fun k_ hk => (⟨hk, hk.1.2.2.2⟩ : _ ∧ k_ ≠ gb755))) (fun _ hk => hk.2) (.int .i64 ((rd_T47 t756 x25_1).f0))) (fun _ hk => hk.2) (.int .i64 ((rd_T47 t756 x25_1).f1))) (fun _ hk => ⟨hk.1.1.1, ⟨hk.1.1.2.1, ⟨hk.1.1.2.2.1, hk.1.1.2.2.2⟩⟩⟩)⟩, ⟨by (repeat (first|(with_reducible first|apply kN|apply kD|apply kA)|refine blk_far ?_ NB747_755.out _)); exact BK747.out⟩, ⟨by (repeat (first|(with_reducible first|apply kN|apply kD|apply kA)|refine blk_far ?_ NB748_755.out _)); exact BK748.out⟩, ⟨by (repeat (first|(with_reducible first|apply kN|apply kD|apply kA)|refine blk_far ?_ NB749_755.out _)); exact BK749.out⟩, ⟨by (repeat (first|(with_reducible first|apply kN|apply kD|apply kA)|refine blk_far ?_ NB754_755.out _)); exact BK754.out⟩, ⟨by (with_reducible repeat (first|apply kN|apply kD|apply kA)); refine blk_put (cs := #[.int .i64 ((rd_T47 t756 x25_1).f0), .int .i64 x756001_1]) ?_ 1 _ rfl; (with_reducible repeat (first|apply kN|apply kD|apply kA)); refine blk_put (cs := #[.int .i64 x756000_1, .int .i64 x756001_1]) ?_ 0 _ rfl; (with_reducible repeat (first|apply kN|apply kD|apply kA)); exact BK755.out⟩, ⟨qB⟩⟩
          ·replace c38 := Bool.eq_false_iff.mpr c38
           subst c38
           have H1 : (impl_reducedBasis.l0 k1 a0 x9_1 t756 (t756.length : Int) (wrap64 (x25_1 + 1)) a1_0 a1_1 a1_2 ((rd_T47 t750 (ji4)).f0) ((rd_T47 t750 (ji4)).f1) x756000_1 x756001_1) = some (r1, r2, r3, r4) := by rw [if_neg (show ¬ (false = true) by decide)] at H; exact H
           clear H
           have H := H1
           clear H1
           have H' := aM H
           clear H
           have p759 : 0 ≤ (x25_1 : Int) := of_decide_eq_true (by first | (with_reducible assumption) | assumption)
           have q759 : x25_1 < (t756.length : Int) := of_decide_eq_true (by first | (with_reducible assumption) | assumption)
           obtain ⟨ad759, e759, hx759_0, hx759_1⟩ := at_T47 (Kd.R_reads' HO_23.out).2.2 x25_1 p759 q759
           cases e759
           replace p759 := eq_true p759
           replace q759 := eq_true q759
           try go_wp2_with (first | (refine bE 11 #[.int .i64 0, .int .i64 0] 47 ?_; intro gb760 hg w57 hbox hb; have BK760 := aM hbox; have GW760 := bZ hg HB; have GE760 := bZ hg HB; have NB747_760 := nL hg BK747; have NB760_747 := nG hg BK747; have NB748_760 := nL hg BK748; have NB760_748 := nG hg BK748; have NB749_760 := nL hg BK749; have NB760_749 := nG hg BK749; have NB754_760 := nL hg BK754; have NB760_754 := nG hg BK754; have NB755_760 := nL hg BK755; have NB760_755 := nG hg BK755; replace HO_23 := aM (Kd.R_below (Kd.R_elderB (by (with_reducible repeat (first | apply Kd.R_alloc | apply Kd.R_drewN | apply Kd.R_drew)); exact HO_23.out) gb760 (Nat.le_of_eq hg.symm)) hb); replace BK747 := bB BK747 hb; replace BK748 := bB BK748 hb; replace BK749 := bB BK749 hb; replace BK754 := bB BK754 hb; replace BK755 := bB BK755 hb; replace HB := bS HB hb; clear hb hbox hg; have hnb58 := NB760_747.out; have hnc58 := NB747_760.out; have hnb59 := NB760_748.out; have hnc59 := NB748_760.out; have hnb60 := NB760_749.out; have hnc60 := NB749_760.out; have hnb61 := NB760_754.out; have hnc61 := NB754_760.out; have hnb62 := NB760_755.out; have hnc62 := NB755_760.out; obtain ⟨hcz63_0, hcz63_1⟩ := z2 BK760; obtain ⟨hfz63_0, hfz63_1⟩ := y2 BK760) | (refine gC 76 ?_; refine gM 31 (impl_norm.calls a0 ((rd_T47 t756 x25_1).f0) ((rd_T47 t756 x25_1).f1) t761 _ A32.out) Try.func76 ?_; rintro w64 hb; replace HO_23 := aM (Kd.R_below (by (with_reducible repeat (first | apply Kd.R_alloc | apply Kd.R_drewN | apply Kd.R_drew)); exact (Kd.R_mono (Kd.R_far (p := ⟨gb760, 1, none⟩) (Kd.R_far (p := ⟨gb760, 0, none⟩) (Kd.R_mono HO_23.out (fun k_ hk => (⟨hk, hk.2⟩ : _ ∧ k_ ≠ gb760))) (fun _ hk => hk.2) (.int .i64 ((rd_T47 t756 x25_1).f0))) (fun _ hk => hk.2) (.int .i64 ((rd_T47 t756 x25_1).f1))) (fun _ h_ => h_.1))) hb); replace BK747 := bF BK747 hb; replace BK748 := bF BK748 hb; replace BK749 := bF BK749 hb; replace BK754 := bF BK754 hb; replace BK755 := bF BK755 hb; replace BK760 := bW (.cells #[.int .i64 ((rd_T47 t756 x25_1).f0), .int .i64 ((rd_T47 t756 x25_1).f1)] 47 (0, 0)) BK760 hb; replace HB := bS HB hb; (try clear hb)))
           replace HO_23 := aM (Kd.R_drew HO_23.out)
           replace BK747 := aM (blk_drew BK747.out)
           replace BK748 := aM (blk_drew BK748.out)
           replace BK749 := aM (blk_drew BK749.out)
           replace BK754 := aM (blk_drew BK754.out)
           replace BK755 := aM (blk_drew BK755.out)
           replace BK760 := aM (blk_drew BK760.out)
           replace HB := aM (below_drew1 HB.out)
           refine sT (fun w' => w'.cell? ⟨gb754, 0, none⟩ = some (.int .i64 ((rd_T47 t750 (ji4)).f0)) ∧ w'.cell? ⟨gb754, 1, none⟩ = some (.int .i64 ((rd_T47 t750 (ji4)).f1)) ∧ w'.cell? ⟨gb760, 0, none⟩ = some (.int .i64 ((rd_T47 t756 x25_1).f0)) ∧ w'.cell? ⟨gb760, 1, none⟩ = some (.int .i64 ((rd_T47 t756 x25_1).f1)) ∧ w'.cell? ⟨gb747, 0, none⟩ = some (.int .i64 a1_0) ∧ w'.cell? ⟨gb747, 1, none⟩ = some (.int .i64 a1_1) ∧ w'.cell? ⟨gb747, 2, none⟩ = some (.int .i64 a1_2)) [] ⟨cB BK754, cB BK754, cB BK760, cB BK760, cB BK747, cB BK747, cB BK747⟩ (fun hHeld => ?_); refine with_tabW impl_reducedBasis.tab7 impl_reducedBasis.bits7 (fun HT_ HW_ => ?_)
           generalize w64.drew = w65 at HO_23 BK747 BK748 BK749 BK754 BK755 BK760 HB hHeld ⊢
           refine tU 0 (some 32) 1 HT_ HW_ hHeld ?_
           refine tU 1 (some 33) 3 HT_ HW_ hHeld ?_
           refine tU 3 (some 35) 11 HT_ HW_ hHeld ?_
           refine oU 2 (some 34) 15 HT_ (fun K hK => ?_)
           refine goes_ Try.func130 (by kernel_rfl) rfl #[.agg #[.int .i64 ((rd_T47 t750 (ji4)).f0), .int .i64 ((rd_T47 t750 (ji4)).f1)], .agg #[.int .i64 ((rd_T47 t756 x25_1).f0), .int .i64 ((rd_T47 t756 x25_1).f1)]] (by rfl) rfl rfl (by (try simp only [List.map_toArray, List.map_cons, List.map_nil]); first | done | (simp only [hji4]; rfl) | rfl | (simp only [List.length_drop, List.length_take]; rfl)) ?_
           with_reducible refine (impl_det.calls ((rd_T47 t750 (ji4)).f0) ((rd_T47 t750 (ji4)).f1) ((rd_T47 t756 x25_1).f0) ((rd_T47 t756 x25_1).f1) t762 _ A33.out).mono ?_
           rintro e w66 ⟨rfl, hb⟩
           refine ⟨_, rfl, ?_⟩
           have n0_ := aM (Kd.R_below (by (with_reducible repeat (first | apply Kd.R_alloc | apply Kd.R_drewN | apply Kd.R_drew)); exact HO_23.out) hb)
           have n1_ := bB BK747 hb
           have n2_ := bB BK748 hb
           have n3_ := bB BK749 hb
           have n4_ := bB BK754 hb
           have n5_ := bB BK755 hb
           have n6_ := bB BK760 hb
           have n7_ := bS HB hb
           clear HO_23
           clear BK747
           clear BK748
           clear BK749
           clear BK754
           clear BK755
           clear BK760
           clear HB
           have HO_23 := n0_
           have BK747 := n1_
           have BK748 := n2_
           have BK749 := n3_
           have BK754 := n4_
           have BK755 := n5_
           have BK760 := n6_
           have HB := n7_
           clear n0_ n1_ n2_ n3_ n4_ n5_ n6_ n7_
           (try clear hb)
           (try clear hb2)
           (try clear hk)
           (try clear hi)
           refine hK.out _ _ ⟨cB BK754, cB BK754, cB BK760, cB BK760, cB BK747, cB BK747, cB BK747⟩ (fun hHeld => ?_)
           clear hK K
           refine nM 34 ?_
           refine oU 4 (some 36) 31 HT_ (fun K hK => ?_)
           refine gO Try.func152 #[.agg #[.int .i64 a1_0, .int .i64 a1_1, .int .i64 a1_2]] ?_
           with_reducible refine (impl_Lattice_index.calls a1_0 a1_1 a1_2 t763 _ A34.out).mono ?_
           rintro e w67 ⟨rfl, hb⟩
           refine ⟨_, rfl, ?_⟩
           have n0_ := aM (Kd.R_below (by (with_reducible repeat (first | apply Kd.R_alloc | apply Kd.R_drewN | apply Kd.R_drew)); exact HO_23.out) hb)
           have n1_ := bB BK747 hb
           have n2_ := bB BK748 hb
           have n3_ := bB BK749 hb
           have n4_ := bB BK754 hb
           have n5_ := bB BK755 hb
           have n6_ := bB BK760 hb
           have n7_ := bS HB hb
           clear HO_23
           clear BK747
           clear BK748
           clear BK749
           clear BK754
           clear BK755
           clear BK760
           clear HB
           have HO_23 := n0_
           have BK747 := n1_
           have BK748 := n2_
           have BK749 := n3_
           have BK754 := n4_
           have BK755 := n5_
           have BK760 := n6_
           have HB := n7_
           clear n0_ n1_ n2_ n3_ n4_ n5_ n6_ n7_
           (try clear hb)
           (try clear hb2)
           (try clear hk)
           (try clear hi)
           refine hK.out _ _ ⟨cB BK754, cB BK754, cB BK760, cB BK760, cB BK747, cB BK747, cB BK747⟩ (fun hHeld => ?_)
           clear hK K
           refine nM 36 ?_
           refine pU 5 (some 37) 63 HT_ ?_
           refine pU 6 (some 38) 127 HT_ ?_
           refine pU 7 (some 39) 255 HT_ ?_
           refine pU 8 (some 40) 511 HT_ ?_
           refine pU 9 (some 41) 1023 HT_ ?_
           refine pV 10 (some 42) 2047 HT_ ?_
           refine pV 11 (some 43) 4095 HT_ ?_
           refine pV 12 (some 44) 8191 HT_ ?_
           refine pU 13 (some 45) 16383 HT_ ?_
           refine pU 14 (some 46) 32767 HT_ ?_
           refine pU 15 (some 47) 65535 HT_ ?_
           refine tU 16 (some 48) 131071 HT_ HW_ hHeld ?_
           refine tU 17 (some 49) 262143 HT_ HW_ hHeld ?_
           refine oU 18 (some 50) 524287 HT_ (fun K hK => ?_)
           refine gO Try.func136 #[.agg #[.int .i64 a1_0, .int .i64 a1_1, .int .i64 a1_2], .agg #[.int .i64 ((rd_T47 t756 x25_1).f0), .int .i64 ((rd_T47 t756 x25_1).f1)]] ?_
           with_reducible refine (impl_Lattice_has.calls a1_0 a1_1 a1_2 ((rd_T47 t756 x25_1).f0) ((rd_T47 t756 x25_1).f1) false _ A37.out).mono ?_
           rintro e w68 ⟨rfl, hb⟩
           refine ⟨_, rfl, ?_⟩
           have n0_ := aM (Kd.R_below (by (with_reducible repeat (first | apply Kd.R_alloc | apply Kd.R_drewN | apply Kd.R_drew)); exact HO_23.out) hb)
           have n1_ := bB BK747 hb
           have n2_ := bB BK748 hb
           have n3_ := bB BK749 hb
           have n4_ := bB BK754 hb
           have n5_ := bB BK755 hb
           have n6_ := bB BK760 hb
           have n7_ := bS HB hb
           clear HO_23
           clear BK747
           clear BK748
           clear BK749
           clear BK754
           clear BK755
           clear BK760
           clear HB
           have HO_23 := n0_
           have BK747 := n1_
           have BK748 := n2_
           have BK749 := n3_
           have BK754 := n4_
           have BK755 := n5_
           have BK760 := n6_
           have HB := n7_
           clear n0_ n1_ n2_ n3_ n4_ n5_ n6_ n7_
           (try clear hb)
           (try clear hb2)
           (try clear hk)
           (try clear hi)
           refine hK.out _ _ ⟨cB BK754, cB BK754, cB BK760, cB BK760, cB BK747, cB BK747, cB BK747⟩ (fun hHeld => ?_)
           clear hK K
           refine nM 50 ?_
           refine pU 19 (some 51) 1048575 HT_ ?_
           refine dN HT_ ?_
           try go_wp2
           go_roundg k1
           case measure => have := HK1.out; omega
           case rel => exact ⟨(x9_1), (wrap64 (x25_1 + 1)), (x756000_1), (x756001_1), (by first | rfl | (simp; done) | (simp [*]; done)), (by first | rfl | (simp; done) | (simp [*]; done)), H', ⟨by have := HK1.out; omega⟩, ⟨by (with_reducible repeat (first | apply Kd.R_alloc | apply Kd.R_drewN | apply Kd.R_drew)); exact Kd.R_mono HO_23.out (fun _ hk => ⟨hk.1.1, ⟨hk.1.2.1, ⟨hk.1.2.2.1, hk.1.2.2.2⟩⟩⟩)⟩, ⟨bk BK747⟩, ⟨bk BK748⟩, ⟨bk BK749⟩, ⟨bk BK754⟩, ⟨bk BK755⟩, ⟨qB⟩⟩
         ·rw [if_neg c36] at H
          have c36b0 : (x9_1 == 0) = false := beq_eq_false_iff_ne.mpr c36
          have c36b1 : (x9_1 != 0) = true := bne_iff_ne.mpr c36
          by_cases c69 : t761 ≤ x9_1
          ·rw [if_pos c69] at H
           have c69b0 : decide (t761 ≤ x9_1) = true := decide_eq_true c69
           clear c69
           obtain ⟨t765, A70, H⟩ := oB H
           try dsimp only at H
           by_cases c71 : t765 = true
           ·subst c71
            have H1 : (impl_reducedBasis.l0 k1 a0 t761 t756 (t756.length : Int) (wrap64 (x25_1 + 1)) a1_0 a1_1 a1_2 ((rd_T47 t750 (ji4)).f0) ((rd_T47 t750 (ji4)).f1) ((rd_T47 t756 x25_1).f0) ((rd_T47 t756 x25_1).f1)) = some (r1, r2, r3, r4) := by rw [if_pos rfl] at H; exact H
            clear H
            have H := H1
            clear H1
            have H' := aM H
            clear H
            have p759 : 0 ≤ (x25_1 : Int) := of_decide_eq_true (by first | (with_reducible assumption) | assumption)
            have q759 : x25_1 < (t756.length : Int) := of_decide_eq_true (by first | (with_reducible assumption) | assumption)
            obtain ⟨ad759, e759, hx759_0, hx759_1⟩ := at_T47 (Kd.R_reads' HO_23.out).2.2 x25_1 p759 q759
            cases e759
            replace p759 := eq_true p759
            replace q759 := eq_true q759
            try go_wp2_with (first | (refine bE 11 #[.int .i64 0, .int .i64 0] 47 ?_; intro gb760 hg w72 hbox hb; have BK760 := aM hbox; have GW760 := bZ hg HB; have GE760 := bZ hg HB; have NB747_760 := nL hg BK747; have NB760_747 := nG hg BK747; have NB748_760 := nL hg BK748; have NB760_748 := nG hg BK748; have NB749_760 := nL hg BK749; have NB760_749 := nG hg BK749; have NB754_760 := nL hg BK754; have NB760_754 := nG hg BK754; have NB755_760 := nL hg BK755; have NB760_755 := nG hg BK755; replace HO_23 := aM (Kd.R_below (Kd.R_elderB (by (with_reducible repeat (first | apply Kd.R_alloc | apply Kd.R_drewN | apply Kd.R_drew)); exact HO_23.out) gb760 (Nat.le_of_eq hg.symm)) hb); replace BK747 := bB BK747 hb; replace BK748 := bB BK748 hb; replace BK749 := bB BK749 hb; replace BK754 := bB BK754 hb; replace BK755 := bB BK755 hb; replace HB := bS HB hb; clear hb hbox hg; have hnb73 := NB760_747.out; have hnc73 := NB747_760.out; have hnb74 := NB760_748.out; have hnc74 := NB748_760.out; have hnb75 := NB760_749.out; have hnc75 := NB749_760.out; have hnb76 := NB760_754.out; have hnc76 := NB754_760.out; have hnb77 := NB760_755.out; have hnc77 := NB755_760.out; obtain ⟨hcz78_0, hcz78_1⟩ := z2 BK760; obtain ⟨hfz78_0, hfz78_1⟩ := y2 BK760) | (refine gC 76 ?_; refine gM 31 (impl_norm.calls a0 ((rd_T47 t756 x25_1).f0) ((rd_T47 t756 x25_1).f1) t761 _ A32.out) Try.func76 ?_; rintro w79 hb; replace HO_23 := aM (Kd.R_below (by (with_reducible repeat (first | apply Kd.R_alloc | apply Kd.R_drewN | apply Kd.R_drew)); exact (Kd.R_mono (Kd.R_far (p := ⟨gb760, 1, none⟩) (Kd.R_far (p := ⟨gb760, 0, none⟩) (Kd.R_mono HO_23.out (fun k_ hk => (⟨hk, hk.2⟩ : _ ∧ k_ ≠ gb760))) (fun _ hk => hk.2) (.int .i64 ((rd_T47 t756 x25_1).f0))) (fun _ hk => hk.2) (.int .i64 ((rd_T47 t756 x25_1).f1))) (fun _ h_ => h_.1))) hb); replace BK747 := bF BK747 hb; replace BK748 := bF BK748 hb; replace BK749 := bF BK749 hb; replace BK754 := bF BK754 hb; replace BK755 := bF BK755 hb; replace BK760 := bW (.cells #[.int .i64 ((rd_T47 t756 x25_1).f0), .int .i64 ((rd_T47 t756 x25_1).f1)] 47 (0, 0)) BK760 hb; replace HB := bS HB hb; (try clear hb)))
            replace HO_23 := aM (Kd.R_drew HO_23.out)
            replace BK747 := aM (blk_drew BK747.out)
            replace BK748 := aM (blk_drew BK748.out)
            replace BK749 := aM (blk_drew BK749.out)
            replace BK754 := aM (blk_drew BK754.out)
            replace BK755 := aM (blk_drew BK755.out)
            replace BK760 := aM (blk_drew BK760.out)
            replace HB := aM (below_drew1 HB.out)
            refine sT (fun w' => w'.cell? ⟨gb754, 0, none⟩ = some (.int .i64 ((rd_T47 t750 (ji4)).f0)) ∧ w'.cell? ⟨gb754, 1, none⟩ = some (.int .i64 ((rd_T47 t750 (ji4)).f1)) ∧ w'.cell? ⟨gb760, 0, none⟩ = some (.int .i64 ((rd_T47 t756 x25_1).f0)) ∧ w'.cell? ⟨gb760, 1, none⟩ = some (.int .i64 ((rd_T47 t756 x25_1).f1)) ∧ w'.cell? ⟨gb747, 0, none⟩ = some (.int .i64 a1_0) ∧ w'.cell? ⟨gb747, 1, none⟩ = some (.int .i64 a1_1) ∧ w'.cell? ⟨gb747, 2, none⟩ = some (.int .i64 a1_2)) [] ⟨cB BK754, cB BK754, cB BK760, cB BK760, cB BK747, cB BK747, cB BK747⟩ (fun hHeld => ?_); refine with_tabW impl_reducedBasis.tab7 impl_reducedBasis.bits7 (fun HT_ HW_ => ?_)
            generalize w79.drew = w80 at HO_23 BK747 BK748 BK749 BK754 BK755 BK760 HB hHeld ⊢
            refine tU 0 (some 32) 1 HT_ HW_ hHeld ?_
            refine tU 1 (some 33) 3 HT_ HW_ hHeld ?_
            refine tU 3 (some 35) 11 HT_ HW_ hHeld ?_
            refine oU 2 (some 34) 15 HT_ (fun K hK => ?_)
            refine goes_ Try.func130 (by kernel_rfl) rfl #[.agg #[.int .i64 ((rd_T47 t750 (ji4)).f0), .int .i64 ((rd_T47 t750 (ji4)).f1)], .agg #[.int .i64 ((rd_T47 t756 x25_1).f0), .int .i64 ((rd_T47 t756 x25_1).f1)]] (by rfl) rfl rfl (by (try simp only [List.map_toArray, List.map_cons, List.map_nil]); first | done | (simp only [hji4]; rfl) | rfl | (simp only [List.length_drop, List.length_take]; rfl)) ?_
            with_reducible refine (impl_det.calls ((rd_T47 t750 (ji4)).f0) ((rd_T47 t750 (ji4)).f1) ((rd_T47 t756 x25_1).f0) ((rd_T47 t756 x25_1).f1) t762 _ A33.out).mono ?_
            rintro e w81 ⟨rfl, hb⟩
            refine ⟨_, rfl, ?_⟩
            have n0_ := aM (Kd.R_below (by (with_reducible repeat (first | apply Kd.R_alloc | apply Kd.R_drewN | apply Kd.R_drew)); exact HO_23.out) hb)
            have n1_ := bB BK747 hb
            have n2_ := bB BK748 hb
            have n3_ := bB BK749 hb
            have n4_ := bB BK754 hb
            have n5_ := bB BK755 hb
            have n6_ := bB BK760 hb
            have n7_ := bS HB hb
            clear HO_23
            clear BK747
            clear BK748
            clear BK749
            clear BK754
            clear BK755
            clear BK760
            clear HB
            have HO_23 := n0_
            have BK747 := n1_
            have BK748 := n2_
            have BK749 := n3_
            have BK754 := n4_
            have BK755 := n5_
            have BK760 := n6_
            have HB := n7_
            clear n0_ n1_ n2_ n3_ n4_ n5_ n6_ n7_
            (try clear hb)
            (try clear hb2)
            (try clear hk)
            (try clear hi)
            refine hK.out _ _ ⟨cB BK754, cB BK754, cB BK760, cB BK760, cB BK747, cB BK747, cB BK747⟩ (fun hHeld => ?_)
            clear hK K
            refine nM 34 ?_
            refine oU 4 (some 36) 31 HT_ (fun K hK => ?_)
            refine gO Try.func152 #[.agg #[.int .i64 a1_0, .int .i64 a1_1, .int .i64 a1_2]] ?_
            with_reducible refine (impl_Lattice_index.calls a1_0 a1_1 a1_2 t763 _ A34.out).mono ?_
            rintro e w82 ⟨rfl, hb⟩
            refine ⟨_, rfl, ?_⟩
            have n0_ := aM (Kd.R_below (by (with_reducible repeat (first | apply Kd.R_alloc | apply Kd.R_drewN | apply Kd.R_drew)); exact HO_23.out) hb)
            have n1_ := bB BK747 hb
            have n2_ := bB BK748 hb
            have n3_ := bB BK749 hb
            have n4_ := bB BK754 hb
            have n5_ := bB BK755 hb
            have n6_ := bB BK760 hb
            have n7_ := bS HB hb
            clear HO_23
            clear BK747
            clear BK748
            clear BK749
            clear BK754
            clear BK755
            clear BK760
            clear HB
            have HO_23 := n0_
            have BK747 := n1_
            have BK748 := n2_
            have BK749 := n3_
            have BK754 := n4_
            have BK755 := n5_
            have BK760 := n6_
            have HB := n7_
            clear n0_ n1_ n2_ n3_ n4_ n5_ n6_ n7_
            (try clear hb)
            (try clear hb2)
            (try clear hk)
            (try clear hi)
            refine hK.out _ _ ⟨cB BK754, cB BK754, cB BK760, cB BK760, cB BK747, cB BK747, cB BK747⟩ (fun hHeld => ?_)
            clear hK K
            refine nM 36 ?_
            refine pU 5 (some 37) 63 HT_ ?_
            refine pU 6 (some 38) 127 HT_ ?_
            refine pU 7 (some 39) 255 HT_ ?_
            refine pU 8 (some 40) 511 HT_ ?_
            refine pU 9 (some 41) 1023 HT_ ?_
            refine pU 10 (some 42) 2047 HT_ ?_
            refine pU 11 (some 43) 4095 HT_ ?_
            refine pU 12 (some 44) 8191 HT_ ?_
            refine pU 13 (some 45) 16383 HT_ ?_
            refine pU 14 (some 46) 32767 HT_ ?_
            refine pU 15 (some 47) 65535 HT_ ?_
            refine tU 16 (some 48) 131071 HT_ HW_ hHeld ?_
            refine tU 17 (some 49) 262143 HT_ HW_ hHeld ?_
            refine oU 18 (some 50) 524287 HT_ (fun K hK => ?_)
            refine gO Try.func136 #[.agg #[.int .i64 a1_0, .int .i64 a1_1, .int .i64 a1_2], .agg #[.int .i64 ((rd_T47 t756 x25_1).f0), .int .i64 ((rd_T47 t756 x25_1).f1)]] ?_
            with_reducible refine (impl_Lattice_has.calls a1_0 a1_1 a1_2 ((rd_T47 t756 x25_1).f0) ((rd_T47 t756 x25_1).f1) true _ A70.out).mono ?_
            rintro e w83 ⟨rfl, hb⟩
            refine ⟨_, rfl, ?_⟩
            have n0_ := aM (Kd.R_below (by (with_reducible repeat (first | apply Kd.R_alloc | apply Kd.R_drewN | apply Kd.R_drew)); exact HO_23.out) hb)
            have n1_ := bB BK747 hb
            have n2_ := bB BK748 hb
            have n3_ := bB BK749 hb
            have n4_ := bB BK754 hb
            have n5_ := bB BK755 hb
            have n6_ := bB BK760 hb
            have n7_ := bS HB hb
            clear HO_23
            clear BK747
            clear BK748
            clear BK749
            clear BK754
            clear BK755
            clear BK760
            clear HB
            have HO_23 := n0_
            have BK747 := n1_
            have BK748 := n2_
            have BK749 := n3_
            have BK754 := n4_
            have BK755 := n5_
            have BK760 := n6_
            have HB := n7_
            clear n0_ n1_ n2_ n3_ n4_ n5_ n6_ n7_
            (try clear hb)
            (try clear hb2)
            (try clear hk)
            (try clear hi)
            refine hK.out _ _ ⟨cB BK754, cB BK754, cB BK760, cB BK760, cB BK747, cB BK747, cB BK747⟩ (fun hHeld => ?_)
            clear hK K
            refine nM 50 ?_
            refine pU 19 (some 51) 1048575 HT_ ?_
            refine dN HT_ ?_
            obtain ⟨hcz84_0, hcz84_1⟩ := z2 BK760
            obtain ⟨hfz84_0, hfz84_1⟩ := y2 BK760
            have hnb85 := NB755_747.out
            have hnc85 := NB747_755.out
            have hnb86 := NB755_748.out
            have hnc86 := NB748_755.out
            have hnb87 := NB755_749.out
            have hnc87 := NB749_755.out
            have hnb88 := NB755_754.out
            have hnc88 := NB754_755.out
            obtain ⟨hcz89_0, hcz89_1⟩ := z2 BK755
            obtain ⟨hfz89_0, hfz89_1⟩ := y2 BK755
            try go_wp2
            go_roundg k1
            case measure => have := HK1.out; omega
            case rel => exact ⟨(t761), (wrap64 (x25_1 + 1)), ((rd_T47 t756 x25_1).f0), ((rd_T47 t756 x25_1).f1), (by first | rfl | (simp; done) | (simp [*]; done)), (by first | rfl | (simp; done) | (simp [*]; done)), H', ⟨by have := HK1.out; omega⟩, ⟨by (with_reducible repeat (first | apply Kd.R_alloc | apply Kd.R_drewN | apply Kd.R_drew)); exact Kd.R_mono (Kd.R_far (p := ⟨gb755, 1, none⟩) (Kd.R_far (p := ⟨gb755, 0, none⟩) (Kd.R_mono HO_23.out (fun k_ hk => (⟨hk, hk.1.2.2.2⟩ : _ ∧ k_ ≠ gb755))) (fun _ hk => hk.2) (.int .i64 ((rd_T47 t756 x25_1).f0))) (fun _ hk => hk.2) (.int .i64 ((rd_T47 t756 x25_1).f1))) (fun _ hk => ⟨hk.1.1.1, ⟨hk.1.1.2.1, ⟨hk.1.1.2.2.1, hk.1.1.2.2.2⟩⟩⟩)⟩, ⟨by (repeat (first|(with_reducible first|apply kN|apply kD|apply kA)|refine blk_far ?_ NB747_755.out _)); exact BK747.out⟩, ⟨by (repeat (first|(with_reducible first|apply kN|apply kD|apply kA)|refine blk_far ?_ NB748_755.out _)); exact BK748.out⟩, ⟨by (repeat (first|(with_reducible first|apply kN|apply kD|apply kA)|refine blk_far ?_ NB749_755.out _)); exact BK749.out⟩, ⟨by (repeat (first|(with_reducible first|apply kN|apply kD|apply kA)|refine blk_far ?_ NB754_755.out _)); exact BK754.out⟩, ⟨by (with_reducible repeat (first|apply kN|apply kD|apply kA)); refine blk_put (cs := #[.int .i64 ((rd_T47 t756 x25_1).f0), .int .i64 x756001_1]) ?_ 1 _ rfl; (with_reducible repeat (first|apply kN|apply kD|apply kA)); refine blk_put (cs := #[.int .i64 x756000_1, .int .i64 x756001_1]) ?_ 0 _ rfl; (with_reducible repeat (first|apply kN|apply kD|apply kA)); exact BK755.out⟩, ⟨qB⟩⟩
           ·replace c71 := Bool.eq_false_iff.mpr c71
            subst c71
            have H1 : (impl_reducedBasis.l0 k1 a0 x9_1 t756 (t756.length : Int) (wrap64 (x25_1 + 1)) a1_0 a1_1 a1_2 ((rd_T47 t750 (ji4)).f0) ((rd_T47 t750 (ji4)).f1) x756000_1 x756001_1) = some (r1, r2, r3, r4) := by rw [if_neg (show ¬ (false = true) by decide)] at H; exact H
            clear H
            have H := H1
            clear H1
            have H' := aM H
            clear H
            have p759 : 0 ≤ (x25_1 : Int) := of_decide_eq_true (by first | (with_reducible assumption) | assumption)
            have q759 : x25_1 < (t756.length : Int) := of_decide_eq_true (by first | (with_reducible assumption) | assumption)
            obtain ⟨ad759, e759, hx759_0, hx759_1⟩ := at_T47 (Kd.R_reads' HO_23.out).2.2 x25_1 p759 q759
            cases e759
            replace p759 := eq_true p759
            replace q759 := eq_true q759
            try go_wp2_with (first | (refine bE 11 #[.int .i64 0, .int .i64 0] 47 ?_; intro gb760 hg w90 hbox hb; have BK760 := aM hbox; have GW760 := bZ hg HB; have GE760 := bZ hg HB; have NB747_760 := nL hg BK747; have NB760_747 := nG hg BK747; have NB748_760 := nL hg BK748; have NB760_748 := nG hg BK748; have NB749_760 := nL hg BK749; have NB760_749 := nG hg BK749; have NB754_760 := nL hg BK754; have NB760_754 := nG hg BK754; have NB755_760 := nL hg BK755; have NB760_755 := nG hg BK755; replace HO_23 := aM (Kd.R_below (Kd.R_elderB (by (with_reducible repeat (first | apply Kd.R_alloc | apply Kd.R_drewN | apply Kd.R_drew)); exact HO_23.out) gb760 (Nat.le_of_eq hg.symm)) hb); replace BK747 := bB BK747 hb; replace BK748 := bB BK748 hb; replace BK749 := bB BK749 hb; replace BK754 := bB BK754 hb; replace BK755 := bB BK755 hb; replace HB := bS HB hb; clear hb hbox hg; have hnb91 := NB760_747.out; have hnc91 := NB747_760.out; have hnb92 := NB760_748.out; have hnc92 := NB748_760.out; have hnb93 := NB760_749.out; have hnc93 := NB749_760.out; have hnb94 := NB760_754.out; have hnc94 := NB754_760.out; have hnb95 := NB760_755.out; have hnc95 := NB755_760.out; obtain ⟨hcz96_0, hcz96_1⟩ := z2 BK760; obtain ⟨hfz96_0, hfz96_1⟩ := y2 BK760) | (refine gC 76 ?_; refine gM 31 (impl_norm.calls a0 ((rd_T47 t756 x25_1).f0) ((rd_T47 t756 x25_1).f1) t761 _ A32.out) Try.func76 ?_; rintro w97 hb; replace HO_23 := aM (Kd.R_below (by (with_reducible repeat (first | apply Kd.R_alloc | apply Kd.R_drewN | apply Kd.R_drew)); exact (Kd.R_mono (Kd.R_far (p := ⟨gb760, 1, none⟩) (Kd.R_far (p := ⟨gb760, 0, none⟩) (Kd.R_mono HO_23.out (fun k_ hk => (⟨hk, hk.2⟩ : _ ∧ k_ ≠ gb760))) (fun _ hk => hk.2) (.int .i64 ((rd_T47 t756 x25_1).f0))) (fun _ hk => hk.2) (.int .i64 ((rd_T47 t756 x25_1).f1))) (fun _ h_ => h_.1))) hb); replace BK747 := bF BK747 hb; replace BK748 := bF BK748 hb; replace BK749 := bF BK749 hb; replace BK754 := bF BK754 hb; replace BK755 := bF BK755 hb; replace BK760 := bW (.cells #[.int .i64 ((rd_T47 t756 x25_1).f0), .int .i64 ((rd_T47 t756 x25_1).f1)] 47 (0, 0)) BK760 hb; replace HB := bS HB hb; (try clear hb)))
            replace HO_23 := aM (Kd.R_drew HO_23.out)
            replace BK747 := aM (blk_drew BK747.out)
            replace BK748 := aM (blk_drew BK748.out)
            replace BK749 := aM (blk_drew BK749.out)
            replace BK754 := aM (blk_drew BK754.out)
            replace BK755 := aM (blk_drew BK755.out)
            replace BK760 := aM (blk_drew BK760.out)
            replace HB := aM (below_drew1 HB.out)
            refine sT (fun w' => w'.cell? ⟨gb754, 0, none⟩ = some (.int .i64 ((rd_T47 t750 (ji4)).f0)) ∧ w'.cell? ⟨gb754, 1, none⟩ = some (.int .i64 ((rd_T47 t750 (ji4)).f1)) ∧ w'.cell? ⟨gb760, 0, none⟩ = some (.int .i64 ((rd_T47 t756 x25_1).f0)) ∧ w'.cell? ⟨gb760, 1, none⟩ = some (.int .i64 ((rd_T47 t756 x25_1).f1)) ∧ w'.cell? ⟨gb747, 0, none⟩ = some (.int .i64 a1_0) ∧ w'.cell? ⟨gb747, 1, none⟩ = some (.int .i64 a1_1) ∧ w'.cell? ⟨gb747, 2, none⟩ = some (.int .i64 a1_2)) [] ⟨cB BK754, cB BK754, cB BK760, cB BK760, cB BK747, cB BK747, cB BK747⟩ (fun hHeld => ?_); refine with_tabW impl_reducedBasis.tab7 impl_reducedBasis.bits7 (fun HT_ HW_ => ?_)
            generalize w97.drew = w98 at HO_23 BK747 BK748 BK749 BK754 BK755 BK760 HB hHeld ⊢
            refine tU 0 (some 32) 1 HT_ HW_ hHeld ?_
            refine tU 1 (some 33) 3 HT_ HW_ hHeld ?_
            refine tU 3 (some 35) 11 HT_ HW_ hHeld ?_
            refine oU 2 (some 34) 15 HT_ (fun K hK => ?_)
            refine goes_ Try.func130 (by kernel_rfl) rfl #[.agg #[.int .i64 ((rd_T47 t750 (ji4)).f0), .int .i64 ((rd_T47 t750 (ji4)).f1)], .agg #[.int .i64 ((rd_T47 t756 x25_1).f0), .int .i64 ((rd_T47 t756 x25_1).f1)]] (by rfl) rfl rfl (by (try simp only [List.map_toArray, List.map_cons, List.map_nil]); first | done | (simp only [hji4]; rfl) | rfl | (simp only [List.length_drop, List.length_take]; rfl)) ?_
            with_reducible refine (impl_det.calls ((rd_T47 t750 (ji4)).f0) ((rd_T47 t750 (ji4)).f1) ((rd_T47 t756 x25_1).f0) ((rd_T47 t756 x25_1).f1) t762 _ A33.out).mono ?_
            rintro e w99 ⟨rfl, hb⟩
            refine ⟨_, rfl, ?_⟩
            have n0_ := aM (Kd.R_below (by (with_reducible repeat (first | apply Kd.R_alloc | apply Kd.R_drewN | apply Kd.R_drew)); exact HO_23.out) hb)
            have n1_ := bB BK747 hb
            have n2_ := bB BK748 hb
            have n3_ := bB BK749 hb
            have n4_ := bB BK754 hb
            have n5_ := bB BK755 hb
            have n6_ := bB BK760 hb
            have n7_ := bS HB hb
            clear HO_23
            clear BK747
            clear BK748
            clear BK749
            clear BK754
            clear BK755
            clear BK760
            clear HB
            have HO_23 := n0_
            have BK747 := n1_
            have BK748 := n2_
            have BK749 := n3_
            have BK754 := n4_
            have BK755 := n5_
            have BK760 := n6_
            have HB := n7_
            clear n0_ n1_ n2_ n3_ n4_ n5_ n6_ n7_
            (try clear hb)
            (try clear hb2)
            (try clear hk)
            (try clear hi)
            refine hK.out _ _ ⟨cB BK754, cB BK754, cB BK760, cB BK760, cB BK747, cB BK747, cB BK747⟩ (fun hHeld => ?_)
            clear hK K
            refine nM 34 ?_
            refine oU 4 (some 36) 31 HT_ (fun K hK => ?_)
            refine gO Try.func152 #[.agg #[.int .i64 a1_0, .int .i64 a1_1, .int .i64 a1_2]] ?_
            with_reducible refine (impl_Lattice_index.calls a1_0 a1_1 a1_2 t763 _ A34.out).mono ?_
            rintro e w100 ⟨rfl, hb⟩
            refine ⟨_, rfl, ?_⟩
            have n0_ := aM (Kd.R_below (by (with_reducible repeat (first | apply Kd.R_alloc | apply Kd.R_drewN | apply Kd.R_drew)); exact HO_23.out) hb)
            have n1_ := bB BK747 hb
            have n2_ := bB BK748 hb
            have n3_ := bB BK749 hb
            have n4_ := bB BK754 hb
            have n5_ := bB BK755 hb
            have n6_ := bB BK760 hb
            have n7_ := bS HB hb
            clear HO_23
            clear BK747
            clear BK748
            clear BK749
            clear BK754
            clear BK755
            clear BK760
            clear HB
            have HO_23 := n0_
            have BK747 := n1_
            have BK748 := n2_
            have BK749 := n3_
            have BK754 := n4_
            have BK755 := n5_
            have BK760 := n6_
            have HB := n7_
            clear n0_ n1_ n2_ n3_ n4_ n5_ n6_ n7_
            (try clear hb)
            (try clear hb2)
            (try clear hk)
            (try clear hi)
            refine hK.out _ _ ⟨cB BK754, cB BK754, cB BK760, cB BK760, cB BK747, cB BK747, cB BK747⟩ (fun hHeld => ?_)
            clear hK K
            refine nM 36 ?_
            refine pU 5 (some 37) 63 HT_ ?_
            refine pU 6 (some 38) 127 HT_ ?_
            refine pU 7 (some 39) 255 HT_ ?_
            refine pU 8 (some 40) 511 HT_ ?_
            refine pU 9 (some 41) 1023 HT_ ?_
            refine pU 10 (some 42) 2047 HT_ ?_
            refine pU 11 (some 43) 4095 HT_ ?_
            refine pU 12 (some 44) 8191 HT_ ?_
            refine pU 13 (some 45) 16383 HT_ ?_
            refine pU 14 (some 46) 32767 HT_ ?_
            refine pU 15 (some 47) 65535 HT_ ?_
            refine tU 16 (some 48) 131071 HT_ HW_ hHeld ?_
            refine tU 17 (some 49) 262143 HT_ HW_ hHeld ?_
            refine oU 18 (some 50) 524287 HT_ (fun K hK => ?_)
            refine gO Try.func136 #[.agg #[.int .i64 a1_0, .int .i64 a1_1, .int .i64 a1_2], .agg #[.int .i64 ((rd_T47 t756 x25_1).f0), .int .i64 ((rd_T47 t756 x25_1).f1)]] ?_
            with_reducible refine (impl_Lattice_has.calls a1_0 a1_1 a1_2 ((rd_T47 t756 x25_1).f0) ((rd_T47 t756 x25_1).f1) false _ A70.out).mono ?_
            rintro e w101 ⟨rfl, hb⟩
            refine ⟨_, rfl, ?_⟩
            have n0_ := aM (Kd.R_below (by (with_reducible repeat (first | apply Kd.R_alloc | apply Kd.R_drewN | apply Kd.R_drew)); exact HO_23.out) hb)
            have n1_ := bB BK747 hb
            have n2_ := bB BK748 hb
            have n3_ := bB BK749 hb
            have n4_ := bB BK754 hb
            have n5_ := bB BK755 hb
            have n6_ := bB BK760 hb
            have n7_ := bS HB hb
            clear HO_23
            clear BK747
            clear BK748
            clear BK749
            clear BK754
            clear BK755
            clear BK760
            clear HB
            have HO_23 := n0_
            have BK747 := n1_
            have BK748 := n2_
            have BK749 := n3_
            have BK754 := n4_
            have BK755 := n5_
            have BK760 := n6_
            have HB := n7_
            clear n0_ n1_ n2_ n3_ n4_ n5_ n6_ n7_
            (try clear hb)
            (try clear hb2)
            (try clear hk)
            (try clear hi)
            refine hK.out _ _ ⟨cB BK754, cB BK754, cB BK760, cB BK760, cB BK747, cB BK747, cB BK747⟩ (fun hHeld => ?_)
            clear hK K
            refine nM 50 ?_
            refine pU 19 (some 51) 1048575 HT_ ?_
            refine dN HT_ ?_
            try go_wp2
            go_roundg k1
            case measure => have := HK1.out; omega
            case rel => exact ⟨(x9_1), (wrap64 (x25_1 + 1)), (x756000_1), (x756001_1), (by first | rfl | (simp; done) | (simp [*]; done)), (by first | rfl | (simp; done) | (simp [*]; done)), H', ⟨by have := HK1.out; omega⟩, ⟨by (with_reducible repeat (first | apply Kd.R_alloc | apply Kd.R_drewN | apply Kd.R_drew)); exact Kd.R_mono HO_23.out (fun _ hk => ⟨hk.1.1, ⟨hk.1.2.1, ⟨hk.1.2.2.1, hk.1.2.2.2⟩⟩⟩)⟩, ⟨bk BK747⟩, ⟨bk BK748⟩, ⟨bk BK749⟩, ⟨bk BK754⟩, ⟨bk BK755⟩, ⟨qB⟩⟩
          ·rw [if_neg c69] at H
           have c69b0 : decide (t761 ≤ x9_1) = false := decide_eq_false c69
           clear c69
           have H' := aM H
           clear H
           have p759 : 0 ≤ (x25_1 : Int) := of_decide_eq_true (by first | (with_reducible assumption) | assumption)
           have q759 : x25_1 < (t756.length : Int) := of_decide_eq_true (by first | (with_reducible assumption) | assumption)
           obtain ⟨ad759, e759, hx759_0, hx759_1⟩ := at_T47 (Kd.R_reads' HO_23.out).2.2 x25_1 p759 q759
           cases e759
           replace p759 := eq_true p759
           replace q759 := eq_true q759
           try go_wp2_with (first | (refine bE 11 #[.int .i64 0, .int .i64 0] 47 ?_; intro gb760 hg w102 hbox hb; have BK760 := aM hbox; have GW760 := bZ hg HB; have GE760 := bZ hg HB; have NB747_760 := nL hg BK747; have NB760_747 := nG hg BK747; have NB748_760 := nL hg BK748; have NB760_748 := nG hg BK748; have NB749_760 := nL hg BK749; have NB760_749 := nG hg BK749; have NB754_760 := nL hg BK754; have NB760_754 := nG hg BK754; have NB755_760 := nL hg BK755; have NB760_755 := nG hg BK755; replace HO_23 := aM (Kd.R_below (Kd.R_elderB (by (with_reducible repeat (first | apply Kd.R_alloc | apply Kd.R_drewN | apply Kd.R_drew)); exact HO_23.out) gb760 (Nat.le_of_eq hg.symm)) hb); replace BK747 := bB BK747 hb; replace BK748 := bB BK748 hb; replace BK749 := bB BK749 hb; replace BK754 := bB BK754 hb; replace BK755 := bB BK755 hb; replace HB := bS HB hb; clear hb hbox hg; have hnb103 := NB760_747.out; have hnc103 := NB747_760.out; have hnb104 := NB760_748.out; have hnc104 := NB748_760.out; have hnb105 := NB760_749.out; have hnc105 := NB749_760.out; have hnb106 := NB760_754.out; have hnc106 := NB754_760.out; have hnb107 := NB760_755.out; have hnc107 := NB755_760.out; obtain ⟨hcz108_0, hcz108_1⟩ := z2 BK760; obtain ⟨hfz108_0, hfz108_1⟩ := y2 BK760) | (refine gC 76 ?_; refine gM 31 (impl_norm.calls a0 ((rd_T47 t756 x25_1).f0) ((rd_T47 t756 x25_1).f1) t761 _ A32.out) Try.func76 ?_; rintro w109 hb; replace HO_23 := aM (Kd.R_below (by (with_reducible repeat (first | apply Kd.R_alloc | apply Kd.R_drewN | apply Kd.R_drew)); exact (Kd.R_mono (Kd.R_far (p := ⟨gb760, 1, none⟩) (Kd.R_far (p := ⟨gb760, 0, none⟩) (Kd.R_mono HO_23.out (fun k_ hk => (⟨hk, hk.2⟩ : _ ∧ k_ ≠ gb760))) (fun _ hk => hk.2) (.int .i64 ((rd_T47 t756 x25_1).f0))) (fun _ hk => hk.2) (.int .i64 ((rd_T47 t756 x25_1).f1))) (fun _ h_ => h_.1))) hb); replace BK747 := bF BK747 hb; replace BK748 := bF BK748 hb; replace BK749 := bF BK749 hb; replace BK754 := bF BK754 hb; replace BK755 := bF BK755 hb; replace BK760 := bW (.cells #[.int .i64 ((rd_T47 t756 x25_1).f0), .int .i64 ((rd_T47 t756 x25_1).f1)] 47 (0, 0)) BK760 hb; replace HB := bS HB hb; (try clear hb)))
           replace HO_23 := aM (Kd.R_drew HO_23.out)
           replace BK747 := aM (blk_drew BK747.out)
           replace BK748 := aM (blk_drew BK748.out)
           replace BK749 := aM (blk_drew BK749.out)
           replace BK754 := aM (blk_drew BK754.out)
           replace BK755 := aM (blk_drew BK755.out)
           replace BK760 := aM (blk_drew BK760.out)
           replace HB := aM (below_drew1 HB.out)
           refine sT (fun w' => w'.cell? ⟨gb754, 0, none⟩ = some (.int .i64 ((rd_T47 t750 (ji4)).f0)) ∧ w'.cell? ⟨gb754, 1, none⟩ = some (.int .i64 ((rd_T47 t750 (ji4)).f1)) ∧ w'.cell? ⟨gb760, 0, none⟩ = some (.int .i64 ((rd_T47 t756 x25_1).f0)) ∧ w'.cell? ⟨gb760, 1, none⟩ = some (.int .i64 ((rd_T47 t756 x25_1).f1)) ∧ w'.cell? ⟨gb747, 0, none⟩ = some (.int .i64 a1_0) ∧ w'.cell? ⟨gb747, 1, none⟩ = some (.int .i64 a1_1) ∧ w'.cell? ⟨gb747, 2, none⟩ = some (.int .i64 a1_2)) [] ⟨cB BK754, cB BK754, cB BK760, cB BK760, cB BK747, cB BK747, cB BK747⟩ (fun hHeld => ?_); refine with_tabW impl_reducedBasis.tab7 impl_reducedBasis.bits7 (fun HT_ HW_ => ?_)
           generalize w109.drew = w110 at HO_23 BK747 BK748 BK749 BK754 BK755 BK760 HB hHeld ⊢
           refine tU 0 (some 32) 1 HT_ HW_ hHeld ?_
           refine tU 1 (some 33) 3 HT_ HW_ hHeld ?_
           refine tU 3 (some 35) 11 HT_ HW_ hHeld ?_
           refine oU 2 (some 34) 15 HT_ (fun K hK => ?_)
           refine goes_ Try.func130 (by kernel_rfl) rfl #[.agg #[.int .i64 ((rd_T47 t750 (ji4)).f0), .int .i64 ((rd_T47 t750 (ji4)).f1)], .agg #[.int .i64 ((rd_T47 t756 x25_1).f0), .int .i64 ((rd_T47 t756 x25_1).f1)]] (by rfl) rfl rfl (by (try simp only [List.map_toArray, List.map_cons, List.map_nil]); first | done | (simp only [hji4]; rfl) | rfl | (simp only [List.length_drop, List.length_take]; rfl)) ?_
           with_reducible refine (impl_det.calls ((rd_T47 t750 (ji4)).f0) ((rd_T47 t750 (ji4)).f1) ((rd_T47 t756 x25_1).f0) ((rd_T47 t756 x25_1).f1) t762 _ A33.out).mono ?_
           rintro e w111 ⟨rfl, hb⟩
           refine ⟨_, rfl, ?_⟩
           have n0_ := aM (Kd.R_below (by (with_reducible repeat (first | apply Kd.R_alloc | apply Kd.R_drewN | apply Kd.R_drew)); exact HO_23.out) hb)
           have n1_ := bB BK747 hb
           have n2_ := bB BK748 hb
           have n3_ := bB BK749 hb
           have n4_ := bB BK754 hb
           have n5_ := bB BK755 hb
           have n6_ := bB BK760 hb
           have n7_ := bS HB hb
           clear HO_23
           clear BK747
           clear BK748
           clear BK749
           clear BK754
           clear BK755
           clear BK760
           clear HB
           have HO_23 := n0_
           have BK747 := n1_
           have BK748 := n2_
           have BK749 := n3_
           have BK754 := n4_
           have BK755 := n5_
           have BK760 := n6_
           have HB := n7_
           clear n0_ n1_ n2_ n3_ n4_ n5_ n6_ n7_
           (try clear hb)
           (try clear hb2)
           (try clear hk)
           (try clear hi)
           refine hK.out _ _ ⟨cB BK754, cB BK754, cB BK760, cB BK760, cB BK747, cB BK747, cB BK747⟩ (fun hHeld => ?_)
           clear hK K
           refine nM 34 ?_
           refine oU 4 (some 36) 31 HT_ (fun K hK => ?_)
           refine gO Try.func152 #[.agg #[.int .i64 a1_0, .int .i64 a1_1, .int .i64 a1_2]] ?_
           with_reducible refine (impl_Lattice_index.calls a1_0 a1_1 a1_2 t763 _ A34.out).mono ?_
           rintro e w112 ⟨rfl, hb⟩
           refine ⟨_, rfl, ?_⟩
           have n0_ := aM (Kd.R_below (by (with_reducible repeat (first | apply Kd.R_alloc | apply Kd.R_drewN | apply Kd.R_drew)); exact HO_23.out) hb)
           have n1_ := bB BK747 hb
           have n2_ := bB BK748 hb
           have n3_ := bB BK749 hb
           have n4_ := bB BK754 hb
           have n5_ := bB BK755 hb
           have n6_ := bB BK760 hb
           have n7_ := bS HB hb
           clear HO_23
           clear BK747
           clear BK748
           clear BK749
           clear BK754
           clear BK755
           clear BK760
           clear HB
           have HO_23 := n0_
           have BK747 := n1_
           have BK748 := n2_
           have BK749 := n3_
           have BK754 := n4_
           have BK755 := n5_
           have BK760 := n6_
           have HB := n7_
           clear n0_ n1_ n2_ n3_ n4_ n5_ n6_ n7_
           (try clear hb)
           (try clear hb2)
           (try clear hk)
           (try clear hi)
           refine hK.out _ _ ⟨cB BK754, cB BK754, cB BK760, cB BK760, cB BK747, cB BK747, cB BK747⟩ (fun hHeld => ?_)
           clear hK K
           refine nM 36 ?_
           refine pU 5 (some 37) 63 HT_ ?_
           refine pU 6 (some 38) 127 HT_ ?_
           refine pU 7 (some 39) 255 HT_ ?_
           refine pU 8 (some 40) 511 HT_ ?_
           refine pU 9 (some 41) 1023 HT_ ?_
           refine pU 10 (some 42) 2047 HT_ ?_
           refine pU 11 (some 43) 4095 HT_ ?_
           refine pU 12 (some 44) 8191 HT_ ?_
           refine pU 13 (some 45) 16383 HT_ ?_
           refine pU 14 (some 46) 32767 HT_ ?_
           refine pU 15 (some 47) 65535 HT_ ?_
           refine pV 16 (some 48) 131071 HT_ ?_
           refine pV 17 (some 49) 262143 HT_ ?_
           refine pV 18 (some 50) 524287 HT_ ?_
           refine pU 19 (some 51) 1048575 HT_ ?_
           refine dN HT_ ?_
           try go_wp2
           go_roundg k1
           case measure => have := HK1.out; omega
           case rel => exact ⟨(x9_1), (wrap64 (x25_1 + 1)), (x756000_1), (x756001_1), (by first | rfl | (simp; done) | (simp [*]; done)), (by first | rfl | (simp; done) | (simp [*]; done)), H', ⟨by have := HK1.out; omega⟩, ⟨by (with_reducible repeat (first | apply Kd.R_alloc | apply Kd.R_drewN | apply Kd.R_drew)); exact Kd.R_mono HO_23.out (fun _ hk => ⟨hk.1.1, ⟨hk.1.2.1, ⟨hk.1.2.2.1, hk.1.2.2.2⟩⟩⟩)⟩, ⟨bk BK747⟩, ⟨bk BK748⟩, ⟨bk BK749⟩, ⟨bk BK754⟩, ⟨bk BK755⟩, ⟨qB⟩⟩
        ·rw [if_neg c35] at H
         have c35b0 : (t762 == t763) = false := beq_eq_false_iff_ne.mpr c35
         have c35b1 : (t762 != t763) = true := bne_iff_ne.mpr c35
         have H' := aM H
         clear H
         have p759 : 0 ≤ (x25_1 : Int) := of_decide_eq_true (by first | (with_reducible assumption) | assumption)
         have q759 : x25_1 < (t756.length : Int) := of_decide_eq_true (by first | (with_reducible assumption) | assumption)
         obtain ⟨ad759, e759, hx759_0, hx759_1⟩ := at_T47 (Kd.R_reads' HO_23.out).2.2 x25_1 p759 q759
         cases e759
         replace p759 := eq_true p759
         replace q759 := eq_true q759
         try go_wp2_with (first | (refine bE 11 #[.int .i64 0, .int .i64 0] 47 ?_; intro gb760 hg w113 hbox hb; have BK760 := aM hbox; have GW760 := bZ hg HB; have GE760 := bZ hg HB; have NB747_760 := nL hg BK747; have NB760_747 := nG hg BK747; have NB748_760 := nL hg BK748; have NB760_748 := nG hg BK748; have NB749_760 := nL hg BK749; have NB760_749 := nG hg BK749; have NB754_760 := nL hg BK754; have NB760_754 := nG hg BK754; have NB755_760 := nL hg BK755; have NB760_755 := nG hg BK755; replace HO_23 := aM (Kd.R_below (Kd.R_elderB (by (with_reducible repeat (first | apply Kd.R_alloc | apply Kd.R_drewN | apply Kd.R_drew)); exact HO_23.out) gb760 (Nat.le_of_eq hg.symm)) hb); replace BK747 := bB BK747 hb; replace BK748 := bB BK748 hb; replace BK749 := bB BK749 hb; replace BK754 := bB BK754 hb; replace BK755 := bB BK755 hb; replace HB := bS HB hb; clear hb hbox hg; have hnb114 := NB760_747.out; have hnc114 := NB747_760.out; have hnb115 := NB760_748.out; have hnc115 := NB748_760.out; have hnb116 := NB760_749.out; have hnc116 := NB749_760.out; have hnb117 := NB760_754.out; have hnc117 := NB754_760.out; have hnb118 := NB760_755.out; have hnc118 := NB755_760.out; obtain ⟨hcz119_0, hcz119_1⟩ := z2 BK760; obtain ⟨hfz119_0, hfz119_1⟩ := y2 BK760) | (refine gC 76 ?_; refine gM 31 (impl_norm.calls a0 ((rd_T47 t756 x25_1).f0) ((rd_T47 t756 x25_1).f1) t761 _ A32.out) Try.func76 ?_; rintro w120 hb; replace HO_23 := aM (Kd.R_below (by (with_reducible repeat (first | apply Kd.R_alloc | apply Kd.R_drewN | apply Kd.R_drew)); exact (Kd.R_mono (Kd.R_far (p := ⟨gb760, 1, none⟩) (Kd.R_far (p := ⟨gb760, 0, none⟩) (Kd.R_mono HO_23.out (fun k_ hk => (⟨hk, hk.2⟩ : _ ∧ k_ ≠ gb760))) (fun _ hk => hk.2) (.int .i64 ((rd_T47 t756 x25_1).f0))) (fun _ hk => hk.2) (.int .i64 ((rd_T47 t756 x25_1).f1))) (fun _ h_ => h_.1))) hb); replace BK747 := bF BK747 hb; replace BK748 := bF BK748 hb; replace BK749 := bF BK749 hb; replace BK754 := bF BK754 hb; replace BK755 := bF BK755 hb; replace BK760 := bW (.cells #[.int .i64 ((rd_T47 t756 x25_1).f0), .int .i64 ((rd_T47 t756 x25_1).f1)] 47 (0, 0)) BK760 hb; replace HB := bS HB hb; (try clear hb)))
         replace HO_23 := aM (Kd.R_drew HO_23.out)
         replace BK747 := aM (blk_drew BK747.out)
         replace BK748 := aM (blk_drew BK748.out)
         replace BK749 := aM (blk_drew BK749.out)
         replace BK754 := aM (blk_drew BK754.out)
         replace BK755 := aM (blk_drew BK755.out)
         replace BK760 := aM (blk_drew BK760.out)
         replace HB := aM (below_drew1 HB.out)
         refine sT (fun w' => w'.cell? ⟨gb754, 0, none⟩ = some (.int .i64 ((rd_T47 t750 (ji4)).f0)) ∧ w'.cell? ⟨gb754, 1, none⟩ = some (.int .i64 ((rd_T47 t750 (ji4)).f1)) ∧ w'.cell? ⟨gb760, 0, none⟩ = some (.int .i64 ((rd_T47 t756 x25_1).f0)) ∧ w'.cell? ⟨gb760, 1, none⟩ = some (.int .i64 ((rd_T47 t756 x25_1).f1)) ∧ w'.cell? ⟨gb747, 0, none⟩ = some (.int .i64 a1_0) ∧ w'.cell? ⟨gb747, 1, none⟩ = some (.int .i64 a1_1) ∧ w'.cell? ⟨gb747, 2, none⟩ = some (.int .i64 a1_2)) [] ⟨cB BK754, cB BK754, cB BK760, cB BK760, cB BK747, cB BK747, cB BK747⟩ (fun hHeld => ?_); refine with_tabW impl_reducedBasis.tab7 impl_reducedBasis.bits7 (fun HT_ HW_ => ?_)
         generalize w120.drew = w121 at HO_23 BK747 BK748 BK749 BK754 BK755 BK760 HB hHeld ⊢
         refine tU 0 (some 32) 1 HT_ HW_ hHeld ?_
         refine tU 1 (some 33) 3 HT_ HW_ hHeld ?_
         refine tU 3 (some 35) 11 HT_ HW_ hHeld ?_
         refine oU 2 (some 34) 15 HT_ (fun K hK => ?_)
         refine goes_ Try.func130 (by kernel_rfl) rfl #[.agg #[.int .i64 ((rd_T47 t750 (ji4)).f0), .int .i64 ((rd_T47 t750 (ji4)).f1)], .agg #[.int .i64 ((rd_T47 t756 x25_1).f0), .int .i64 ((rd_T47 t756 x25_1).f1)]] (by rfl) rfl rfl (by (try simp only [List.map_toArray, List.map_cons, List.map_nil]); first | done | (simp only [hji4]; rfl) | rfl | (simp only [List.length_drop, List.length_take]; rfl)) ?_
         with_reducible refine (impl_det.calls ((rd_T47 t750 (ji4)).f0) ((rd_T47 t750 (ji4)).f1) ((rd_T47 t756 x25_1).f0) ((rd_T47 t756 x25_1).f1) t762 _ A33.out).mono ?_
         rintro e w122 ⟨rfl, hb⟩
         refine ⟨_, rfl, ?_⟩
         have n0_ := aM (Kd.R_below (by (with_reducible repeat (first | apply Kd.R_alloc | apply Kd.R_drewN | apply Kd.R_drew)); exact HO_23.out) hb)
         have n1_ := bB BK747 hb
         have n2_ := bB BK748 hb
         have n3_ := bB BK749 hb
         have n4_ := bB BK754 hb
         have n5_ := bB BK755 hb
         have n6_ := bB BK760 hb
         have n7_ := bS HB hb
         clear HO_23
         clear BK747
         clear BK748
         clear BK749
         clear BK754
         clear BK755
         clear BK760
         clear HB
         have HO_23 := n0_
         have BK747 := n1_
         have BK748 := n2_
         have BK749 := n3_
         have BK754 := n4_
         have BK755 := n5_
         have BK760 := n6_
         have HB := n7_
         clear n0_ n1_ n2_ n3_ n4_ n5_ n6_ n7_
         (try clear hb)
         (try clear hb2)
         (try clear hk)
         (try clear hi)
         refine hK.out _ _ ⟨cB BK754, cB BK754, cB BK760, cB BK760, cB BK747, cB BK747, cB BK747⟩ (fun hHeld => ?_)
         clear hK K
         refine nM 34 ?_
         refine oU 4 (some 36) 31 HT_ (fun K hK => ?_)
         refine gO Try.func152 #[.agg #[.int .i64 a1_0, .int .i64 a1_1, .int .i64 a1_2]] ?_
         with_reducible refine (impl_Lattice_index.calls a1_0 a1_1 a1_2 t763 _ A34.out).mono ?_
         rintro e w123 ⟨rfl, hb⟩
         refine ⟨_, rfl, ?_⟩
         have n0_ := aM (Kd.R_below (by (with_reducible repeat (first | apply Kd.R_alloc | apply Kd.R_drewN | apply Kd.R_drew)); exact HO_23.out) hb)
         have n1_ := bB BK747 hb
         have n2_ := bB BK748 hb
         have n3_ := bB BK749 hb
         have n4_ := bB BK754 hb
         have n5_ := bB BK755 hb
         have n6_ := bB BK760 hb
         have n7_ := bS HB hb
         clear HO_23
         clear BK747
         clear BK748
         clear BK749
         clear BK754
         clear BK755
         clear BK760
         clear HB
         have HO_23 := n0_
         have BK747 := n1_
         have BK748 := n2_
         have BK749 := n3_
         have BK754 := n4_
         have BK755 := n5_
         have BK760 := n6_
         have HB := n7_
         clear n0_ n1_ n2_ n3_ n4_ n5_ n6_ n7_
         (try clear hb)
         (try clear hb2)
         (try clear hk)
         (try clear hi)
         refine hK.out _ _ ⟨cB BK754, cB BK754, cB BK760, cB BK760, cB BK747, cB BK747, cB BK747⟩ (fun hHeld => ?_)
         clear hK K
         refine nM 36 ?_
         refine pU 5 (some 37) 63 HT_ ?_
         refine pU 6 (some 38) 127 HT_ ?_
         refine pV 7 (some 39) 255 HT_ ?_
         refine pV 8 (some 40) 511 HT_ ?_
         refine pV 9 (some 41) 1023 HT_ ?_
         refine pV 10 (some 42) 2047 HT_ ?_
         refine pV 11 (some 43) 4095 HT_ ?_
         refine pV 12 (some 44) 8191 HT_ ?_
         refine pV 13 (some 45) 16383 HT_ ?_
         refine pU 14 (some 46) 32767 HT_ ?_
         refine pU 15 (some 47) 65535 HT_ ?_
         refine pV 16 (some 48) 131071 HT_ ?_
         refine pV 17 (some 49) 262143 HT_ ?_
         refine pV 18 (some 50) 524287 HT_ ?_
         refine pU 19 (some 51) 1048575 HT_ ?_
         refine dN HT_ ?_
         try go_wp2
         go_roundg k1
         case measure => have := HK1.out; omega
         case rel => exact ⟨(x9_1), (wrap64 (x25_1 + 1)), (x756000_1), (x756001_1), (by first | rfl | (simp; done) | (simp [*]; done)), (by first | rfl | (simp; done) | (simp [*]; done)), H', ⟨by have := HK1.out; omega⟩, ⟨by (with_reducible repeat (first | apply Kd.R_alloc | apply Kd.R_drewN | apply Kd.R_drew)); exact Kd.R_mono HO_23.out (fun _ hk => ⟨hk.1.1, ⟨hk.1.2.1, ⟨hk.1.2.2.1, hk.1.2.2.2⟩⟩⟩)⟩, ⟨bk BK747⟩, ⟨bk BK748⟩, ⟨bk BK749⟩, ⟨bk BK754⟩, ⟨bk BK755⟩, ⟨qB⟩⟩
       ·rw [if_neg c31] at H
        exact absurd H (by simp)
      ·rw [if_neg c30] at H
       exact absurd H (by simp)
     ·rw [if_neg c29] at H
      have c29b0 : decide (x25_1 < (t756.length : Int)) = false := decide_eq_false c29
      clear c29
      simp only [Option.some.injEq, Prod.mk.injEq] at H
      obtain ⟨rfl, rfl, rfl, rfl⟩ := H
      try go_wp2
      replace HO_23 := aM (Kd.R_drew HO_23.out)
      replace BK747 := aM (blk_drew BK747.out)
      replace BK748 := aM (blk_drew BK748.out)
      replace BK749 := aM (blk_drew BK749.out)
      replace BK754 := aM (blk_drew BK754.out)
      replace BK755 := aM (blk_drew BK755.out)
      replace HB := aM (below_drew1 HB.out)
      refine sT (fun w' => w'.cell? ⟨gb754, 0, none⟩ = some (.int .i64 ((rd_T47 t750 (ji4)).f0)) ∧ w'.cell? ⟨gb754, 1, none⟩ = some (.int .i64 ((rd_T47 t750 (ji4)).f1)) ∧ w'.cell? ⟨gb755, 0, none⟩ = some (.int .i64 x756000_1) ∧ w'.cell? ⟨gb755, 1, none⟩ = some (.int .i64 x756001_1)) [] ⟨cB BK754, cB BK754, cB BK755, cB BK755⟩ (fun hHeld => ?_)
      generalize wr.drew = w124 at HO_23 BK747 BK748 BK749 BK754 BK755 HB hHeld ⊢
      refine take_ (i := 0) (N := some 55) (v := ?_) (a' := ?_) (bz 4 1) rfl rfl (by kernel_rfl) (fun _ _ _ h => h) (Or.inl ⟨by rfl, ?_⟩) hHeld ?_ ?_
      rotate_left
      ·rintro w' ⟨s0, s1, s2, s3⟩
       go_simp
       with_reducible rfl
      rotate_left
      ·simp only [Act.put, List.setIfInBounds_toArray, List.set_cons_zero, List.set_cons_succ, i64_w, i32_w]
       rfl
      refine take_ (i := 1) (N := some 56) (v := ?_) (a' := ?_) (bz 4 3) rfl rfl (by kernel_rfl) (fun _ _ _ h => h) (Or.inl ⟨by rfl, ?_⟩) hHeld ?_ ?_
      rotate_left
      ·rintro w' ⟨s0, s1, s2, s3⟩
       go_simp
       with_reducible rfl
      rotate_left
      ·simp only [Act.put, List.setIfInBounds_toArray, List.set_cons_zero, List.set_cons_succ, i64_w, i32_w]
       rfl
      refine one_ (i := 2) (N := none) (bz 4 7) rfl rfl (by kernel_rfl) (by decide) (fun K hK => ?_)
      have hs125 : w124.cell? ⟨gb748, 0, none⟩ = some (.int .i64 0) := cB BK748
      have hfs125 := blk_frozen BK748.out 0
      have hns125_0 := NB747_748.out
      have hns125_2 := NB749_748.out
      have hns125_3 := NB754_748.out
      have hns125_4 := NB755_748.out
      have hms125_0 := NB748_747.out
      have hms125_2 := NB748_749.out
      have hms125_3 := NB748_754.out
      have hms125_4 := NB748_755.out
      have hs126 : w124.cell? ⟨gb748, 1, none⟩ = some (.int .i64 0) := cB BK748
      have hfs126 := blk_frozen BK748.out 1
      have hns126_0 := NB747_748.out
      have hns126_2 := NB749_748.out
      have hns126_3 := NB754_748.out
      have hns126_4 := NB755_748.out
      have hms126_0 := NB748_747.out
      have hms126_2 := NB748_749.out
      have hms126_3 := NB748_754.out
      have hms126_4 := NB748_755.out
      refine skip_ (w1 := ?_) (by rfl) rfl ?_ ?_
      rotate_left
      ·go_simp
       rfl
      refine hK.out _ _ ⟨((cell_far (p := ⟨gb748, _, none⟩) NB754_748.out _).trans (((cell_far (p := ⟨gb748, _, none⟩) NB754_748.out _).trans (hHeld.1)))), ((cell_far (p := ⟨gb748, _, none⟩) NB754_748.out _).trans (((cell_far (p := ⟨gb748, _, none⟩) NB754_748.out _).trans (hHeld.2.1)))), ((cell_far (p := ⟨gb748, _, none⟩) NB755_748.out _).trans (((cell_far (p := ⟨gb748, _, none⟩) NB755_748.out _).trans (hHeld.2.2.1)))), ((cell_far (p := ⟨gb748, _, none⟩) NB755_748.out _).trans (((cell_far (p := ⟨gb748, _, none⟩) NB755_748.out _).trans (hHeld.2.2.2))))⟩ (fun hHeld => ?_)
      clear hK K
      refine one_ (i := 3) (N := none) (bz 4 15) rfl rfl (by kernel_rfl) (by decide) (fun K hK => ?_)
      have hs127 : w124.cell? ⟨gb749, 0, none⟩ = some (.int .i64 0) := cB BK749
      have hfs127 := blk_frozen BK749.out 0
      have hns127_0 := NB747_749.out
      have hns127_1 := NB748_749.out
      have hns127_3 := NB754_749.out
      have hns127_4 := NB755_749.out
      have hms127_0 := NB749_747.out
      have hms127_1 := NB749_748.out
      have hms127_3 := NB749_754.out
      have hms127_4 := NB749_755.out
      have hs128 : w124.cell? ⟨gb749, 1, none⟩ = some (.int .i64 0) := cB BK749
      have hfs128 := blk_frozen BK749.out 1
      have hns128_0 := NB747_749.out
      have hns128_1 := NB748_749.out
      have hns128_3 := NB754_749.out
      have hns128_4 := NB755_749.out
      have hms128_0 := NB749_747.out
      have hms128_1 := NB749_748.out
      have hms128_3 := NB749_754.out
      have hms128_4 := NB749_755.out
      refine skip_ (w1 := ?_) (by rfl) rfl ?_ ?_
      rotate_left
      ·go_simp
       rfl
      refine hK.out _ _ ⟨((cell_far (p := ⟨gb749, _, none⟩) NB754_749.out _).trans (((cell_far (p := ⟨gb749, _, none⟩) NB754_749.out _).trans (hHeld.1)))), ((cell_far (p := ⟨gb749, _, none⟩) NB754_749.out _).trans (((cell_far (p := ⟨gb749, _, none⟩) NB754_749.out _).trans (hHeld.2.1)))), ((cell_far (p := ⟨gb749, _, none⟩) NB755_749.out _).trans (((cell_far (p := ⟨gb749, _, none⟩) NB755_749.out _).trans (hHeld.2.2.1)))), ((cell_far (p := ⟨gb749, _, none⟩) NB755_749.out _).trans (((cell_far (p := ⟨gb749, _, none⟩) NB755_749.out _).trans (hHeld.2.2.2))))⟩ (fun hHeld => ?_)
      clear hK K
      refine done_ (by kernel_rfl) ?_
      try go_wp2
      refine bodyPost_ret (results_cc rfl _ _ gb748 gb749 47 47 #[.int .i64 ((rd_T47 t750 (ji4)).f0), .int .i64 ((rd_T47 t750 (ji4)).f1)] #[.int .i64 x756000_1, .int .i64 x756001_1] (0, 0) (0, 0) _ _ rfl (by (repeat (first|(with_reducible first|apply kN|apply kD|apply kA)|refine blk_far ?_ NB748_749.out _)); refine blk_put (cs := #[.int .i64 ((rd_T47 t750 (ji4)).f0), .int .i64 0]) ?_ 1 _ rfl; (with_reducible repeat (first|apply kN|apply kD|apply kA)); refine blk_put (cs := #[.int .i64 0, .int .i64 0]) ?_ 0 _ rfl; (with_reducible repeat (first|apply kN|apply kD|apply kA)); exact BK748.out) Try.underlying47 rfl (by kernel_rfl) rfl (by (with_reducible repeat (first|apply kN|apply kD|apply kA)); refine blk_put (cs := #[.int .i64 x756000_1, .int .i64 0]) ?_ 1 _ rfl; (with_reducible repeat (first|apply kN|apply kD|apply kA)); refine blk_put (cs := #[.int .i64 0, .int .i64 0]) ?_ 0 _ rfl; (repeat (first|(with_reducible first|apply kN|apply kD|apply kA)|refine blk_far ?_ NB749_748.out _)); exact BK749.out) Try.underlying47 rfl (by kernel_rfl)) rfl ?_
      exact ⟨by first | rfl | (simp [errW_none, errW_some] <;> rfl) | (simp only [← hji4]; first | rfl | (simp [errW_none, errW_some] <;> rfl)) | (simp [*, errW_none, errW_some] <;> rfl), qB⟩
  ·rw [if_neg c6] at H
   exact absurd H (by simp)
 ·rw [if_neg c5] at H
  exact absurd H (by simp)

end Go.Proofs.Ytcjchihnopmplaa.F

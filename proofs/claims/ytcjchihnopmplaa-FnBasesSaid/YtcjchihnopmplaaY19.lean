import Derived.Test.YtcjchihnopmplaaY0
import Derived.Test.YtcjchihnopmplaaY3
import Derived.Test.YtcjchihnopmplaaY9
import Derived.Test.YtcjchihnopmplaaY16
import Derived.Test.YtcjchihnopmplaaY17
import Derived.Test.YtcjchihnopmplaaY18
namespace Go.Proofs.Ytcjchihnopmplaa.F
open Go.RowKit Go.Proofs.YtcjchihnopmplaaW.PrintWords Go.Proofs.YtcjchihnopmplaaW.PrintLast Go.Proofs.YtcjchihnopmplaaW.PrintMore
attribute [local go_sem] max2_int min2_int max_two min_two max_three min_three max_four min_four   -- for this text's walks alone
set_option linter.unusedVariables false
set_option linter.unusedSimpArgs false

def spec_ReducedBasis.l0 : Nat → Int → Bool → List (S47) → Int → Int → Int → Int → Int → Int → Int → Int → Option (Int × Int × Int × Int × Int)
 | 0, _, _, _, _, _, _, _, _, _, _, _ => none
 | k + 1, x0, x11, x12, x13, x815000, x815001, x815002, x823000, x823001, x824000, x824001 => if x13 < (x12.length : Int) then (if 0 ≤ x13 then ((spec_l01Det.f x823000 x823001 ((rd_T47 x12 x13).f0) ((rd_T47 x12 x13).f1)).bind fun t828 => (if t828 = (wrap64 (x815000 * x815002)) then ((spec_l03Has.f x815000 x815001 x815002 ((rd_T47 x12 x13).f0) ((rd_T47 x12 x13).f1)).bind fun t830 => (if t830 = true then (if x11 = true then ((spec_l04Norm.f x0 ((rd_T47 x12 x13).f0) ((rd_T47 x12 x13).f1)).bind fun t832 => ((spec_l04Norm.f x0 x824000 x824001).bind fun t833 => (if t832 ≤ t833 then (spec_ReducedBasis.l0 k x0 true x12 (wrap64 (x13 + 1)) x815000 x815001 x815002 x823000 x823001 ((rd_T47 x12 x13).f0) ((rd_T47 x12 x13).f1)) else (spec_ReducedBasis.l0 k x0 x11 x12 (wrap64 (x13 + 1)) x815000 x815001 x815002 x823000 x823001 x824000 x824001)))) else (spec_ReducedBasis.l0 k x0 true x12 (wrap64 (x13 + 1)) x815000 x815001 x815002 x823000 x823001 ((rd_T47 x12 x13).f0) ((rd_T47 x12 x13).f1))) else (spec_ReducedBasis.l0 k x0 x11 x12 (wrap64 (x13 + 1)) x815000 x815001 x815002 x823000 x823001 x824000 x824001))) else (spec_ReducedBasis.l0 k x0 x11 x12 (wrap64 (x13 + 1)) x815000 x815001 x815002 x823000 x823001 x824000 x824001))) else (none)) else (some (x823000, x823001, x824000, x824001, 0))
def spec_ReducedBasis.f (k : Nat) (a0 : Int) (a1_0 : Int) (a1_1 : Int) (a1_2 : Int) : Option (Int × Int × Int × Int × Int) := (spec_l04Code.f a0 a1_0 a1_1 a1_2).bind fun t817 => (if t817 = 0 then ((spec_l04Shortest.f k a0 a1_0 a1_1 a1_2).bind fun t818 => (if 0 ≤ (wrap64 ((t818.length : Int) - 1)) then (if (wrap64 ((t818.length : Int) - 1)) < (t818.length : Int) then ((spec_l04Near.f k a0 32768 128).bind fun t824 => (spec_ReducedBasis.l0 k a0 false t824 0 a1_0 a1_1 a1_2 ((rd_T47 t818 (wrap64 ((t818.length : Int) - 1))).f0) ((rd_T47 t818 (wrap64 ((t818.length : Int) - 1))).f1) 0 0)) else (none)) else (none))) else (some (0, 0, 0, 0, t817)))
def spec_ReducedBasis.T11 : Bool × List (List Nat × List Nat) := (true, [([], []), ([], []), ([], []), ([1, 2], [1, 2]), ([3], [3]), ([0, 4], [0, 4]), ([], []), ([6], [6]), ([], []), ([8], [8]), ([7, 9], [7, 9]), ([5, 10], [5, 10]), ([11, 5], [11]), ([12], [12]), ([12], [12]), ([12], [12]), ([14, 15, 12], [12, 14, 15]), ([16, 12], [12, 16]), ([13, 17, 12, 12], [12, 13, 17]), ([12, 18], [12, 18]), ([19, 18], [19]), ([20], [20]), ([21, 20], [20, 21]), ([22, 20, 20], [20, 22]), ([23], [23]), ([23], [23]), ([23], [23]), ([25, 26, 23], [23, 25, 26]), ([27, 23], [23, 27]), ([24, 28, 23, 23], [23, 24, 28]), ([23], [23]), ([23], [23]), ([30, 31, 29, 23], [23, 30, 31]), ([29, 32, 23], [23, 29, 32]), ([23, 33, 20], [20, 23, 33]), ([20, 34], [20, 34])])
def spec_ReducedBasis.B11 : List Nat := [0, 0, 0, 6, 14, 31, 0, 64, 0, 256, 960, 2047, 4095, 8191, 8191, 8191, 57343, 122879, 262143, 524287, 1048575, 2097151, 4194303, 8388607, 16777215, 16777215, 16777215, 117440511, 251658239, 536870911, 16777215, 16777215, 4294967295, 8589934591, 17179869183, 34359738367]
theorem spec_ReducedBasis.tab11 : rtab .any (opsOf Try.f66 11) = spec_ReducedBasis.T11 := by kernel_rfl
theorem spec_ReducedBasis.bits11 : waitsOk spec_ReducedBasis.T11.2 spec_ReducedBasis.B11 = true := by kernel_rfl
set_option maxHeartbeats 8000000 in
set_option maxRecDepth 100000 in
theorem spec_ReducedBasis.calls (k : Nat) (a0 : Int) (a1_0 : Int) (a1_1 : Int) (a1_2 : Int) (r1 : Int) (r2 : Int) (r3 : Int) (r4 : Int) (r5 : Int) (w : World) (h : spec_ReducedBasis.f k a0 a1_0 a1_1 a1_2 = some (r1, r2, r3, r4, r5)) :
  Calls Try.prog 66 #[.int .i64 a0, .agg #[.int .i64 a1_0, .int .i64 a1_1, .int .i64 a1_2]] w fun e w' => e = .returned (.tuple #[.agg #[.int .i64 r1, .int .i64 r2], .agg #[.int .i64 r3, .int .i64 r4], .int .i64 r5]) ∧ Below w.heap.size w w' := by
 have hu33 := Try.underlying33
 have hu47 := Try.underlying47
 have HB := aM (Below.refl w.heap.size w)
 have H : ((spec_l04Code.f a0 a1_0 a1_1 a1_2).bind fun t817 => (if t817 = 0 then ((spec_l04Shortest.f k a0 a1_0 a1_1 a1_2).bind fun t818 => (if 0 ≤ (wrap64 ((t818.length : Int) - 1)) then (if (wrap64 ((t818.length : Int) - 1)) < (t818.length : Int) then ((spec_l04Near.f k a0 32768 128).bind fun t824 => (spec_ReducedBasis.l0 k a0 false t824 0 a1_0 a1_1 a1_2 ((rd_T47 t818 (wrap64 ((t818.length : Int) - 1))).f0) ((rd_T47 t818 (wrap64 ((t818.length : Int) - 1))).f1) 0 0)) else (none)) else (none))) else (some (0, 0, 0, 0, t817)))) = some (r1, r2, r3, r4, r5) := h
 clear h
 obtain ⟨t817, A3, H⟩ := oB H
 try dsimp only at H
 by_cases c4 : t817 = 0
 ·rw [if_pos c4] at H
  have c4b0 : (t817 == 0) = true := beq_iff_eq.mpr c4
  have c4b1 : (t817 != 0) = false := bne_eq_false_iff_eq.mpr c4
  clear c4
  obtain ⟨t818, A5, H⟩ := oB H
  try dsimp only at H
  obtain ⟨ji6, hji6⟩ : ∃ j_ : Int, (wrap64 ((t818.length : Int) - 1)) = j_ := ⟨_, rfl⟩
  replace H : (if 0 ≤ (ji6) then (if (ji6) < (t818.length : Int) then ((spec_l04Near.f k a0 32768 128).bind fun t824 => (spec_ReducedBasis.l0 k a0 false t824 0 a1_0 a1_1 a1_2 ((rd_T47 t818 (ji6)).f0) ((rd_T47 t818 (ji6)).f1) 0 0)) else (none)) else (none)) = some (r1, r2, r3, r4, r5) := by first | (rw [hji6] at H; exact H) | (simp only [hji6] at H ⊢; exact H)
  (try rw [hji6] at A3)
  (try rw [hji6] at A5)
  have hji6w : (IntKind.i64.wrap ((t818.length : Int) - 1)) = ji6 := (i64_w _).trans hji6
  by_cases c7 : 0 ≤ (ji6)
  ·rw [if_pos c7] at H
   have c7b0 : decide (0 ≤ (ji6)) = true := decide_eq_true c7
   clear c7
   by_cases c8 : (ji6) < (t818.length : Int)
   ·rw [if_pos c8] at H
    have c8b0 : decide ((ji6) < (t818.length : Int)) = true := decide_eq_true c8
    clear c8
    obtain ⟨t824, A9, H⟩ := oB H
    try dsimp only at H
    have H' := aM H
    clear H
    go_enter Try.func66, Try.ntmps66
    go_wp2_with (first | (refine bE 3 #[.int .i64 a1_0, .int .i64 a1_1, .int .i64 a1_2] 33 ?_; intro gb814 hg w10 hbox hb; have BK814 := aM hbox; have GW814 := bZ hg HB; have GE814 := bZ hg HB; replace HB := bS HB hb; clear hb hbox hg) | (refine bE 4 #[.int .i64 0, .int .i64 0] 47 ?_; intro gb815 hg w11 hbox hb; have BK815 := aM hbox; have GW815 := bZ hg HB; have GE815 := bZ hg HB; have NB814_815 := nL hg BK814; have NB815_814 := nG hg BK814; replace BK814 := bB BK814 hb; replace HB := bS HB hb; clear hb hbox hg) | (refine bE 5 #[.int .i64 0, .int .i64 0] 47 ?_; intro gb816 hg w12 hbox hb; have BK816 := aM hbox; have GW816 := bZ hg HB; have GE816 := bZ hg HB; have NB814_816 := nL hg BK814; have NB816_814 := nG hg BK814; have NB815_816 := nL hg BK815; have NB816_815 := nG hg BK815; replace BK814 := bB BK814 hb; replace BK815 := bB BK815 hb; replace HB := bS HB hb; clear hb hbox hg; have hnb13 := NB814_815.out; have hnc13 := NB815_814.out; have hnb14 := NB814_816.out; have hnc14 := NB816_814.out; obtain ⟨hcz15_0, hcz15_1, hcz15_2⟩ := z3 BK814; obtain ⟨hfz15_0, hfz15_1, hfz15_2⟩ := y3 BK814) | (refine gC 78 ?_; refine gM 16 (spec_l04Code.calls a0 a1_0 a1_1 a1_2 t817 _ A3.out) Try.func78 ?_; rintro w16 hb; replace BK814 := bB BK814 hb; replace BK815 := bB BK815 hb; replace BK816 := bB BK816 hb; replace HB := bS HB hb; (try clear hb); obtain ⟨hcz17_0, hcz17_1, hcz17_2⟩ := z3 BK814; obtain ⟨hfz17_0, hfz17_1, hfz17_2⟩ := y3 BK814) | ((with_reducible refine gate_callee (f := 126) rfl ?_); refine goesL_ (some 24) rfl rfl Try.func126 (by kernel_rfl) rfl #[.int .i64 a0, .agg #[.int .i64 a1_0, .int .i64 a1_1, .int .i64 a1_2]] rfl (by first|rfl|(simp only [List.map_toArray, List.map_cons, List.map_nil]; try rfl)) ?_; (with_reducible refine (spec_l04Shortest.calls k a0 a1_0 a1_1 a1_2 t818 _ A5.out).mono ?_); rintro e w18 ⟨v819, rfl, ho0, hb⟩; refine ⟨_, rfl, ?_⟩; have HO820 := aM (Kd.R_lower (Kd.R_newB (Kd.R_newB ho0 (g := gb815) (o := .cells #[.int .i64 0, .int .i64 0] 47 (0, 0)) (bk BK815)) (g := gb816) (o := .cells #[.int .i64 0, .int .i64 0] 47 (0, 0)) (bk BK816)) (below_size qB)); replace BK814 := bB BK814 hb; replace BK815 := bB BK815 hb; replace BK816 := bB BK816 hb; replace HB := bS HB hb; (try clear hb); (try clear ho0); obtain ⟨Ao19, co19, eo19⟩ := Kd.R_slice HO820.out; subst eo19; have p821 : 0 ≤ ((ji6) : Int) := of_decide_eq_true (by first | (with_reducible assumption) | assumption); have q821 : (ji6) < (t818.length : Int) := of_decide_eq_true (by first | (with_reducible assumption) | assumption); obtain ⟨ad821, e821, hx821_0, hx821_1⟩ := at_T47 (Kd.R_reads' HO820.out).2.2 (ji6) p821 q821; cases e821; replace p821 := eq_true p821; replace q821 := eq_true q821) | (refine bE 9 #[.int .i64 0, .int .i64 0] 47 ?_; intro gb822 hg w20 hbox hb; have BK822 := aM hbox; have GW822 := bZ hg HB; have GE822 := bZ hg HB; have NB814_822 := nL hg BK814; have NB822_814 := nG hg BK814; have NB815_822 := nL hg BK815; have NB822_815 := nG hg BK815; have NB816_822 := nL hg BK816; have NB822_816 := nG hg BK816; replace HO820 := aM (Kd.R_below (Kd.R_elderB (by (with_reducible repeat (first | apply Kd.R_alloc | apply Kd.R_drewN | apply Kd.R_drew)); exact HO820.out) gb822 (Nat.le_of_eq hg.symm)) hb); replace BK814 := bB BK814 hb; replace BK815 := bB BK815 hb; replace BK816 := bB BK816 hb; replace HB := bS HB hb; clear hb hbox hg; have hnb21 := NB822_814.out; have hnc21 := NB814_822.out; have hnb22 := NB822_815.out; have hnc22 := NB815_822.out; have hnb23 := NB822_816.out; have hnc23 := NB816_822.out; obtain ⟨hcz24_0, hcz24_1⟩ := z2 BK822; obtain ⟨hfz24_0, hfz24_1⟩ := y2 BK822) | (refine bE 10 #[.int .i64 0, .int .i64 0] 47 ?_; intro gb823 hg w25 hbox hb; have BK823 := aM hbox; have GW823 := bZ hg HB; have GE823 := bZ hg HB; have NB814_823 := aM ((by rw [hg]; exact Nat.ne_of_lt (blk_lt (g := gb814) (o := .cells #[.int .i64 a1_0, .int .i64 a1_1, .int .i64 a1_2] 33 (0, 0)) (by (repeat (first|(with_reducible first|apply kN|apply kD|apply kA)|refine blk_far ?_ NB814_822.out _)); exact BK814.out)) : gb814 ≠ gb823)); have NB823_814 := aM ((by rw [hg]; exact Nat.ne_of_gt (blk_lt (g := gb814) (o := .cells #[.int .i64 a1_0, .int .i64 a1_1, .int .i64 a1_2] 33 (0, 0)) (by (repeat (first|(with_reducible first|apply kN|apply kD|apply kA)|refine blk_far ?_ NB814_822.out _)); exact BK814.out)) : gb823 ≠ gb814)); have NB815_823 := aM ((by rw [hg]; exact Nat.ne_of_lt (blk_lt (g := gb815) (o := .cells #[.int .i64 0, .int .i64 0] 47 (0, 0)) (by (repeat (first|(with_reducible first|apply kN|apply kD|apply kA)|refine blk_far ?_ NB815_822.out _)); exact BK815.out)) : gb815 ≠ gb823)); have NB823_815 := aM ((by rw [hg]; exact Nat.ne_of_gt (blk_lt (g := gb815) (o := .cells #[.int .i64 0, .int .i64 0] 47 (0, 0)) (by (repeat (first|(with_reducible first|apply kN|apply kD|apply kA)|refine blk_far ?_ NB815_822.out _)); exact BK815.out)) : gb823 ≠ gb815)); have NB816_823 := aM ((by rw [hg]; exact Nat.ne_of_lt (blk_lt (g := gb816) (o := .cells #[.int .i64 0, .int .i64 0] 47 (0, 0)) (by (repeat (first|(with_reducible first|apply kN|apply kD|apply kA)|refine blk_far ?_ NB816_822.out _)); exact BK816.out)) : gb816 ≠ gb823)); have NB823_816 := aM ((by rw [hg]; exact Nat.ne_of_gt (blk_lt (g := gb816) (o := .cells #[.int .i64 0, .int .i64 0] 47 (0, 0)) (by (repeat (first|(with_reducible first|apply kN|apply kD|apply kA)|refine blk_far ?_ NB816_822.out _)); exact BK816.out)) : gb823 ≠ gb816)); have NB822_823 := aM ((by rw [hg]; exact Nat.ne_of_lt (blk_lt (g := gb822) (o := .cells #[.int .i64 ((rd_T47 t818 (ji6)).f0), .int .i64 ((rd_T47 t818 (ji6)).f1)] 47 (0, 0)) (by (with_reducible repeat (first|apply kN|apply kD|apply kA)); refine blk_put (cs := #[.int .i64 ((rd_T47 t818 (ji6)).f0), .int .i64 0]) ?_ 1 _ rfl; (with_reducible repeat (first|apply kN|apply kD|apply kA)); refine blk_put (cs := #[.int .i64 0, .int .i64 0]) ?_ 0 _ rfl; (with_reducible repeat (first|apply kN|apply kD|apply kA)); exact BK822.out)) : gb822 ≠ gb823)); have NB823_822 := aM ((by rw [hg]; exact Nat.ne_of_gt (blk_lt (g := gb822) (o := .cells #[.int .i64 ((rd_T47 t818 (ji6)).f0), .int .i64 ((rd_T47 t818 (ji6)).f1)] 47 (0, 0)) (by (with_reducible repeat (first|apply kN|apply kD|apply kA)); refine blk_put (cs := #[.int .i64 ((rd_T47 t818 (ji6)).f0), .int .i64 0]) ?_ 1 _ rfl; (with_reducible repeat (first|apply kN|apply kD|apply kA)); refine blk_put (cs := #[.int .i64 0, .int .i64 0]) ?_ 0 _ rfl; (with_reducible repeat (first|apply kN|apply kD|apply kA)); exact BK822.out)) : gb823 ≠ gb822)); replace HO820 := aM (Kd.R_below (Kd.R_elderB (by (with_reducible repeat (first | apply Kd.R_alloc | apply Kd.R_drewN | apply Kd.R_drew)); exact (Kd.R_mono (Kd.R_far (p := ⟨gb822, 1, none⟩) (Kd.R_far (p := ⟨gb822, 0, none⟩) (Kd.R_mono HO820.out (fun k_ hk => (⟨hk, hk.2⟩ : _ ∧ k_ ≠ gb822))) (fun _ hk => hk.2) (.int .i64 ((rd_T47 t818 (ji6)).f0))) (fun _ hk => hk.2) (.int .i64 ((rd_T47 t818 (ji6)).f1))) (fun _ h_ => h_.1))) gb823 (Nat.le_of_eq hg.symm)) hb); replace BK814 := bF BK814 hb; replace BK815 := bF BK815 hb; replace BK816 := bF BK816 hb; replace BK822 := bW (.cells #[.int .i64 ((rd_T47 t818 (ji6)).f0), .int .i64 ((rd_T47 t818 (ji6)).f1)] 47 (0, 0)) BK822 hb; replace HB := bS HB hb; clear hb hbox hg; have hnb26 := NB823_814.out; have hnc26 := NB814_823.out; have hnb27 := NB823_815.out; have hnc27 := NB815_823.out; have hnb28 := NB823_816.out; have hnc28 := NB816_823.out; have hnb29 := NB823_822.out; have hnc29 := NB822_823.out; obtain ⟨hcz30_0, hcz30_1⟩ := z2 BK823; obtain ⟨hfz30_0, hfz30_1⟩ := y2 BK823) | ((with_reducible refine gate_callee (f := 71) rfl ?_); refine goesL_ (some 33) rfl rfl Try.func71 (by kernel_rfl) rfl #[.int .i64 a0, .int .i64 32768, .int .i64 128] rfl (by first|rfl|(simp only [List.map_toArray, List.map_cons, List.map_nil]; try rfl)) ?_; (with_reducible refine (spec_l04Near.calls k a0 32768 128 t824 _ A9.out).mono ?_); rintro e w31 ⟨v825, rfl, ho0, hb⟩; refine ⟨_, rfl, ?_⟩; have HO826 := aM (Kd.R_lower (Kd.R_newB (Kd.R_newB (Kd.R_newB (Kd.R_newB (Kd.R_new' ho0 (Kd.R_lt (by (with_reducible repeat (first | apply Kd.R_alloc | apply Kd.R_drewN | apply Kd.R_drew)); exact (Kd.R_mono (Kd.R_far (p := ⟨gb823, 1, none⟩) (Kd.R_far (p := ⟨gb823, 0, none⟩) (Kd.R_mono HO820.out (fun k_ hk => (⟨hk, hk.2⟩ : _ ∧ k_ ≠ gb823))) (fun _ hk => hk.2) (.int .i64 0)) (fun _ hk => hk.2) (.int .i64 0)) (fun _ h_ => h_.1))))) (g := gb815) (o := .cells #[.int .i64 0, .int .i64 0] 47 (0, 0)) (by (repeat (first|(with_reducible first|apply kN|apply kD|apply kA)|refine blk_far ?_ NB815_823.out _)); exact BK815.out)) (g := gb816) (o := .cells #[.int .i64 0, .int .i64 0] 47 (0, 0)) (by (repeat (first|(with_reducible first|apply kN|apply kD|apply kA)|refine blk_far ?_ NB816_823.out _)); exact BK816.out)) (g := gb822) (o := .cells #[.int .i64 ((rd_T47 t818 (ji6)).f0), .int .i64 ((rd_T47 t818 (ji6)).f1)] 47 (0, 0)) (by (repeat (first|(with_reducible first|apply kN|apply kD|apply kA)|refine blk_far ?_ NB822_823.out _)); exact BK822.out)) (g := gb823) (o := .cells #[.int .i64 0, .int .i64 0] 47 (0, 0)) (by (with_reducible repeat (first|apply kN|apply kD|apply kA)); refine blk_put (cs := #[.int .i64 0, .int .i64 0]) ?_ 1 _ rfl; (with_reducible repeat (first|apply kN|apply kD|apply kA)); refine blk_put (cs := #[.int .i64 0, .int .i64 0]) ?_ 0 _ rfl; (with_reducible repeat (first|apply kN|apply kD|apply kA)); exact BK823.out)) (below_size qB)); replace HO820 := aM (Kd.R_elder' (by (with_reducible repeat (first | apply Kd.R_alloc | apply Kd.R_drewN | apply Kd.R_drew)); exact (Kd.R_mono (Kd.R_far (p := ⟨gb823, 1, none⟩) (Kd.R_far (p := ⟨gb823, 0, none⟩) (Kd.R_mono HO820.out (fun k_ hk => (⟨hk, hk.2⟩ : _ ∧ k_ ≠ gb823))) (fun _ hk => hk.2) (.int .i64 0)) (fun _ hk => hk.2) (.int .i64 0)) (fun _ h_ => h_.1))) (Kd.R_base ho0) hb); replace BK814 := bF BK814 hb; replace BK815 := bF BK815 hb; replace BK816 := bF BK816 hb; replace BK822 := bF BK822 hb; replace BK823 := bW (.cells #[.int .i64 0, .int .i64 0] 47 (0, 0)) BK823 hb; replace HB := bS HB hb; (try clear hb); (try clear ho0)))
    go_loopg [11, 13] k (fun kq v11 v13 w' => ∃ (x11_1 : Bool) (x13_1 : Int) (x824000_1 : Int) (x824001_1 : Int), v11 = .bool x11_1 ∧ v13 = .int .i64 x13_1 ∧ Aside0 (spec_ReducedBasis.l0 kq a0 x11_1 t824 x13_1 a1_0 a1_1 a1_2 ((rd_T47 t818 (ji6)).f0) ((rd_T47 t818 (ji6)).f1) x824000_1 x824001_1 = some (r1, r2, r3, r4, r5)) ∧ Aside0 (kq ≤ k) ∧ Aside0 (Kd.R k47 47 w' w.heap.size (fun k_ => k_ ≠ gb815 ∧ k_ ≠ gb816 ∧ k_ ≠ gb822 ∧ k_ ≠ gb823) v825 t824) ∧ Aside0 (w'.heap[gb814]? = some (.cells #[.int .i64 a1_0, .int .i64 a1_1, .int .i64 a1_2] 33 (0, 0))) ∧ Aside0 (w'.heap[gb815]? = some (.cells #[.int .i64 0, .int .i64 0] 47 (0, 0))) ∧ Aside0 (w'.heap[gb816]? = some (.cells #[.int .i64 0, .int .i64 0] 47 (0, 0))) ∧ Aside0 (w'.heap[gb822]? = some (.cells #[.int .i64 ((rd_T47 t818 (ji6)).f0), .int .i64 ((rd_T47 t818 (ji6)).f1)] 47 (0, 0))) ∧ Aside0 (w'.heap[gb823]? = some (.cells #[.int .i64 x824000_1, .int .i64 x824001_1] 47 (0, 0))) ∧ Aside0 (Below w.heap.size w w'))
    case atStart => exact ⟨(false), (0), (0), (0), (by first | rfl | (simp; done) | (simp [*]; done)), (by first | rfl | (simp; done) | (simp [*]; done)), H', ⟨Nat.le_refl _⟩, ⟨by (with_reducible repeat (first | apply Kd.R_alloc | apply Kd.R_drewN | apply Kd.R_drew)); exact Kd.R_mono HO826.out (fun _ hk => ⟨hk.1.1.1.2, ⟨hk.1.1.2, ⟨hk.1.2, hk.2⟩⟩⟩)⟩, ⟨bk BK814⟩, ⟨bk BK815⟩, ⟨bk BK816⟩, ⟨bk BK822⟩, ⟨bk BK823⟩, ⟨qB⟩⟩
    case round =>
     clear H'
     try clear c1
     try clear c2
     try clear p2
     try clear c4
     try clear c4b0
     try clear c4b1
     try clear c6
     try clear p6
     try clear c7
     try clear c7b0
     try clear c8
     try clear c8b0
     try clear p8
     try clear q8
     try clear hx8
     try clear c12
     try clear c13
     try clear c14
     try clear c21
     try clear c22
     try clear c23
     try clear c26
     try clear c27
     try clear c28
     try clear c29
     try clear hcz15_0
     try clear hcz15_1
     try clear hcz15_2
     try clear hcz17_0
     try clear hcz17_1
     try clear hcz17_2
     try clear hcz24_0
     try clear hcz24_1
     try clear hcz30_0
     try clear hcz30_1
     try clear hfz15_0
     try clear hfz15_1
     try clear hfz15_2
     try clear hfz17_0
     try clear hfz17_1
     try clear hfz17_2
     try clear hfz24_0
     try clear hfz24_1
     try clear hfz30_0
     try clear hfz30_1
     try clear hx821_0
     try clear hx821_1
     try clear p821
     try clear q821
     obtain ⟨x11_1, x13_1, x824000_1, x824001_1, rfl, rfl, HA, HK1, HO_12, BK814, BK815, BK816, BK822, BK823, HB⟩ := hrel
     cases gk with
     | zero => exact absurd HA.out (by simp [spec_ReducedBasis.l0])
     | succ k1 =>
      have H := HA.out
      clear HA
      simp only [spec_ReducedBasis.l0] at H
      by_cases c32 : x13_1 < (t824.length : Int)
      ·rw [if_pos c32] at H
       have c32b0 : decide (x13_1 < (t824.length : Int)) = true := decide_eq_true c32
       clear c32
       by_cases c33 : 0 ≤ x13_1
       ·rw [if_pos c33] at H
        have c33b0 : decide (0 ≤ x13_1) = true := decide_eq_true c33
        clear c33
        obtain ⟨t828, A34, H⟩ := oB H
        try dsimp only at H
        by_cases c35 : t828 = (wrap64 (a1_0 * a1_2))
        ·rw [if_pos c35] at H
         have c35b0 : (t828 == (wrap64 (a1_0 * a1_2))) = true := beq_iff_eq.mpr c35
         have c35b1 : (t828 != (wrap64 (a1_0 * a1_2))) = false := bne_eq_false_iff_eq.mpr c35
         clear c35
         obtain ⟨t830, A36, H⟩ := oB H
         try dsimp only at H
         by_cases c37 : t830 = true
         ·subst c37
          have H1 : (if x11_1 = true then ((spec_l04Norm.f a0 ((rd_T47 t824 x13_1).f0) ((rd_T47 t824 x13_1).f1)).bind fun t832 => ((spec_l04Norm.f a0 x824000_1 x824001_1).bind fun t833 => (if t832 ≤ t833 then (spec_ReducedBasis.l0 k1 a0 true t824 (wrap64 (x13_1 + 1)) a1_0 a1_1 a1_2 ((rd_T47 t818 (ji6)).f0) ((rd_T47 t818 (ji6)).f1) ((rd_T47 t824 x13_1).f0) ((rd_T47 t824 x13_1).f1)) else (spec_ReducedBasis.l0 k1 a0 x11_1 t824 (wrap64 (x13_1 + 1)) a1_0 a1_1 a1_2 ((rd_T47 t818 (ji6)).f0) ((rd_T47 t818 (ji6)).f1) x824000_1 x824001_1)))) else (spec_ReducedBasis.l0 k1 a0 true t824 (wrap64 (x13_1 + 1)) a1_0 a1_1 a1_2 ((rd_T47 t818 (ji6)).f0) ((rd_T47 t818 (ji6)).f1) ((rd_T47 t824 x13_1).f0) ((rd_T47 t824 x13_1).f1))) = some (r1, r2, r3, r4, r5) := by rw [if_pos rfl] at H; exact H
          clear H
          have H := H1
          clear H1
          by_cases c38 : x11_1 = true
          ·subst c38
           have H1 : ((spec_l04Norm.f a0 ((rd_T47 t824 x13_1).f0) ((rd_T47 t824 x13_1).f1)).bind fun t832 => ((spec_l04Norm.f a0 x824000_1 x824001_1).bind fun t833 => (if t832 ≤ t833 then (spec_ReducedBasis.l0 k1 a0 true t824 (wrap64 (x13_1 + 1)) a1_0 a1_1 a1_2 ((rd_T47 t818 (ji6)).f0) ((rd_T47 t818 (ji6)).f1) ((rd_T47 t824 x13_1).f0) ((rd_T47 t824 x13_1).f1)) else (spec_ReducedBasis.l0 k1 a0 true t824 (wrap64 (x13_1 + 1)) a1_0 a1_1 a1_2 ((rd_T47 t818 (ji6)).f0) ((rd_T47 t818 (ji6)).f1) x824000_1 x824001_1)))) = some (r1, r2, r3, r4, r5) := by rw [if_pos rfl] at H; exact H
           clear H
           have H := H1
           clear H1
           obtain ⟨t832, A39, H⟩ := oB H
           try dsimp only at H
           obtain ⟨t833, A40, H⟩ := oB H
           try dsimp only at H
           by_cases c41 : t832 ≤ t833
           ·rw [if_pos c41] at H
            have c41b0 : decide (t832 ≤ t833) = true := decide_eq_true c41
            clear c41
            have H' := aM H
            clear H
            obtain ⟨Ao42, co42, eo42⟩ := Kd.R_slice HO_12.out
            subst eo42
            try go_wp2
            replace HO_12 := aM (Kd.R_drew HO_12.out)
            replace BK814 := aM (blk_drew BK814.out)
            replace BK815 := aM (blk_drew BK815.out)
            replace BK816 := aM (blk_drew BK816.out)
            replace BK822 := aM (blk_drew BK822.out)
            replace BK823 := aM (blk_drew BK823.out)
            replace HB := aM (below_drew1 HB.out)
            have p827 : 0 ≤ (x13_1 : Int) := of_decide_eq_true (by first | (with_reducible assumption) | assumption)
            have q827 : x13_1 < (t824.length : Int) := of_decide_eq_true (by first | (with_reducible assumption) | assumption)
            obtain ⟨ad827, e827, hx827_0, hx827_1⟩ := at_T47 (Kd.R_reads' HO_12.out).2.2 x13_1 p827 q827
            cases e827
            replace p827 := eq_true p827
            replace q827 := eq_true q827
            have p829 : 0 ≤ (x13_1 : Int) := of_decide_eq_true (by first | (with_reducible assumption) | assumption)
            have q829 : x13_1 < (t824.length : Int) := of_decide_eq_true (by first | (with_reducible assumption) | assumption)
            obtain ⟨ad829, e829, hx829_0, hx829_1⟩ := at_T47 (Kd.R_reads' HO_12.out).2.2 x13_1 p829 q829
            obtain rfl : ad827 = ad829 := (by injection e829)
            replace p829 := eq_true p829
            replace q829 := eq_true q829
            have p831 : 0 ≤ (x13_1 : Int) := of_decide_eq_true (by first | (with_reducible assumption) | assumption)
            have q831 : x13_1 < (t824.length : Int) := of_decide_eq_true (by first | (with_reducible assumption) | assumption)
            obtain ⟨ad831, e831, hx831_0, hx831_1⟩ := at_T47 (Kd.R_reads' HO_12.out).2.2 x13_1 p831 q831
            obtain rfl : ad827 = ad831 := (by injection e831)
            replace p831 := eq_true p831
            replace q831 := eq_true q831
            refine sT (fun w' => w'.cell? ⟨gb822, 0, none⟩ = some (.int .i64 ((rd_T47 t818 (ji6)).f0)) ∧ w'.cell? ⟨gb822, 1, none⟩ = some (.int .i64 ((rd_T47 t818 (ji6)).f1)) ∧ w'.cell? ⟨gb814, 0, none⟩ = some (.int .i64 a1_0) ∧ w'.cell? ⟨gb814, 1, none⟩ = some (.int .i64 a1_1) ∧ w'.cell? ⟨gb814, 2, none⟩ = some (.int .i64 a1_2) ∧ w'.cell? ⟨gb823, 0, none⟩ = some (.int .i64 x824000_1) ∧ w'.cell? ⟨gb823, 1, none⟩ = some (.int .i64 x824001_1) ∧ w'.cell? (ad827.add ((x13_1).toNat * 2)) = some (.int .i64 ((rd_T47 t824 x13_1).f0)) ∧ w'.cell? ⟨(ad827.add ((x13_1).toNat * 2)).block, (ad827.add ((x13_1).toNat * 2)).off + 1, none⟩ = some (.int .i64 ((rd_T47 t824 x13_1).f1)) ∧ w'.cell? (ad827.add ((x13_1).toNat * 2)) = some (.int .i64 ((rd_T47 t824 x13_1).f0)) ∧ w'.cell? ⟨(ad827.add ((x13_1).toNat * 2)).block, (ad827.add ((x13_1).toNat * 2)).off + 1, none⟩ = some (.int .i64 ((rd_T47 t824 x13_1).f1)) ∧ w'.cell? (ad827.add ((x13_1).toNat * 2)) = some (.int .i64 ((rd_T47 t824 x13_1).f0)) ∧ w'.cell? ⟨(ad827.add ((x13_1).toNat * 2)).block, (ad827.add ((x13_1).toNat * 2)).off + 1, none⟩ = some (.int .i64 ((rd_T47 t824 x13_1).f1))) [] ⟨cB BK822, cB BK822, cB BK814, cB BK814, cB BK814, cB BK823, cB BK823, hx827_0, hx827_1, hx829_0, hx829_1, hx831_0, hx831_1⟩ (fun hHeld => ?_); refine with_tabW spec_ReducedBasis.tab11 spec_ReducedBasis.bits11 (fun HT_ HW_ => ?_)
            generalize wr.drew = w43 at HO_12 BK814 BK815 BK816 BK822 BK823 HB hx827_0 hx827_1 hx829_0 hx829_1 hx831_0 hx831_1 hHeld ⊢
            refine pU 1 (some 41) 2 HT_ ?_
            refine pU 2 (some 42) 6 HT_ ?_
            refine pU 3 (some 43) 14 HT_ ?_
            refine pU 6 (some 46) 78 HT_ ?_
            refine pU 8 (some 48) 334 HT_ ?_
            refine tU 0 (some 40) 335 HT_ HW_ hHeld ?_
            refine tU 4 (some 44) 351 HT_ HW_ hHeld ?_
            refine tU 7 (some 47) 479 HT_ HW_ hHeld ?_
            refine tU 9 (some 49) 991 HT_ HW_ hHeld ?_
            refine pU 10 (some 50) 2015 HT_ ?_
            refine oU 5 (some 45) 2047 HT_ (fun K hK => ?_)
            refine goes_ Try.func127 (by kernel_rfl) rfl #[.agg #[.int .i64 ((rd_T47 t818 (ji6)).f0), .int .i64 ((rd_T47 t818 (ji6)).f1)], .agg #[.int .i64 ((rd_T47 t824 x13_1).f0), .int .i64 ((rd_T47 t824 x13_1).f1)]] (by rfl) rfl rfl (by (try simp only [List.map_toArray, List.map_cons, List.map_nil]); first | done | (simp only [hji6]; rfl) | rfl | (simp only [List.length_drop, List.length_take]; rfl)) ?_
            with_reducible refine (spec_l01Det.calls ((rd_T47 t818 (ji6)).f0) ((rd_T47 t818 (ji6)).f1) ((rd_T47 t824 x13_1).f0) ((rd_T47 t824 x13_1).f1) t828 _ A34.out).mono ?_
            rintro e w44 ⟨rfl, hb⟩
            have HS7_ := (hb.cell (World.block_lt_of_cell? _ _ (hHeld.2.2.2.2.2.2.2.1))).trans (hHeld.2.2.2.2.2.2.2.1)
            have HS8_ := (hb.cell (World.block_lt_of_cell? _ _ (hHeld.2.2.2.2.2.2.2.2.1))).trans (hHeld.2.2.2.2.2.2.2.2.1)
            have HS9_ := (hb.cell (World.block_lt_of_cell? _ _ (hHeld.2.2.2.2.2.2.2.2.2.1))).trans (hHeld.2.2.2.2.2.2.2.2.2.1)
            have HS10_ := (hb.cell (World.block_lt_of_cell? _ _ (hHeld.2.2.2.2.2.2.2.2.2.2.1))).trans (hHeld.2.2.2.2.2.2.2.2.2.2.1)
            have HS11_ := (hb.cell (World.block_lt_of_cell? _ _ (hHeld.2.2.2.2.2.2.2.2.2.2.2.1))).trans (hHeld.2.2.2.2.2.2.2.2.2.2.2.1)
            have HS12_ := (hb.cell (World.block_lt_of_cell? _ _ (hHeld.2.2.2.2.2.2.2.2.2.2.2.2))).trans (hHeld.2.2.2.2.2.2.2.2.2.2.2.2)
            refine ⟨_, rfl, ?_⟩
            have n0_ := aM (Kd.R_below (by (with_reducible repeat (first | apply Kd.R_alloc | apply Kd.R_drewN | apply Kd.R_drew)); exact HO_12.out) hb)
            have n1_ := bB BK814 hb
            have n2_ := bB BK815 hb
            have n3_ := bB BK816 hb
            have n4_ := bB BK822 hb
            have n5_ := bB BK823 hb
            have n6_ := bS HB hb
            clear HO_12
            clear BK814
            clear BK815
            clear BK816
            clear BK822
            clear BK823
            clear HB
            have HO_12 := n0_
            have BK814 := n1_
            have BK815 := n2_
            have BK816 := n3_
            have BK822 := n4_
            have BK823 := n5_
            have HB := n6_
            clear n0_ n1_ n2_ n3_ n4_ n5_ n6_
            (try clear hb)
            (try clear hb2)
            (try clear hk)
            (try clear hi)
            refine hK.out _ _ ⟨cB BK822, cB BK822, cB BK814, cB BK814, cB BK814, cB BK823, cB BK823, HS7_, HS8_, HS9_, HS10_, HS11_, HS12_⟩ (fun hHeld => ?_)
            clear hK K
            refine nM 45 ?_
            refine pU 11 (some 51) 4095 HT_ ?_
            refine pU 12 (some 52) 8191 HT_ ?_
            refine pU 14 (some 54) 24575 HT_ ?_
            refine pU 15 (some 55) 57343 HT_ ?_
            refine pU 16 (some 56) 122879 HT_ ?_
            refine tU 13 (some 53) 131071 HT_ HW_ hHeld ?_
            refine tU 17 (some 57) 262143 HT_ HW_ hHeld ?_
            refine oU 18 (some 58) 524287 HT_ (fun K hK => ?_)
            refine gO Try.func128 #[.agg #[.int .i64 a1_0, .int .i64 a1_1, .int .i64 a1_2], .agg #[.int .i64 ((rd_T47 t824 x13_1).f0), .int .i64 ((rd_T47 t824 x13_1).f1)]] ?_
            with_reducible refine (spec_l03Has.calls a1_0 a1_1 a1_2 ((rd_T47 t824 x13_1).f0) ((rd_T47 t824 x13_1).f1) true _ A36.out).mono ?_
            rintro e w45 ⟨rfl, hb⟩
            have HS7_ := (hb.cell (World.block_lt_of_cell? _ _ (hHeld.2.2.2.2.2.2.2.1))).trans (hHeld.2.2.2.2.2.2.2.1)
            have HS8_ := (hb.cell (World.block_lt_of_cell? _ _ (hHeld.2.2.2.2.2.2.2.2.1))).trans (hHeld.2.2.2.2.2.2.2.2.1)
            have HS9_ := (hb.cell (World.block_lt_of_cell? _ _ (hHeld.2.2.2.2.2.2.2.2.2.1))).trans (hHeld.2.2.2.2.2.2.2.2.2.1)
            have HS10_ := (hb.cell (World.block_lt_of_cell? _ _ (hHeld.2.2.2.2.2.2.2.2.2.2.1))).trans (hHeld.2.2.2.2.2.2.2.2.2.2.1)
            have HS11_ := (hb.cell (World.block_lt_of_cell? _ _ (hHeld.2.2.2.2.2.2.2.2.2.2.2.1))).trans (hHeld.2.2.2.2.2.2.2.2.2.2.2.1)
            have HS12_ := (hb.cell (World.block_lt_of_cell? _ _ (hHeld.2.2.2.2.2.2.2.2.2.2.2.2))).trans (hHeld.2.2.2.2.2.2.2.2.2.2.2.2)
            refine ⟨_, rfl, ?_⟩
            have n0_ := aM (Kd.R_below (by (with_reducible repeat (first | apply Kd.R_alloc | apply Kd.R_drewN | apply Kd.R_drew)); exact HO_12.out) hb)
            have n1_ := bB BK814 hb
            have n2_ := bB BK815 hb
            have n3_ := bB BK816 hb
            have n4_ := bB BK822 hb
            have n5_ := bB BK823 hb
            have n6_ := bS HB hb
            clear HO_12
            clear BK814
            clear BK815
            clear BK816
            clear BK822
            clear BK823
            clear HB
            have HO_12 := n0_
            have BK814 := n1_
            have BK815 := n2_
            have BK816 := n3_
            have BK822 := n4_
            have BK823 := n5_
            have HB := n6_
            clear n0_ n1_ n2_ n3_ n4_ n5_ n6_
            (try clear hb)
            (try clear hb2)
            (try clear hk)
            (try clear hi)
            refine hK.out _ _ ⟨cB BK822, cB BK822, cB BK814, cB BK814, cB BK814, cB BK823, cB BK823, HS7_, HS8_, HS9_, HS10_, HS11_, HS12_⟩ (fun hHeld => ?_)
            clear hK K
            refine nM 58 ?_
            refine pU 19 (some 59) 1048575 HT_ ?_
            refine pU 20 (some 60) 2097151 HT_ ?_
            refine pU 21 (some 61) 4194303 HT_ ?_
            refine pU 22 (some 62) 8388607 HT_ ?_
            refine pU 23 (some 63) 16777215 HT_ ?_
            refine pU 24 (some 64) 33554431 HT_ ?_
            refine pU 25 (some 65) 67108863 HT_ ?_
            refine pU 26 (some 66) 134217727 HT_ ?_
            refine pU 27 (some 67) 268435455 HT_ ?_
            refine pU 30 (some 70) 1342177279 HT_ ?_
            refine tU 28 (some 68) 1610612735 HT_ HW_ hHeld ?_
            refine tU 31 (some 71) 3758096383 HT_ HW_ hHeld ?_
            refine oU 29 (some 69) 4294967295 HT_ (fun K hK => ?_)
            refine gO Try.func116 #[.int .i64 a0, .agg #[.int .i64 ((rd_T47 t824 x13_1).f0), .int .i64 ((rd_T47 t824 x13_1).f1)]] ?_
            with_reducible refine (spec_l04Norm.calls a0 ((rd_T47 t824 x13_1).f0) ((rd_T47 t824 x13_1).f1) t832 _ A39.out).mono ?_
            rintro e w46 ⟨rfl, hb⟩
            have HS7_ := (hb.cell (World.block_lt_of_cell? _ _ (hHeld.2.2.2.2.2.2.2.1))).trans (hHeld.2.2.2.2.2.2.2.1)
            have HS8_ := (hb.cell (World.block_lt_of_cell? _ _ (hHeld.2.2.2.2.2.2.2.2.1))).trans (hHeld.2.2.2.2.2.2.2.2.1)
            have HS9_ := (hb.cell (World.block_lt_of_cell? _ _ (hHeld.2.2.2.2.2.2.2.2.2.1))).trans (hHeld.2.2.2.2.2.2.2.2.2.1)
            have HS10_ := (hb.cell (World.block_lt_of_cell? _ _ (hHeld.2.2.2.2.2.2.2.2.2.2.1))).trans (hHeld.2.2.2.2.2.2.2.2.2.2.1)
            have HS11_ := (hb.cell (World.block_lt_of_cell? _ _ (hHeld.2.2.2.2.2.2.2.2.2.2.2.1))).trans (hHeld.2.2.2.2.2.2.2.2.2.2.2.1)
            have HS12_ := (hb.cell (World.block_lt_of_cell? _ _ (hHeld.2.2.2.2.2.2.2.2.2.2.2.2))).trans (hHeld.2.2.2.2.2.2.2.2.2.2.2.2)
            refine ⟨_, rfl, ?_⟩
            have n0_ := aM (Kd.R_below (by (with_reducible repeat (first | apply Kd.R_alloc | apply Kd.R_drewN | apply Kd.R_drew)); exact HO_12.out) hb)
            have n1_ := bB BK814 hb
            have n2_ := bB BK815 hb
            have n3_ := bB BK816 hb
            have n4_ := bB BK822 hb
            have n5_ := bB BK823 hb
            have n6_ := bS HB hb
            clear HO_12
            clear BK814
            clear BK815
            clear BK816
            clear BK822
            clear BK823
            clear HB
            have HO_12 := n0_
            have BK814 := n1_
            have BK815 := n2_
            have BK816 := n3_
            have BK822 := n4_
            have BK823 := n5_
            have HB := n6_
            clear n0_ n1_ n2_ n3_ n4_ n5_ n6_
            (try clear hb)
            (try clear hb2)
            (try clear hk)
            (try clear hi)
            refine hK.out _ _ ⟨cB BK822, cB BK822, cB BK814, cB BK814, cB BK814, cB BK823, cB BK823, HS7_, HS8_, HS9_, HS10_, HS11_, HS12_⟩ (fun hHeld => ?_)
            clear hK K
            refine nM 69 ?_
            refine oU 32 (some 72) 8589934591 HT_ (fun K hK => ?_)
            refine gO Try.func116 #[.int .i64 a0, .agg #[.int .i64 x824000_1, .int .i64 x824001_1]] ?_
            with_reducible refine (spec_l04Norm.calls a0 x824000_1 x824001_1 t833 _ A40.out).mono ?_
            rintro e w47 ⟨rfl, hb⟩
            have HS7_ := (hb.cell (World.block_lt_of_cell? _ _ (hHeld.2.2.2.2.2.2.2.1))).trans (hHeld.2.2.2.2.2.2.2.1)
            have HS8_ := (hb.cell (World.block_lt_of_cell? _ _ (hHeld.2.2.2.2.2.2.2.2.1))).trans (hHeld.2.2.2.2.2.2.2.2.1)
            have HS9_ := (hb.cell (World.block_lt_of_cell? _ _ (hHeld.2.2.2.2.2.2.2.2.2.1))).trans (hHeld.2.2.2.2.2.2.2.2.2.1)
            have HS10_ := (hb.cell (World.block_lt_of_cell? _ _ (hHeld.2.2.2.2.2.2.2.2.2.2.1))).trans (hHeld.2.2.2.2.2.2.2.2.2.2.1)
            have HS11_ := (hb.cell (World.block_lt_of_cell? _ _ (hHeld.2.2.2.2.2.2.2.2.2.2.2.1))).trans (hHeld.2.2.2.2.2.2.2.2.2.2.2.1)
            have HS12_ := (hb.cell (World.block_lt_of_cell? _ _ (hHeld.2.2.2.2.2.2.2.2.2.2.2.2))).trans (hHeld.2.2.2.2.2.2.2.2.2.2.2.2)
            refine ⟨_, rfl, ?_⟩
            have n0_ := aM (Kd.R_below (by (with_reducible repeat (first | apply Kd.R_alloc | apply Kd.R_drewN | apply Kd.R_drew)); exact HO_12.out) hb)
            have n1_ := bB BK814 hb
            have n2_ := bB BK815 hb
            have n3_ := bB BK816 hb
            have n4_ := bB BK822 hb
            have n5_ := bB BK823 hb
            have n6_ := bS HB hb
            clear HO_12
            clear BK814
            clear BK815
            clear BK816
            clear BK822
            clear BK823
            clear HB
            have HO_12 := n0_
            have BK814 := n1_
            have BK815 := n2_
            have BK816 := n3_
            have BK822 := n4_
            have BK823 := n5_
            have HB := n6_
            clear n0_ n1_ n2_ n3_ n4_ n5_ n6_
            (try clear hb)
            (try clear hb2)
            (try clear hk)
            (try clear hi)
            refine hK.out _ _ ⟨cB BK822, cB BK822, cB BK814, cB BK814, cB BK814, cB BK823, cB BK823, HS7_, HS8_, HS9_, HS10_, HS11_, HS12_⟩ (fun hHeld => ?_)
            clear hK K
            refine nM 72 ?_
            refine pU 33 (some 73) 17179869183 HT_ ?_
            refine pU 34 (some 74) 34359738367 HT_ ?_
            refine pU 35 (some 75) 68719476735 HT_ ?_
            refine dN HT_ ?_
            have p834 : 0 ≤ (x13_1 : Int) := of_decide_eq_true (by first | (with_reducible assumption) | assumption)
            have q834 : x13_1 < (t824.length : Int) := of_decide_eq_true (by first | (with_reducible assumption) | assumption)
            obtain ⟨ad834, e834, hx834_0, hx834_1⟩ := at_T47 (Kd.R_reads' HO_12.out).2.2 x13_1 p834 q834
            obtain rfl : ad827 = ad834 := (by injection e834)
            replace p834 := eq_true p834
            replace q834 := eq_true q834
            have hnb48 := NB823_814.out
            have hnc48 := NB814_823.out
            have hnb49 := NB823_815.out
            have hnc49 := NB815_823.out
            have hnb50 := NB823_816.out
            have hnc50 := NB816_823.out
            have hnb51 := NB823_822.out
            have hnc51 := NB822_823.out
            obtain ⟨hcz52_0, hcz52_1⟩ := z2 BK823
            obtain ⟨hfz52_0, hfz52_1⟩ := y2 BK823
            try go_wp2
            go_roundg k1
            case measure => have := HK1.out; omega
            case rel => exact ⟨(true), (wrap64 (x13_1 + 1)), ((rd_T47 t824 x13_1).f0), ((rd_T47 t824 x13_1).f1), (by first | rfl | (simp; done) | (simp [*]; done)), (by first | rfl | (simp; done) | (simp [*]; done)), H', ⟨by have := HK1.out; omega⟩, ⟨by (with_reducible repeat (first | apply Kd.R_alloc | apply Kd.R_drewN | apply Kd.R_drew)); exact Kd.R_mono (Kd.R_far (p := ⟨gb823, 1, none⟩) (Kd.R_far (p := ⟨gb823, 0, none⟩) (Kd.R_mono HO_12.out (fun k_ hk => (⟨hk, hk.2.2.2⟩ : _ ∧ k_ ≠ gb823))) (fun _ hk => hk.2) (.int .i64 ((rd_T47 t824 x13_1).f0))) (fun _ hk => hk.2) (.int .i64 ((rd_T47 t824 x13_1).f1))) (fun _ hk => ⟨hk.1.1, ⟨hk.1.2.1, ⟨hk.1.2.2.1, hk.1.2.2.2⟩⟩⟩)⟩, ⟨by (repeat (first|(with_reducible first|apply kN|apply kD|apply kA)|refine blk_far ?_ NB814_823.out _)); exact BK814.out⟩, ⟨by (repeat (first|(with_reducible first|apply kN|apply kD|apply kA)|refine blk_far ?_ NB815_823.out _)); exact BK815.out⟩, ⟨by (repeat (first|(with_reducible first|apply kN|apply kD|apply kA)|refine blk_far ?_ NB816_823.out _)); exact BK816.out⟩, ⟨by (repeat (first|(with_reducible first|apply kN|apply kD|apply kA)|refine blk_far ?_ NB822_823.out _)); exact BK822.out⟩, ⟨by (with_reducible repeat (first|apply kN|apply kD|apply kA)); refine blk_put (cs := #[.int .i64 ((rd_T47 t824 x13_1).f0), .int .i64 x824001_1]) ?_ 1 _ rfl; (with_reducible repeat (first|apply kN|apply kD|apply kA)); refine blk_put (cs := #[.int .i64 x824000_1, .int .i64 x824001_1]) ?_ 0 _ rfl; (with_reducible repeat (first|apply kN|apply kD|apply kA)); exact BK823.out⟩, ⟨qB⟩⟩
           ·rw [if_neg c41] at H
            have c41b0 : decide (t832 ≤ t833) = false := decide_eq_false c41
            clear c41
            have H' := aM H
            clear H
            obtain ⟨Ao53, co53, eo53⟩ := Kd.R_slice HO_12.out
            subst eo53
            try go_wp2
            replace HO_12 := aM (Kd.R_drew HO_12.out)
            replace BK814 := aM (blk_drew BK814.out)
            replace BK815 := aM (blk_drew BK815.out)
            replace BK816 := aM (blk_drew BK816.out)
            replace BK822 := aM (blk_drew BK822.out)
            replace BK823 := aM (blk_drew BK823.out)
            replace HB := aM (below_drew1 HB.out)
            have p827 : 0 ≤ (x13_1 : Int) := of_decide_eq_true (by first | (with_reducible assumption) | assumption)
            have q827 : x13_1 < (t824.length : Int) := of_decide_eq_true (by first | (with_reducible assumption) | assumption)
            obtain ⟨ad827, e827, hx827_0, hx827_1⟩ := at_T47 (Kd.R_reads' HO_12.out).2.2 x13_1 p827 q827
            cases e827
            replace p827 := eq_true p827
            replace q827 := eq_true q827
            have p829 : 0 ≤ (x13_1 : Int) := of_decide_eq_true (by first | (with_reducible assumption) | assumption)
            have q829 : x13_1 < (t824.length : Int) := of_decide_eq_true (by first | (with_reducible assumption) | assumption)
            obtain ⟨ad829, e829, hx829_0, hx829_1⟩ := at_T47 (Kd.R_reads' HO_12.out).2.2 x13_1 p829 q829
            obtain rfl : ad827 = ad829 := (by injection e829)
            replace p829 := eq_true p829
            replace q829 := eq_true q829
            have p831 : 0 ≤ (x13_1 : Int) := of_decide_eq_true (by first | (with_reducible assumption) | assumption)
            have q831 : x13_1 < (t824.length : Int) := of_decide_eq_true (by first | (with_reducible assumption) | assumption)
            obtain ⟨ad831, e831, hx831_0, hx831_1⟩ := at_T47 (Kd.R_reads' HO_12.out).2.2 x13_1 p831 q831
            obtain rfl : ad827 = ad831 := (by injection e831)
            replace p831 := eq_true p831
            replace q831 := eq_true q831
            refine sT (fun w' => w'.cell? ⟨gb822, 0, none⟩ = some (.int .i64 ((rd_T47 t818 (ji6)).f0)) ∧ w'.cell? ⟨gb822, 1, none⟩ = some (.int .i64 ((rd_T47 t818 (ji6)).f1)) ∧ w'.cell? ⟨gb814, 0, none⟩ = some (.int .i64 a1_0) ∧ w'.cell? ⟨gb814, 1, none⟩ = some (.int .i64 a1_1) ∧ w'.cell? ⟨gb814, 2, none⟩ = some (.int .i64 a1_2) ∧ w'.cell? ⟨gb823, 0, none⟩ = some (.int .i64 x824000_1) ∧ w'.cell? ⟨gb823, 1, none⟩ = some (.int .i64 x824001_1) ∧ w'.cell? (ad827.add ((x13_1).toNat * 2)) = some (.int .i64 ((rd_T47 t824 x13_1).f0)) ∧ w'.cell? ⟨(ad827.add ((x13_1).toNat * 2)).block, (ad827.add ((x13_1).toNat * 2)).off + 1, none⟩ = some (.int .i64 ((rd_T47 t824 x13_1).f1)) ∧ w'.cell? (ad827.add ((x13_1).toNat * 2)) = some (.int .i64 ((rd_T47 t824 x13_1).f0)) ∧ w'.cell? ⟨(ad827.add ((x13_1).toNat * 2)).block, (ad827.add ((x13_1).toNat * 2)).off + 1, none⟩ = some (.int .i64 ((rd_T47 t824 x13_1).f1)) ∧ w'.cell? (ad827.add ((x13_1).toNat * 2)) = some (.int .i64 ((rd_T47 t824 x13_1).f0)) ∧ w'.cell? ⟨(ad827.add ((x13_1).toNat * 2)).block, (ad827.add ((x13_1).toNat * 2)).off + 1, none⟩ = some (.int .i64 ((rd_T47 t824 x13_1).f1))) [] ⟨cB BK822, cB BK822, cB BK814, cB BK814, cB BK814, cB BK823, cB BK823, hx827_0, hx827_1, hx829_0, hx829_1, hx831_0, hx831_1⟩ (fun hHeld => ?_); refine with_tabW spec_ReducedBasis.tab11 spec_ReducedBasis.bits11 (fun HT_ HW_ => ?_)
            generalize wr.drew = w54 at HO_12 BK814 BK815 BK816 BK822 BK823 HB hx827_0 hx827_1 hx829_0 hx829_1 hx831_0 hx831_1 hHeld ⊢
            refine pU 1 (some 41) 2 HT_ ?_
            refine pU 2 (some 42) 6 HT_ ?_
            refine pU 3 (some 43) 14 HT_ ?_
            refine pU 6 (some 46) 78 HT_ ?_
            refine pU 8 (some 48) 334 HT_ ?_
            refine tU 0 (some 40) 335 HT_ HW_ hHeld ?_
            refine tU 4 (some 44) 351 HT_ HW_ hHeld ?_
            refine tU 7 (some 47) 479 HT_ HW_ hHeld ?_
            refine tU 9 (some 49) 991 HT_ HW_ hHeld ?_
            refine pU 10 (some 50) 2015 HT_ ?_
            refine oU 5 (some 45) 2047 HT_ (fun K hK => ?_)
            refine goes_ Try.func127 (by kernel_rfl) rfl #[.agg #[.int .i64 ((rd_T47 t818 (ji6)).f0), .int .i64 ((rd_T47 t818 (ji6)).f1)], .agg #[.int .i64 ((rd_T47 t824 x13_1).f0), .int .i64 ((rd_T47 t824 x13_1).f1)]] (by rfl) rfl rfl (by (try simp only [List.map_toArray, List.map_cons, List.map_nil]); first | done | (simp only [hji6]; rfl) | rfl | (simp only [List.length_drop, List.length_take]; rfl)) ?_
            with_reducible refine (spec_l01Det.calls ((rd_T47 t818 (ji6)).f0) ((rd_T47 t818 (ji6)).f1) ((rd_T47 t824 x13_1).f0) ((rd_T47 t824 x13_1).f1) t828 _ A34.out).mono ?_
            rintro e w55 ⟨rfl, hb⟩
            have HS7_ := (hb.cell (World.block_lt_of_cell? _ _ (hHeld.2.2.2.2.2.2.2.1))).trans (hHeld.2.2.2.2.2.2.2.1)
            have HS8_ := (hb.cell (World.block_lt_of_cell? _ _ (hHeld.2.2.2.2.2.2.2.2.1))).trans (hHeld.2.2.2.2.2.2.2.2.1)
            have HS9_ := (hb.cell (World.block_lt_of_cell? _ _ (hHeld.2.2.2.2.2.2.2.2.2.1))).trans (hHeld.2.2.2.2.2.2.2.2.2.1)
            have HS10_ := (hb.cell (World.block_lt_of_cell? _ _ (hHeld.2.2.2.2.2.2.2.2.2.2.1))).trans (hHeld.2.2.2.2.2.2.2.2.2.2.1)
            have HS11_ := (hb.cell (World.block_lt_of_cell? _ _ (hHeld.2.2.2.2.2.2.2.2.2.2.2.1))).trans (hHeld.2.2.2.2.2.2.2.2.2.2.2.1)
            have HS12_ := (hb.cell (World.block_lt_of_cell? _ _ (hHeld.2.2.2.2.2.2.2.2.2.2.2.2))).trans (hHeld.2.2.2.2.2.2.2.2.2.2.2.2)
            refine ⟨_, rfl, ?_⟩
            have n0_ := aM (Kd.R_below (by (with_reducible repeat (first | apply Kd.R_alloc | apply Kd.R_drewN | apply Kd.R_drew)); exact HO_12.out) hb)
            have n1_ := bB BK814 hb
            have n2_ := bB BK815 hb
            have n3_ := bB BK816 hb
            have n4_ := bB BK822 hb
            have n5_ := bB BK823 hb
            have n6_ := bS HB hb
            clear HO_12
            clear BK814
            clear BK815
            clear BK816
            clear BK822
            clear BK823
            clear HB
            have HO_12 := n0_
            have BK814 := n1_
            have BK815 := n2_
            have BK816 := n3_
            have BK822 := n4_
            have BK823 := n5_
            have HB := n6_
            clear n0_ n1_ n2_ n3_ n4_ n5_ n6_
            (try clear hb)
            (try clear hb2)
            (try clear hk)
            (try clear hi)
            refine hK.out _ _ ⟨cB BK822, cB BK822, cB BK814, cB BK814, cB BK814, cB BK823, cB BK823, HS7_, HS8_, HS9_, HS10_, HS11_, HS12_⟩ (fun hHeld => ?_)
            clear hK K
            refine nM 45 ?_
            refine pU 11 (some 51) 4095 HT_ ?_
            refine pU 12 (some 52) 8191 HT_ ?_
            refine pU 14 (some 54) 24575 HT_ ?_
            refine pU 15 (some 55) 57343 HT_ ?_
            refine pU 16 (some 56) 122879 HT_ ?_
            refine tU 13 (some 53) 131071 HT_ HW_ hHeld ?_
            refine tU 17 (some 57) 262143 HT_ HW_ hHeld ?_
            refine oU 18 (some 58) 524287 HT_ (fun K hK => ?_)
            refine gO Try.func128 #[.agg #[.int .i64 a1_0, .int .i64 a1_1, .int .i64 a1_2], .agg #[.int .i64 ((rd_T47 t824 x13_1).f0), .int .i64 ((rd_T47 t824 x13_1).f1)]] ?_
            with_reducible refine (spec_l03Has.calls a1_0 a1_1 a1_2 ((rd_T47 t824 x13_1).f0) ((rd_T47 t824 x13_1).f1) true _ A36.out).mono ?_
            rintro e w56 ⟨rfl, hb⟩
            have HS7_ := (hb.cell (World.block_lt_of_cell? _ _ (hHeld.2.2.2.2.2.2.2.1))).trans (hHeld.2.2.2.2.2.2.2.1)
            have HS8_ := (hb.cell (World.block_lt_of_cell? _ _ (hHeld.2.2.2.2.2.2.2.2.1))).trans (hHeld.2.2.2.2.2.2.2.2.1)
            have HS9_ := (hb.cell (World.block_lt_of_cell? _ _ (hHeld.2.2.2.2.2.2.2.2.2.1))).trans (hHeld.2.2.2.2.2.2.2.2.2.1)
            have HS10_ := (hb.cell (World.block_lt_of_cell? _ _ (hHeld.2.2.2.2.2.2.2.2.2.2.1))).trans (hHeld.2.2.2.2.2.2.2.2.2.2.1)
            have HS11_ := (hb.cell (World.block_lt_of_cell? _ _ (hHeld.2.2.2.2.2.2.2.2.2.2.2.1))).trans (hHeld.2.2.2.2.2.2.2.2.2.2.2.1)
            have HS12_ := (hb.cell (World.block_lt_of_cell? _ _ (hHeld.2.2.2.2.2.2.2.2.2.2.2.2))).trans (hHeld.2.2.2.2.2.2.2.2.2.2.2.2)
            refine ⟨_, rfl, ?_⟩
            have n0_ := aM (Kd.R_below (by (with_reducible repeat (first | apply Kd.R_alloc | apply Kd.R_drewN | apply Kd.R_drew)); exact HO_12.out) hb)
            have n1_ := bB BK814 hb
            have n2_ := bB BK815 hb
            have n3_ := bB BK816 hb
            have n4_ := bB BK822 hb
            have n5_ := bB BK823 hb
            have n6_ := bS HB hb
            clear HO_12
            clear BK814
            clear BK815
            clear BK816
            clear BK822
            clear BK823
            clear HB
            have HO_12 := n0_
            have BK814 := n1_
            have BK815 := n2_
            have BK816 := n3_
            have BK822 := n4_
            have BK823 := n5_
            have HB := n6_
            clear n0_ n1_ n2_ n3_ n4_ n5_ n6_
            (try clear hb)
            (try clear hb2)
            (try clear hk)
            (try clear hi)
            refine hK.out _ _ ⟨cB BK822, cB BK822, cB BK814, cB BK814, cB BK814, cB BK823, cB BK823, HS7_, HS8_, HS9_, HS10_, HS11_, HS12_⟩ (fun hHeld => ?_)
            clear hK K
            refine nM 58 ?_
            refine pU 19 (some 59) 1048575 HT_ ?_
            refine pU 20 (some 60) 2097151 HT_ ?_
            refine pU 21 (some 61) 4194303 HT_ ?_
            refine pU 22 (some 62) 8388607 HT_ ?_
            refine pU 23 (some 63) 16777215 HT_ ?_
            refine pU 24 (some 64) 33554431 HT_ ?_
            refine pU 25 (some 65) 67108863 HT_ ?_
            refine pU 26 (some 66) 134217727 HT_ ?_
            refine pU 27 (some 67) 268435455 HT_ ?_
            refine pU 30 (some 70) 1342177279 HT_ ?_
            refine tU 28 (some 68) 1610612735 HT_ HW_ hHeld ?_
            refine tU 31 (some 71) 3758096383 HT_ HW_ hHeld ?_
            refine oU 29 (some 69) 4294967295 HT_ (fun K hK => ?_)
            refine gO Try.func116 #[.int .i64 a0, .agg #[.int .i64 ((rd_T47 t824 x13_1).f0), .int .i64 ((rd_T47 t824 x13_1).f1)]] ?_
            with_reducible refine (spec_l04Norm.calls a0 ((rd_T47 t824 x13_1).f0) ((rd_T47 t824 x13_1).f1) t832 _ A39.out).mono ?_
            rintro e w57 ⟨rfl, hb⟩
            have HS7_ := (hb.cell (World.block_lt_of_cell? _ _ (hHeld.2.2.2.2.2.2.2.1))).trans (hHeld.2.2.2.2.2.2.2.1)
            have HS8_ := (hb.cell (World.block_lt_of_cell? _ _ (hHeld.2.2.2.2.2.2.2.2.1))).trans (hHeld.2.2.2.2.2.2.2.2.1)
            have HS9_ := (hb.cell (World.block_lt_of_cell? _ _ (hHeld.2.2.2.2.2.2.2.2.2.1))).trans (hHeld.2.2.2.2.2.2.2.2.2.1)
            have HS10_ := (hb.cell (World.block_lt_of_cell? _ _ (hHeld.2.2.2.2.2.2.2.2.2.2.1))).trans (hHeld.2.2.2.2.2.2.2.2.2.2.1)
            have HS11_ := (hb.cell (World.block_lt_of_cell? _ _ (hHeld.2.2.2.2.2.2.2.2.2.2.2.1))).trans (hHeld.2.2.2.2.2.2.2.2.2.2.2.1)
            have HS12_ := (hb.cell (World.block_lt_of_cell? _ _ (hHeld.2.2.2.2.2.2.2.2.2.2.2.2))).trans (hHeld.2.2.2.2.2.2.2.2.2.2.2.2)
            refine ⟨_, rfl, ?_⟩
            have n0_ := aM (Kd.R_below (by (with_reducible repeat (first | apply Kd.R_alloc | apply Kd.R_drewN | apply Kd.R_drew)); exact HO_12.out) hb)
            have n1_ := bB BK814 hb
            have n2_ := bB BK815 hb
            have n3_ := bB BK816 hb
            have n4_ := bB BK822 hb
            have n5_ := bB BK823 hb
            have n6_ := bS HB hb
            clear HO_12
            clear BK814
            clear BK815
            clear BK816
            clear BK822
            clear BK823
            clear HB
            have HO_12 := n0_
            have BK814 := n1_
            have BK815 := n2_
            have BK816 := n3_
            have BK822 := n4_
            have BK823 := n5_
            have HB := n6_
            clear n0_ n1_ n2_ n3_ n4_ n5_ n6_
            (try clear hb)
            (try clear hb2)
            (try clear hk)
            (try clear hi)
            refine hK.out _ _ ⟨cB BK822, cB BK822, cB BK814, cB BK814, cB BK814, cB BK823, cB BK823, HS7_, HS8_, HS9_, HS10_, HS11_, HS12_⟩ (fun hHeld => ?_)
            clear hK K
            refine nM 69 ?_
            refine oU 32 (some 72) 8589934591 HT_ (fun K hK => ?_)
            refine gO Try.func116 #[.int .i64 a0, .agg #[.int .i64 x824000_1, .int .i64 x824001_1]] ?_
            with_reducible refine (spec_l04Norm.calls a0 x824000_1 x824001_1 t833 _ A40.out).mono ?_
            rintro e w58 ⟨rfl, hb⟩
            have HS7_ := (hb.cell (World.block_lt_of_cell? _ _ (hHeld.2.2.2.2.2.2.2.1))).trans (hHeld.2.2.2.2.2.2.2.1)
            have HS8_ := (hb.cell (World.block_lt_of_cell? _ _ (hHeld.2.2.2.2.2.2.2.2.1))).trans (hHeld.2.2.2.2.2.2.2.2.1)
            have HS9_ := (hb.cell (World.block_lt_of_cell? _ _ (hHeld.2.2.2.2.2.2.2.2.2.1))).trans (hHeld.2.2.2.2.2.2.2.2.2.1)
            have HS10_ := (hb.cell (World.block_lt_of_cell? _ _ (hHeld.2.2.2.2.2.2.2.2.2.2.1))).trans (hHeld.2.2.2.2.2.2.2.2.2.2.1)
            have HS11_ := (hb.cell (World.block_lt_of_cell? _ _ (hHeld.2.2.2.2.2.2.2.2.2.2.2.1))).trans (hHeld.2.2.2.2.2.2.2.2.2.2.2.1)
            have HS12_ := (hb.cell (World.block_lt_of_cell? _ _ (hHeld.2.2.2.2.2.2.2.2.2.2.2.2))).trans (hHeld.2.2.2.2.2.2.2.2.2.2.2.2)
            refine ⟨_, rfl, ?_⟩
            have n0_ := aM (Kd.R_below (by (with_reducible repeat (first | apply Kd.R_alloc | apply Kd.R_drewN | apply Kd.R_drew)); exact HO_12.out) hb)
            have n1_ := bB BK814 hb
            have n2_ := bB BK815 hb
            have n3_ := bB BK816 hb
            have n4_ := bB BK822 hb
            have n5_ := bB BK823 hb
            have n6_ := bS HB hb
            clear HO_12
            clear BK814
            clear BK815
            clear BK816
            clear BK822
            clear BK823
            clear HB
            have HO_12 := n0_
            have BK814 := n1_
            have BK815 := n2_
            have BK816 := n3_
            have BK822 := n4_
            have BK823 := n5_
            have HB := n6_
            clear n0_ n1_ n2_ n3_ n4_ n5_ n6_
            (try clear hb)
            (try clear hb2)
            (try clear hk)
            (try clear hi)
            refine hK.out _ _ ⟨cB BK822, cB BK822, cB BK814, cB BK814, cB BK814, cB BK823, cB BK823, HS7_, HS8_, HS9_, HS10_, HS11_, HS12_⟩ (fun hHeld => ?_)
            clear hK K
            refine nM 72 ?_
            refine pU 33 (some 73) 17179869183 HT_ ?_
            refine pU 34 (some 74) 34359738367 HT_ ?_
            refine pU 35 (some 75) 68719476735 HT_ ?_
            refine dN HT_ ?_
            try go_wp2
            go_roundg k1
            case measure => have := HK1.out; omega
            case rel => exact ⟨(true), (wrap64 (x13_1 + 1)), (x824000_1), (x824001_1), (by first | rfl | (simp; done) | (simp [*]; done)), (by first | rfl | (simp; done) | (simp [*]; done)), H', ⟨by have := HK1.out; omega⟩, ⟨by (with_reducible repeat (first | apply Kd.R_alloc | apply Kd.R_drewN | apply Kd.R_drew)); exact HO_12.out⟩, ⟨bk BK814⟩, ⟨bk BK815⟩, ⟨bk BK816⟩, ⟨bk BK822⟩, ⟨bk BK823⟩, ⟨qB⟩⟩
          ·replace c38 := Bool.eq_false_iff.mpr c38
           subst c38
           have H1 : (spec_ReducedBasis.l0 k1 a0 true t824 (wrap64 (x13_1 + 1)) a1_0 a1_1 a1_2 ((rd_T47 t818 (ji6)).f0) ((rd_T47 t818 (ji6)).f1) ((rd_T47 t824 x13_1).f0) ((rd_T47 t824 x13_1).f1)) = some (r1, r2, r3, r4, r5) := by rw [if_neg (show ¬ (false = true) by decide)] at H; exact H
           clear H
           have H := H1
           clear H1
           have H' := aM H
           clear H
           obtain ⟨Ao59, co59, eo59⟩ := Kd.R_slice HO_12.out
           subst eo59
           try go_wp2
           replace HO_12 := aM (Kd.R_drew HO_12.out)
           replace BK814 := aM (blk_drew BK814.out)
           replace BK815 := aM (blk_drew BK815.out)
           replace BK816 := aM (blk_drew BK816.out)
           replace BK822 := aM (blk_drew BK822.out)
           replace BK823 := aM (blk_drew BK823.out)
           replace HB := aM (below_drew1 HB.out)
           have p827 : 0 ≤ (x13_1 : Int) := of_decide_eq_true (by first | (with_reducible assumption) | assumption)
           have q827 : x13_1 < (t824.length : Int) := of_decide_eq_true (by first | (with_reducible assumption) | assumption)
           obtain ⟨ad827, e827, hx827_0, hx827_1⟩ := at_T47 (Kd.R_reads' HO_12.out).2.2 x13_1 p827 q827
           cases e827
           replace p827 := eq_true p827
           replace q827 := eq_true q827
           have p829 : 0 ≤ (x13_1 : Int) := of_decide_eq_true (by first | (with_reducible assumption) | assumption)
           have q829 : x13_1 < (t824.length : Int) := of_decide_eq_true (by first | (with_reducible assumption) | assumption)
           obtain ⟨ad829, e829, hx829_0, hx829_1⟩ := at_T47 (Kd.R_reads' HO_12.out).2.2 x13_1 p829 q829
           obtain rfl : ad827 = ad829 := (by injection e829)
           replace p829 := eq_true p829
           replace q829 := eq_true q829
           refine sT (fun w' => w'.cell? ⟨gb822, 0, none⟩ = some (.int .i64 ((rd_T47 t818 (ji6)).f0)) ∧ w'.cell? ⟨gb822, 1, none⟩ = some (.int .i64 ((rd_T47 t818 (ji6)).f1)) ∧ w'.cell? ⟨gb814, 0, none⟩ = some (.int .i64 a1_0) ∧ w'.cell? ⟨gb814, 1, none⟩ = some (.int .i64 a1_1) ∧ w'.cell? ⟨gb814, 2, none⟩ = some (.int .i64 a1_2) ∧ w'.cell? (ad827.add ((x13_1).toNat * 2)) = some (.int .i64 ((rd_T47 t824 x13_1).f0)) ∧ w'.cell? ⟨(ad827.add ((x13_1).toNat * 2)).block, (ad827.add ((x13_1).toNat * 2)).off + 1, none⟩ = some (.int .i64 ((rd_T47 t824 x13_1).f1)) ∧ w'.cell? (ad827.add ((x13_1).toNat * 2)) = some (.int .i64 ((rd_T47 t824 x13_1).f0)) ∧ w'.cell? ⟨(ad827.add ((x13_1).toNat * 2)).block, (ad827.add ((x13_1).toNat * 2)).off + 1, none⟩ = some (.int .i64 ((rd_T47 t824 x13_1).f1))) [] ⟨cB BK822, cB BK822, cB BK814, cB BK814, cB BK814, hx827_0, hx827_1, hx829_0, hx829_1⟩ (fun hHeld => ?_); refine with_tabW spec_ReducedBasis.tab11 spec_ReducedBasis.bits11 (fun HT_ HW_ => ?_)
           generalize wr.drew = w60 at HO_12 BK814 BK815 BK816 BK822 BK823 HB hx827_0 hx827_1 hx829_0 hx829_1 hHeld ⊢
           refine pU 1 (some 41) 2 HT_ ?_
           refine pU 2 (some 42) 6 HT_ ?_
           refine pU 3 (some 43) 14 HT_ ?_
           refine pU 6 (some 46) 78 HT_ ?_
           refine pU 8 (some 48) 334 HT_ ?_
           refine tU 0 (some 40) 335 HT_ HW_ hHeld ?_
           refine tU 4 (some 44) 351 HT_ HW_ hHeld ?_
           refine tU 7 (some 47) 479 HT_ HW_ hHeld ?_
           refine tU 9 (some 49) 991 HT_ HW_ hHeld ?_
           refine pU 10 (some 50) 2015 HT_ ?_
           refine oU 5 (some 45) 2047 HT_ (fun K hK => ?_)
           refine goes_ Try.func127 (by kernel_rfl) rfl #[.agg #[.int .i64 ((rd_T47 t818 (ji6)).f0), .int .i64 ((rd_T47 t818 (ji6)).f1)], .agg #[.int .i64 ((rd_T47 t824 x13_1).f0), .int .i64 ((rd_T47 t824 x13_1).f1)]] (by rfl) rfl rfl (by (try simp only [List.map_toArray, List.map_cons, List.map_nil]); first | done | (simp only [hji6]; rfl) | rfl | (simp only [List.length_drop, List.length_take]; rfl)) ?_
           with_reducible refine (spec_l01Det.calls ((rd_T47 t818 (ji6)).f0) ((rd_T47 t818 (ji6)).f1) ((rd_T47 t824 x13_1).f0) ((rd_T47 t824 x13_1).f1) t828 _ A34.out).mono ?_
           rintro e w61 ⟨rfl, hb⟩
           have HS5_ := (hb.cell (World.block_lt_of_cell? _ _ (hHeld.2.2.2.2.2.1))).trans (hHeld.2.2.2.2.2.1)
           have HS6_ := (hb.cell (World.block_lt_of_cell? _ _ (hHeld.2.2.2.2.2.2.1))).trans (hHeld.2.2.2.2.2.2.1)
           have HS7_ := (hb.cell (World.block_lt_of_cell? _ _ (hHeld.2.2.2.2.2.2.2.1))).trans (hHeld.2.2.2.2.2.2.2.1)
           have HS8_ := (hb.cell (World.block_lt_of_cell? _ _ (hHeld.2.2.2.2.2.2.2.2))).trans (hHeld.2.2.2.2.2.2.2.2)
           refine ⟨_, rfl, ?_⟩
           have n0_ := aM (Kd.R_below (by (with_reducible repeat (first | apply Kd.R_alloc | apply Kd.R_drewN | apply Kd.R_drew)); exact HO_12.out) hb)
           have n1_ := bB BK814 hb
           have n2_ := bB BK815 hb
           have n3_ := bB BK816 hb
           have n4_ := bB BK822 hb
           have n5_ := bB BK823 hb
           have n6_ := bS HB hb
           clear HO_12
           clear BK814
           clear BK815
           clear BK816
           clear BK822
           clear BK823
           clear HB
           have HO_12 := n0_
           have BK814 := n1_
           have BK815 := n2_
           have BK816 := n3_
           have BK822 := n4_
           have BK823 := n5_
           have HB := n6_
           clear n0_ n1_ n2_ n3_ n4_ n5_ n6_
           (try clear hb)
           (try clear hb2)
           (try clear hk)
           (try clear hi)
           refine hK.out _ _ ⟨cB BK822, cB BK822, cB BK814, cB BK814, cB BK814, HS5_, HS6_, HS7_, HS8_⟩ (fun hHeld => ?_)
           clear hK K
           refine nM 45 ?_
           refine pU 11 (some 51) 4095 HT_ ?_
           refine pU 12 (some 52) 8191 HT_ ?_
           refine pU 14 (some 54) 24575 HT_ ?_
           refine pU 15 (some 55) 57343 HT_ ?_
           refine pU 16 (some 56) 122879 HT_ ?_
           refine tU 13 (some 53) 131071 HT_ HW_ hHeld ?_
           refine tU 17 (some 57) 262143 HT_ HW_ hHeld ?_
           refine oU 18 (some 58) 524287 HT_ (fun K hK => ?_)
           refine gO Try.func128 #[.agg #[.int .i64 a1_0, .int .i64 a1_1, .int .i64 a1_2], .agg #[.int .i64 ((rd_T47 t824 x13_1).f0), .int .i64 ((rd_T47 t824 x13_1).f1)]] ?_
           with_reducible refine (spec_l03Has.calls a1_0 a1_1 a1_2 ((rd_T47 t824 x13_1).f0) ((rd_T47 t824 x13_1).f1) true _ A36.out).mono ?_
           rintro e w62 ⟨rfl, hb⟩
           have HS5_ := (hb.cell (World.block_lt_of_cell? _ _ (hHeld.2.2.2.2.2.1))).trans (hHeld.2.2.2.2.2.1)
           have HS6_ := (hb.cell (World.block_lt_of_cell? _ _ (hHeld.2.2.2.2.2.2.1))).trans (hHeld.2.2.2.2.2.2.1)
           have HS7_ := (hb.cell (World.block_lt_of_cell? _ _ (hHeld.2.2.2.2.2.2.2.1))).trans (hHeld.2.2.2.2.2.2.2.1)
           have HS8_ := (hb.cell (World.block_lt_of_cell? _ _ (hHeld.2.2.2.2.2.2.2.2))).trans (hHeld.2.2.2.2.2.2.2.2)
           refine ⟨_, rfl, ?_⟩
           have n0_ := aM (Kd.R_below (by (with_reducible repeat (first | apply Kd.R_alloc | apply Kd.R_drewN | apply Kd.R_drew)); exact HO_12.out) hb)
           have n1_ := bB BK814 hb
           have n2_ := bB BK815 hb
           have n3_ := bB BK816 hb
           have n4_ := bB BK822 hb
           have n5_ := bB BK823 hb
           have n6_ := bS HB hb
           clear HO_12
           clear BK814
           clear BK815
           clear BK816
           clear BK822
           clear BK823
           clear HB
           have HO_12 := n0_
           have BK814 := n1_
           have BK815 := n2_
           have BK816 := n3_
           have BK822 := n4_
           have BK823 := n5_
           have HB := n6_
           clear n0_ n1_ n2_ n3_ n4_ n5_ n6_
           (try clear hb)
           (try clear hb2)
           (try clear hk)
           (try clear hi)
           refine hK.out _ _ ⟨cB BK822, cB BK822, cB BK814, cB BK814, cB BK814, HS5_, HS6_, HS7_, HS8_⟩ (fun hHeld => ?_)
           clear hK K
           refine nM 58 ?_
           refine pU 19 (some 59) 1048575 HT_ ?_
           refine pU 20 (some 60) 2097151 HT_ ?_
           refine pU 21 (some 61) 4194303 HT_ ?_
           refine pU 22 (some 62) 8388607 HT_ ?_
           refine pU 23 (some 63) 16777215 HT_ ?_
           refine pV 24 (some 64) 33554431 HT_ ?_
           refine pV 25 (some 65) 67108863 HT_ ?_
           refine pV 26 (some 66) 134217727 HT_ ?_
           refine pV 27 (some 67) 268435455 HT_ ?_
           refine pV 28 (some 68) 536870911 HT_ ?_
           refine pV 29 (some 69) 1073741823 HT_ ?_
           refine pV 30 (some 70) 2147483647 HT_ ?_
           refine pV 31 (some 71) 4294967295 HT_ ?_
           refine pV 32 (some 72) 8589934591 HT_ ?_
           refine pV 33 (some 73) 17179869183 HT_ ?_
           refine pU 34 (some 74) 34359738367 HT_ ?_
           refine pU 35 (some 75) 68719476735 HT_ ?_
           refine dN HT_ ?_
           have p835 : 0 ≤ (x13_1 : Int) := of_decide_eq_true (by first | (with_reducible assumption) | assumption)
           have q835 : x13_1 < (t824.length : Int) := of_decide_eq_true (by first | (with_reducible assumption) | assumption)
           obtain ⟨ad835, e835, hx835_0, hx835_1⟩ := at_T47 (Kd.R_reads' HO_12.out).2.2 x13_1 p835 q835
           obtain rfl : ad827 = ad835 := (by injection e835)
           replace p835 := eq_true p835
           replace q835 := eq_true q835
           have hnb63 := NB823_814.out
           have hnc63 := NB814_823.out
           have hnb64 := NB823_815.out
           have hnc64 := NB815_823.out
           have hnb65 := NB823_816.out
           have hnc65 := NB816_823.out
           have hnb66 := NB823_822.out
           have hnc66 := NB822_823.out
           obtain ⟨hcz67_0, hcz67_1⟩ := z2 BK823
           obtain ⟨hfz67_0, hfz67_1⟩ := y2 BK823
           try go_wp2
           go_roundg k1
           case measure => have := HK1.out; omega
           case rel => exact ⟨(true), (wrap64 (x13_1 + 1)), ((rd_T47 t824 x13_1).f0), ((rd_T47 t824 x13_1).f1), (by first | rfl | (simp; done) | (simp [*]; done)), (by first | rfl | (simp; done) | (simp [*]; done)), H', ⟨by have := HK1.out; omega⟩, ⟨by (with_reducible repeat (first | apply Kd.R_alloc | apply Kd.R_drewN | apply Kd.R_drew)); exact Kd.R_mono (Kd.R_far (p := ⟨gb823, 1, none⟩) (Kd.R_far (p := ⟨gb823, 0, none⟩) (Kd.R_mono HO_12.out (fun k_ hk => (⟨hk, hk.2.2.2⟩ : _ ∧ k_ ≠ gb823))) (fun _ hk => hk.2) (.int .i64 ((rd_T47 t824 x13_1).f0))) (fun _ hk => hk.2) (.int .i64 ((rd_T47 t824 x13_1).f1))) (fun _ hk => ⟨hk.1.1, ⟨hk.1.2.1, ⟨hk.1.2.2.1, hk.1.2.2.2⟩⟩⟩)⟩, ⟨by (repeat (first|(with_reducible first|apply kN|apply kD|apply kA)|refine blk_far ?_ NB814_823.out _)); exact BK814.out⟩, ⟨by (repeat (first|(with_reducible first|apply kN|apply kD|apply kA)|refine blk_far ?_ NB815_823.out _)); exact BK815.out⟩, ⟨by (repeat (first|(with_reducible first|apply kN|apply kD|apply kA)|refine blk_far ?_ NB816_823.out _)); exact BK816.out⟩, ⟨by (repeat (first|(with_reducible first|apply kN|apply kD|apply kA)|refine blk_far ?_ NB822_823.out _)); exact BK822.out⟩, ⟨by (with_reducible repeat (first|apply kN|apply kD|apply kA)); refine blk_put (cs := #[.int .i64 ((rd_T47 t824 x13_1).f0), .int .i64 x824001_1]) ?_ 1 _ rfl; (with_reducible repeat (first|apply kN|apply kD|apply kA)); refine blk_put (cs := #[.int .i64 x824000_1, .int .i64 x824001_1]) ?_ 0 _ rfl; (with_reducible repeat (first|apply kN|apply kD|apply kA)); exact BK823.out⟩, ⟨qB⟩⟩
         ·replace c37 := Bool.eq_false_iff.mpr c37
          subst c37
          have H1 : (spec_ReducedBasis.l0 k1 a0 x11_1 t824 (wrap64 (x13_1 + 1)) a1_0 a1_1 a1_2 ((rd_T47 t818 (ji6)).f0) ((rd_T47 t818 (ji6)).f1) x824000_1 x824001_1) = some (r1, r2, r3, r4, r5) := by rw [if_neg (show ¬ (false = true) by decide)] at H; exact H
          clear H
          have H := H1
          clear H1
          have H' := aM H
          clear H
          obtain ⟨Ao68, co68, eo68⟩ := Kd.R_slice HO_12.out
          subst eo68
          try go_wp2
          replace HO_12 := aM (Kd.R_drew HO_12.out)
          replace BK814 := aM (blk_drew BK814.out)
          replace BK815 := aM (blk_drew BK815.out)
          replace BK816 := aM (blk_drew BK816.out)
          replace BK822 := aM (blk_drew BK822.out)
          replace BK823 := aM (blk_drew BK823.out)
          replace HB := aM (below_drew1 HB.out)
          have p827 : 0 ≤ (x13_1 : Int) := of_decide_eq_true (by first | (with_reducible assumption) | assumption)
          have q827 : x13_1 < (t824.length : Int) := of_decide_eq_true (by first | (with_reducible assumption) | assumption)
          obtain ⟨ad827, e827, hx827_0, hx827_1⟩ := at_T47 (Kd.R_reads' HO_12.out).2.2 x13_1 p827 q827
          cases e827
          replace p827 := eq_true p827
          replace q827 := eq_true q827
          have p829 : 0 ≤ (x13_1 : Int) := of_decide_eq_true (by first | (with_reducible assumption) | assumption)
          have q829 : x13_1 < (t824.length : Int) := of_decide_eq_true (by first | (with_reducible assumption) | assumption)
          obtain ⟨ad829, e829, hx829_0, hx829_1⟩ := at_T47 (Kd.R_reads' HO_12.out).2.2 x13_1 p829 q829
          obtain rfl : ad827 = ad829 := (by injection e829)
          replace p829 := eq_true p829
          replace q829 := eq_true q829
          refine sT (fun w' => w'.cell? ⟨gb822, 0, none⟩ = some (.int .i64 ((rd_T47 t818 (ji6)).f0)) ∧ w'.cell? ⟨gb822, 1, none⟩ = some (.int .i64 ((rd_T47 t818 (ji6)).f1)) ∧ w'.cell? ⟨gb814, 0, none⟩ = some (.int .i64 a1_0) ∧ w'.cell? ⟨gb814, 1, none⟩ = some (.int .i64 a1_1) ∧ w'.cell? ⟨gb814, 2, none⟩ = some (.int .i64 a1_2) ∧ w'.cell? (ad827.add ((x13_1).toNat * 2)) = some (.int .i64 ((rd_T47 t824 x13_1).f0)) ∧ w'.cell? ⟨(ad827.add ((x13_1).toNat * 2)).block, (ad827.add ((x13_1).toNat * 2)).off + 1, none⟩ = some (.int .i64 ((rd_T47 t824 x13_1).f1)) ∧ w'.cell? (ad827.add ((x13_1).toNat * 2)) = some (.int .i64 ((rd_T47 t824 x13_1).f0)) ∧ w'.cell? ⟨(ad827.add ((x13_1).toNat * 2)).block, (ad827.add ((x13_1).toNat * 2)).off + 1, none⟩ = some (.int .i64 ((rd_T47 t824 x13_1).f1))) [] ⟨cB BK822, cB BK822, cB BK814, cB BK814, cB BK814, hx827_0, hx827_1, hx829_0, hx829_1⟩ (fun hHeld => ?_); refine with_tabW spec_ReducedBasis.tab11 spec_ReducedBasis.bits11 (fun HT_ HW_ => ?_)
          generalize wr.drew = w69 at HO_12 BK814 BK815 BK816 BK822 BK823 HB hx827_0 hx827_1 hx829_0 hx829_1 hHeld ⊢
          refine pU 1 (some 41) 2 HT_ ?_
          refine pU 2 (some 42) 6 HT_ ?_
          refine pU 3 (some 43) 14 HT_ ?_
          refine pU 6 (some 46) 78 HT_ ?_
          refine pU 8 (some 48) 334 HT_ ?_
          refine tU 0 (some 40) 335 HT_ HW_ hHeld ?_
          refine tU 4 (some 44) 351 HT_ HW_ hHeld ?_
          refine tU 7 (some 47) 479 HT_ HW_ hHeld ?_
          refine tU 9 (some 49) 991 HT_ HW_ hHeld ?_
          refine pU 10 (some 50) 2015 HT_ ?_
          refine oU 5 (some 45) 2047 HT_ (fun K hK => ?_)
          refine goes_ Try.func127 (by kernel_rfl) rfl #[.agg #[.int .i64 ((rd_T47 t818 (ji6)).f0), .int .i64 ((rd_T47 t818 (ji6)).f1)], .agg #[.int .i64 ((rd_T47 t824 x13_1).f0), .int .i64 ((rd_T47 t824 x13_1).f1)]] (by rfl) rfl rfl (by (try simp only [List.map_toArray, List.map_cons, List.map_nil]); first | done | (simp only [hji6]; rfl) | rfl | (simp only [List.length_drop, List.length_take]; rfl)) ?_
          with_reducible refine (spec_l01Det.calls ((rd_T47 t818 (ji6)).f0) ((rd_T47 t818 (ji6)).f1) ((rd_T47 t824 x13_1).f0) ((rd_T47 t824 x13_1).f1) t828 _ A34.out).mono ?_
          rintro e w70 ⟨rfl, hb⟩
          have HS5_ := (hb.cell (World.block_lt_of_cell? _ _ (hHeld.2.2.2.2.2.1))).trans (hHeld.2.2.2.2.2.1)
          have HS6_ := (hb.cell (World.block_lt_of_cell? _ _ (hHeld.2.2.2.2.2.2.1))).trans (hHeld.2.2.2.2.2.2.1)
          have HS7_ := (hb.cell (World.block_lt_of_cell? _ _ (hHeld.2.2.2.2.2.2.2.1))).trans (hHeld.2.2.2.2.2.2.2.1)
          have HS8_ := (hb.cell (World.block_lt_of_cell? _ _ (hHeld.2.2.2.2.2.2.2.2))).trans (hHeld.2.2.2.2.2.2.2.2)
          refine ⟨_, rfl, ?_⟩
          have n0_ := aM (Kd.R_below (by (with_reducible repeat (first | apply Kd.R_alloc | apply Kd.R_drewN | apply Kd.R_drew)); exact HO_12.out) hb)
          have n1_ := bB BK814 hb
          have n2_ := bB BK815 hb
          have n3_ := bB BK816 hb
          have n4_ := bB BK822 hb
          have n5_ := bB BK823 hb
          have n6_ := bS HB hb
          clear HO_12
          clear BK814
          clear BK815
          clear BK816
          clear BK822
          clear BK823
          clear HB
          have HO_12 := n0_
          have BK814 := n1_
          have BK815 := n2_
          have BK816 := n3_
          have BK822 := n4_
          have BK823 := n5_
          have HB := n6_
          clear n0_ n1_ n2_ n3_ n4_ n5_ n6_
          (try clear hb)
          (try clear hb2)
          (try clear hk)
          (try clear hi)
          refine hK.out _ _ ⟨cB BK822, cB BK822, cB BK814, cB BK814, cB BK814, HS5_, HS6_, HS7_, HS8_⟩ (fun hHeld => ?_)
          clear hK K
          refine nM 45 ?_
          refine pU 11 (some 51) 4095 HT_ ?_
          refine pU 12 (some 52) 8191 HT_ ?_
          refine pU 14 (some 54) 24575 HT_ ?_
          refine pU 15 (some 55) 57343 HT_ ?_
          refine pU 16 (some 56) 122879 HT_ ?_
          refine tU 13 (some 53) 131071 HT_ HW_ hHeld ?_
          refine tU 17 (some 57) 262143 HT_ HW_ hHeld ?_
          refine oU 18 (some 58) 524287 HT_ (fun K hK => ?_)
          refine gO Try.func128 #[.agg #[.int .i64 a1_0, .int .i64 a1_1, .int .i64 a1_2], .agg #[.int .i64 ((rd_T47 t824 x13_1).f0), .int .i64 ((rd_T47 t824 x13_1).f1)]] ?_
          with_reducible refine (spec_l03Has.calls a1_0 a1_1 a1_2 ((rd_T47 t824 x13_1).f0) ((rd_T47 t824 x13_1).f1) false _ A36.out).mono ?_
          rintro e w71 ⟨rfl, hb⟩
          have HS5_ := (hb.cell (World.block_lt_of_cell? _ _ (hHeld.2.2.2.2.2.1))).trans (hHeld.2.2.2.2.2.1)
          have HS6_ := (hb.cell (World.block_lt_of_cell? _ _ (hHeld.2.2.2.2.2.2.1))).trans (hHeld.2.2.2.2.2.2.1)
          have HS7_ := (hb.cell (World.block_lt_of_cell? _ _ (hHeld.2.2.2.2.2.2.2.1))).trans (hHeld.2.2.2.2.2.2.2.1)
          have HS8_ := (hb.cell (World.block_lt_of_cell? _ _ (hHeld.2.2.2.2.2.2.2.2))).trans (hHeld.2.2.2.2.2.2.2.2)
          refine ⟨_, rfl, ?_⟩
          have n0_ := aM (Kd.R_below (by (with_reducible repeat (first | apply Kd.R_alloc | apply Kd.R_drewN | apply Kd.R_drew)); exact HO_12.out) hb)
          have n1_ := bB BK814 hb
          have n2_ := bB BK815 hb
          have n3_ := bB BK816 hb
          have n4_ := bB BK822 hb
          have n5_ := bB BK823 hb
          have n6_ := bS HB hb
          clear HO_12
          clear BK814
          clear BK815
          clear BK816
          clear BK822
          clear BK823
          clear HB
          have HO_12 := n0_
          have BK814 := n1_
          have BK815 := n2_
          have BK816 := n3_
          have BK822 := n4_
          have BK823 := n5_
          have HB := n6_
          clear n0_ n1_ n2_ n3_ n4_ n5_ n6_
          (try clear hb)
          (try clear hb2)
          (try clear hk)
          (try clear hi)
          refine hK.out _ _ ⟨cB BK822, cB BK822, cB BK814, cB BK814, cB BK814, HS5_, HS6_, HS7_, HS8_⟩ (fun hHeld => ?_)
          clear hK K
          refine nM 58 ?_
          refine pU 19 (some 59) 1048575 HT_ ?_
          refine pU 20 (some 60) 2097151 HT_ ?_
          refine pV 21 (some 61) 4194303 HT_ ?_
          refine pV 22 (some 62) 8388607 HT_ ?_
          refine pV 23 (some 63) 16777215 HT_ ?_
          refine pV 24 (some 64) 33554431 HT_ ?_
          refine pV 25 (some 65) 67108863 HT_ ?_
          refine pV 26 (some 66) 134217727 HT_ ?_
          refine pV 27 (some 67) 268435455 HT_ ?_
          refine pV 28 (some 68) 536870911 HT_ ?_
          refine pV 29 (some 69) 1073741823 HT_ ?_
          refine pV 30 (some 70) 2147483647 HT_ ?_
          refine pV 31 (some 71) 4294967295 HT_ ?_
          refine pV 32 (some 72) 8589934591 HT_ ?_
          refine pV 33 (some 73) 17179869183 HT_ ?_
          refine pV 34 (some 74) 34359738367 HT_ ?_
          refine pU 35 (some 75) 68719476735 HT_ ?_
          refine dN HT_ ?_
          try go_wp2
          go_roundg k1
          case measure => have := HK1.out; omega
          case rel => exact ⟨(x11_1), (wrap64 (x13_1 + 1)), (x824000_1), (x824001_1), (by first | rfl | (simp; done) | (simp [*]; done)), (by first | rfl | (simp; done) | (simp [*]; done)), H', ⟨by have := HK1.out; omega⟩, ⟨by (with_reducible repeat (first | apply Kd.R_alloc | apply Kd.R_drewN | apply Kd.R_drew)); exact HO_12.out⟩, ⟨bk BK814⟩, ⟨bk BK815⟩, ⟨bk BK816⟩, ⟨bk BK822⟩, ⟨bk BK823⟩, ⟨qB⟩⟩
        ·rw [if_neg c35] at H
         have c35b0 : (t828 == (wrap64 (a1_0 * a1_2))) = false := beq_eq_false_iff_ne.mpr c35
         have c35b1 : (t828 != (wrap64 (a1_0 * a1_2))) = true := bne_iff_ne.mpr c35
         have H' := aM H
         clear H
         obtain ⟨Ao72, co72, eo72⟩ := Kd.R_slice HO_12.out
         subst eo72
         try go_wp2
         replace HO_12 := aM (Kd.R_drew HO_12.out)
         replace BK814 := aM (blk_drew BK814.out)
         replace BK815 := aM (blk_drew BK815.out)
         replace BK816 := aM (blk_drew BK816.out)
         replace BK822 := aM (blk_drew BK822.out)
         replace BK823 := aM (blk_drew BK823.out)
         replace HB := aM (below_drew1 HB.out)
         have p827 : 0 ≤ (x13_1 : Int) := of_decide_eq_true (by first | (with_reducible assumption) | assumption)
         have q827 : x13_1 < (t824.length : Int) := of_decide_eq_true (by first | (with_reducible assumption) | assumption)
         obtain ⟨ad827, e827, hx827_0, hx827_1⟩ := at_T47 (Kd.R_reads' HO_12.out).2.2 x13_1 p827 q827
         cases e827
         replace p827 := eq_true p827
         replace q827 := eq_true q827
         refine sT (fun w' => w'.cell? ⟨gb822, 0, none⟩ = some (.int .i64 ((rd_T47 t818 (ji6)).f0)) ∧ w'.cell? ⟨gb822, 1, none⟩ = some (.int .i64 ((rd_T47 t818 (ji6)).f1)) ∧ w'.cell? ⟨gb814, 0, none⟩ = some (.int .i64 a1_0) ∧ w'.cell? ⟨gb814, 1, none⟩ = some (.int .i64 a1_1) ∧ w'.cell? ⟨gb814, 2, none⟩ = some (.int .i64 a1_2) ∧ w'.cell? (ad827.add ((x13_1).toNat * 2)) = some (.int .i64 ((rd_T47 t824 x13_1).f0)) ∧ w'.cell? ⟨(ad827.add ((x13_1).toNat * 2)).block, (ad827.add ((x13_1).toNat * 2)).off + 1, none⟩ = some (.int .i64 ((rd_T47 t824 x13_1).f1))) [] ⟨cB BK822, cB BK822, cB BK814, cB BK814, cB BK814, hx827_0, hx827_1⟩ (fun hHeld => ?_); refine with_tabW spec_ReducedBasis.tab11 spec_ReducedBasis.bits11 (fun HT_ HW_ => ?_)
         generalize wr.drew = w73 at HO_12 BK814 BK815 BK816 BK822 BK823 HB hx827_0 hx827_1 hHeld ⊢
         refine pU 1 (some 41) 2 HT_ ?_
         refine pU 2 (some 42) 6 HT_ ?_
         refine pU 3 (some 43) 14 HT_ ?_
         refine pU 6 (some 46) 78 HT_ ?_
         refine pU 8 (some 48) 334 HT_ ?_
         refine tU 0 (some 40) 335 HT_ HW_ hHeld ?_
         refine tU 4 (some 44) 351 HT_ HW_ hHeld ?_
         refine tU 7 (some 47) 479 HT_ HW_ hHeld ?_
         refine tU 9 (some 49) 991 HT_ HW_ hHeld ?_
         refine pU 10 (some 50) 2015 HT_ ?_
         refine oU 5 (some 45) 2047 HT_ (fun K hK => ?_)
         refine goes_ Try.func127 (by kernel_rfl) rfl #[.agg #[.int .i64 ((rd_T47 t818 (ji6)).f0), .int .i64 ((rd_T47 t818 (ji6)).f1)], .agg #[.int .i64 ((rd_T47 t824 x13_1).f0), .int .i64 ((rd_T47 t824 x13_1).f1)]] (by rfl) rfl rfl (by (try simp only [List.map_toArray, List.map_cons, List.map_nil]); first | done | (simp only [hji6]; rfl) | rfl | (simp only [List.length_drop, List.length_take]; rfl)) ?_
         with_reducible refine (spec_l01Det.calls ((rd_T47 t818 (ji6)).f0) ((rd_T47 t818 (ji6)).f1) ((rd_T47 t824 x13_1).f0) ((rd_T47 t824 x13_1).f1) t828 _ A34.out).mono ?_
         rintro e w74 ⟨rfl, hb⟩
         have HS5_ := (hb.cell (World.block_lt_of_cell? _ _ (hHeld.2.2.2.2.2.1))).trans (hHeld.2.2.2.2.2.1)
         have HS6_ := (hb.cell (World.block_lt_of_cell? _ _ (hHeld.2.2.2.2.2.2))).trans (hHeld.2.2.2.2.2.2)
         refine ⟨_, rfl, ?_⟩
         have n0_ := aM (Kd.R_below (by (with_reducible repeat (first | apply Kd.R_alloc | apply Kd.R_drewN | apply Kd.R_drew)); exact HO_12.out) hb)
         have n1_ := bB BK814 hb
         have n2_ := bB BK815 hb
         have n3_ := bB BK816 hb
         have n4_ := bB BK822 hb
         have n5_ := bB BK823 hb
         have n6_ := bS HB hb
         clear HO_12
         clear BK814
         clear BK815
         clear BK816
         clear BK822
         clear BK823
         clear HB
         have HO_12 := n0_
         have BK814 := n1_
         have BK815 := n2_
         have BK816 := n3_
         have BK822 := n4_
         have BK823 := n5_
         have HB := n6_
         clear n0_ n1_ n2_ n3_ n4_ n5_ n6_
         (try clear hb)
         (try clear hb2)
         (try clear hk)
         (try clear hi)
         refine hK.out _ _ ⟨cB BK822, cB BK822, cB BK814, cB BK814, cB BK814, HS5_, HS6_⟩ (fun hHeld => ?_)
         clear hK K
         refine nM 45 ?_
         refine pU 11 (some 51) 4095 HT_ ?_
         refine pU 12 (some 52) 8191 HT_ ?_
         refine pV 13 (some 53) 16383 HT_ ?_
         refine pV 14 (some 54) 32767 HT_ ?_
         refine pV 15 (some 55) 65535 HT_ ?_
         refine pV 16 (some 56) 131071 HT_ ?_
         refine pV 17 (some 57) 262143 HT_ ?_
         refine pV 18 (some 58) 524287 HT_ ?_
         refine pU 19 (some 59) 1048575 HT_ ?_
         refine pU 20 (some 60) 2097151 HT_ ?_
         refine pV 21 (some 61) 4194303 HT_ ?_
         refine pV 22 (some 62) 8388607 HT_ ?_
         refine pV 23 (some 63) 16777215 HT_ ?_
         refine pV 24 (some 64) 33554431 HT_ ?_
         refine pV 25 (some 65) 67108863 HT_ ?_
         refine pV 26 (some 66) 134217727 HT_ ?_
         refine pV 27 (some 67) 268435455 HT_ ?_
         refine pV 28 (some 68) 536870911 HT_ ?_
         refine pV 29 (some 69) 1073741823 HT_ ?_
         refine pV 30 (some 70) 2147483647 HT_ ?_
         refine pV 31 (some 71) 4294967295 HT_ ?_
         refine pV 32 (some 72) 8589934591 HT_ ?_
         refine pV 33 (some 73) 17179869183 HT_ ?_
         refine pV 34 (some 74) 34359738367 HT_ ?_
         refine pU 35 (some 75) 68719476735 HT_ ?_
         refine dN HT_ ?_
         try go_wp2
         go_roundg k1
         case measure => have := HK1.out; omega
         case rel => exact ⟨(x11_1), (wrap64 (x13_1 + 1)), (x824000_1), (x824001_1), (by first | rfl | (simp; done) | (simp [*]; done)), (by first | rfl | (simp; done) | (simp [*]; done)), H', ⟨by have := HK1.out; omega⟩, ⟨by (with_reducible repeat (first | apply Kd.R_alloc | apply Kd.R_drewN | apply Kd.R_drew)); exact HO_12.out⟩, ⟨bk BK814⟩, ⟨bk BK815⟩, ⟨bk BK816⟩, ⟨bk BK822⟩, ⟨bk BK823⟩, ⟨qB⟩⟩
       ·rw [if_neg c33] at H
        exact absurd H (by simp)
      ·rw [if_neg c32] at H
       have c32b0 : decide (x13_1 < (t824.length : Int)) = false := decide_eq_false c32
       clear c32
       simp only [Option.some.injEq, Prod.mk.injEq] at H
       obtain ⟨rfl, rfl, rfl, rfl, rfl⟩ := H
       obtain ⟨Ao75, co75, eo75⟩ := Kd.R_slice HO_12.out
       subst eo75
       try go_wp2
       replace HO_12 := aM (Kd.R_drew HO_12.out)
       replace BK814 := aM (blk_drew BK814.out)
       replace BK815 := aM (blk_drew BK815.out)
       replace BK816 := aM (blk_drew BK816.out)
       replace BK822 := aM (blk_drew BK822.out)
       replace BK823 := aM (blk_drew BK823.out)
       replace HB := aM (below_drew1 HB.out)
       refine sT (fun w' => w'.cell? ⟨gb822, 0, none⟩ = some (.int .i64 ((rd_T47 t818 (ji6)).f0)) ∧ w'.cell? ⟨gb822, 1, none⟩ = some (.int .i64 ((rd_T47 t818 (ji6)).f1)) ∧ w'.cell? ⟨gb823, 0, none⟩ = some (.int .i64 x824000_1) ∧ w'.cell? ⟨gb823, 1, none⟩ = some (.int .i64 x824001_1)) [] ⟨cB BK822, cB BK822, cB BK823, cB BK823⟩ (fun hHeld => ?_)
       generalize wr.drew = w76 at HO_12 BK814 BK815 BK816 BK822 BK823 HB hHeld ⊢
       refine take_ (i := 0) (N := some 80) (v := ?_) (a' := ?_) (bz 5 1) rfl rfl (by kernel_rfl) (fun _ _ _ h => h) (Or.inl ⟨by rfl, ?_⟩) hHeld ?_ ?_
       rotate_left
       ·rintro w' ⟨s0, s1, s2, s3⟩
        go_simp
        with_reducible rfl
       rotate_left
       ·simp only [Act.put, List.setIfInBounds_toArray, List.set_cons_zero, List.set_cons_succ, i64_w, i32_w]
        rfl
       refine take_ (i := 1) (N := some 81) (v := ?_) (a' := ?_) (bz 5 3) rfl rfl (by kernel_rfl) (fun _ _ _ h => h) (Or.inl ⟨by rfl, ?_⟩) hHeld ?_ ?_
       rotate_left
       ·rintro w' ⟨s0, s1, s2, s3⟩
        go_simp
        with_reducible rfl
       rotate_left
       ·simp only [Act.put, List.setIfInBounds_toArray, List.set_cons_zero, List.set_cons_succ, i64_w, i32_w]
        rfl
       refine one_ (i := 2) (N := none) (bz 5 7) rfl rfl (by kernel_rfl) (by decide) (fun K hK => ?_)
       have hs77 : w76.cell? ⟨gb815, 0, none⟩ = some (.int .i64 0) := cB BK815
       have hfs77 := blk_frozen BK815.out 0
       have hns77_0 := NB814_815.out
       have hns77_2 := NB816_815.out
       have hns77_3 := NB822_815.out
       have hns77_4 := NB823_815.out
       have hms77_0 := NB815_814.out
       have hms77_2 := NB815_816.out
       have hms77_3 := NB815_822.out
       have hms77_4 := NB815_823.out
       have hs78 : w76.cell? ⟨gb815, 1, none⟩ = some (.int .i64 0) := cB BK815
       have hfs78 := blk_frozen BK815.out 1
       have hns78_0 := NB814_815.out
       have hns78_2 := NB816_815.out
       have hns78_3 := NB822_815.out
       have hns78_4 := NB823_815.out
       have hms78_0 := NB815_814.out
       have hms78_2 := NB815_816.out
       have hms78_3 := NB815_822.out
       have hms78_4 := NB815_823.out
       refine skip_ (w1 := ?_) (by rfl) rfl ?_ ?_
       rotate_left
       ·go_simp
        rfl
       refine hK.out _ _ ⟨((cell_far (p := ⟨gb815, _, none⟩) NB822_815.out _).trans (((cell_far (p := ⟨gb815, _, none⟩) NB822_815.out _).trans (hHeld.1)))), ((cell_far (p := ⟨gb815, _, none⟩) NB822_815.out _).trans (((cell_far (p := ⟨gb815, _, none⟩) NB822_815.out _).trans (hHeld.2.1)))), ((cell_far (p := ⟨gb815, _, none⟩) NB823_815.out _).trans (((cell_far (p := ⟨gb815, _, none⟩) NB823_815.out _).trans (hHeld.2.2.1)))), ((cell_far (p := ⟨gb815, _, none⟩) NB823_815.out _).trans (((cell_far (p := ⟨gb815, _, none⟩) NB823_815.out _).trans (hHeld.2.2.2))))⟩ (fun hHeld => ?_)
       clear hK K
       refine one_ (i := 3) (N := none) (bz 5 15) rfl rfl (by kernel_rfl) (by decide) (fun K hK => ?_)
       have hs79 : w76.cell? ⟨gb816, 0, none⟩ = some (.int .i64 0) := cB BK816
       have hfs79 := blk_frozen BK816.out 0
       have hns79_0 := NB814_816.out
       have hns79_1 := NB815_816.out
       have hns79_3 := NB822_816.out
       have hns79_4 := NB823_816.out
       have hms79_0 := NB816_814.out
       have hms79_1 := NB816_815.out
       have hms79_3 := NB816_822.out
       have hms79_4 := NB816_823.out
       have hs80 : w76.cell? ⟨gb816, 1, none⟩ = some (.int .i64 0) := cB BK816
       have hfs80 := blk_frozen BK816.out 1
       have hns80_0 := NB814_816.out
       have hns80_1 := NB815_816.out
       have hns80_3 := NB822_816.out
       have hns80_4 := NB823_816.out
       have hms80_0 := NB816_814.out
       have hms80_1 := NB816_815.out
       have hms80_3 := NB816_822.out
       have hms80_4 := NB816_823.out
       refine skip_ (w1 := ?_) (by rfl) rfl ?_ ?_
       rotate_left
       ·go_simp
        rfl
       refine hK.out _ _ ⟨((cell_far (p := ⟨gb816, _, none⟩) NB822_816.out _).trans (((cell_far (p := ⟨gb816, _, none⟩) NB822_816.out _).trans (hHeld.1)))), ((cell_far (p := ⟨gb816, _, none⟩) NB822_816.out _).trans (((cell_far (p := ⟨gb816, _, none⟩) NB822_816.out _).trans (hHeld.2.1)))), ((cell_far (p := ⟨gb816, _, none⟩) NB823_816.out _).trans (((cell_far (p := ⟨gb816, _, none⟩) NB823_816.out _).trans (hHeld.2.2.1)))), ((cell_far (p := ⟨gb816, _, none⟩) NB823_816.out _).trans (((cell_far (p := ⟨gb816, _, none⟩) NB823_816.out _).trans (hHeld.2.2.2))))⟩ (fun hHeld => ?_)
       clear hK K
       refine pure_ (i := 4) (N := some 6) (v := ?_) (a' := ?_) (bz 5 31) rfl rfl (by kernel_rfl) (fun _ _ _ h => h) (Or.inl ⟨by rfl, ?_⟩) ?_ ?_
       rotate_left
       ·intro w'
        go_simp
        with_reducible rfl
       rotate_left
       ·simp only [Act.put, List.setIfInBounds_toArray, List.set_cons_zero, List.set_cons_succ, i64_w, i32_w]
        rfl
       refine done_ (by kernel_rfl) ?_
       try go_wp2
       refine bodyPost_ret (results_list (rs := [.cell 4 47, .cell 5 47, .tmp 6]) rfl (by simp) (.cell gb815 47 #[.int .i64 ((rd_T47 t818 (ji6)).f0), .int .i64 ((rd_T47 t818 (ji6)).f1)] (0, 0) _ rfl (by (repeat (first|(with_reducible first|apply kN|apply kD|apply kA)|refine blk_far ?_ NB815_816.out _)); refine blk_put (cs := #[.int .i64 ((rd_T47 t818 (ji6)).f0), .int .i64 0]) ?_ 1 _ rfl; (with_reducible repeat (first|apply kN|apply kD|apply kA)); refine blk_put (cs := #[.int .i64 0, .int .i64 0]) ?_ 0 _ rfl; (with_reducible repeat (first|apply kN|apply kD|apply kA)); exact BK815.out) Try.underlying47 rfl (by kernel_rfl) (.cell gb816 47 #[.int .i64 x824000_1, .int .i64 x824001_1] (0, 0) _ rfl (by (with_reducible repeat (first|apply kN|apply kD|apply kA)); refine blk_put (cs := #[.int .i64 x824000_1, .int .i64 0]) ?_ 1 _ rfl; (with_reducible repeat (first|apply kN|apply kD|apply kA)); refine blk_put (cs := #[.int .i64 0, .int .i64 0]) ?_ 0 _ rfl; (repeat (first|(with_reducible first|apply kN|apply kD|apply kA)|refine blk_far ?_ NB816_815.out _)); exact BK816.out) Try.underlying47 rfl (by kernel_rfl) (.tmp .nil)))) rfl ?_
       exact ⟨by first | rfl | (simp [errW_none, errW_some] <;> rfl) | (simp only [← hji6]; first | rfl | (simp [errW_none, errW_some] <;> rfl)) | (simp [*, errW_none, errW_some] <;> rfl), qB⟩
   ·rw [if_neg c8] at H
    exact absurd H (by simp)
  ·rw [if_neg c7] at H
   exact absurd H (by simp)
 ·rw [if_neg c4] at H
  have c4b0 : (t817 == 0) = false := beq_eq_false_iff_ne.mpr c4
  have c4b1 : (t817 != 0) = true := bne_iff_ne.mpr c4
  simp only [Option.some.injEq, Prod.mk.injEq] at H
  obtain ⟨rfl, rfl, rfl, rfl, rfl⟩ := H
  go_enter Try.func66, Try.ntmps66
  go_wp2_with (first | (refine bE 3 #[.int .i64 a1_0, .int .i64 a1_1, .int .i64 a1_2] 33 ?_; intro gb814 hg w81 hbox hb; have BK814 := aM hbox; have GW814 := bZ hg HB; have GE814 := bZ hg HB; replace HB := bS HB hb; clear hb hbox hg) | (refine bE 4 #[.int .i64 0, .int .i64 0] 47 ?_; intro gb815 hg w82 hbox hb; have BK815 := aM hbox; have GW815 := bZ hg HB; have GE815 := bZ hg HB; have NB814_815 := nL hg BK814; have NB815_814 := nG hg BK814; replace BK814 := bB BK814 hb; replace HB := bS HB hb; clear hb hbox hg) | (refine bE 5 #[.int .i64 0, .int .i64 0] 47 ?_; intro gb816 hg w83 hbox hb; have BK816 := aM hbox; have GW816 := bZ hg HB; have GE816 := bZ hg HB; have NB814_816 := nL hg BK814; have NB816_814 := nG hg BK814; have NB815_816 := nL hg BK815; have NB816_815 := nG hg BK815; replace BK814 := bB BK814 hb; replace BK815 := bB BK815 hb; replace HB := bS HB hb; clear hb hbox hg; have hnb84 := NB814_815.out; have hnc84 := NB815_814.out; have hnb85 := NB814_816.out; have hnc85 := NB816_814.out; obtain ⟨hcz86_0, hcz86_1, hcz86_2⟩ := z3 BK814; obtain ⟨hfz86_0, hfz86_1, hfz86_2⟩ := y3 BK814) | (refine gC 78 ?_; refine gM 16 (spec_l04Code.calls a0 a1_0 a1_1 a1_2 t817 _ A3.out) Try.func78 ?_; rintro w87 hb; replace BK814 := bB BK814 hb; replace BK815 := bB BK815 hb; replace BK816 := bB BK816 hb; replace HB := bS HB hb; (try clear hb); have hnb88 := NB815_816.out; have hnc88 := NB816_815.out; obtain ⟨hcz89_0, hcz89_1⟩ := z2 BK815; obtain ⟨hfz89_0, hfz89_1⟩ := y2 BK815; obtain ⟨hcz90_0, hcz90_1⟩ := z2 BK816; obtain ⟨hfz90_0, hfz90_1⟩ := y2 BK816))
  refine bodyPost_ret (results_list (rs := [.cell 4 47, .cell 5 47, .tmp 6]) rfl (by simp) (.cell gb815 47 #[.int .i64 0, .int .i64 0] (0, 0) _ rfl (by (repeat (first|(with_reducible first|apply kN|apply kD|apply kA)|refine blk_far ?_ NB815_816.out _)); refine blk_put (cs := #[.int .i64 0, .int .i64 0]) ?_ 1 _ rfl; (with_reducible repeat (first|apply kN|apply kD|apply kA)); refine blk_put (cs := #[.int .i64 0, .int .i64 0]) ?_ 0 _ rfl; (with_reducible repeat (first|apply kN|apply kD|apply kA)); exact BK815.out) Try.underlying47 rfl (by kernel_rfl) (.cell gb816 47 #[.int .i64 0, .int .i64 0] (0, 0) _ rfl (by (with_reducible repeat (first|apply kN|apply kD|apply kA)); refine blk_put (cs := #[.int .i64 0, .int .i64 0]) ?_ 1 _ rfl; (with_reducible repeat (first|apply kN|apply kD|apply kA)); refine blk_put (cs := #[.int .i64 0, .int .i64 0]) ?_ 0 _ rfl; (repeat (first|(with_reducible first|apply kN|apply kD|apply kA)|refine blk_far ?_ NB816_815.out _)); exact BK816.out) Try.underlying47 rfl (by kernel_rfl) (.tmp .nil)))) rfl ?_
  exact ⟨qR, qB⟩

end Go.Proofs.Ytcjchihnopmplaa.F

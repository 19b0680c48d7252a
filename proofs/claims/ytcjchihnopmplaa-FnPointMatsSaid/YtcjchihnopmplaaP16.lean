import Derived.Test.YtcjchihnopmplaaP0
import Derived.Test.YtcjchihnopmplaaP15
namespace Go.Proofs.Ytcjchihnopmplaa.F
open Go.RowKit Go.Proofs.YtcjchihnopmplaaW.PrintWords Go.Proofs.YtcjchihnopmplaaW.PrintLast Go.Proofs.YtcjchihnopmplaaW.PrintMore
attribute [local go_sem] max2_int min2_int max_two min_two max_three min_three max_four min_four   -- for this text's walks alone
set_option linter.unusedVariables false
set_option linter.unusedSimpArgs false

mutual
def spec_l03Hermite.l0 : Nat → List (S47) → Int → Int → Int → Int → Option (Int × Int × Int)
 | 0, _, _, _, _, _ => none
 | k + 1, x0, x4, x5, x546000, x546001 => if x5 < (x0.length : Int) then (if 0 ≤ x5 then (spec_l03Hermite.l1 k x0 x4 x5 x546000 x546001 ((rd_T47 x0 x5).f0) ((rd_T47 x0 x5).f1)) else (none)) else (if x546001 < 0 then ((spec_l01Scale.f x546000 x546001 (-1)).bind fun bt551 => (if x4 > 0 then ((spec_l01Mod.f bt551.1 x4).bind fun t553 => (some (x4, t553, bt551.2))) else (some (x4, bt551.1, bt551.2)))) else (if x4 > 0 then ((spec_l01Mod.f x546000 x4).bind fun t554 => (some (x4, t554, x546001))) else (some (x4, x546000, x546001))))
def spec_l03Hermite.l1 : Nat → List (S47) → Int → Int → Int → Int → Int → Int → Option (Int × Int × Int)
 | 0, _, _, _, _, _, _, _ => none
 | k + 1, x0, x4, x5, x546000, x546001, x548000, x548001 => if x548001 = 0 then ((spec_l01Divisor.f k x4 x548000).bind fun t549 => (if t549 > 0 then ((spec_l01Mod.f x546000 t549).bind fun t550 => (spec_l03Hermite.l0 k x0 t549 (wrap64 (x5 + 1)) t550 x546001)) else (spec_l03Hermite.l0 k x0 t549 (wrap64 (x5 + 1)) x546000 x546001))) else (spec_l03Hermite.l1 k x0 x4 x5 x548000 x548001 (wrap64 (x546000 - (wrap64 ((wrap64 (Int.tdiv x546001 x548001)) * x548000)))) (wrap64 (x546001 - (wrap64 ((wrap64 (Int.tdiv x546001 x548001)) * x548001)))))
end
def spec_l03Hermite.f (k : Nat) (l0 : List (S47)) : Option (Int × Int × Int) := spec_l03Hermite.l0 k l0 0 0 0 0
set_option maxHeartbeats 8000000 in
set_option maxRecDepth 100000 in
theorem spec_l03Hermite.calls (k : Nat) (A0 : Option Addr) (c0 : Nat) (l0 : List (S47)) (r1 : Int) (r2 : Int) (r3 : Int) (w : World) (hr0 : Kd.C k47 w A0 l0.length l0) (hc0 : l0.length ≤ c0) (h : spec_l03Hermite.f k l0 = some (r1, r2, r3)) :
  Calls Try.prog 150 #[.slice A0 l0.length c0] w fun e w' => e = .returned (.agg #[.int .i64 r1, .int .i64 r2, .int .i64 r3]) ∧ Below w.heap.size w w' := by
 have hu33 := Try.underlying33
 have hu47 := Try.underlying47
 have HR0 := aM hr0
 have HC0 := aM hc0
 clear hr0 hc0
 have HB := aM (Below.refl w.heap.size w)
 have H : (spec_l03Hermite.l0 k l0 0 0 0 0) = some (r1, r2, r3) := h
 clear h
 have H' := aM H
 clear H
 go_enter Try.func150, Try.ntmps150
 go_wp2_with (first | ((with_reducible refine gD (N:=2) rfl ?_); refine bE 2 #[.int .i64 0, .int .i64 0, .int .i64 0] 33 ?_; intro gb544 hg w2 hbox hb; have BK544 := aM hbox; have GW544 := bZ hg HB; have GE544 := bZ hg HB; replace HB := bS HB hb; clear hb hbox hg) | ((with_reducible refine gD (N:=3) rfl ?_); refine bE 3 #[.int .i64 0, .int .i64 0] 47 ?_; intro gb545 hg w3 hbox hb; have BK545 := aM hbox; have GW545 := bZ hg HB; have GE545 := bZ hg HB; have NB544_545 := nL hg BK544; have NB545_544 := nG hg BK544; replace BK544 := bB BK544 hb; replace HB := bS HB hb; clear hb hbox hg; have hnb4 := NB545_544.out; have hnc4 := NB544_545.out; obtain ⟨hcz5_0, hcz5_1⟩ := z2 BK545; obtain ⟨hfz5_0, hfz5_1⟩ := y2 BK545))
 go_loopg [4, 5] k (fun kq v4 v5 w' => ∃ (x4_1 : Int) (x5_1 : Int) (x546000_1 : Int) (x546001_1 : Int), v4 = .int .i64 x4_1 ∧ v5 = .int .i64 x5_1 ∧ Aside0 (spec_l03Hermite.l0 kq l0 x4_1 x5_1 x546000_1 x546001_1 = some (r1, r2, r3)) ∧ Aside0 (kq ≤ k) ∧ Aside0 (w'.heap[gb544]? = some (.cells #[.int .i64 0, .int .i64 0, .int .i64 0] 33 (0, 0))) ∧ Aside0 (w'.heap[gb545]? = some (.cells #[.int .i64 x546000_1, .int .i64 x546001_1] 47 (0, 0))) ∧ Aside0 (Below w.heap.size w w'))
 case atStart => exact ⟨(0), (0), (0), (0), (by first | rfl | (simp; done) | (simp [*]; done)), (by first | rfl | (simp; done) | (simp [*]; done)), H', ⟨Nat.le_refl _⟩, ⟨by (repeat (first|(with_reducible first|apply kN|apply kD|apply kA)|refine blk_far ?_ NB544_545.out _)); exact BK544.out⟩, ⟨by (with_reducible repeat (first|apply kN|apply kD|apply kA)); refine blk_put (cs := #[.int .i64 0, .int .i64 0]) ?_ 1 _ rfl; (with_reducible repeat (first|apply kN|apply kD|apply kA)); refine blk_put (cs := #[.int .i64 0, .int .i64 0]) ?_ 0 _ rfl; (with_reducible repeat (first|apply kN|apply kD|apply kA)); exact BK545.out⟩, ⟨qB⟩⟩
 case round =>
  clear H'
  try clear c1
  try clear p2
  try clear c4
  try clear hcz5_0
  try clear hcz5_1
  try clear hfz5_0
  try clear hfz5_1
  obtain ⟨x4_1, x5_1, x546000_1, x546001_1, rfl, rfl, HA, HK1, BK544, BK545, HB⟩ := hrel
  cases gk with
  | zero => exact absurd HA.out (by simp [spec_l03Hermite.l0])
  | succ k1 =>
   have H := HA.out
   clear HA
   simp only [spec_l03Hermite.l0] at H
   by_cases c6 : x5_1 < (l0.length : Int)
   ·rw [if_pos c6] at H
    have c6b0 : decide (x5_1 < (l0.length : Int)) = true := decide_eq_true c6
    clear c6
    by_cases c7 : 0 ≤ x5_1
    ·rw [if_pos c7] at H
     have c7b0 : decide (0 ≤ x5_1) = true := decide_eq_true c7
     clear c7
     have H' := aM H
     clear H
     have p546 : 0 ≤ (x5_1 : Int) := of_decide_eq_true (by first | (with_reducible assumption) | assumption)
     have q546 : x5_1 < (l0.length : Int) := of_decide_eq_true (by first | (with_reducible assumption) | assumption)
     obtain ⟨ad546, e546, hx546_0, hx546_1⟩ := at_T47 HR0.out x5_1 p546 q546
     cases e546
     replace hx546_0 := (HB.out.cell (World.block_lt_of_cell? w _ hx546_0)).trans hx546_0
     replace hx546_1 := (HB.out.cell (World.block_lt_of_cell? w _ hx546_1)).trans hx546_1
     replace p546 := eq_true p546
     replace q546 := eq_true q546
     go_wp2_with (first | ((with_reducible refine gD (N:=6) rfl ?_); refine bE 6 #[.int .i64 0, .int .i64 0] 47 ?_; intro gb547 hg w8 hbox hb; have BK547 := aM hbox; have GW547 := bZ hg HB; have GE547 := bZ hg HB; have NB544_547 := nL hg BK544; have NB547_544 := nG hg BK544; have NB545_547 := nL hg BK545; have NB547_545 := nG hg BK545; replace BK544 := bB BK544 hb; replace BK545 := bB BK545 hb; replace HB := bS HB hb; clear hb hbox hg; have hnb9 := NB547_544.out; have hnc9 := NB544_547.out; have hnb10 := NB547_545.out; have hnc10 := NB545_547.out; obtain ⟨hcz11_0, hcz11_1⟩ := z2 BK547; obtain ⟨hfz11_0, hfz11_1⟩ := y2 BK547))
     go_loopg [] k1 (fun kq w' => ∃ (x546000_2 : Int) (x546001_2 : Int) (x548000_2 : Int) (x548001_2 : Int), Aside0 (spec_l03Hermite.l1 kq l0 x4_1 x5_1 x546000_2 x546001_2 x548000_2 x548001_2 = some (r1, r2, r3)) ∧ Aside0 (kq ≤ k1) ∧ Aside0 (w'.heap[gb544]? = some (.cells #[.int .i64 0, .int .i64 0, .int .i64 0] 33 (0, 0))) ∧ Aside0 (w'.heap[gb545]? = some (.cells #[.int .i64 x546000_2, .int .i64 x546001_2] 47 (0, 0))) ∧ Aside0 (w'.heap[gb547]? = some (.cells #[.int .i64 x548000_2, .int .i64 x548001_2] 47 (0, 0))) ∧ Aside0 (Below w.heap.size w w'))
     case atStart => exact ⟨(x546000_1), (x546001_1), ((rd_T47 l0 x5_1).f0), ((rd_T47 l0 x5_1).f1), H', ⟨Nat.le_refl _⟩, ⟨by (repeat (first|(with_reducible first|apply kN|apply kD|apply kA)|refine blk_far ?_ NB544_547.out _)); exact BK544.out⟩, ⟨by (repeat (first|(with_reducible first|apply kN|apply kD|apply kA)|refine blk_far ?_ NB545_547.out _)); exact BK545.out⟩, ⟨by (with_reducible repeat (first|apply kN|apply kD|apply kA)); refine blk_put (cs := #[.int .i64 ((rd_T47 l0 x5_1).f0), .int .i64 0]) ?_ 1 _ rfl; (with_reducible repeat (first|apply kN|apply kD|apply kA)); refine blk_put (cs := #[.int .i64 0, .int .i64 0]) ?_ 0 _ rfl; (with_reducible repeat (first|apply kN|apply kD|apply kA)); exact BK547.out⟩, ⟨qB⟩⟩
     case round =>
      clear H'
      try clear c1
      try clear p2
      try clear c4
      try clear p5
      try clear q5
      try clear hx5
      try clear c6
      try clear c6b0
      try clear c7
      try clear c7b0
      try clear c9
      try clear c10
      try clear hcz11_0
      try clear hcz11_1
      try clear hcz5_0
      try clear hcz5_1
      try clear hfz11_0
      try clear hfz11_1
      try clear hfz5_0
      try clear hfz5_1
      try clear hx546_0
      try clear hx546_1
      try clear p2
      try clear p546
      try clear q546
      obtain ⟨x546000_2, x546001_2, x548000_2, x548001_2, HA, HK2, BK544, BK545, BK547, HB⟩ := hrel
      cases gk with
      | zero => exact absurd HA.out (by simp [spec_l03Hermite.l1])
      | succ k2 =>
       have H := HA.out
       clear HA
       simp only [spec_l03Hermite.l1] at H
       by_cases c12 : x548001_2 = 0
       ·rw [if_pos c12] at H
        have c12b0 : (x548001_2 == 0) = true := beq_iff_eq.mpr c12
        have c12b1 : (x548001_2 != 0) = false := bne_eq_false_iff_eq.mpr c12
        clear c12
        obtain ⟨t549, A13, H⟩ := oB H
        try dsimp only at H
        by_cases c14 : t549 > 0
        ·rw [if_pos c14] at H
         have c14b0 : decide (0 < t549) = true := decide_eq_true c14
         clear c14
         obtain ⟨t550, A15, H⟩ := oB H
         try dsimp only at H
         have H' := aM H
         clear H
         have hnb16 := NB547_544.out
         have hnc16 := NB544_547.out
         have hnb17 := NB547_545.out
         have hnc17 := NB545_547.out
         obtain ⟨hcz18_0, hcz18_1⟩ := z2 BK547
         obtain ⟨hfz18_0, hfz18_1⟩ := y2 BK547
         go_wp2_with (first | ((with_reducible refine gC (f:=157) rfl ?_); refine gM 48 (spec_l01Divisor.calls k2 x4_1 x548000_2 t549 _ A13.out) Try.func157 ?_; rintro w19 hb; replace BK544 := bB BK544 hb; replace BK545 := bB BK545 hb; replace BK547 := bB BK547 hb; replace HB := bS HB hb; (try clear hb); have hnb20 := NB545_544.out; have hnc20 := NB544_545.out; obtain ⟨hcz21_0, hcz21_1⟩ := z2 BK545; obtain ⟨hfz21_0, hfz21_1⟩ := y2 BK545) | ((with_reducible refine gC (f:=158) rfl ?_); refine gM 54 (spec_l01Mod.calls x546000_2 t549 t550 _ A15.out) Try.func158 ?_; rintro w' ⟨⟨nd, rfl⟩⟩; (try (rw [drewN_self w19]; generalize hq_ : World.drewN w19 _ = w19; have n0_ : Aside0 (w19.heap[gb544]? = some (.cells #[.int .i64 0, .int .i64 0, .int .i64 0] 33 (0, 0))) := ⟨by rw [← hq_]; exact (bk BK544)⟩; have n1_ : Aside0 (w19.heap[gb545]? = some (.cells #[.int .i64 x546000_2, .int .i64 x546001_2] 47 (0, 0))) := ⟨by rw [← hq_]; exact (bk BK545)⟩; have n2_ : Aside0 (w19.heap[gb547]? = some (.cells #[.int .i64 x548000_2, .int .i64 x548001_2] 47 (0, 0))) := ⟨by rw [← hq_]; exact (bk BK547)⟩; have n3_ : Aside0 (Below w.heap.size w w19) := ⟨by rw [← hq_]; exact qB⟩; clear BK544 BK545 BK547 HB hq_; have BK544 := n0_; have BK545 := n1_; have BK547 := n2_; have HB := n3_; clear n0_ n1_ n2_ n3_; obtain ⟨hcz18_0, hcz18_1⟩ := z2 BK547; obtain ⟨hfz18_0, hfz18_1⟩ := y2 BK547; obtain ⟨hcz21_0, hcz21_1⟩ := z2 BK545; obtain ⟨hfz21_0, hfz21_1⟩ := y2 BK545))))
         go_roundg k2
         case measure => have := HK1.out; have := HK2.out; omega
         case rel => exact ⟨(t549), (wrap64 (x5_1 + 1)), (t550), (x546001_2), (by first | rfl | (simp; done) | (simp [*]; done)), (by first | rfl | (simp; done) | (simp [*]; done)), H', ⟨by have := HK1.out; have := HK2.out; omega⟩, ⟨by (repeat (first|(with_reducible first|apply kN|apply kD|apply kA)|refine blk_far ?_ NB544_545.out _)); exact BK544.out⟩, ⟨by (with_reducible repeat (first|apply kN|apply kD|apply kA)); refine blk_put (cs := #[.int .i64 x546000_2, .int .i64 x546001_2]) ?_ 0 _ rfl; (with_reducible repeat (first|apply kN|apply kD|apply kA)); exact BK545.out⟩, ⟨qB⟩⟩
        ·rw [if_neg c14] at H
         have c14b0 : decide (0 < t549) = false := decide_eq_false c14
         clear c14
         have H' := aM H
         clear H
         have hnb22 := NB547_544.out
         have hnc22 := NB544_547.out
         have hnb23 := NB547_545.out
         have hnc23 := NB545_547.out
         obtain ⟨hcz24_0, hcz24_1⟩ := z2 BK547
         obtain ⟨hfz24_0, hfz24_1⟩ := y2 BK547
         go_wp2_with (first | ((with_reducible refine gC (f:=157) rfl ?_); refine gM 48 (spec_l01Divisor.calls k2 x4_1 x548000_2 t549 _ A13.out) Try.func157 ?_; rintro w25 hb; replace BK544 := bB BK544 hb; replace BK545 := bB BK545 hb; replace BK547 := bB BK547 hb; replace HB := bS HB hb; (try clear hb)))
         go_roundg k2
         case measure => have := HK1.out; have := HK2.out; omega
         case rel => exact ⟨(t549), (wrap64 (x5_1 + 1)), (x546000_2), (x546001_2), (by first | rfl | (simp; done) | (simp [*]; done)), (by first | rfl | (simp; done) | (simp [*]; done)), H', ⟨by have := HK1.out; have := HK2.out; omega⟩, ⟨bk BK544⟩, ⟨bk BK545⟩, ⟨qB⟩⟩
       ·rw [if_neg c12] at H
        have c12b0 : (x548001_2 == 0) = false := beq_eq_false_iff_ne.mpr c12
        have c12b1 : (x548001_2 != 0) = true := bne_iff_ne.mpr c12
        have H' := aM H
        clear H
        have hnb26 := NB547_544.out
        have hnc26 := NB544_547.out
        have hnb27 := NB547_545.out
        have hnc27 := NB545_547.out
        obtain ⟨hcz28_0, hcz28_1⟩ := z2 BK547
        obtain ⟨hfz28_0, hfz28_1⟩ := y2 BK547
        have hnb29 := NB545_544.out
        have hnc29 := NB544_545.out
        obtain ⟨hcz30_0, hcz30_1⟩ := z2 BK545
        obtain ⟨hfz30_0, hfz30_1⟩ := y2 BK545
        go_wp2_with (first | ((with_reducible refine gD (N:=8) rfl ?_); refine bE 8 #[.int .i64 0, .int .i64 0] 47 ?_; intro gb548 hg w31 hbox hb; have BK548 := aM hbox; have GW548 := bZ hg HB; have GE548 := bZ hg HB; have NB544_548 := nL hg BK544; have NB548_544 := nG hg BK544; have NB545_548 := nL hg BK545; have NB548_545 := nG hg BK545; have NB547_548 := nL hg BK547; have NB548_547 := nG hg BK547; replace BK544 := bB BK544 hb; replace BK545 := bB BK545 hb; replace BK547 := bB BK547 hb; replace HB := bS HB hb; clear hb hbox hg; have hnb32 := NB548_544.out; have hnc32 := NB544_548.out; have hnb33 := NB548_545.out; have hnc33 := NB545_548.out; have hnb34 := NB548_547.out; have hnc34 := NB547_548.out; obtain ⟨hcz35_0, hcz35_1⟩ := z2 BK548; obtain ⟨hfz35_0, hfz35_1⟩ := y2 BK548; obtain ⟨hcz36_0, hcz36_1⟩ := z2 BK547; obtain ⟨hfz36_0, hfz36_1⟩ := y2 BK547; obtain ⟨hcz37_0, hcz37_1⟩ := z2 BK545; obtain ⟨hfz37_0, hfz37_1⟩ := y2 BK545))
        go_roundg k2
        case measure => have := HK1.out; have := HK2.out; omega
        case rel => exact ⟨(x548000_2), (x548001_2), (wrap64 (x546000_2 - (wrap64 ((wrap64 (Int.tdiv x546001_2 x548001_2)) * x548000_2)))), (wrap64 (x546001_2 - (wrap64 ((wrap64 (Int.tdiv x546001_2 x548001_2)) * x548001_2)))), H', ⟨by have := HK1.out; have := HK2.out; omega⟩, ⟨by (repeat (first|(with_reducible first|apply kN|apply kD|apply kA)|refine blk_far ?_ NB544_547.out _|refine blk_far ?_ NB544_545.out _|refine blk_far ?_ NB544_548.out _)); exact BK544.out⟩, ⟨by (repeat (first|(with_reducible first|apply kN|apply kD|apply kA)|refine blk_far ?_ NB545_547.out _)); refine blk_put (cs := #[.int .i64 x548000_2, .int .i64 x546001_2]) ?_ 1 _ rfl; (with_reducible repeat (first|apply kN|apply kD|apply kA)); refine blk_put (cs := #[.int .i64 x546000_2, .int .i64 x546001_2]) ?_ 0 _ rfl; (repeat (first|(with_reducible first|apply kN|apply kD|apply kA)|refine blk_far ?_ NB545_548.out _)); exact BK545.out⟩, ⟨by (with_reducible repeat (first|apply kN|apply kD|apply kA)); refine blk_put (cs := #[.int .i64 (wrap64 (x546000_2 - (wrap64 ((wrap64 (Int.tdiv x546001_2 x548001_2)) * x548000_2)))), .int .i64 x548001_2]) ?_ 1 _ rfl; (with_reducible repeat (first|apply kN|apply kD|apply kA)); refine blk_put (cs := #[.int .i64 x548000_2, .int .i64 x548001_2]) ?_ 0 _ rfl; (repeat (first|(with_reducible first|apply kN|apply kD|apply kA)|refine blk_far ?_ NB547_545.out _|refine blk_far ?_ NB547_548.out _)); exact BK547.out⟩, ⟨qB⟩⟩
    ·rw [if_neg c7] at H
     exact absurd H (by simp)
   ·rw [if_neg c6] at H
    have c6b0 : decide (x5_1 < (l0.length : Int)) = false := decide_eq_false c6
    clear c6
    by_cases c38 : x546001_1 < 0
    ·rw [if_pos c38] at H
     have c38b0 : decide (x546001_1 < 0) = true := decide_eq_true c38
     clear c38
     obtain ⟨⟨t551, t552⟩, A39, H⟩ := oB H
     try dsimp only at H
     by_cases c40 : x4_1 > 0
     ·rw [if_pos c40] at H
      have c40b0 : decide (0 < x4_1) = true := decide_eq_true c40
      clear c40
      obtain ⟨t553, A41, H⟩ := oB H
      try dsimp only at H
      simp only [Option.some.injEq, Prod.mk.injEq] at H
      obtain ⟨rfl, rfl, rfl⟩ := H
      have hnb42 := NB545_544.out
      have hnc42 := NB544_545.out
      obtain ⟨hcz43_0, hcz43_1⟩ := z2 BK545
      obtain ⟨hfz43_0, hfz43_1⟩ := y2 BK545
      go_wp2_with (first | ((with_reducible refine gC (f:=145) rfl ?_); refine gM 60 (spec_l01Scale.calls x546000_1 x546001_1 (-1) t551 t552 _ A39.out) Try.func145 ?_; rintro w44 hb; replace BK544 := bB BK544 hb; replace BK545 := bB BK545 hb; replace HB := bS HB hb; (try clear hb); obtain ⟨hcz45_0, hcz45_1⟩ := z2 BK545; obtain ⟨hfz45_0, hfz45_1⟩ := y2 BK545) | ((with_reducible refine gC (f:=158) rfl ?_); refine gM 66 (spec_l01Mod.calls t551 x4_1 t553 _ A41.out) Try.func158 ?_; rintro w' ⟨⟨nd, rfl⟩⟩; obtain ⟨hcz46_0, hcz46_1, hcz46_2⟩ := z3 BK544; obtain ⟨hfz46_0, hfz46_1, hfz46_2⟩ := y3 BK544))
      refine bodyPost_ret (results_cell_row rfl _ _ gb544 33 #[.int .i64 x4_1, .int .i64 t553, .int .i64 t552] (0, 0) _ rfl (by (with_reducible repeat (first|apply kN|apply kD|apply kA)); refine blk_put (cs := #[.int .i64 x4_1, .int .i64 t553, .int .i64 0]) ?_ 2 _ rfl; (with_reducible repeat (first|apply kN|apply kD|apply kA)); refine blk_put (cs := #[.int .i64 x4_1, .int .i64 0, .int .i64 0]) ?_ 1 _ rfl; (with_reducible repeat (first|apply kN|apply kD|apply kA)); refine blk_put (cs := #[.int .i64 0, .int .i64 0, .int .i64 0]) ?_ 0 _ rfl; (repeat (first|(with_reducible first|apply kN|apply kD|apply kA)|refine blk_far ?_ NB544_545.out _)); exact BK544.out) Try.underlying33 rfl (by kernel_rfl)) rfl ?_
      exact ⟨qR, qB⟩
     ·rw [if_neg c40] at H
      have c40b0 : decide (0 < x4_1) = false := decide_eq_false c40
      clear c40
      simp only [Option.some.injEq, Prod.mk.injEq] at H
      obtain ⟨rfl, rfl, rfl⟩ := H
      have hnb47 := NB545_544.out
      have hnc47 := NB544_545.out
      obtain ⟨hcz48_0, hcz48_1⟩ := z2 BK545
      obtain ⟨hfz48_0, hfz48_1⟩ := y2 BK545
      go_wp2_with (first | ((with_reducible refine gC (f:=145) rfl ?_); refine gM 60 (spec_l01Scale.calls x546000_1 x546001_1 (-1) t551 t552 _ A39.out) Try.func145 ?_; rintro w49 hb; replace BK544 := bB BK544 hb; replace BK545 := bB BK545 hb; replace HB := bS HB hb; (try clear hb); obtain ⟨hcz50_0, hcz50_1⟩ := z2 BK545; obtain ⟨hfz50_0, hfz50_1⟩ := y2 BK545; obtain ⟨hcz51_0, hcz51_1, hcz51_2⟩ := z3 BK544; obtain ⟨hfz51_0, hfz51_1, hfz51_2⟩ := y3 BK544))
      refine bodyPost_ret (results_cell_row rfl _ _ gb544 33 #[.int .i64 x4_1, .int .i64 t551, .int .i64 t552] (0, 0) _ rfl (by (with_reducible repeat (first|apply kN|apply kD|apply kA)); refine blk_put (cs := #[.int .i64 x4_1, .int .i64 t551, .int .i64 0]) ?_ 2 _ rfl; (with_reducible repeat (first|apply kN|apply kD|apply kA)); refine blk_put (cs := #[.int .i64 x4_1, .int .i64 0, .int .i64 0]) ?_ 1 _ rfl; (with_reducible repeat (first|apply kN|apply kD|apply kA)); refine blk_put (cs := #[.int .i64 0, .int .i64 0, .int .i64 0]) ?_ 0 _ rfl; (repeat (first|(with_reducible first|apply kN|apply kD|apply kA)|refine blk_far ?_ NB544_545.out _)); exact BK544.out) Try.underlying33 rfl (by kernel_rfl)) rfl ?_
      exact ⟨qR, qB⟩
    ·rw [if_neg c38] at H
     have c38b0 : decide (x546001_1 < 0) = false := decide_eq_false c38
     clear c38
     by_cases c52 : x4_1 > 0
     ·rw [if_pos c52] at H
      have c52b0 : decide (0 < x4_1) = true := decide_eq_true c52
      clear c52
      obtain ⟨t554, A53, H⟩ := oB H
      try dsimp only at H
      simp only [Option.some.injEq, Prod.mk.injEq] at H
      obtain ⟨rfl, rfl, rfl⟩ := H
      have hnb54 := NB545_544.out
      have hnc54 := NB544_545.out
      obtain ⟨hcz55_0, hcz55_1⟩ := z2 BK545
      obtain ⟨hfz55_0, hfz55_1⟩ := y2 BK545
      go_wp2_with (first | ((with_reducible refine gC (f:=158) rfl ?_); refine gM 66 (spec_l01Mod.calls x546000_1 x4_1 t554 _ A53.out) Try.func158 ?_; rintro w' ⟨⟨nd, rfl⟩⟩; (try (rw [drewN_self wr]; generalize hq_ : World.drewN wr _ = wr; have n0_ : Aside0 (wr.heap[gb544]? = some (.cells #[.int .i64 0, .int .i64 0, .int .i64 0] 33 (0, 0))) := ⟨by rw [← hq_]; exact (bk BK544)⟩; have n1_ : Aside0 (wr.heap[gb545]? = some (.cells #[.int .i64 x546000_1, .int .i64 x546001_1] 47 (0, 0))) := ⟨by rw [← hq_]; exact (bk BK545)⟩; have n2_ : Aside0 (Below w.heap.size w wr) := ⟨by rw [← hq_]; exact qB⟩; clear BK544 BK545 HB hq_; have BK544 := n0_; have BK545 := n1_; have HB := n2_; clear n0_ n1_ n2_; obtain ⟨hcz55_0, hcz55_1⟩ := z2 BK545; obtain ⟨hfz55_0, hfz55_1⟩ := y2 BK545)); obtain ⟨hcz56_0, hcz56_1, hcz56_2⟩ := z3 BK544; obtain ⟨hfz56_0, hfz56_1, hfz56_2⟩ := y3 BK544))
      refine bodyPost_ret (results_cell_row rfl _ _ gb544 33 #[.int .i64 x4_1, .int .i64 t554, .int .i64 x546001_1] (0, 0) _ rfl (by (with_reducible repeat (first|apply kN|apply kD|apply kA)); refine blk_put (cs := #[.int .i64 x4_1, .int .i64 t554, .int .i64 0]) ?_ 2 _ rfl; (with_reducible repeat (first|apply kN|apply kD|apply kA)); refine blk_put (cs := #[.int .i64 x4_1, .int .i64 0, .int .i64 0]) ?_ 1 _ rfl; (with_reducible repeat (first|apply kN|apply kD|apply kA)); refine blk_put (cs := #[.int .i64 0, .int .i64 0, .int .i64 0]) ?_ 0 _ rfl; (repeat (first|(with_reducible first|apply kN|apply kD|apply kA)|refine blk_far ?_ NB544_545.out _)); exact BK544.out) Try.underlying33 rfl (by kernel_rfl)) rfl ?_
      exact ⟨qR, qB⟩
     ·rw [if_neg c52] at H
      have c52b0 : decide (0 < x4_1) = false := decide_eq_false c52
      clear c52
      simp only [Option.some.injEq, Prod.mk.injEq] at H
      obtain ⟨rfl, rfl, rfl⟩ := H
      have hnb57 := NB545_544.out
      have hnc57 := NB544_545.out
      obtain ⟨hcz58_0, hcz58_1⟩ := z2 BK545
      obtain ⟨hfz58_0, hfz58_1⟩ := y2 BK545
      obtain ⟨hcz59_0, hcz59_1, hcz59_2⟩ := z3 BK544
      obtain ⟨hfz59_0, hfz59_1, hfz59_2⟩ := y3 BK544
      go_wp2
      refine bodyPost_ret (results_cell_row rfl _ _ gb544 33 #[.int .i64 x4_1, .int .i64 x546000_1, .int .i64 x546001_1] (0, 0) _ rfl (by (with_reducible repeat (first|apply kN|apply kD|apply kA)); refine blk_put (cs := #[.int .i64 x4_1, .int .i64 x546000_1, .int .i64 0]) ?_ 2 _ rfl; (with_reducible repeat (first|apply kN|apply kD|apply kA)); refine blk_put (cs := #[.int .i64 x4_1, .int .i64 0, .int .i64 0]) ?_ 1 _ rfl; (with_reducible repeat (first|apply kN|apply kD|apply kA)); refine blk_put (cs := #[.int .i64 0, .int .i64 0, .int .i64 0]) ?_ 0 _ rfl; (with_reducible repeat (first|apply kN|apply kD|apply kA)); exact BK544.out) Try.underlying33 rfl (by kernel_rfl)) rfl ?_
      exact ⟨qR, qB⟩

def spec_l04Image.f (k : Nat) (a0_0 : Int) (a0_1 : Int) (a0_2 : Int) (a0_3 : Int) (a1_0 : Int) (a1_1 : Int) (a1_2 : Int) : Option (Int × Int × Int) := (spec_l03Basis.f a1_0 a1_1 a1_2).bind fun t558 => (if 0 < (t558.length : Int) then ((spec_l02Apply.f a0_0 a0_1 a0_2 a0_3 ((rd_T47 t558 0).f0) ((rd_T47 t558 0).f1)).bind fun bt562 => (if 1 < (t558.length : Int) then ((spec_l02Apply.f a0_0 a0_1 a0_2 a0_3 ((rd_T47 t558 1).f0) ((rd_T47 t558 1).f1)).bind fun bt565 => ((spec_l03Hermite.f k (([(⟨bt562.1, bt562.2⟩ : S47), (⟨bt565.1, bt565.2⟩ : S47)] : List (S47)))).bind fun bt570 => (some (bt570.1, bt570.2.1, bt570.2.2)))) else (none))) else (none))
def spec_l04Image.T2 : Bool × List (List Nat × List Nat) := (true, [([], []), ([], []), ([1], [1]), ([2], [2]), ([0, 3], [0, 3]), ([], []), ([], []), ([6], [6]), ([7], [7]), ([5, 8, 4], [5, 8]), ([4, 9], [4, 9]), ([10, 9], [10]), ([11, 11, 0, 1, 2, 3, 4, 5, 6, 7, 8, 9, 10, 11], [11])])
def spec_l04Image.B2 : List Nat := [0, 0, 2, 6, 15, 0, 0, 64, 192, 511, 1023, 2047, 4095]
theorem spec_l04Image.tab2 : rtab .any (opsOf Try.f121 2) = spec_l04Image.T2 := by kernel_rfl
theorem spec_l04Image.bits2 : waitsOk spec_l04Image.T2.2 spec_l04Image.B2 = true := by kernel_rfl
set_option maxHeartbeats 8000000 in
set_option maxRecDepth 100000 in
theorem spec_l04Image.calls (k : Nat) (a0_0 : Int) (a0_1 : Int) (a0_2 : Int) (a0_3 : Int) (a1_0 : Int) (a1_1 : Int) (a1_2 : Int) (r1 : Int) (r2 : Int) (r3 : Int) (w : World) (h : spec_l04Image.f k a0_0 a0_1 a0_2 a0_3 a1_0 a1_1 a1_2 = some (r1, r2, r3)) :
  Calls Try.prog 121 #[.agg #[.int .i64 a0_0, .int .i64 a0_1, .int .i64 a0_2, .int .i64 a0_3], .agg #[.int .i64 a1_0, .int .i64 a1_1, .int .i64 a1_2]] w fun e w' => e = .returned (.agg #[.int .i64 r1, .int .i64 r2, .int .i64 r3]) ∧ Below w.heap.size w w' := by
 have hu51 := Try.underlying51
 have hu33 := Try.underlying33
 have hu47 := Try.underlying47
 have HB := aM (Below.refl w.heap.size w)
 have H : ((spec_l03Basis.f a1_0 a1_1 a1_2).bind fun t558 => (if 0 < (t558.length : Int) then ((spec_l02Apply.f a0_0 a0_1 a0_2 a0_3 ((rd_T47 t558 0).f0) ((rd_T47 t558 0).f1)).bind fun bt562 => (if 1 < (t558.length : Int) then ((spec_l02Apply.f a0_0 a0_1 a0_2 a0_3 ((rd_T47 t558 1).f0) ((rd_T47 t558 1).f1)).bind fun bt565 => ((spec_l03Hermite.f k (([(⟨bt562.1, bt562.2⟩ : S47), (⟨bt565.1, bt565.2⟩ : S47)] : List (S47)))).bind fun bt570 => (some (bt570.1, bt570.2.1, bt570.2.2)))) else (none))) else (none))) = some (r1, r2, r3) := h
 clear h
 obtain ⟨t558, A3, H⟩ := oB H
 try dsimp only at H
 by_cases c4 : 0 < (t558.length : Int)
 ·rw [if_pos c4] at H
  have c4b0 : decide (0 < (t558.length : Int)) = true := decide_eq_true c4
  have c4b1 : decide (0 < t558.length) = true := decide_eq_true (by omega)
  clear c4
  obtain ⟨⟨t562, t563⟩, A5, H⟩ := oB H
  try dsimp only at H
  by_cases c6 : 1 < (t558.length : Int)
  ·rw [if_pos c6] at H
   have c6b0 : decide (1 < (t558.length : Int)) = true := decide_eq_true c6
   have c6b1 : decide (1 < t558.length) = true := decide_eq_true (by omega)
   clear c6
   obtain ⟨⟨t565, t566⟩, A7, H⟩ := oB H
   try dsimp only at H
   obtain ⟨y567, hy567⟩ : ∃ y_ : List (S47), y_ = (([(⟨t562, t563⟩ : S47), (⟨t565, t566⟩ : S47)] : List (S47))) := ⟨_, rfl⟩
   replace H : ((spec_l03Hermite.f k y567).bind fun bt570 => (some (bt570.1, bt570.2.1, bt570.2.2))) = some (r1, r2, r3) := by first | (rw [hy567]; with_reducible exact H) | (have H2_ := (Option.bind_some _ _).symm.trans H; rw [hy567]; with_reducible exact H2_) | (have H2_ := (Option.bind_some _ _).symm.trans H; with_reducible exact H2_) | with_reducible exact H | (rw [hy567]; exact H) | exact H
   have Ny567 := aM hy567
   clear hy567
   obtain ⟨⟨t570, t571, t572⟩, A8, H⟩ := oB H
   try dsimp only at H
   simp only [Option.some.injEq, Prod.mk.injEq] at H
   obtain ⟨rfl, rfl, rfl⟩ := H
   go_enter Try.func121, Try.ntmps121
   try go_wp2_with (first | ((with_reducible refine gD (N:=2) rfl ?_); refine bE 2 #[.int .i64 a0_0, .int .i64 a0_1, .int .i64 a0_2, .int .i64 a0_3] 51 ?_; intro gb555 hg w9 hbox hb; have BK555 := aM hbox; have GW555 := bZ hg HB; have GE555 := bZ hg HB; replace HB := bS HB hb; clear hb hbox hg) | ((with_reducible refine gD (N:=3) rfl ?_); refine bE 3 #[.int .i64 a1_0, .int .i64 a1_1, .int .i64 a1_2] 33 ?_; intro gb556 hg w10 hbox hb; have BK556 := aM hbox; have GW556 := bZ hg HB; have GE556 := bZ hg HB; have NB555_556 := nL hg BK555; have NB556_555 := nG hg BK555; replace BK555 := bB BK555 hb; replace HB := bS HB hb; clear hb hbox hg) | ((with_reducible refine gD (N:=4) rfl ?_); refine bE 4 #[.int .i64 0, .int .i64 0, .int .i64 0] 33 ?_; intro gb557 hg w11 hbox hb; have BK557 := aM hbox; have GW557 := bZ hg HB; have GE557 := bZ hg HB; have NB555_557 := nL hg BK555; have NB557_555 := nG hg BK555; have NB556_557 := nL hg BK556; have NB557_556 := nG hg BK556; replace BK555 := bB BK555 hb; replace BK556 := bB BK556 hb; replace HB := bS HB hb; clear hb hbox hg; have hnb12 := NB556_555.out; have hnc12 := NB555_556.out; have hnb13 := NB556_557.out; have hnc13 := NB557_556.out; obtain ⟨hcz14_0, hcz14_1, hcz14_2⟩ := z3 BK556; obtain ⟨hfz14_0, hfz14_1, hfz14_2⟩ := y3 BK556) | ((with_reducible refine gate_callee (f := 149) rfl ?_); refine goesL_ (some 7) rfl rfl Try.func149 (by kernel_rfl) rfl #[.agg #[.int .i64 a1_0, .int .i64 a1_1, .int .i64 a1_2]] rfl (by first|rfl|(simp only [List.map_toArray, List.map_cons, List.map_nil]; try rfl)) ?_; (with_reducible refine (spec_l03Basis.calls a1_0 a1_1 a1_2 t558 _ A3.out).mono ?_); rintro e w15 ⟨v559, rfl, ho0, hb⟩; refine ⟨_, rfl, ?_⟩; have HO560 := aM (Kd.R_lower ho0 (below_size qB)); replace BK555 := bB BK555 hb; replace BK556 := bB BK556 hb; replace BK557 := bB BK557 hb; replace HB := bS HB hb; (try clear hb); (try clear ho0)))
   replace HO560 := aM (Kd.R_drew HO560.out)
   replace BK555 := aM (blk_drew BK555.out)
   replace BK556 := aM (blk_drew BK556.out)
   replace BK557 := aM (blk_drew BK557.out)
   replace HB := aM (below_drew1 HB.out)
   obtain ⟨Ao17, co17, eo17⟩ := Kd.R_slice HO560.out
   (first | subst eo17 | (injection eo17 with f1_ f2_ f3_; have f4_ := f1_.symm; have f5_ := f3_.symm; clear f1_ f2_ f3_; subst f4_; subst f5_))
   have p561 : 0 ≤ (0 : Int) := (by omega)
   have q561 : 0 < (t558.length : Int) := of_decide_eq_true (by first | (with_reducible assumption) | assumption)
   obtain ⟨ad561, e561, hx561_0, hx561_1⟩ := at_T47 (Kd.R_reads' HO560.out).2.2 0 p561 q561
   cases e561
   have qi561 : (0 < t558.length) = True := eq_true (by omega)
   (try rw [show ((0 : Int)).toNat = 0 from rfl] at hx561_0)
   (try rw [show 0 * 2 = 0 from rfl] at hx561_0)
   (try rw [Addr.add_zero'] at hx561_0)
   (try rw [show ((0 : Int)).toNat = 0 from rfl] at hx561_1)
   (try rw [show 0 * 2 = 0 from rfl] at hx561_1)
   (try rw [Addr.add_zero'] at hx561_1)
   replace p561 := eq_true p561
   replace q561 := eq_true q561
   have p564 : 0 ≤ (1 : Int) := (by omega)
   have q564 : 1 < (t558.length : Int) := of_decide_eq_true (by first | (with_reducible assumption) | assumption)
   obtain ⟨ad564, e564, hx564_0, hx564_1⟩ := at_T47 (Kd.R_reads' HO560.out).2.2 1 p564 q564
   obtain rfl : ad561 = ad564 := (by injection e564)
   (try simp only [show (1 : Int).toNat = 1 from rfl, Nat.reduceMul, Nat.reduceEqDiff, Go.Addr.add, ↓reduceIte] at hx564_0)
   (try simp only [show (1 : Int).toNat = 1 from rfl, Nat.reduceMul, Nat.reduceEqDiff, Go.Addr.add, ↓reduceIte] at hx564_1)
   have qi564 : (1 < t558.length) = True := eq_true (by omega)
   (try rw [show ((1 : Int)).toNat = 1 from rfl] at hx564_0)
   (try rw [show 1 * 2 = 2 from rfl] at hx564_0)
   (try rw [show ((1 : Int)).toNat = 1 from rfl] at hx564_1)
   (try rw [show 1 * 2 = 2 from rfl] at hx564_1)
   replace p564 := eq_true p564
   replace q564 := eq_true q564
   refine sT (fun w' => w'.cell? ⟨gb555, 0, none⟩ = some (.int .i64 a0_0) ∧ w'.cell? ⟨gb555, 1, none⟩ = some (.int .i64 a0_1) ∧ w'.cell? ⟨gb555, 2, none⟩ = some (.int .i64 a0_2) ∧ w'.cell? ⟨gb555, 3, none⟩ = some (.int .i64 a0_3) ∧ w'.cell? ad561 = some (.int .i64 ((rd_T47 t558 0).f0)) ∧ w'.cell? ⟨ad561.block, ad561.off + 1, none⟩ = some (.int .i64 ((rd_T47 t558 0).f1)) ∧ w'.cell? ⟨ad561.block, ad561.off + 2, none⟩ = some (.int .i64 ((rd_T47 t558 1).f0)) ∧ w'.cell? ⟨ad561.block, ad561.off + 2 + 1, none⟩ = some (.int .i64 ((rd_T47 t558 1).f1))) [] ⟨cB BK555, cB BK555, cB BK555, cB BK555, hx561_0, hx561_1, hx564_0, hx564_1⟩ (fun hHeld => ?_); refine with_tabW spec_l04Image.tab2 spec_l04Image.bits2 (fun HT_ HW_ => ?_)
   generalize w15.drew = w16 at HO560 BK555 BK556 BK557 HB hx561_0 hx561_1 hx564_0 hx564_1 hHeld ⊢
   refine pU 1 (some 9) 2 HT_ ?_
   refine pU 2 (some 10) 6 HT_ ?_
   refine pU 6 (some 14) 70 HT_ ?_
   refine pU 7 (some 15) 198 HT_ ?_
   refine tU 0 (some 8) 199 HT_ HW_ hHeld ?_
   refine tU 3 (some 11) 207 HT_ HW_ hHeld ?_
   refine tU 5 (some 13) 239 HT_ HW_ hHeld ?_
   refine tU 8 (some 16) 495 HT_ HW_ hHeld ?_
   refine oU 4 (some 12) 511 HT_ (fun K hK => ?_)
   refine gO Try.func100 #[.agg #[.int .i64 a0_0, .int .i64 a0_1, .int .i64 a0_2, .int .i64 a0_3], .agg #[.int .i64 ((rd_T47 t558 0).f0), .int .i64 ((rd_T47 t558 0).f1)]] ?_
   with_reducible refine (spec_l02Apply.calls a0_0 a0_1 a0_2 a0_3 ((rd_T47 t558 0).f0) ((rd_T47 t558 0).f1) t562 t563 _ A5.out).mono ?_
   rintro e w18 ⟨rfl, hb⟩
   have HS4_ := (hb.cell (World.block_lt_of_cell? _ _ (hHeld.2.2.2.2.1))).trans (hHeld.2.2.2.2.1)
   have HS5_ := (hb.cell (World.block_lt_of_cell? _ _ (hHeld.2.2.2.2.2.1))).trans (hHeld.2.2.2.2.2.1)
   have HS6_ := (hb.cell (World.block_lt_of_cell? _ _ (hHeld.2.2.2.2.2.2.1))).trans (hHeld.2.2.2.2.2.2.1)
   have HS7_ := (hb.cell (World.block_lt_of_cell? _ _ (hHeld.2.2.2.2.2.2.2))).trans (hHeld.2.2.2.2.2.2.2)
   refine ⟨_, rfl, ?_⟩
   have n0_ := aM (Kd.R_below (by (with_reducible repeat (first | apply Kd.R_alloc | apply Kd.R_drewN | apply Kd.R_drew)); exact HO560.out) hb)
   have n1_ := bB BK555 hb
   have n2_ := bB BK556 hb
   have n3_ := bB BK557 hb
   have n4_ := bS HB hb
   clear HO560
   clear BK555
   clear BK556
   clear BK557
   clear HB
   have HO560 := n0_
   have BK555 := n1_
   have BK556 := n2_
   have BK557 := n3_
   have HB := n4_
   clear n0_ n1_ n2_ n3_ n4_
   (try clear hb)
   (try clear hb2)
   (try clear hk)
   (try clear hi)
   refine hK.out _ _ ⟨cB BK555, cB BK555, cB BK555, cB BK555, HS4_, HS5_, HS6_, HS7_⟩ (fun hHeld => ?_)
   clear hK K
   refine nM 12 ?_
   refine oU 9 (some 17) 1023 HT_ (fun K hK => ?_)
   refine gO Try.func100 #[.agg #[.int .i64 a0_0, .int .i64 a0_1, .int .i64 a0_2, .int .i64 a0_3], .agg #[.int .i64 ((rd_T47 t558 1).f0), .int .i64 ((rd_T47 t558 1).f1)]] ?_
   with_reducible refine (spec_l02Apply.calls a0_0 a0_1 a0_2 a0_3 ((rd_T47 t558 1).f0) ((rd_T47 t558 1).f1) t565 t566 _ A7.out).mono ?_
   rintro e w19 ⟨rfl, hb⟩
   have HS4_ := (hb.cell (World.block_lt_of_cell? _ _ (hHeld.2.2.2.2.1))).trans (hHeld.2.2.2.2.1)
   have HS5_ := (hb.cell (World.block_lt_of_cell? _ _ (hHeld.2.2.2.2.2.1))).trans (hHeld.2.2.2.2.2.1)
   have HS6_ := (hb.cell (World.block_lt_of_cell? _ _ (hHeld.2.2.2.2.2.2.1))).trans (hHeld.2.2.2.2.2.2.1)
   have HS7_ := (hb.cell (World.block_lt_of_cell? _ _ (hHeld.2.2.2.2.2.2.2))).trans (hHeld.2.2.2.2.2.2.2)
   refine ⟨_, rfl, ?_⟩
   have n0_ := aM (Kd.R_below (by (with_reducible repeat (first | apply Kd.R_alloc | apply Kd.R_drewN | apply Kd.R_drew)); exact HO560.out) hb)
   have n1_ := bB BK555 hb
   have n2_ := bB BK556 hb
   have n3_ := bB BK557 hb
   have n4_ := bS HB hb
   clear HO560
   clear BK555
   clear BK556
   clear BK557
   clear HB
   have HO560 := n0_
   have BK555 := n1_
   have BK556 := n2_
   have BK557 := n3_
   have HB := n4_
   clear n0_ n1_ n2_ n3_ n4_
   (try clear hb)
   (try clear hb2)
   (try clear hk)
   (try clear hi)
   refine hK.out _ _ ⟨cB BK555, cB BK555, cB BK555, cB BK555, HS4_, HS5_, HS6_, HS7_⟩ (fun hHeld => ?_)
   clear hK K
   refine nM 17 ?_
   refine oU 10 (some 18) 2047 HT_ (fun K hK => ?_)
   refine Kd.R_lit_step k47 _ 47 ?hg (N := 18) ?hd (xs := ([(⟨t562, t563⟩ : S47), (⟨t565, t566⟩ : S47)] : List (S47))) (inner := [.int .i64 t562, .int .i64 t563, .int .i64 t565, .int .i64 t566]) (ok := fun _ => True) (okp := fun _ => True) ?hr ?hp (fun _ hk => hk) trivial (Below.refl _ _) (Nat.le_refl _) (by simp) ?_; (case hd => rfl); (case hg => rfl); (case hr => first | (go_simp; done) | (go_simp; rfl)); (case hp => exact (Reps.c2 (show Kd.M k47 _ _ _ (⟨t562, t563⟩ : S47) [.int .i64 t562, .int .i64 t563] from (k47_mkM _ _ _ (⟨t562, t563⟩ : S47) )) (Reps.c2 (show Kd.M k47 _ _ _ (⟨t565, t566⟩ : S47) [.int .i64 t565, .int .i64 t566] from (k47_mkM _ _ _ (⟨t565, t566⟩ : S47) )) (Reps.none _ _))))
   intro v568 w20 ho21 hb hg_ hnew_
   have HS4_ := (hb.cell (World.block_lt_of_cell? _ _ (hHeld.2.2.2.2.1))).trans (hHeld.2.2.2.2.1)
   have HS5_ := (hb.cell (World.block_lt_of_cell? _ _ (hHeld.2.2.2.2.2.1))).trans (hHeld.2.2.2.2.2.1)
   have HS6_ := (hb.cell (World.block_lt_of_cell? _ _ (hHeld.2.2.2.2.2.2.1))).trans (hHeld.2.2.2.2.2.2.1)
   have HS7_ := (hb.cell (World.block_lt_of_cell? _ _ (hHeld.2.2.2.2.2.2.2))).trans (hHeld.2.2.2.2.2.2.2)
   clear hg_ hnew_
   (first | rw [← Ny567.out] at ho21 | (simp only [Int.reduceToNat] at ho21; rw [← Ny567.out] at ho21))
   have n0_ := aM (Kd.R_elder' (by (with_reducible repeat (first | apply Kd.R_alloc | apply Kd.R_drewN | apply Kd.R_drew)); exact HO560.out) (Kd.R_base ho21) hb)
   have n1_ := aM (Kd.R_lower (Kd.R_new' ho21 (Kd.R_lt (by (with_reducible repeat (first | apply Kd.R_alloc | apply Kd.R_drewN | apply Kd.R_drew)); exact HO560.out))) (below_size qB))
   have n2_ := bB BK555 hb
   have n3_ := bB BK556 hb
   have n4_ := bB BK557 hb
   have n5_ := bS HB hb
   clear HO560
   clear BK555
   clear BK556
   clear BK557
   clear HB
   have HO560 := n0_
   have HO569 := n1_
   have BK555 := n2_
   have BK556 := n3_
   have BK557 := n4_
   have HB := n5_
   clear n0_ n1_ n2_ n3_ n4_ n5_
   clear hb ho21
   obtain ⟨Ao22, co22, eo22⟩ := Kd.R_slice HO569.out
   (first | subst eo22 | (injection eo22 with f1_ f2_ f3_; have f4_ := f1_.symm; have f5_ := f3_.symm; clear f1_ f2_ f3_; subst f4_; subst f5_))
   refine hK.out _ _ ⟨cB BK555, cB BK555, cB BK555, cB BK555, HS4_, HS5_, HS6_, HS7_⟩ (fun hHeld => ?_)
   clear hK K
   refine nM 18 ?_
   refine oU 11 (some 19) 4095 HT_ (fun K hK => ?_)
   refine gO Try.func150 #[.slice Ao22 y567.length co22] ?_
   with_reducible refine (spec_l03Hermite.calls k _ _ y567 t570 t571 t572 _ ?side1 ?side2 A8.out).mono ?_
   (case side1 => repeat (first | exact (Kd.R_reads' HO569.out).2.2 | (with_reducible refine Kd.C_alloc ?_ _) | (with_reducible refine Kd.C_drewN ?_ _) | (with_reducible refine Kd.C_drew ?_)))
   (case side2 => exact (Kd.R_reads' HO569.out).2.1)
   rintro e w23 ⟨rfl, hb⟩
   have HS4_ := (hb.cell (World.block_lt_of_cell? _ _ (hHeld.2.2.2.2.1))).trans (hHeld.2.2.2.2.1)
   have HS5_ := (hb.cell (World.block_lt_of_cell? _ _ (hHeld.2.2.2.2.2.1))).trans (hHeld.2.2.2.2.2.1)
   have HS6_ := (hb.cell (World.block_lt_of_cell? _ _ (hHeld.2.2.2.2.2.2.1))).trans (hHeld.2.2.2.2.2.2.1)
   have HS7_ := (hb.cell (World.block_lt_of_cell? _ _ (hHeld.2.2.2.2.2.2.2))).trans (hHeld.2.2.2.2.2.2.2)
   refine ⟨_, rfl, ?_⟩
   have n0_ := aM (Kd.R_below (by (with_reducible repeat (first | apply Kd.R_alloc | apply Kd.R_drewN | apply Kd.R_drew)); exact HO560.out) hb)
   have n1_ := aM (Kd.R_below (by (with_reducible repeat (first | apply Kd.R_alloc | apply Kd.R_drewN | apply Kd.R_drew)); exact HO569.out) hb)
   have n2_ := bB BK555 hb
   have n3_ := bB BK556 hb
   have n4_ := bB BK557 hb
   have n5_ := bS HB hb
   clear HO560
   clear HO569
   clear BK555
   clear BK556
   clear BK557
   clear HB
   have HO560 := n0_
   have HO569 := n1_
   have BK555 := n2_
   have BK556 := n3_
   have BK557 := n4_
   have HB := n5_
   clear n0_ n1_ n2_ n3_ n4_ n5_
   (try clear hb)
   (try clear hb2)
   (try clear hk)
   (try clear hi)
   refine hK.out _ _ ⟨cB BK555, cB BK555, cB BK555, cB BK555, HS4_, HS5_, HS6_, HS7_⟩ (fun hHeld => ?_)
   clear hK K
   refine nM 19 ?_
   refine oU 12 none 8191 HT_ (fun K hK => ?_)
   have hs24 : w23.cell? ⟨gb557, 0, none⟩ = some (.int .i64 0) := cB BK557
   have hfs24 := blk_frozen BK557.out 0
   have hns24_0 := NB555_557.out
   have hns24_1 := NB556_557.out
   have hms24_0 := NB557_555.out
   have hms24_1 := NB557_556.out
   have hs25 : w23.cell? ⟨gb557, 1, none⟩ = some (.int .i64 0) := cB BK557
   have hfs25 := blk_frozen BK557.out 1
   have hns25_0 := NB555_557.out
   have hns25_1 := NB556_557.out
   have hms25_0 := NB557_555.out
   have hms25_1 := NB557_556.out
   have hs26 : w23.cell? ⟨gb557, 2, none⟩ = some (.int .i64 0) := cB BK557
   have hfs26 := blk_frozen BK557.out 2
   have hns26_0 := NB555_557.out
   have hns26_1 := NB556_557.out
   have hms26_0 := NB557_555.out
   have hms26_1 := NB557_556.out
   refine skip_ (w1 := ?_) (by rfl) rfl ?_ ?_
   rotate_left
   ·go_simp
    rfl
   refine hK.out _ _ ⟨((cell_far (p := ⟨gb557, _, none⟩) NB555_557.out _).trans (((cell_far (p := ⟨gb557, _, none⟩) NB555_557.out _).trans (((cell_far (p := ⟨gb557, _, none⟩) NB555_557.out _).trans (hHeld.1)))))), ((cell_far (p := ⟨gb557, _, none⟩) NB555_557.out _).trans (((cell_far (p := ⟨gb557, _, none⟩) NB555_557.out _).trans (((cell_far (p := ⟨gb557, _, none⟩) NB555_557.out _).trans (hHeld.2.1)))))), ((cell_far (p := ⟨gb557, _, none⟩) NB555_557.out _).trans (((cell_far (p := ⟨gb557, _, none⟩) NB555_557.out _).trans (((cell_far (p := ⟨gb557, _, none⟩) NB555_557.out _).trans (hHeld.2.2.1)))))), ((cell_far (p := ⟨gb557, _, none⟩) NB555_557.out _).trans (((cell_far (p := ⟨gb557, _, none⟩) NB555_557.out _).trans (((cell_far (p := ⟨gb557, _, none⟩) NB555_557.out _).trans (hHeld.2.2.2.1)))))), ((cell_far (p := ⟨gb557, _, none⟩) (by first | exact Kd.own_blk (Kd.R_ne HO560.out BK557.out (by decide)) | (rw [add_block]; exact Kd.own_blk (Kd.R_ne HO560.out BK557.out (by decide))) | (show (Addr.add _ _).block ≠ _; rw [add_block]; exact Kd.own_blk (Kd.R_ne HO560.out BK557.out (by decide))) | (dsimp only; exact Kd.own_blk (Kd.R_ne HO560.out BK557.out (by decide)))) _).trans (((cell_far (p := ⟨gb557, _, none⟩) (by first | exact Kd.own_blk (Kd.R_ne HO560.out BK557.out (by decide)) | (rw [add_block]; exact Kd.own_blk (Kd.R_ne HO560.out BK557.out (by decide))) | (show (Addr.add _ _).block ≠ _; rw [add_block]; exact Kd.own_blk (Kd.R_ne HO560.out BK557.out (by decide))) | (dsimp only; exact Kd.own_blk (Kd.R_ne HO560.out BK557.out (by decide)))) _).trans (((cell_far (p := ⟨gb557, _, none⟩) (by first | exact Kd.own_blk (Kd.R_ne HO560.out BK557.out (by decide)) | (rw [add_block]; exact Kd.own_blk (Kd.R_ne HO560.out BK557.out (by decide))) | (show (Addr.add _ _).block ≠ _; rw [add_block]; exact Kd.own_blk (Kd.R_ne HO560.out BK557.out (by decide))) | (dsimp only; exact Kd.own_blk (Kd.R_ne HO560.out BK557.out (by decide)))) _).trans (hHeld.2.2.2.2.1)))))), ((cell_far (p := ⟨gb557, _, none⟩) (by first | exact Kd.own_blk (Kd.R_ne HO560.out BK557.out (by decide)) | (rw [add_block]; exact Kd.own_blk (Kd.R_ne HO560.out BK557.out (by decide))) | (show (Addr.add _ _).block ≠ _; rw [add_block]; exact Kd.own_blk (Kd.R_ne HO560.out BK557.out (by decide))) | (dsimp only; exact Kd.own_blk (Kd.R_ne HO560.out BK557.out (by decide)))) _).trans (((cell_far (p := ⟨gb557, _, none⟩) (by first | exact Kd.own_blk (Kd.R_ne HO560.out BK557.out (by decide)) | (rw [add_block]; exact Kd.own_blk (Kd.R_ne HO560.out BK557.out (by decide))) | (show (Addr.add _ _).block ≠ _; rw [add_block]; exact Kd.own_blk (Kd.R_ne HO560.out BK557.out (by decide))) | (dsimp only; exact Kd.own_blk (Kd.R_ne HO560.out BK557.out (by decide)))) _).trans (((cell_far (p := ⟨gb557, _, none⟩) (by first | exact Kd.own_blk (Kd.R_ne HO560.out BK557.out (by decide)) | (rw [add_block]; exact Kd.own_blk (Kd.R_ne HO560.out BK557.out (by decide))) | (show (Addr.add _ _).block ≠ _; rw [add_block]; exact Kd.own_blk (Kd.R_ne HO560.out BK557.out (by decide))) | (dsimp only; exact Kd.own_blk (Kd.R_ne HO560.out BK557.out (by decide)))) _).trans (hHeld.2.2.2.2.2.1)))))), ((cell_far (p := ⟨gb557, _, none⟩) (by first | exact Kd.own_blk (Kd.R_ne HO560.out BK557.out (by decide)) | (rw [add_block]; exact Kd.own_blk (Kd.R_ne HO560.out BK557.out (by decide))) | (show (Addr.add _ _).block ≠ _; rw [add_block]; exact Kd.own_blk (Kd.R_ne HO560.out BK557.out (by decide))) | (dsimp only; exact Kd.own_blk (Kd.R_ne HO560.out BK557.out (by decide)))) _).trans (((cell_far (p := ⟨gb557, _, none⟩) (by first | exact Kd.own_blk (Kd.R_ne HO560.out BK557.out (by decide)) | (rw [add_block]; exact Kd.own_blk (Kd.R_ne HO560.out BK557.out (by decide))) | (show (Addr.add _ _).block ≠ _; rw [add_block]; exact Kd.own_blk (Kd.R_ne HO560.out BK557.out (by decide))) | (dsimp only; exact Kd.own_blk (Kd.R_ne HO560.out BK557.out (by decide)))) _).trans (((cell_far (p := ⟨gb557, _, none⟩) (by first | exact Kd.own_blk (Kd.R_ne HO560.out BK557.out (by decide)) | (rw [add_block]; exact Kd.own_blk (Kd.R_ne HO560.out BK557.out (by decide))) | (show (Addr.add _ _).block ≠ _; rw [add_block]; exact Kd.own_blk (Kd.R_ne HO560.out BK557.out (by decide))) | (dsimp only; exact Kd.own_blk (Kd.R_ne HO560.out BK557.out (by decide)))) _).trans (hHeld.2.2.2.2.2.2.1)))))), ((cell_far (p := ⟨gb557, _, none⟩) (by first | exact Kd.own_blk (Kd.R_ne HO560.out BK557.out (by decide)) | (rw [add_block]; exact Kd.own_blk (Kd.R_ne HO560.out BK557.out (by decide))) | (show (Addr.add _ _).block ≠ _; rw [add_block]; exact Kd.own_blk (Kd.R_ne HO560.out BK557.out (by decide))) | (dsimp only; exact Kd.own_blk (Kd.R_ne HO560.out BK557.out (by decide)))) _).trans (((cell_far (p := ⟨gb557, _, none⟩) (by first | exact Kd.own_blk (Kd.R_ne HO560.out BK557.out (by decide)) | (rw [add_block]; exact Kd.own_blk (Kd.R_ne HO560.out BK557.out (by decide))) | (show (Addr.add _ _).block ≠ _; rw [add_block]; exact Kd.own_blk (Kd.R_ne HO560.out BK557.out (by decide))) | (dsimp only; exact Kd.own_blk (Kd.R_ne HO560.out BK557.out (by decide)))) _).trans (((cell_far (p := ⟨gb557, _, none⟩) (by first | exact Kd.own_blk (Kd.R_ne HO560.out BK557.out (by decide)) | (rw [add_block]; exact Kd.own_blk (Kd.R_ne HO560.out BK557.out (by decide))) | (show (Addr.add _ _).block ≠ _; rw [add_block]; exact Kd.own_blk (Kd.R_ne HO560.out BK557.out (by decide))) | (dsimp only; exact Kd.own_blk (Kd.R_ne HO560.out BK557.out (by decide)))) _).trans (hHeld.2.2.2.2.2.2.2))))))⟩ (fun hHeld => ?_)
   clear hK K
   refine dN HT_ ?_
   try go_wp2
   refine bodyPost_ret (results_cell_row rfl _ _ gb557 33 #[.int .i64 t570, .int .i64 t571, .int .i64 t572] (0, 0) _ rfl (by (with_reducible repeat (first|apply kN|apply kD|apply kA)); refine blk_put (cs := #[.int .i64 t570, .int .i64 t571, .int .i64 0]) ?_ 2 _ rfl; (with_reducible repeat (first|apply kN|apply kD|apply kA)); refine blk_put (cs := #[.int .i64 t570, .int .i64 0, .int .i64 0]) ?_ 1 _ rfl; (with_reducible repeat (first|apply kN|apply kD|apply kA)); refine blk_put (cs := #[.int .i64 0, .int .i64 0, .int .i64 0]) ?_ 0 _ rfl; (with_reducible repeat (first|apply kN|apply kD|apply kA)); exact BK557.out) Try.underlying33 rfl (by kernel_rfl)) rfl ?_
   exact ⟨qR, qB⟩
  ·rw [if_neg c6] at H
   exact absurd H (by simp)
 ·rw [if_neg c4] at H
  exact absurd H (by simp)

end Go.Proofs.Ytcjchihnopmplaa.F

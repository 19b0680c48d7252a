import Derived.Test.YtcjchihnopmplaaY0
import Derived.Test.YtcjchihnopmplaaY7
namespace Go.Proofs.Ytcjchihnopmplaa.F
open Go.RowKit Go.Proofs.YtcjchihnopmplaaW.PrintWords Go.Proofs.YtcjchihnopmplaaW.PrintLast Go.Proofs.YtcjchihnopmplaaW.PrintMore
attribute [local go_sem] max2_int min2_int max_two min_two max_three min_three max_four min_four   -- for this text's walks alone
set_option linter.unusedVariables false
set_option linter.unusedSimpArgs false

mutual
def impl_latticeOf.l0 : Nat → Int → List (S47) → Int → Int → Int → Int → Option (Int × Int × Int)
 | 0, _, _, _, _, _, _ => none
 | k + 1, x3, x9, x10, x11, x481000, x481001 => if x11 < x10 then (if 0 ≤ x11 then (if x11 < (x9.length : Int) then (impl_latticeOf.l1 k x3 x9 x10 x11 x481000 x481001 ((rd_T47 x9 x11).f0) ((rd_T47 x9 x11).f1)) else (none)) else (none)) else (if x481001 < 0 then ((impl_Vec_times.f x481000 x481001 (-1)).bind fun bt488 => ((impl_mod.f bt488.1 x3).bind fun t490 => (some (x3, t490, bt488.2)))) else ((impl_mod.f x481000 x3).bind fun t491 => (some (x3, t491, x481001))))
def impl_latticeOf.l1 : Nat → Int → List (S47) → Int → Int → Int → Int → Int → Int → Option (Int × Int × Int)
 | 0, _, _, _, _, _, _, _, _ => none
 | k + 1, x3, x9, x10, x11, x481000, x481001, x483000, x483001 => if x483001 = 0 then ((impl_gcd.f k x3 x483000).bind fun t483 => (impl_latticeOf.l0 k t483 x9 x10 (wrap64 (x11 + 1)) x481000 x481001)) else ((impl_Vec_times.f x483000 x483001 (wrap64 (-(wrap64 (Int.tdiv x481001 x483001))))).bind fun bt484 => ((impl_Vec_add.f x481000 x481001 bt484.1 bt484.2).bind fun bt486 => (impl_latticeOf.l1 k x3 x9 x10 x11 x483000 x483001 bt486.1 bt486.2)))
end
def impl_latticeOf.f (k : Nat) (l0 : List (S47)) : Option (Int × Int × Int) := impl_latticeOf.l0 k 0 l0 (l0.length : Int) 0 0 0
def impl_latticeOf.T7 : Bool × List (List Nat × List Nat) := (true, [([], []), ([], []), ([], []), ([], []), ([3], [3]), ([2, 4], [2, 4]), ([1, 5, 5], [1, 5]), ([0, 6, 0, 1], [0]), ([6, 7, 0, 1, 2, 3, 4, 5, 6, 7], [6])])
def impl_latticeOf.B7 : List Nat := [0, 0, 0, 0, 8, 28, 62, 127, 255]
theorem impl_latticeOf.tab7 : rtab .any (opsOf Try.f119 7) = impl_latticeOf.T7 := by kernel_rfl
theorem impl_latticeOf.bits7 : waitsOk impl_latticeOf.T7.2 impl_latticeOf.B7 = true := by kernel_rfl
def impl_latticeOf.T12 : Bool × List (List Nat × List Nat) := (true, [([], []), ([], []), ([1], [1]), ([], []), ([2, 3], [2, 3]), ([], []), ([5], [5]), ([0, 4, 6], [0, 4, 6]), ([7, 4, 0, 1, 2, 3, 4, 5, 6, 7], [7])])
def impl_latticeOf.B12 : List Nat := [0, 0, 2, 0, 14, 0, 32, 127, 255]
theorem impl_latticeOf.tab12 : rtab .any (opsOf Try.f119 12) = impl_latticeOf.T12 := by kernel_rfl
theorem impl_latticeOf.bits12 : waitsOk impl_latticeOf.T12.2 impl_latticeOf.B12 = true := by kernel_rfl
set_option maxHeartbeats 8000000 in
set_option maxRecDepth 100000 in
theorem impl_latticeOf.calls (k : Nat) (A0 : Option Addr) (c0 : Nat) (l0 : List (S47)) (r1 : Int) (r2 : Int) (r3 : Int) (w : World) (hr0 : Kd.C k47 w A0 l0.length l0) (hc0 : l0.length ≤ c0) (h : impl_latticeOf.f k l0 = some (r1, r2, r3)) :
  Calls Try.prog 119 #[.slice A0 l0.length c0] w fun e w' => e = .returned (.agg #[.int .i64 r1, .int .i64 r2, .int .i64 r3]) ∧ Below w.heap.size w w' := by
 have hu33 := Try.underlying33
 have hu47 := Try.underlying47
 have HR0 := aM hr0
 have HC0 := aM hc0
 clear hr0 hc0
 have HB := aM (Below.refl w.heap.size w)
 have H : (impl_latticeOf.l0 k 0 l0 (l0.length : Int) 0 0 0) = some (r1, r2, r3) := h
 clear h
 have H' := aM H
 clear H
 go_enter Try.func119, Try.ntmps119
 go_wp2_with (first | (refine bE 2 #[.int .i64 0, .int .i64 0, .int .i64 0] 33 ?_; intro gb479 hg w2 hbox hb; have BK479 := aM hbox; have GW479 := bZ hg HB; have GE479 := bZ hg HB; replace HB := bS HB hb; clear hb hbox hg) | (refine bE 4 #[.int .i64 0, .int .i64 0] 47 ?_; intro gb480 hg w3 hbox hb; have BK480 := aM hbox; have GW480 := bZ hg HB; have GE480 := bZ hg HB; have NB479_480 := nL hg BK479; have NB480_479 := nG hg BK479; replace BK479 := bB BK479 hb; replace HB := bS HB hb; clear hb hbox hg; have hnb4 := NB480_479.out; have hnc4 := NB479_480.out; obtain ⟨hcz5_0, hcz5_1⟩ := z2 BK480; obtain ⟨hfz5_0, hfz5_1⟩ := y2 BK480))
 go_loopg [3, 11] k (fun kq v3 v11 w' => ∃ (x3_1 : Int) (x11_1 : Int) (x481000_1 : Int) (x481001_1 : Int), v3 = .int .i64 x3_1 ∧ v11 = .int .i64 x11_1 ∧ Aside0 (impl_latticeOf.l0 kq x3_1 l0 (l0.length : Int) x11_1 x481000_1 x481001_1 = some (r1, r2, r3)) ∧ Aside0 (kq ≤ k) ∧ Aside0 (w'.heap[gb479]? = some (.cells #[.int .i64 0, .int .i64 0, .int .i64 0] 33 (0, 0))) ∧ Aside0 (w'.heap[gb480]? = some (.cells #[.int .i64 x481000_1, .int .i64 x481001_1] 47 (0, 0))) ∧ Aside0 (Below w.heap.size w w'))
 case atStart => exact ⟨(0), (0), (0), (0), (by first | rfl | (simp; done) | (simp [*]; done)), (by first | rfl | (simp; done) | (simp [*]; done)), H', ⟨Nat.le_refl _⟩, ⟨by (repeat (first|(with_reducible first|apply kN|apply kD|apply kA)|refine blk_far ?_ NB479_480.out _)); exact BK479.out⟩, ⟨by (with_reducible repeat (first|apply kN|apply kD|apply kA)); refine blk_put (cs := #[.int .i64 0, .int .i64 0]) ?_ 1 _ rfl; (with_reducible repeat (first|apply kN|apply kD|apply kA)); refine blk_put (cs := #[.int .i64 0, .int .i64 0]) ?_ 0 _ rfl; (with_reducible repeat (first|apply kN|apply kD|apply kA)); exact BK480.out⟩, ⟨qB⟩⟩
 case round =>
  clear H'
  try clear c1
  try clear p2
  try clear c4
  try clear hcz5_0
  try clear hcz5_1
  try clear hfz5_0
  try clear hfz5_1
  obtain ⟨x3_1, x11_1, x481000_1, x481001_1, rfl, rfl, HA, HK1, BK479, BK480, HB⟩ := hrel
  cases gk with
  | zero => exact absurd HA.out (by simp [impl_latticeOf.l0])
  | succ k1 =>
   have H := HA.out
   clear HA
   simp only [impl_latticeOf.l0] at H
   by_cases c6 : x11_1 < (l0.length : Int)
   ·rw [if_pos c6] at H
    have c6b0 : decide (x11_1 < (l0.length : Int)) = true := decide_eq_true c6
    clear c6
    by_cases c7 : 0 ≤ x11_1
    ·rw [if_pos c7] at H
     have c7b0 : decide (0 ≤ x11_1) = true := decide_eq_true c7
     clear c7
     by_cases c8 : x11_1 < (l0.length : Int)
     ·rw [if_pos c8] at H
      have c8b0 : decide (x11_1 < (l0.length : Int)) = true := decide_eq_true c8
      clear c8
      have H' := aM H
      clear H
      have p481 : 0 ≤ (x11_1 : Int) := of_decide_eq_true (by first | (with_reducible assumption) | assumption)
      have q481 : x11_1 < (l0.length : Int) := of_decide_eq_true (by first | (with_reducible assumption) | assumption)
      obtain ⟨ad481, e481, hx481_0, hx481_1⟩ := at_T47 HR0.out x11_1 p481 q481
      cases e481
      replace hx481_0 := (HB.out.cell (World.block_lt_of_cell? w _ hx481_0)).trans hx481_0
      replace hx481_1 := (HB.out.cell (World.block_lt_of_cell? w _ hx481_1)).trans hx481_1
      replace p481 := eq_true p481
      replace q481 := eq_true q481
      go_wp2_with (first | (refine bE 6 #[.int .i64 0, .int .i64 0] 47 ?_; intro gb482 hg w9 hbox hb; have BK482 := aM hbox; have GW482 := bZ hg HB; have GE482 := bZ hg HB; have NB479_482 := nL hg BK479; have NB482_479 := nG hg BK479; have NB480_482 := nL hg BK480; have NB482_480 := nG hg BK480; replace BK479 := bB BK479 hb; replace BK480 := bB BK480 hb; replace HB := bS HB hb; clear hb hbox hg; have hnb10 := NB482_479.out; have hnc10 := NB479_482.out; have hnb11 := NB482_480.out; have hnc11 := NB480_482.out; obtain ⟨hcz12_0, hcz12_1⟩ := z2 BK482; obtain ⟨hfz12_0, hfz12_1⟩ := y2 BK482))
      go_loopg [] k1 (fun kq w' => ∃ (x481000_2 : Int) (x481001_2 : Int) (x483000_2 : Int) (x483001_2 : Int), Aside0 (impl_latticeOf.l1 kq x3_1 l0 (l0.length : Int) x11_1 x481000_2 x481001_2 x483000_2 x483001_2 = some (r1, r2, r3)) ∧ Aside0 (kq ≤ k1) ∧ Aside0 (w'.heap[gb479]? = some (.cells #[.int .i64 0, .int .i64 0, .int .i64 0] 33 (0, 0))) ∧ Aside0 (w'.heap[gb480]? = some (.cells #[.int .i64 x481000_2, .int .i64 x481001_2] 47 (0, 0))) ∧ Aside0 (w'.heap[gb482]? = some (.cells #[.int .i64 x483000_2, .int .i64 x483001_2] 47 (0, 0))) ∧ Aside0 (Below w.heap.size w w'))
      case atStart => exact ⟨(x481000_1), (x481001_1), ((rd_T47 l0 x11_1).f0), ((rd_T47 l0 x11_1).f1), H', ⟨Nat.le_refl _⟩, ⟨by (repeat (first|(with_reducible first|apply kN|apply kD|apply kA)|refine blk_far ?_ NB479_482.out _)); exact BK479.out⟩, ⟨by (repeat (first|(with_reducible first|apply kN|apply kD|apply kA)|refine blk_far ?_ NB480_482.out _)); exact BK480.out⟩, ⟨by (with_reducible repeat (first|apply kN|apply kD|apply kA)); refine blk_put (cs := #[.int .i64 ((rd_T47 l0 x11_1).f0), .int .i64 0]) ?_ 1 _ rfl; (with_reducible repeat (first|apply kN|apply kD|apply kA)); refine blk_put (cs := #[.int .i64 0, .int .i64 0]) ?_ 0 _ rfl; (with_reducible repeat (first|apply kN|apply kD|apply kA)); exact BK482.out⟩, ⟨qB⟩⟩
      case round =>
       clear H'
       try clear c1
       try clear p2
       try clear c4
       try clear p4
       try clear q4
       try clear hx4
       try clear c6
       try clear c6b0
       try clear c7
       try clear c7b0
       try clear c8
       try clear c8b0
       try clear c10
       try clear c11
       try clear hcz12_0
       try clear hcz12_1
       try clear hcz5_0
       try clear hcz5_1
       try clear hfz12_0
       try clear hfz12_1
       try clear hfz5_0
       try clear hfz5_1
       try clear hx481_0
       try clear hx481_1
       try clear p2
       try clear p481
       try clear q481
       obtain ⟨x481000_2, x481001_2, x483000_2, x483001_2, HA, HK2, BK479, BK480, BK482, HB⟩ := hrel
       cases gk with
       | zero => exact absurd HA.out (by simp [impl_latticeOf.l1])
       | succ k2 =>
        have H := HA.out
        clear HA
        simp only [impl_latticeOf.l1] at H
        by_cases c13 : x483001_2 = 0
        ·rw [if_pos c13] at H
         have c13b0 : (x483001_2 == 0) = true := beq_iff_eq.mpr c13
         have c13b1 : (x483001_2 != 0) = false := bne_eq_false_iff_eq.mpr c13
         clear c13
         obtain ⟨t483, A14, H⟩ := oB H
         try dsimp only at H
         have H' := aM H
         clear H
         have hnb15 := NB482_479.out
         have hnc15 := NB479_482.out
         have hnb16 := NB482_480.out
         have hnc16 := NB480_482.out
         obtain ⟨hcz17_0, hcz17_1⟩ := z2 BK482
         obtain ⟨hfz17_0, hfz17_1⟩ := y2 BK482
         go_wp2_with (first | (refine gC 147 ?_; refine gM 33 (impl_gcd.calls k2 x3_1 x483000_2 t483 _ A14.out) Try.func147 ?_; rintro w18 hb; replace BK479 := bB BK479 hb; replace BK480 := bB BK480 hb; replace BK482 := bB BK482 hb; replace HB := bS HB hb; (try clear hb)))
         go_roundg k2
         case measure => have := HK1.out; have := HK2.out; omega
         case rel => exact ⟨(t483), (wrap64 (x11_1 + 1)), (x481000_2), (x481001_2), (by first | rfl | (simp; done) | (simp [*]; done)), (by first | rfl | (simp; done) | (simp [*]; done)), H', ⟨by have := HK1.out; have := HK2.out; omega⟩, ⟨bk BK479⟩, ⟨bk BK480⟩, ⟨qB⟩⟩
        ·rw [if_neg c13] at H
         have c13b0 : (x483001_2 == 0) = false := beq_eq_false_iff_ne.mpr c13
         have c13b1 : (x483001_2 != 0) = true := bne_iff_ne.mpr c13
         obtain ⟨⟨t484, t485⟩, A19, H⟩ := oB H
         try dsimp only at H
         obtain ⟨⟨t486, t487⟩, A20, H⟩ := oB H
         try dsimp only at H
         have H' := aM H
         clear H
         have hnb21 := NB482_479.out
         have hnc21 := NB479_482.out
         have hnb22 := NB482_480.out
         have hnc22 := NB480_482.out
         obtain ⟨hcz23_0, hcz23_1⟩ := z2 BK482
         obtain ⟨hfz23_0, hfz23_1⟩ := y2 BK482
         have hnb24 := NB480_479.out
         have hnc24 := NB479_480.out
         obtain ⟨hcz25_0, hcz25_1⟩ := z2 BK480
         obtain ⟨hfz25_0, hfz25_1⟩ := y2 BK480
         try go_wp2
         replace BK479 := aM (blk_drew BK479.out)
         replace BK480 := aM (blk_drew BK480.out)
         replace BK482 := aM (blk_drew BK482.out)
         replace HB := aM (below_drew1 HB.out)
         refine sT (fun w' => w'.cell? ⟨gb482, 0, none⟩ = some (.int .i64 x483000_2) ∧ w'.cell? ⟨gb482, 1, none⟩ = some (.int .i64 x483001_2) ∧ w'.cell? ⟨gb480, 0, none⟩ = some (.int .i64 x481000_2) ∧ w'.cell? ⟨gb480, 1, none⟩ = some (.int .i64 x481001_2)) [7, 8] ⟨cB BK482, cB BK482, cB BK480, cB BK480⟩ (fun hHeld => ?_); refine with_tabW impl_latticeOf.tab7 impl_latticeOf.bits7 (fun HT_ HW_ => ?_)
         generalize wr.drew = w26 at BK479 BK480 BK482 HB hHeld ⊢
         refine pU 3 (some 26) 8 HT_ ?_
         refine pU 4 (some 27) 24 HT_ ?_
         refine tU 0 (some 23) 25 HT_ HW_ hHeld ?_
         refine tU 1 (some 24) 27 HT_ HW_ hHeld ?_
         refine tU 2 (some 25) 31 HT_ HW_ hHeld ?_
         refine oU 5 (some 28) 63 HT_ (fun K hK => ?_)
         refine gO Try.func144 #[.agg #[.int .i64 x483000_2, .int .i64 x483001_2], .int .i64 (wrap64 (-(wrap64 (Int.tdiv x481001_2 x483001_2))))] ?_
         with_reducible refine (impl_Vec_times.calls x483000_2 x483001_2 (wrap64 (-(wrap64 (Int.tdiv x481001_2 x483001_2)))) t484 t485 _ A19.out).mono ?_
         rintro e w27 ⟨rfl, hb⟩
         refine ⟨_, rfl, ?_⟩
         replace BK479 := bB BK479 hb
         replace BK480 := bB BK480 hb
         replace BK482 := bB BK482 hb
         replace HB := bS HB hb
         (try clear hb)
         (try clear hb2)
         (try clear hk)
         (try clear hi)
         refine hK.out _ _ ⟨cB BK482, cB BK482, cB BK480, cB BK480⟩ (fun hHeld => ?_)
         clear hK K
         refine nM 28 ?_
         refine oU 6 (some 29) 127 HT_ (fun K hK => ?_)
         refine gO Try.func140 #[.agg #[.int .i64 x481000_2, .int .i64 x481001_2], .agg #[.int .i64 t484, .int .i64 t485]] ?_
         with_reducible refine (impl_Vec_add.calls x481000_2 x481001_2 t484 t485 t486 t487 _ A20.out).mono ?_
         rintro e w28 ⟨rfl, hb⟩
         refine ⟨_, rfl, ?_⟩
         replace BK479 := bB BK479 hb
         replace BK480 := bB BK480 hb
         replace BK482 := bB BK482 hb
         replace HB := bS HB hb
         (try clear hb)
         (try clear hb2)
         (try clear hk)
         (try clear hi)
         refine hK.out _ _ ⟨cB BK482, cB BK482, cB BK480, cB BK480⟩ (fun hHeld => ?_)
         clear hK K
         refine nM 29 ?_
         refine last_ (i := 7) (N := none) (bz 9 255) rfl rfl (one_of HT_.out (by kernel_rfl)) (by decide) (fun K hK => ?_)
         have hs29 : w28.cell? ⟨gb480, 0, none⟩ = some (.int .i64 x481000_2) := cB BK480
         have hfs29 := blk_frozen BK480.out 0
         have hns29_0 := NB479_480.out
         have hns29_2 := NB482_480.out
         have hms29_0 := NB480_479.out
         have hms29_2 := NB480_482.out
         have hs30 : w28.cell? ⟨gb480, 1, none⟩ = some (.int .i64 x481001_2) := cB BK480
         have hfs30 := blk_frozen BK480.out 1
         have hns30_0 := NB479_480.out
         have hns30_2 := NB482_480.out
         have hms30_0 := NB480_479.out
         have hms30_2 := NB480_482.out
         refine skip_ (w1 := ?_) (by rfl) rfl ?_ ?_
         rotate_left
         ·go_simp
          rfl
         refine hK.out _ _ ?_
         clear hK K
         refine last_ (i := 8) (N := none) (bz 9 511) rfl rfl (one_of HT_.out (by kernel_rfl)) (by decide) (fun K hK => ?_)
         have hs31 : w28.cell? ⟨gb482, 0, none⟩ = some (.int .i64 x483000_2) := cB BK482
         have hfs31 := blk_frozen BK482.out 0
         have hns31_0 := NB479_482.out
         have hns31_1 := NB480_482.out
         have hms31_0 := NB482_479.out
         have hms31_1 := NB482_480.out
         have hs32 : w28.cell? ⟨gb482, 1, none⟩ = some (.int .i64 x483001_2) := cB BK482
         have hfs32 := blk_frozen BK482.out 1
         have hns32_0 := NB479_482.out
         have hns32_1 := NB480_482.out
         have hms32_0 := NB482_479.out
         have hms32_1 := NB482_480.out
         refine skip_ (w1 := ?_) (by rfl) rfl ?_ ?_
         rotate_left
         ·go_simp
          rfl
         refine hK.out _ _ ?_
         clear hK K
         refine dN HT_ ?_
         try go_wp2
         go_roundg k2
         case measure => have := HK1.out; have := HK2.out; omega
         case rel => exact ⟨(x483000_2), (x483001_2), (t486), (t487), H', ⟨by have := HK1.out; have := HK2.out; omega⟩, ⟨by (repeat (first|(with_reducible first|apply kN|apply kD|apply kA)|refine blk_far ?_ NB479_482.out _|refine blk_far ?_ NB479_480.out _)); exact BK479.out⟩, ⟨by (repeat (first|(with_reducible first|apply kN|apply kD|apply kA)|refine blk_far ?_ NB480_482.out _)); refine blk_put (cs := #[.int .i64 x483000_2, .int .i64 x481001_2]) ?_ 1 _ rfl; (with_reducible repeat (first|apply kN|apply kD|apply kA)); refine blk_put (cs := #[.int .i64 x481000_2, .int .i64 x481001_2]) ?_ 0 _ rfl; (with_reducible repeat (first|apply kN|apply kD|apply kA)); exact BK480.out⟩, ⟨by (with_reducible repeat (first|apply kN|apply kD|apply kA)); refine blk_put (cs := #[.int .i64 t486, .int .i64 x483001_2]) ?_ 1 _ rfl; (with_reducible repeat (first|apply kN|apply kD|apply kA)); refine blk_put (cs := #[.int .i64 x483000_2, .int .i64 x483001_2]) ?_ 0 _ rfl; (repeat (first|(with_reducible first|apply kN|apply kD|apply kA)|refine blk_far ?_ NB482_480.out _)); exact BK482.out⟩, ⟨qB⟩⟩
     ·rw [if_neg c8] at H
      exact absurd H (by simp)
    ·rw [if_neg c7] at H
     exact absurd H (by simp)
   ·rw [if_neg c6] at H
    have c6b0 : decide (x11_1 < (l0.length : Int)) = false := decide_eq_false c6
    clear c6
    by_cases c33 : x481001_1 < 0
    ·rw [if_pos c33] at H
     have c33b0 : decide (x481001_1 < 0) = true := decide_eq_true c33
     clear c33
     obtain ⟨⟨t488, t489⟩, A34, H⟩ := oB H
     try dsimp only at H
     obtain ⟨t490, A35, H⟩ := oB H
     try dsimp only at H
     simp only [Option.some.injEq, Prod.mk.injEq] at H
     obtain ⟨rfl, rfl, rfl⟩ := H
     have hnb36 := NB480_479.out
     have hnc36 := NB479_480.out
     obtain ⟨hcz37_0, hcz37_1⟩ := z2 BK480
     obtain ⟨hfz37_0, hfz37_1⟩ := y2 BK480
     try go_wp2_with (first | (refine gC 144 ?_; refine gM 39 (impl_Vec_times.calls x481000_1 x481001_1 (-1) t488 t489 _ A34.out) Try.func144 ?_; rintro w38 hb; replace BK479 := bB BK479 hb; replace BK480 := bB BK480 hb; replace HB := bS HB hb; (try clear hb); obtain ⟨hcz39_0, hcz39_1⟩ := z2 BK480; obtain ⟨hfz39_0, hfz39_1⟩ := y2 BK480))
     have n0_ : Aside0 (((w38.setCell ⟨gb480, 0, none⟩ (.int .i64 t488)).setCell ⟨gb480, 1, none⟩ (.int .i64 t489)).heap[gb479]? = some (.cells #[.int .i64 0, .int .i64 0, .int .i64 0] 33 (0, 0))) := ⟨by (repeat (first|(with_reducible first|apply kN|apply kD|apply kA)|refine blk_far ?_ NB479_480.out _)); exact BK479.out⟩
     have n1_ : Aside0 (((w38.setCell ⟨gb480, 0, none⟩ (.int .i64 t488)).setCell ⟨gb480, 1, none⟩ (.int .i64 t489)).heap[gb480]? = some (.cells #[.int .i64 t488, .int .i64 t489] 47 (0, 0))) := ⟨by (with_reducible repeat (first|apply kN|apply kD|apply kA)); refine blk_put (cs := #[.int .i64 t488, .int .i64 x481001_1]) ?_ 1 _ rfl; (with_reducible repeat (first|apply kN|apply kD|apply kA)); refine blk_put (cs := #[.int .i64 x481000_1, .int .i64 x481001_1]) ?_ 0 _ rfl; (with_reducible repeat (first|apply kN|apply kD|apply kA)); exact BK480.out⟩
     have n2_ : Aside0 (Below w.heap.size w ((w38.setCell ⟨gb480, 0, none⟩ (.int .i64 t488)).setCell ⟨gb480, 1, none⟩ (.int .i64 t489))) := ⟨qB⟩
     (try clear BK479)
     (try clear BK480)
     (try clear HB)
     generalize ((w38.setCell ⟨gb480, 0, none⟩ (.int .i64 t488)).setCell ⟨gb480, 1, none⟩ (.int .i64 t489)) = w40 at n0_ n1_ n2_ ⊢
     have BK479 := n0_
     have BK480 := n1_
     have HB := n2_
     clear n0_ n1_ n2_
     replace BK479 := aM (blk_drew BK479.out)
     replace BK480 := aM (blk_drew BK480.out)
     replace HB := aM (below_drew1 HB.out)
     refine sT (fun w' => w'.cell? ⟨gb480, 0, none⟩ = some (.int .i64 t488) ∧ w'.cell? ⟨gb480, 1, none⟩ = some (.int .i64 t489)) [] ⟨cB BK480, cB BK480⟩ (fun hHeld => ?_); refine with_tabW impl_latticeOf.tab12 impl_latticeOf.bits12 (fun HT_ HW_ => ?_)
     generalize w40.drew = w41 at BK479 BK480 HB hHeld ⊢
     refine pU 0 (some 40) 1 HT_ ?_
     refine pU 1 (some 41) 3 HT_ ?_
     refine pU 3 (some 43) 11 HT_ ?_
     refine pU 5 (some 45) 43 HT_ ?_
     refine tU 2 (some 42) 47 HT_ HW_ hHeld ?_
     refine tU 6 (some 46) 111 HT_ HW_ hHeld ?_
     refine oU 4 (some 44) 127 HT_ (fun K hK => ?_)
     refine gO Try.func148 #[.int .i64 t488, .int .i64 x3_1] ?_
     with_reducible refine (impl_mod.calls t488 x3_1 t490 _ A35.out).mono ?_
     rintro e w' ⟨rfl, ⟨nd, rfl⟩⟩
     refine ⟨_, rfl, ?_⟩
     refine hK.out _ _ ⟨cB BK480, cB BK480⟩ (fun hHeld => ?_)
     clear hK K
     refine nM 44 ?_
     refine pU 7 (some 47) 255 HT_ ?_
     refine oU 8 none 511 HT_ (fun K hK => ?_)
     have hs42 : w41.cell? ⟨gb479, 0, none⟩ = some (.int .i64 0) := cB BK479
     have hfs42 := blk_frozen BK479.out 0
     have hns42_1 := NB480_479.out
     have hms42_1 := NB479_480.out
     have hs43 : w41.cell? ⟨gb479, 1, none⟩ = some (.int .i64 0) := cB BK479
     have hfs43 := blk_frozen BK479.out 1
     have hns43_1 := NB480_479.out
     have hms43_1 := NB479_480.out
     have hs44 : w41.cell? ⟨gb479, 2, none⟩ = some (.int .i64 0) := cB BK479
     have hfs44 := blk_frozen BK479.out 2
     have hns44_1 := NB480_479.out
     have hms44_1 := NB479_480.out
     refine skip_ (w1 := ?_) (by rfl) rfl ?_ ?_
     rotate_left
     ·go_simp
      rfl
     refine hK.out _ _ ⟨((cell_far (p := ⟨gb479, _, none⟩) NB480_479.out _).trans (((cell_far (p := ⟨gb479, _, none⟩) NB480_479.out _).trans (((cell_far (p := ⟨gb479, _, none⟩) NB480_479.out _).trans (hHeld.1)))))), ((cell_far (p := ⟨gb479, _, none⟩) NB480_479.out _).trans (((cell_far (p := ⟨gb479, _, none⟩) NB480_479.out _).trans (((cell_far (p := ⟨gb479, _, none⟩) NB480_479.out _).trans (hHeld.2))))))⟩ (fun hHeld => ?_)
     clear hK K
     refine dN HT_ ?_
     try go_wp2
     refine bodyPost_ret (results_cell_row rfl _ _ gb479 33 #[.int .i64 x3_1, .int .i64 t490, .int .i64 t489] (0, 0) _ rfl (by (with_reducible repeat (first|apply kN|apply kD|apply kA)); refine blk_put (cs := #[.int .i64 x3_1, .int .i64 t490, .int .i64 0]) ?_ 2 _ rfl; (with_reducible repeat (first|apply kN|apply kD|apply kA)); refine blk_put (cs := #[.int .i64 x3_1, .int .i64 0, .int .i64 0]) ?_ 1 _ rfl; (with_reducible repeat (first|apply kN|apply kD|apply kA)); refine blk_put (cs := #[.int .i64 0, .int .i64 0, .int .i64 0]) ?_ 0 _ rfl; (with_reducible repeat (first|apply kN|apply kD|apply kA)); exact BK479.out) Try.underlying33 rfl (by kernel_rfl)) rfl ?_
     exact ⟨qR, qB⟩
    ·rw [if_neg c33] at H
     have c33b0 : decide (x481001_1 < 0) = false := decide_eq_false c33
     clear c33
     obtain ⟨t491, A45, H⟩ := oB H
     try dsimp only at H
     simp only [Option.some.injEq, Prod.mk.injEq] at H
     obtain ⟨rfl, rfl, rfl⟩ := H
     have hnb46 := NB480_479.out
     have hnc46 := NB479_480.out
     obtain ⟨hcz47_0, hcz47_1⟩ := z2 BK480
     obtain ⟨hfz47_0, hfz47_1⟩ := y2 BK480
     try go_wp2
     replace BK479 := aM (blk_drew BK479.out)
     replace BK480 := aM (blk_drew BK480.out)
     replace HB := aM (below_drew1 HB.out)
     refine sT (fun w' => w'.cell? ⟨gb480, 0, none⟩ = some (.int .i64 x481000_1) ∧ w'.cell? ⟨gb480, 1, none⟩ = some (.int .i64 x481001_1)) [] ⟨cB BK480, cB BK480⟩ (fun hHeld => ?_); refine with_tabW impl_latticeOf.tab12 impl_latticeOf.bits12 (fun HT_ HW_ => ?_)
     generalize wr.drew = w48 at BK479 BK480 HB hHeld ⊢
     refine pU 0 (some 40) 1 HT_ ?_
     refine pU 1 (some 41) 3 HT_ ?_
     refine pU 3 (some 43) 11 HT_ ?_
     refine pU 5 (some 45) 43 HT_ ?_
     refine tU 2 (some 42) 47 HT_ HW_ hHeld ?_
     refine tU 6 (some 46) 111 HT_ HW_ hHeld ?_
     refine oU 4 (some 44) 127 HT_ (fun K hK => ?_)
     refine gO Try.func148 #[.int .i64 x481000_1, .int .i64 x3_1] ?_
     with_reducible refine (impl_mod.calls x481000_1 x3_1 t491 _ A45.out).mono ?_
     rintro e w' ⟨rfl, ⟨nd, rfl⟩⟩
     refine ⟨_, rfl, ?_⟩
     refine hK.out _ _ ⟨cB BK480, cB BK480⟩ (fun hHeld => ?_)
     clear hK K
     refine nM 44 ?_
     refine pU 7 (some 47) 255 HT_ ?_
     refine oU 8 none 511 HT_ (fun K hK => ?_)
     have hs49 : w48.cell? ⟨gb479, 0, none⟩ = some (.int .i64 0) := cB BK479
     have hfs49 := blk_frozen BK479.out 0
     have hns49_1 := NB480_479.out
     have hms49_1 := NB479_480.out
     have hs50 : w48.cell? ⟨gb479, 1, none⟩ = some (.int .i64 0) := cB BK479
     have hfs50 := blk_frozen BK479.out 1
     have hns50_1 := NB480_479.out
     have hms50_1 := NB479_480.out
     have hs51 : w48.cell? ⟨gb479, 2, none⟩ = some (.int .i64 0) := cB BK479
     have hfs51 := blk_frozen BK479.out 2
     have hns51_1 := NB480_479.out
     have hms51_1 := NB479_480.out
     refine skip_ (w1 := ?_) (by rfl) rfl ?_ ?_
     rotate_left
     ·go_simp
      rfl
     refine hK.out _ _ ⟨((cell_far (p := ⟨gb479, _, none⟩) NB480_479.out _).trans (((cell_far (p := ⟨gb479, _, none⟩) NB480_479.out _).trans (((cell_far (p := ⟨gb479, _, none⟩) NB480_479.out _).trans (hHeld.1)))))), ((cell_far (p := ⟨gb479, _, none⟩) NB480_479.out _).trans (((cell_far (p := ⟨gb479, _, none⟩) NB480_479.out _).trans (((cell_far (p := ⟨gb479, _, none⟩) NB480_479.out _).trans (hHeld.2))))))⟩ (fun hHeld => ?_)
     clear hK K
     refine dN HT_ ?_
     try go_wp2
     refine bodyPost_ret (results_cell_row rfl _ _ gb479 33 #[.int .i64 x3_1, .int .i64 t491, .int .i64 x481001_1] (0, 0) _ rfl (by (with_reducible repeat (first|apply kN|apply kD|apply kA)); refine blk_put (cs := #[.int .i64 x3_1, .int .i64 t491, .int .i64 0]) ?_ 2 _ rfl; (with_reducible repeat (first|apply kN|apply kD|apply kA)); refine blk_put (cs := #[.int .i64 x3_1, .int .i64 0, .int .i64 0]) ?_ 1 _ rfl; (with_reducible repeat (first|apply kN|apply kD|apply kA)); refine blk_put (cs := #[.int .i64 0, .int .i64 0, .int .i64 0]) ?_ 0 _ rfl; (with_reducible repeat (first|apply kN|apply kD|apply kA)); exact BK479.out) Try.underlying33 rfl (by kernel_rfl)) rfl ?_
     exact ⟨qR, qB⟩

end Go.Proofs.Ytcjchihnopmplaa.F

import Derived.Test.YtcjchihnopmplaaY0
import Derived.Test.YtcjchihnopmplaaY1
import Derived.Test.YtcjchihnopmplaaY6
import Derived.Test.YtcjchihnopmplaaY7
import Derived.Test.YtcjchihnopmplaaY12
namespace Go.Proofs.Ytcjchihnopmplaa.F
open Go.RowKit Go.Proofs.YtcjchihnopmplaaW.PrintWords Go.Proofs.YtcjchihnopmplaaW.PrintLast Go.Proofs.YtcjchihnopmplaaW.PrintMore
attribute [local go_sem] max2_int min2_int max_two min_two max_three min_three max_four min_four   -- for this text's walks alone
set_option linter.unusedVariables false
set_option linter.unusedSimpArgs false
attribute [local go_sem high] eqA47

def impl_LatticeMats.f (k : Nat) (a0 : Int) (a1_0 : Int) (a1_1 : Int) (a1_2 : Int) : Option ((List (S51)) × Int) := (impl_frameCode.f a0 a1_0 a1_1 a1_2).bind fun t683 => (if t683 = 0 then ((impl_latticeMats.f k a0 a1_0 a1_1 a1_2).bind fun t684 => (some (t684, 0))) else (some (([] : List (S51)), t683)))
set_option maxHeartbeats 8000000 in
set_option maxRecDepth 100000 in
theorem impl_LatticeMats.calls (k : Nat) (a0 : Int) (a1_0 : Int) (a1_1 : Int) (a1_2 : Int) (r1 : List (S51)) (r2 : Int) (w : World) (h : impl_LatticeMats.f k a0 a1_0 a1_1 a1_2 = some (r1, r2)) :
  Calls Try.prog 17 #[.int .i64 a0, .agg #[.int .i64 a1_0, .int .i64 a1_1, .int .i64 a1_2]] w fun e w' => ∃ v0_ : Value, e = .returned (.tuple #[v0_, .int .i64 r2]) ∧ Kd.R k51 51 w' w.heap.size (fun _ => True) v0_ r1 ∧ Below w.heap.size w w' := by
 have hu33 := Try.underlying33
 have HB := aM (Below.refl w.heap.size w)
 have H : ((impl_frameCode.f a0 a1_0 a1_1 a1_2).bind fun t683 => (if t683 = 0 then ((impl_latticeMats.f k a0 a1_0 a1_1 a1_2).bind fun t684 => (some (t684, 0))) else (some (([] : List (S51)), t683)))) = some (r1, r2) := h
 clear h
 obtain ⟨t683, A3, H⟩ := oB H
 try dsimp only at H
 by_cases c4 : t683 = 0
 ·rw [if_pos c4] at H
  have c4b0 : (t683 == 0) = true := beq_iff_eq.mpr c4
  have c4b1 : (t683 != 0) = false := bne_eq_false_iff_eq.mpr c4
  clear c4
  obtain ⟨t684, A5, H⟩ := oB H
  try dsimp only at H
  simp only [Option.some.injEq, Prod.mk.injEq] at H
  obtain ⟨rfl, rfl⟩ := H
  go_enter Try.func17, Try.ntmps17
  go_wp2_with (first | (refine bE 3 #[.int .i64 a1_0, .int .i64 a1_1, .int .i64 a1_2] 33 ?_; intro gb682 hg w6 hbox hb; have BK682 := aM hbox; have GW682 := bZ hg HB; have GE682 := bZ hg HB; replace HB := bS HB hb; clear hb hbox hg; obtain ⟨hcz7_0, hcz7_1, hcz7_2⟩ := z3 BK682; obtain ⟨hfz7_0, hfz7_1, hfz7_2⟩ := y3 BK682) | (refine gC 80 ?_; refine gM 9 (impl_frameCode.calls a0 a1_0 a1_1 a1_2 t683 _ A3.out) Try.func80 ?_; rintro w8 hb; replace BK682 := bB BK682 hb; replace HB := bS HB hb; (try clear hb); obtain ⟨hcz9_0, hcz9_1, hcz9_2⟩ := z3 BK682; obtain ⟨hfz9_0, hfz9_1, hfz9_2⟩ := y3 BK682) | ((with_reducible refine gate_callee (f := 81) rfl ?_); refine goesL_ (some 15) rfl rfl Try.func81 (by kernel_rfl) rfl #[.int .i64 a0, .agg #[.int .i64 a1_0, .int .i64 a1_1, .int .i64 a1_2]] rfl (by first|rfl|(simp only [List.map_toArray, List.map_cons, List.map_nil]; try rfl)) ?_; (with_reducible refine (impl_latticeMats.calls k a0 a1_0 a1_1 a1_2 t684 _ A5.out).mono ?_); rintro e w10 ⟨v685, rfl, ho0, hb⟩; refine ⟨_, rfl, ?_⟩; have HO686 := aM (Kd.R_lower ho0 (below_size qB)); replace BK682 := bB BK682 hb; replace HB := bS HB hb; (try clear hb); (try clear ho0)))
  go_ret2
  exact ⟨_, qR, by (with_reducible repeat (first | apply Kd.R_alloc | apply Kd.R_drewN | apply Kd.R_drew)); exact HO686.out, qB⟩
 ·rw [if_neg c4] at H
  have c4b0 : (t683 == 0) = false := beq_eq_false_iff_ne.mpr c4
  have c4b1 : (t683 != 0) = true := bne_iff_ne.mpr c4
  simp only [Option.some.injEq, Prod.mk.injEq] at H
  obtain ⟨rfl, rfl⟩ := H
  go_enter Try.func17, Try.ntmps17
  go_wp2_with (first | (refine bE 3 #[.int .i64 a1_0, .int .i64 a1_1, .int .i64 a1_2] 33 ?_; intro gb682 hg w11 hbox hb; have BK682 := aM hbox; have GW682 := bZ hg HB; have GE682 := bZ hg HB; replace HB := bS HB hb; clear hb hbox hg; obtain ⟨hcz12_0, hcz12_1, hcz12_2⟩ := z3 BK682; obtain ⟨hfz12_0, hfz12_1, hfz12_2⟩ := y3 BK682) | (refine gC 80 ?_; refine gM 9 (impl_frameCode.calls a0 a1_0 a1_1 a1_2 t683 _ A3.out) Try.func80 ?_; rintro w13 hb; replace BK682 := bB BK682 hb; replace HB := bS HB hb; (try clear hb)))
  go_ret2
  exact ⟨_, qR, by first | exact Kd.R_nil _ _ _ _ _ | exact Kd.N_nil _ _ _ _ _ | exact Kd.V_nil _ _ _ _ _ | exact Kd.Q_nil _ _ _ _ _ | exact Kd.S_nil _ _ _ _ _, qB⟩

def laws_likeVecs9.l0 : Nat → List (S47) → List (S47) → Int → Option (Bool)
 | 0, _, _, _ => none
 | k + 1, x0, x1, x5 => if x5 < (x0.length : Int) then (if 0 ≤ x5 then (if x5 < (x1.length : Int) then (if (!(((rd_T47 x0 x5).f0) == ((rd_T47 x1 x5).f0)) || (!(((rd_T47 x0 x5).f1) == ((rd_T47 x1 x5).f1)))) = true then (some false) else (laws_likeVecs9.l0 k x0 x1 (wrap64 (x5 + 1)))) else (none)) else (none)) else (some true)
def laws_likeVecs9.f (k : Nat) (l0 : List (S47)) (l1 : List (S47)) : Option (Bool) := if (l0.length : Int) = (l1.length : Int) then (laws_likeVecs9.l0 k l0 l1 0) else (some false)
set_option maxHeartbeats 8000000 in
set_option maxRecDepth 100000 in
theorem laws_likeVecs9.calls (k : Nat) (A0 : Option Addr) (c0 : Nat) (l0 : List (S47)) (A1 : Option Addr) (c1 : Nat) (l1 : List (S47)) (r : Bool) (w : World) (hr0 : Kd.C k47 w A0 l0.length l0) (hc0 : l0.length ≤ c0) (hr1 : Kd.C k47 w A1 l1.length l1) (hc1 : l1.length ≤ c1) (h : laws_likeVecs9.f k l0 l1 = some r) :
  Calls Try.prog 23 #[.slice A0 l0.length c0, .slice A1 l1.length c1] w fun e w' => e = .returned (.bool r) ∧ Drawn0 w w' := by
 have hu47 := Try.underlying47
 have HR0 := aM hr0
 have HC0 := aM hc0
 clear hr0 hc0
 have HR1 := aM hr1
 have HC1 := aM hc1
 clear hr1 hc1
 have H : (if (l0.length : Int) = (l1.length : Int) then (laws_likeVecs9.l0 k l0 l1 0) else (some false)) = some r := h
 clear h
 by_cases c3 : (l0.length : Int) = (l1.length : Int)
 ·rw [if_pos c3] at H
  have c3b0 : ((l0.length : Int) == (l1.length : Int)) = true := beq_iff_eq.mpr c3
  have c3b1 : ((l0.length : Int) != (l1.length : Int)) = false := bne_eq_false_iff_eq.mpr c3
  have c3b2 : (l0.length == l1.length) = true := by first | simpa using c3 | (simp at c3 ⊢; omega)
  clear c3
  have H' := aM H
  clear H
  go_enter Try.func23, Try.ntmps23
  go_wp2
  repeat (go_quiet (fail); try go_wp2)
  go_loopg [5] k (fun kq v5 w' => ∃ (x5_1 : Int), v5 = .int .i64 x5_1 ∧ Aside0 (laws_likeVecs9.l0 kq l0 l1 x5_1 = some r) ∧ Aside0 (kq ≤ k) ∧ Drawn0 w w')
  case atStart => exact ⟨(0), (by first | rfl | (simp; done) | (simp [*]; done)), H', ⟨Nat.le_refl _⟩, by repeat (first | exact Drawn0.refl _ | apply Drawn0.step)⟩
  case round =>
   clear H'
   try clear c1
   try clear c2
   try clear p2
   try clear c3
   try clear c3b0
   try clear c3b1
   try clear c3b2
   obtain ⟨x5_1, rfl, HA, HK1, ⟨m1, rfl⟩⟩ := hrel
   cases gk with
   | zero => exact absurd HA.out (by simp [laws_likeVecs9.l0])
   | succ k1 =>
    have H := HA.out
    clear HA
    simp only [laws_likeVecs9.l0] at H
    by_cases c4 : x5_1 < (l0.length : Int)
    ·rw [if_pos c4] at H
     have c4b0 : decide (x5_1 < (l0.length : Int)) = true := decide_eq_true c4
     clear c4
     by_cases c5 : 0 ≤ x5_1
     ·rw [if_pos c5] at H
      have c5b0 : decide (0 ≤ x5_1) = true := decide_eq_true c5
      clear c5
      by_cases c6 : x5_1 < (l1.length : Int)
      ·rw [if_pos c6] at H
       have c6b0 : decide (x5_1 < (l1.length : Int)) = true := decide_eq_true c6
       clear c6
       by_cases c7 : (!(((rd_T47 l0 x5_1).f0) == ((rd_T47 l1 x5_1).f0)) || (!(((rd_T47 l0 x5_1).f1) == ((rd_T47 l1 x5_1).f1)))) = true
       ·rw [if_pos c7] at H
        have c7b0 : (!(((rd_T47 l0 x5_1).f0) == ((rd_T47 l1 x5_1).f0)) || (!(((rd_T47 l0 x5_1).f1) == ((rd_T47 l1 x5_1).f1)))) = true := c7
        clear c7
        obtain rfl := Option.some.inj H
        have p687 : 0 ≤ (x5_1 : Int) := of_decide_eq_true (by first | (with_reducible assumption) | assumption)
        have q687 : x5_1 < (l0.length : Int) := of_decide_eq_true (by first | (with_reducible assumption) | assumption)
        obtain ⟨ad687, e687, hx687_0, hx687_1⟩ := at_T47 HR0.out x5_1 p687 q687
        cases e687
        replace p687 := eq_true p687
        replace q687 := eq_true q687
        have p688 : 0 ≤ (x5_1 : Int) := of_decide_eq_true (by first | (with_reducible assumption) | assumption)
        have q688 : x5_1 < (l1.length : Int) := of_decide_eq_true (by first | (with_reducible assumption) | assumption)
        obtain ⟨ad688, e688, hx688_0, hx688_1⟩ := at_T47 HR1.out x5_1 p688 q688
        cases e688
        replace p688 := eq_true p688
        replace q688 := eq_true q688
        go_wp2
        repeat (go_quiet (fail); try go_wp2)
        go_ret
        exact ⟨by first | rfl | (simp; done) | (simp [*]; done), by repeat (first | exact Drawn0.refl _ | apply Drawn0.step)⟩
       ·rw [if_neg c7] at H
        have c7b0 : (!(((rd_T47 l0 x5_1).f0) == ((rd_T47 l1 x5_1).f0)) || (!(((rd_T47 l0 x5_1).f1) == ((rd_T47 l1 x5_1).f1)))) = false := by simpa using c7
        clear c7
        have H' := aM H
        clear H
        have p687 : 0 ≤ (x5_1 : Int) := of_decide_eq_true (by first | (with_reducible assumption) | assumption)
        have q687 : x5_1 < (l0.length : Int) := of_decide_eq_true (by first | (with_reducible assumption) | assumption)
        obtain ⟨ad687, e687, hx687_0, hx687_1⟩ := at_T47 HR0.out x5_1 p687 q687
        cases e687
        replace p687 := eq_true p687
        replace q687 := eq_true q687
        have p688 : 0 ≤ (x5_1 : Int) := of_decide_eq_true (by first | (with_reducible assumption) | assumption)
        have q688 : x5_1 < (l1.length : Int) := of_decide_eq_true (by first | (with_reducible assumption) | assumption)
        obtain ⟨ad688, e688, hx688_0, hx688_1⟩ := at_T47 HR1.out x5_1 p688 q688
        cases e688
        replace p688 := eq_true p688
        replace q688 := eq_true q688
        go_wp2
        repeat (go_quiet (fail); try go_wp2)
        go_roundg k1
        case measure => have := HK1.out; omega
        case rel => exact ⟨(wrap64 (x5_1 + 1)), (by first | rfl | (simp; done) | (simp [*]; done)), H', ⟨by have := HK1.out; omega⟩, by repeat (first | exact Drawn0.refl _ | apply Drawn0.step)⟩
      ·rw [if_neg c6] at H
       exact absurd H (by simp)
     ·rw [if_neg c5] at H
      exact absurd H (by simp)
    ·rw [if_neg c4] at H
     have c4b0 : decide (x5_1 < (l0.length : Int)) = false := decide_eq_false c4
     clear c4
     obtain rfl := Option.some.inj H
     go_wp2
     repeat (go_quiet (fail); try go_wp2)
     go_ret
     exact ⟨by first | rfl | (simp; done) | (simp [*]; done), by repeat (first | exact Drawn0.refl _ | apply Drawn0.step)⟩
 ·rw [if_neg c3] at H
  have c3b0 : ((l0.length : Int) == (l1.length : Int)) = false := beq_eq_false_iff_ne.mpr c3
  have c3b1 : ((l0.length : Int) != (l1.length : Int)) = true := bne_iff_ne.mpr c3
  have c3b2 : (l0.length == l1.length) = false := by first | simpa using c3 | (simp at c3 ⊢; omega)
  obtain rfl := Option.some.inj H
  go_enter Try.func23, Try.ntmps23
  go_wp2
  repeat (go_quiet (fail); try go_wp2)
  go_ret
  exact ⟨by first | rfl | (simp; done) | (simp [*]; done), by repeat (first | exact Drawn0.refl _ | apply Drawn0.step)⟩

def spec_DrawLatticeMats.f (k : Nat) (l0 : List Int) : Option (Int × Int × Int × Int) := (spec_l01From.f k l0).bind fun bt690 => ((spec_l04DrawFrame.f bt690.1 bt690.2.1 bt690.2.2).bind fun bt694 => ((spec_l01Next.f bt690.1 bt694.2.1 bt694.2.2 2).bind fun bt697 => (if bt697.1 = 0 then ((spec_l01Next.f bt690.1 bt697.2.1 bt697.2.2 6).bind fun bt700 => (some (bt694.1, wrap64 (1 + bt700.1), 0, wrap64 (1 + bt700.1)))) else ((spec_l03Draw.f bt690.1 bt697.2.1 bt697.2.2).bind fun bt703 => (some (bt694.1, bt703.1, bt703.2.1, bt703.2.2.1))))))
set_option maxHeartbeats 8000000 in
set_option maxRecDepth 100000 in
theorem spec_DrawLatticeMats.calls (k : Nat) (A0 : Option Addr) (c0 : Nat) (l0 : List Int) (r1 : Int) (r2 : Int) (r3 : Int) (r4 : Int) (w : World) (hr0 : Kd.C (Kd.int .u8) w A0 l0.length l0) (hc0 : l0.length ≤ c0) (h : spec_DrawLatticeMats.f k l0 = some (r1, r2, r3, r4)) :
  Calls Try.prog 124 #[.slice A0 l0.length c0] w fun e w' => e = .returned (.tuple #[.int .i64 r1, .agg #[.int .i64 r2, .int .i64 r3, .int .i64 r4]]) ∧ Below w.heap.size w w' := by
 have hu33 := Try.underlying33
 have HR0 := aM hr0
 have HC0 := aM hc0
 clear hr0 hc0
 have HB := aM (Below.refl w.heap.size w)
 have H : ((spec_l01From.f k l0).bind fun bt690 => ((spec_l04DrawFrame.f bt690.1 bt690.2.1 bt690.2.2).bind fun bt694 => ((spec_l01Next.f bt690.1 bt694.2.1 bt694.2.2 2).bind fun bt697 => (if bt697.1 = 0 then ((spec_l01Next.f bt690.1 bt697.2.1 bt697.2.2 6).bind fun bt700 => (some (bt694.1, wrap64 (1 + bt700.1), 0, wrap64 (1 + bt700.1)))) else ((spec_l03Draw.f bt690.1 bt697.2.1 bt697.2.2).bind fun bt703 => (some (bt694.1, bt703.1, bt703.2.1, bt703.2.2.1))))))) = some (r1, r2, r3, r4) := h
 clear h
 obtain ⟨⟨t690, t691, t692⟩, A2, H⟩ := oB H
 try dsimp only at H
 obtain ⟨⟨t694, t695, t696⟩, A3, H⟩ := oB H
 try dsimp only at H
 obtain ⟨⟨t697, t698, t699⟩, A4, H⟩ := oB H
 try dsimp only at H
 by_cases c5 : t697 = 0
 ·rw [if_pos c5] at H
  have c5b0 : (t697 == 0) = true := beq_iff_eq.mpr c5
  have c5b1 : (t697 != 0) = false := bne_eq_false_iff_eq.mpr c5
  clear c5
  obtain ⟨⟨t700, t701, t702⟩, A6, H⟩ := oB H
  try dsimp only at H
  simp only [Option.some.injEq, Prod.mk.injEq] at H
  obtain ⟨rfl, rfl, rfl, rfl⟩ := H
  go_enter Try.func124, Try.ntmps124
  go_wp2_with (first | (refine bE 3 #[.int .i64 0, .int .i64 0, .int .i64 0] 33 ?_; intro gb689 hg w7 hbox hb; have BK689 := aM hbox; have GW689 := bZ hg HB; have GE689 := bZ hg HB; replace HB := bS HB hb; clear hb hbox hg) | ((with_reducible refine gate_callee (f := 83) rfl ?_); refine goesL_ (some 8) rfl rfl Try.func83 (by kernel_rfl) rfl #[.slice A0 l0.length c0] rfl (by first|rfl|(simp only [List.map_toArray, List.map_cons, List.map_nil]; try rfl)) ?_; (with_reducible refine (spec_l01From.calls k _ _ l0 t690 t691 t692 w _ ?side1 ?side2 ?side3 A2.out).mono ?_); (case side1 => repeat (first | (with_reducible first | exact HB.out | apply bA|apply bN|apply b1 | refine below_set ?_ GE689.out) | exact HB.out)); (case side2 => exact HR0.out); (case side3 => exact HC0.out); rintro e w8 ⟨g693, rfl, hi, hb, hb2⟩; refine ⟨_, rfl, ?_⟩; have HI693 := aM hi; have NB693_689 := aM (IsS144.ne_blk hi (blk_below (g := gb689) (o := .cells #[.int .i64 0, .int .i64 0, .int .i64 0] 33 (0, 0)) (bk BK689) hb2) (by decide)); have NB689_693 := aM (Ne.symm (IsS144.ne_blk hi (blk_below (g := gb689) (o := .cells #[.int .i64 0, .int .i64 0, .int .i64 0] 33 (0, 0)) (bk BK689) hb2) (by decide))); replace BK689 := aM (blk_below (g := gb689) (o := .cells #[.int .i64 0, .int .i64 0, .int .i64 0] 33 (0, 0)) (bk BK689) hb2); replace HB := aM hb; (try clear hb)) | (refine gC 85 ?_; refine gM 10 (spec_l04DrawFrame.calls g693 t690 t691 t692 t694 t695 t696 w _ (by repeat (first | (with_reducible first | exact HI693.out | apply sA|apply sN|apply sD|apply s1|apply s2 | refine IsS144.far ?_ NB693_689.out _) | exact HI693.out)) (by repeat (first | (with_reducible first | exact HB.out | apply bA|apply bN|apply b1 | refine below_set ?_ (IsS144.ge HI693.out) | refine below_set ?_ GE689.out) | exact HB.out)) A3.out) Try.func85 ?_; rintro w9 ⟨hi, hb, hk⟩; replace BK689 := kB hk BK689 NB689_693; replace HB := aM hb; replace HI693 := aM hi; (try clear hb)) | (refine gC 84 ?_; refine gM 12 (spec_l01Next.calls g693 t690 t695 t696 2 t697 t698 t699 w _ (by repeat (first | (with_reducible first | exact HI693.out | apply sA|apply sN|apply sD|apply s1|apply s2 | refine IsS144.far ?_ NB693_689.out _) | exact HI693.out)) (by repeat (first | (with_reducible first | exact HB.out | apply bA|apply bN|apply b1 | refine below_set ?_ (IsS144.ge HI693.out) | refine below_set ?_ GE689.out) | exact HB.out)) A4.out) Try.func84 ?_; rintro w10 ⟨hi, hb, hk⟩; replace BK689 := kB hk BK689 NB689_693; replace HB := aM hb; replace HI693 := aM hi; (try clear hb)) | (refine gC 84 ?_; refine gM 15 (spec_l01Next.calls g693 t690 t698 t699 6 t700 t701 t702 w _ (by repeat (first | (with_reducible first | exact HI693.out | apply sA|apply sN|apply sD|apply s1|apply s2 | refine IsS144.far ?_ NB693_689.out _) | exact HI693.out)) (by repeat (first | (with_reducible first | exact HB.out | apply bA|apply bN|apply b1 | refine below_set ?_ (IsS144.ge HI693.out) | refine below_set ?_ GE689.out) | exact HB.out)) A6.out) Try.func84 ?_; rintro w11 ⟨hi, hb, hk⟩; replace BK689 := kB hk BK689 NB689_693; replace HB := aM hb; replace HI693 := aM hi; (try clear hb); have hnb12 := NB689_693.out; have hnc12 := NB693_689.out; obtain ⟨hcz13_0, hcz13_1, hcz13_2⟩ := z3 BK689; obtain ⟨hfz13_0, hfz13_1, hfz13_2⟩ := y3 BK689))
  refine bodyPost_ret (results_tc rfl _ _ gb689 33 #[.int .i64 (wrap64 (1 + t700)), .int .i64 0, .int .i64 (wrap64 (1 + t700))] (0, 0) _ rfl (by (with_reducible repeat (first|apply kN|apply kD|apply kA)); refine blk_put (cs := #[.int .i64 (wrap64 (1 + t700)), .int .i64 0, .int .i64 0]) ?_ 2 _ rfl; (with_reducible repeat (first|apply kN|apply kD|apply kA)); refine blk_put (cs := #[.int .i64 (wrap64 (1 + t700)), .int .i64 0, .int .i64 0]) ?_ 1 _ rfl; (with_reducible repeat (first|apply kN|apply kD|apply kA)); refine blk_put (cs := #[.int .i64 0, .int .i64 0, .int .i64 0]) ?_ 0 _ rfl; (with_reducible repeat (first|apply kN|apply kD|apply kA)); exact BK689.out) Try.underlying33 rfl (by kernel_rfl)) rfl ?_
  exact ⟨qR, by repeat (first | (with_reducible first | exact HB.out | apply bA|apply bN|apply b1 | refine below_set ?_ (IsS144.ge HI693.out) | refine below_set ?_ GE689.out) | exact HB.out)⟩
 ·rw [if_neg c5] at H
  have c5b0 : (t697 == 0) = false := beq_eq_false_iff_ne.mpr c5
  have c5b1 : (t697 != 0) = true := bne_iff_ne.mpr c5
  obtain ⟨⟨t703, t704, t705, t706, t707⟩, A14, H⟩ := oB H
  try dsimp only at H
  simp only [Option.some.injEq, Prod.mk.injEq] at H
  obtain ⟨rfl, rfl, rfl, rfl⟩ := H
  go_enter Try.func124, Try.ntmps124
  go_wp2_with (first | (refine bE 3 #[.int .i64 0, .int .i64 0, .int .i64 0] 33 ?_; intro gb689 hg w15 hbox hb; have BK689 := aM hbox; have GW689 := bZ hg HB; have GE689 := bZ hg HB; replace HB := bS HB hb; clear hb hbox hg) | ((with_reducible refine gate_callee (f := 83) rfl ?_); refine goesL_ (some 8) rfl rfl Try.func83 (by kernel_rfl) rfl #[.slice A0 l0.length c0] rfl (by first|rfl|(simp only [List.map_toArray, List.map_cons, List.map_nil]; try rfl)) ?_; (with_reducible refine (spec_l01From.calls k _ _ l0 t690 t691 t692 w _ ?side1 ?side2 ?side3 A2.out).mono ?_); (case side1 => repeat (first | (with_reducible first | exact HB.out | apply bA|apply bN|apply b1 | refine below_set ?_ GE689.out) | exact HB.out)); (case side2 => exact HR0.out); (case side3 => exact HC0.out); rintro e w16 ⟨g693, rfl, hi, hb, hb2⟩; refine ⟨_, rfl, ?_⟩; have HI693 := aM hi; have NB693_689 := aM (IsS144.ne_blk hi (blk_below (g := gb689) (o := .cells #[.int .i64 0, .int .i64 0, .int .i64 0] 33 (0, 0)) (bk BK689) hb2) (by decide)); have NB689_693 := aM (Ne.symm (IsS144.ne_blk hi (blk_below (g := gb689) (o := .cells #[.int .i64 0, .int .i64 0, .int .i64 0] 33 (0, 0)) (bk BK689) hb2) (by decide))); replace BK689 := aM (blk_below (g := gb689) (o := .cells #[.int .i64 0, .int .i64 0, .int .i64 0] 33 (0, 0)) (bk BK689) hb2); replace HB := aM hb; (try clear hb)) | (refine gC 85 ?_; refine gM 10 (spec_l04DrawFrame.calls g693 t690 t691 t692 t694 t695 t696 w _ (by repeat (first | (with_reducible first | exact HI693.out | apply sA|apply sN|apply sD|apply s1|apply s2 | refine IsS144.far ?_ NB693_689.out _) | exact HI693.out)) (by repeat (first | (with_reducible first | exact HB.out | apply bA|apply bN|apply b1 | refine below_set ?_ (IsS144.ge HI693.out) | refine below_set ?_ GE689.out) | exact HB.out)) A3.out) Try.func85 ?_; rintro w17 ⟨hi, hb, hk⟩; replace BK689 := kB hk BK689 NB689_693; replace HB := aM hb; replace HI693 := aM hi; (try clear hb)) | (refine gC 84 ?_; refine gM 12 (spec_l01Next.calls g693 t690 t695 t696 2 t697 t698 t699 w _ (by repeat (first | (with_reducible first | exact HI693.out | apply sA|apply sN|apply sD|apply s1|apply s2 | refine IsS144.far ?_ NB693_689.out _) | exact HI693.out)) (by repeat (first | (with_reducible first | exact HB.out | apply bA|apply bN|apply b1 | refine below_set ?_ (IsS144.ge HI693.out) | refine below_set ?_ GE689.out) | exact HB.out)) A4.out) Try.func84 ?_; rintro w18 ⟨hi, hb, hk⟩; replace BK689 := kB hk BK689 NB689_693; replace HB := aM hb; replace HI693 := aM hi; (try clear hb)) | (refine gC 117 ?_; refine gM 23 (spec_l03Draw.calls g693 t690 t698 t699 t703 t704 t705 t706 t707 w _ (by repeat (first | (with_reducible first | exact HI693.out | apply sA|apply sN|apply sD|apply s1|apply s2 | refine IsS144.far ?_ NB693_689.out _) | exact HI693.out)) (by repeat (first | (with_reducible first | exact HB.out | apply bA|apply bN|apply b1 | refine below_set ?_ (IsS144.ge HI693.out) | refine below_set ?_ GE689.out) | exact HB.out)) A14.out) Try.func117 ?_; rintro w19 ⟨hi, hb, hk⟩; replace BK689 := kB hk BK689 NB689_693; replace HB := aM hb; replace HI693 := aM hi; (try clear hb); have hnb20 := NB689_693.out; have hnc20 := NB693_689.out; obtain ⟨hcz21_0, hcz21_1, hcz21_2⟩ := z3 BK689; obtain ⟨hfz21_0, hfz21_1, hfz21_2⟩ := y3 BK689))
  refine bodyPost_ret (results_tc rfl _ _ gb689 33 #[.int .i64 t703, .int .i64 t704, .int .i64 t705] (0, 0) _ rfl (by (with_reducible repeat (first|apply kN|apply kD|apply kA)); refine blk_put (cs := #[.int .i64 t703, .int .i64 t704, .int .i64 0]) ?_ 2 _ rfl; (with_reducible repeat (first|apply kN|apply kD|apply kA)); refine blk_put (cs := #[.int .i64 t703, .int .i64 0, .int .i64 0]) ?_ 1 _ rfl; (with_reducible repeat (first|apply kN|apply kD|apply kA)); refine blk_put (cs := #[.int .i64 0, .int .i64 0, .int .i64 0]) ?_ 0 _ rfl; (with_reducible repeat (first|apply kN|apply kD|apply kA)); exact BK689.out) Try.underlying33 rfl (by kernel_rfl)) rfl ?_
  exact ⟨qR, by repeat (first | (with_reducible first | exact HB.out | apply bA|apply bN|apply b1 | refine below_set ?_ (IsS144.ge HI693.out) | refine below_set ?_ GE689.out) | exact HB.out)⟩

def spec_DrawReducedBasis.f (k : Nat) (l0 : List Int) : Option (Int × Int × Int × Int) := (spec_DrawLatticeMats.f k l0).bind fun bt709 => (some (bt709.1, bt709.2.1, bt709.2.2.1, bt709.2.2.2))
set_option maxHeartbeats 8000000 in
set_option maxRecDepth 100000 in
theorem spec_DrawReducedBasis.calls (k : Nat) (A0 : Option Addr) (c0 : Nat) (l0 : List Int) (r1 : Int) (r2 : Int) (r3 : Int) (r4 : Int) (w : World) (hr0 : Kd.C (Kd.int .u8) w A0 l0.length l0) (hc0 : l0.length ≤ c0) (h : spec_DrawReducedBasis.f k l0 = some (r1, r2, r3, r4)) :
  Calls Try.prog 64 #[.slice A0 l0.length c0] w fun e w' => e = .returned (.tuple #[.int .i64 r1, .agg #[.int .i64 r2, .int .i64 r3, .int .i64 r4]]) ∧ Below w.heap.size w w' := by
 have hu33 := Try.underlying33
 have HR0 := aM hr0
 have HC0 := aM hc0
 clear hr0 hc0
 have HB := aM (Below.refl w.heap.size w)
 have H : ((spec_DrawLatticeMats.f k l0).bind fun bt709 => (some (bt709.1, bt709.2.1, bt709.2.2.1, bt709.2.2.2))) = some (r1, r2, r3, r4) := h
 clear h
 obtain ⟨⟨t709, t710, t711, t712⟩, A2, H⟩ := oB H
 try dsimp only at H
 simp only [Option.some.injEq, Prod.mk.injEq] at H
 obtain ⟨rfl, rfl, rfl, rfl⟩ := H
 go_enter Try.func64, Try.ntmps64
 go_wp2_with (first | (refine bE 3 #[.int .i64 0, .int .i64 0, .int .i64 0] 33 ?_; intro gb708 hg w3 hbox hb; have BK708 := aM hbox; have GW708 := bZ hg HB; have GE708 := bZ hg HB; replace HB := bS HB hb; clear hb hbox hg) | (refine gC 124 ?_; refine gM 5 (spec_DrawLatticeMats.calls k _ _ l0 t709 t710 t711 t712 _ (cD (Kd.C_below HR0.out HB.out)) HC0.out A2.out) Try.func124 ?_; rintro w4 hb; replace BK708 := bB BK708 hb; replace HB := bS HB hb; (try clear hb); obtain ⟨hcz5_0, hcz5_1, hcz5_2⟩ := z3 BK708; obtain ⟨hfz5_0, hfz5_1, hfz5_2⟩ := y3 BK708))
 refine bodyPost_ret (results_tc rfl _ _ gb708 33 #[.int .i64 t710, .int .i64 t711, .int .i64 t712] (0, 0) _ rfl (by (with_reducible repeat (first|apply kN|apply kD|apply kA)); refine blk_put (cs := #[.int .i64 t710, .int .i64 t711, .int .i64 0]) ?_ 2 _ rfl; (with_reducible repeat (first|apply kN|apply kD|apply kA)); refine blk_put (cs := #[.int .i64 t710, .int .i64 0, .int .i64 0]) ?_ 1 _ rfl; (with_reducible repeat (first|apply kN|apply kD|apply kA)); refine blk_put (cs := #[.int .i64 0, .int .i64 0, .int .i64 0]) ?_ 0 _ rfl; (with_reducible repeat (first|apply kN|apply kD|apply kA)); exact BK708.out) Try.underlying33 rfl (by kernel_rfl)) rfl ?_
 exact ⟨qR, qB⟩

mutual
def impl_vecsAround.l0 : Nat → Int → List (S47) → Int → Option ((List (S47)))
 | 0, _, _, _ => none
 | k + 1, x0, x3, x4 => if x4 ≤ x0 then (impl_vecsAround.l1 k x0 x3 x4 (wrap64 (-x0))) else (some x3)
def impl_vecsAround.l1 : Nat → Int → List (S47) → Int → Int → Option ((List (S47)))
 | 0, _, _, _, _ => none
 | k + 1, x0, x3, x4, x5 => if x5 ≤ x0 then (if x3.length < 8796093022208 then (impl_vecsAround.l1 k x0 (x3 ++ [(⟨x4, x5⟩ : S47)]) x4 (wrap64 (x5 + 1))) else (none)) else (impl_vecsAround.l0 k x0 x3 (wrap64 (x4 + 1)))
end
def impl_vecsAround.f (k : Nat) (a0 : Int) : Option ((List (S47))) := impl_vecsAround.l0 k a0 (([] : List (S47))) (wrap64 (-a0))
set_option maxHeartbeats 8000000 in
set_option maxRecDepth 100000 in
theorem impl_vecsAround.calls (k : Nat) (a0 : Int) (r : List (S47)) (w : World) (h : impl_vecsAround.f k a0 = some r) :
  Calls Try.prog 74 #[.int .i64 a0] w fun e w' => ∃ v0_ : Value, e = .returned (v0_) ∧ Kd.R k47 47 w' w.heap.size (fun _ => True) v0_ r ∧ Below w.heap.size w w' := by
 have hu47 := Try.underlying47
 have HB := aM (Below.refl w.heap.size w)
 have H : (impl_vecsAround.l0 k a0 (([] : List (S47))) (wrap64 (-a0))) = some r := h
 clear h
 obtain ⟨y713, hy713⟩ : ∃ y_ : List (S47), y_ = (([] : List (S47))) := ⟨_, rfl⟩
 replace H : (impl_vecsAround.l0 k a0 y713 (wrap64 (-a0))) = some r := by first | (rw [hy713]; with_reducible exact H) | (have H2_ := (Option.bind_some _ _).symm.trans H; rw [hy713]; with_reducible exact H2_) | (have H2_ := (Option.bind_some _ _).symm.trans H; with_reducible exact H2_) | with_reducible exact H | (rw [hy713]; exact H) | exact H
 have Ny713 := aM hy713
 clear hy713
 have H' := aM H
 clear H
 go_enter Try.func74, Try.ntmps74
 go_wp2_with (first | ((with_reducible refine gate_dst (N := 6) rfl ?_); refine Kd.R_lit k47 _ 47 ?hg (N := 6) ?hd (xs := ([] : List (S47))) (inner := []) (ok := fun _ => True) (okp := fun _ => True) ?hr ?hp (fun _ hk => hk) trivial (Below.refl _ _) (Nat.le_refl _) (by simp) ?_; (case hd => rfl); (case hg => rfl); (case hr => first | (go_simp; done) | (go_simp; rfl)); (case hp => exact (Reps.none _ _)); intro v714 w2 ho3 hb hg_ hnew_; clear hg_ hnew_; (first | rw [← Ny713.out] at ho3 | (simp only [Int.reduceToNat] at ho3; rw [← Ny713.out] at ho3)); have HO715 := aM (Kd.R_lower ho3 (below_size qB)); replace HB := bS HB hb; clear hb ho3))
 go_loopg [3, 4] k (fun kq v3 v4 w' => ∃ (x3_1 : List (S47)) (x4_1 : Int), v4 = .int .i64 x4_1 ∧ Aside0 (impl_vecsAround.l0 kq a0 x3_1 x4_1 = some r) ∧ Aside0 (kq ≤ k) ∧ Aside0 (Kd.R k47 47 w' w.heap.size (fun _ => True) v3 x3_1) ∧ Aside0 (Below w.heap.size w w'))
 case atStart => exact ⟨(y713), (wrap64 (-a0)), (by first | rfl | (simp; done) | (simp [*]; done)), H', ⟨Nat.le_refl _⟩, ⟨by (with_reducible repeat (first | apply Kd.R_alloc | apply Kd.R_drewN | apply Kd.R_drew)); exact HO715.out⟩, ⟨qB⟩⟩
 case round =>
  clear H'
  try clear p2
  obtain ⟨x3_1, x4_1, rfl, HA, HK1, HO_3, HB⟩ := hrel
  cases gk with
  | zero => exact absurd HA.out (by simp [impl_vecsAround.l0])
  | succ k1 =>
   have H := HA.out
   clear HA
   simp only [impl_vecsAround.l0] at H
   by_cases c4 : x4_1 ≤ a0
   ·rw [if_pos c4] at H
    have c4b0 : decide (x4_1 ≤ a0) = true := decide_eq_true c4
    clear c4
    have H' := aM H
    clear H
    go_wp2
    go_loopg [3, 5] k1 (fun kq v3 v5 w' => ∃ (x3_2 : List (S47)) (x5_2 : Int), v5 = .int .i64 x5_2 ∧ Aside0 (impl_vecsAround.l1 kq a0 x3_2 x4_1 x5_2 = some r) ∧ Aside0 (kq ≤ k1) ∧ Aside0 (Kd.R k47 47 w' w.heap.size (fun _ => True) v3 x3_2) ∧ Aside0 (Below w.heap.size w w'))
    case atStart => exact ⟨(x3_1), (wrap64 (-a0)), (by first | rfl | (simp; done) | (simp [*]; done)), H', ⟨Nat.le_refl _⟩, ⟨by (with_reducible repeat (first | apply Kd.R_alloc | apply Kd.R_drewN | apply Kd.R_drew)); exact HO_3.out⟩, ⟨qB⟩⟩
    case round =>
     clear H'
     try clear p2
     try clear c4
     try clear c4b0
     try clear p2
     obtain ⟨x3_2, x5_2, rfl, HA, HK2, HO_3, HB⟩ := hrel
     cases gk with
     | zero => exact absurd HA.out (by simp [impl_vecsAround.l1])
     | succ k2 =>
      have H := HA.out
      clear HA
      simp only [impl_vecsAround.l1] at H
      by_cases c5 : x5_2 ≤ a0
      ·rw [if_pos c5] at H
       have c5b0 : decide (x5_2 ≤ a0) = true := decide_eq_true c5
       clear c5
       by_cases c6 : x3_2.length < 8796093022208
       ·rw [if_pos c6] at H
        have LMc6 := aM c6
        clear c6
        obtain ⟨y716, hy716⟩ : ∃ y_ : List (S47), y_ = (x3_2 ++ [(⟨x4_1, x5_2⟩ : S47)]) := ⟨_, rfl⟩
        replace H : (impl_vecsAround.l1 k2 a0 y716 x4_1 (wrap64 (x5_2 + 1))) = some r := by first | (rw [hy716]; with_reducible exact H) | (have H2_ := (Option.bind_some _ _).symm.trans H; rw [hy716]; with_reducible exact H2_) | (have H2_ := (Option.bind_some _ _).symm.trans H; with_reducible exact H2_) | with_reducible exact H | (rw [hy716]; exact H) | exact H
        have Ny716 := aM hy716
        clear hy716
        have H' := aM H
        clear H
        go_wp2_with (first | ((with_reducible refine gate_builtin (b := .append) (xs := #[.tmp 21, .tmp 25]) rfl ?_); at_builtin; refine Kd.R_append k47 (w0 := w) w.heap.size rfl (.tmp 21) (.tmp 25) 22 47 (.agg #[(.int .i64 0), (.int .i64 0)]) 16 rfl Try.underlying22 info47 rfl (by decide) (by omega) u3 x3_2 (⟨x4_1, x5_2⟩ : S47) [.int .i64 x4_1, .int .i64 x5_2] (fun _ => True) (fun _ => False) rfl rfl ?aP (fun _ hk => hk.elim) ?aF ?aO ?aB ?aS ?aL ?_; (case aP => exact k47_mkM _ _ _ (⟨x4_1, x5_2⟩ : S47)); (case aB => exact qB); (case aF => exact (fun _ _ => trivial)); (case aO => exact (by (with_reducible repeat (first | apply Kd.R_alloc | apply Kd.R_drewN | apply Kd.R_drew)); exact HO_3.out)); (case aS => exact (below_size qB)); (case aL => have := LMc6.out; omega); intro v717 w7 ho hb hg hat; rw [← Ny716.out] at ho; have HO718 := aM ho; replace HB := aM hb; clear HO_3; clear ho hb hg hat))
        go_roundg k2
        case measure => have := HK1.out; have := HK2.out; omega
        case rel => exact ⟨(y716), (wrap64 (x5_2 + 1)), (by first | rfl | (simp; done) | (simp [*]; done)), H', ⟨by have := HK1.out; have := HK2.out; omega⟩, ⟨by (with_reducible repeat (first | apply Kd.R_alloc | apply Kd.R_drewN | apply Kd.R_drew)); exact HO718.out⟩, ⟨qB⟩⟩
       ·rw [if_neg c6] at H
        exact absurd H (by simp)
      ·rw [if_neg c5] at H
       have c5b0 : decide (x5_2 ≤ a0) = false := decide_eq_false c5
       clear c5
       have H' := aM H
       clear H
       go_wp2
       go_roundg k2
       case measure => have := HK1.out; have := HK2.out; omega
       case rel => exact ⟨(x3_2), (wrap64 (x4_1 + 1)), (by first | rfl | (simp; done) | (simp [*]; done)), H', ⟨by have := HK1.out; have := HK2.out; omega⟩, ⟨by (with_reducible repeat (first | apply Kd.R_alloc | apply Kd.R_drewN | apply Kd.R_drew)); exact HO_3.out⟩, ⟨qB⟩⟩
   ·rw [if_neg c4] at H
    have c4b0 : decide (x4_1 ≤ a0) = false := decide_eq_false c4
    clear c4
    obtain rfl := Option.some.inj H
    go_wp2
    go_ret
    exact ⟨_, qR, by (with_reducible repeat (first | apply Kd.R_alloc | apply Kd.R_drewN | apply Kd.R_drew)); exact HO_3.out, qB⟩

end Go.Proofs.Ytcjchihnopmplaa.F

import Derived.Test.YtcjchihnopmplaaY0
import Derived.Test.YtcjchihnopmplaaY1
import Derived.Test.YtcjchihnopmplaaY2
namespace Go.Proofs.Ytcjchihnopmplaa.F
open Go.RowKit Go.Proofs.YtcjchihnopmplaaW.PrintWords Go.Proofs.YtcjchihnopmplaaW.PrintLast Go.Proofs.YtcjchihnopmplaaW.PrintMore
attribute [local go_sem] max2_int min2_int max_two min_two max_three min_three max_four min_four   -- for this text's walks alone
set_option linter.unusedVariables false
set_option linter.unusedSimpArgs false
attribute [local go_sem high] eqA51

def impl_Mat_151.l0 : Nat → List (S51) → Int → Int → Int → Int → Int → Int → Option (Int)
 | 0, _, _, _, _, _, _, _ => none
 | k + 1, x0, x7, x8, x453000, x453001, x453002, x453003 => if x8 < x7 then (if 0 ≤ x8 then (if x8 < (x0.length : Int) then (if (x453000 == ((rd_T51 x0 x8).f0) && (x453001 == ((rd_T51 x0 x8).f1) && (x453002 == ((rd_T51 x0 x8).f2) && (x453003 == ((rd_T51 x0 x8).f3))))) = true then (some x8) else (impl_Mat_151.l0 k x0 x7 (wrap64 (x8 + 1)) x453000 x453001 x453002 x453003)) else (none)) else (none)) else (some (-1))
def impl_Mat_151.f (k : Nat) (l0 : List (S51)) (a1_0 : Int) (a1_1 : Int) (a1_2 : Int) (a1_3 : Int) : Option (Int) := impl_Mat_151.l0 k l0 (l0.length : Int) 0 a1_0 a1_1 a1_2 a1_3
set_option maxHeartbeats 8000000 in
set_option maxRecDepth 100000 in
theorem impl_Mat_151.calls (k : Nat) (A0 : Option Addr) (c0 : Nat) (l0 : List (S51)) (a1_0 : Int) (a1_1 : Int) (a1_2 : Int) (a1_3 : Int) (r : Int) (w : World) (hr0 : Kd.C k51 w A0 l0.length l0) (hc0 : l0.length ≤ c0) (h : impl_Mat_151.f k l0 a1_0 a1_1 a1_2 a1_3 = some r) :
  Calls Try.prog 151 #[.slice A0 l0.length c0, .agg #[.int .i64 a1_0, .int .i64 a1_1, .int .i64 a1_2, .int .i64 a1_3]] w fun e w' => e = .returned (.int .i64 r) ∧ Below w.heap.size w w' := by
 have hu51 := Try.underlying51
 have HR0 := aM hr0
 have HC0 := aM hc0
 clear hr0 hc0
 have HB := aM (Below.refl w.heap.size w)
 have H : (impl_Mat_151.l0 k l0 (l0.length : Int) 0 a1_0 a1_1 a1_2 a1_3) = some r := h
 clear h
 have H' := aM H
 clear H
 go_enter Try.func151, Try.ntmps151
 go_wp2_with (first | (refine bE 3 #[.int .i64 a1_0, .int .i64 a1_1, .int .i64 a1_2, .int .i64 a1_3] 51 ?_; intro gb452 hg w3 hbox hb; have BK452 := aM hbox; have GW452 := bZ hg HB; have GE452 := bZ hg HB; replace HB := bS HB hb; clear hb hbox hg))
 repeat (go_quiet (first | (refine bE 3 #[.int .i64 a1_0, .int .i64 a1_1, .int .i64 a1_2, .int .i64 a1_3] 51 ?_; intro gb452 hg w3 hbox hb; have BK452 := aM hbox; have GW452 := bZ hg HB; have GE452 := bZ hg HB; replace HB := bS HB hb; clear hb hbox hg)); try go_wp2_with (first | (refine bE 3 #[.int .i64 a1_0, .int .i64 a1_1, .int .i64 a1_2, .int .i64 a1_3] 51 ?_; intro gb452 hg w3 hbox hb; have BK452 := aM hbox; have GW452 := bZ hg HB; have GE452 := bZ hg HB; replace HB := bS HB hb; clear hb hbox hg)))
 go_loopg [8] k (fun kq v8 w' => ∃ (x8_1 : Int), v8 = .int .i64 x8_1 ∧ Aside0 (impl_Mat_151.l0 kq l0 (l0.length : Int) x8_1 a1_0 a1_1 a1_2 a1_3 = some r) ∧ Aside0 (kq ≤ k) ∧ Aside0 (w'.heap[gb452]? = some (.cells #[.int .i64 a1_0, .int .i64 a1_1, .int .i64 a1_2, .int .i64 a1_3] 51 (0, 0))) ∧ Aside0 (Below w.heap.size w w'))
 case atStart => exact ⟨(0), (by first | rfl | (simp; done) | (simp [*]; done)), H', ⟨Nat.le_refl _⟩, ⟨bk BK452⟩, ⟨qB⟩⟩
 case round =>
  clear H'
  try clear c1
  try clear p2
  obtain ⟨x8_1, rfl, HA, HK1, BK452, HB⟩ := hrel
  cases gk with
  | zero => exact absurd HA.out (by simp [impl_Mat_151.l0])
  | succ k1 =>
   have H := HA.out
   clear HA
   simp only [impl_Mat_151.l0] at H
   by_cases c4 : x8_1 < (l0.length : Int)
   ·rw [if_pos c4] at H
    have c4b0 : decide (x8_1 < (l0.length : Int)) = true := decide_eq_true c4
    clear c4
    by_cases c5 : 0 ≤ x8_1
    ·rw [if_pos c5] at H
     have c5b0 : decide (0 ≤ x8_1) = true := decide_eq_true c5
     clear c5
     by_cases c6 : x8_1 < (l0.length : Int)
     ·rw [if_pos c6] at H
      have c6b0 : decide (x8_1 < (l0.length : Int)) = true := decide_eq_true c6
      clear c6
      by_cases c7 : (a1_0 == ((rd_T51 l0 x8_1).f0) && (a1_1 == ((rd_T51 l0 x8_1).f1) && (a1_2 == ((rd_T51 l0 x8_1).f2) && (a1_3 == ((rd_T51 l0 x8_1).f3))))) = true
      ·rw [if_pos c7] at H
       have c7b0 : (a1_0 == ((rd_T51 l0 x8_1).f0) && (a1_1 == ((rd_T51 l0 x8_1).f1) && (a1_2 == ((rd_T51 l0 x8_1).f2) && (a1_3 == ((rd_T51 l0 x8_1).f3))))) = true := c7
       (try (have c7b1 : decide (a1_0 = ((rd_T51 l0 x8_1).f0) && (a1_1 == ((rd_T51 l0 x8_1).f1) && (a1_2 == ((rd_T51 l0 x8_1).f2) && (a1_3 == ((rd_T51 l0 x8_1).f3))))) = true := by simpa using c7))
       (try (have c7b2 : (a1_0 == ((rd_T51 l0 x8_1).f0) && (a1_1 == ((rd_T51 l0 x8_1).f1) && (a1_2 == ((rd_T51 l0 x8_1).f2) && (a1_3 == ((rd_T51 l0 x8_1).f3))))) = true := by simpa using c7))
       clear c7
       obtain rfl := Option.some.inj H
       obtain ⟨hcz8_0, hcz8_1, hcz8_2, hcz8_3⟩ := z4 BK452
       obtain ⟨hfz8_0, hfz8_1, hfz8_2, hfz8_3⟩ := y4 BK452
       have p453 : 0 ≤ (x8_1 : Int) := of_decide_eq_true (by first | (with_reducible assumption) | assumption)
       have q453 : x8_1 < (l0.length : Int) := of_decide_eq_true (by first | (with_reducible assumption) | assumption)
       obtain ⟨ad453, e453, hx453_0, hx453_1, hx453_2, hx453_3⟩ := at_T51 HR0.out x8_1 p453 q453
       cases e453
       replace hx453_0 := (HB.out.cell (World.block_lt_of_cell? w _ hx453_0)).trans hx453_0
       replace hx453_1 := (HB.out.cell (World.block_lt_of_cell? w _ hx453_1)).trans hx453_1
       replace hx453_2 := (HB.out.cell (World.block_lt_of_cell? w _ hx453_2)).trans hx453_2
       replace hx453_3 := (HB.out.cell (World.block_lt_of_cell? w _ hx453_3)).trans hx453_3
       replace p453 := eq_true p453
       replace q453 := eq_true q453
       go_wp2
       repeat (go_quiet (fail); try go_wp2)
       go_ret
       exact ⟨qR, qB⟩
      ·rw [if_neg c7] at H
       have c7b0 : (a1_0 == ((rd_T51 l0 x8_1).f0) && (a1_1 == ((rd_T51 l0 x8_1).f1) && (a1_2 == ((rd_T51 l0 x8_1).f2) && (a1_3 == ((rd_T51 l0 x8_1).f3))))) = false := by simpa using c7
       (try (have c7b1 : decide (a1_0 = ((rd_T51 l0 x8_1).f0) && (a1_1 == ((rd_T51 l0 x8_1).f1) && (a1_2 == ((rd_T51 l0 x8_1).f2) && (a1_3 == ((rd_T51 l0 x8_1).f3))))) = false := by simpa using c7))
       (try (have c7b2 : (a1_0 == ((rd_T51 l0 x8_1).f0) && (a1_1 == ((rd_T51 l0 x8_1).f1) && (a1_2 == ((rd_T51 l0 x8_1).f2) && (a1_3 == ((rd_T51 l0 x8_1).f3))))) = false := by simpa using c7))
       (try (have c7b3 : ¬ (a1_0 = ((rd_T51 l0 x8_1).f0) && (a1_1 == ((rd_T51 l0 x8_1).f1) && (a1_2 == ((rd_T51 l0 x8_1).f2) && (a1_3 == ((rd_T51 l0 x8_1).f3))))) := by simpa using c7))
       clear c7
       have H' := aM H
       clear H
       obtain ⟨hcz9_0, hcz9_1, hcz9_2, hcz9_3⟩ := z4 BK452
       obtain ⟨hfz9_0, hfz9_1, hfz9_2, hfz9_3⟩ := y4 BK452
       have p453 : 0 ≤ (x8_1 : Int) := of_decide_eq_true (by first | (with_reducible assumption) | assumption)
       have q453 : x8_1 < (l0.length : Int) := of_decide_eq_true (by first | (with_reducible assumption) | assumption)
       obtain ⟨ad453, e453, hx453_0, hx453_1, hx453_2, hx453_3⟩ := at_T51 HR0.out x8_1 p453 q453
       cases e453
       replace hx453_0 := (HB.out.cell (World.block_lt_of_cell? w _ hx453_0)).trans hx453_0
       replace hx453_1 := (HB.out.cell (World.block_lt_of_cell? w _ hx453_1)).trans hx453_1
       replace hx453_2 := (HB.out.cell (World.block_lt_of_cell? w _ hx453_2)).trans hx453_2
       replace hx453_3 := (HB.out.cell (World.block_lt_of_cell? w _ hx453_3)).trans hx453_3
       replace p453 := eq_true p453
       replace q453 := eq_true q453
       go_wp2
       repeat (go_quiet (fail); try go_wp2)
       go_roundg k1
       case measure => have := HK1.out; omega
       case rel => exact ⟨(wrap64 (x8_1 + 1)), (by first | rfl | (simp; done) | (simp [*]; done)), H', ⟨by have := HK1.out; omega⟩, ⟨bk BK452⟩, ⟨qB⟩⟩
     ·rw [if_neg c6] at H
      exact absurd H (by simp)
    ·rw [if_neg c5] at H
     exact absurd H (by simp)
   ·rw [if_neg c4] at H
    have c4b0 : decide (x8_1 < (l0.length : Int)) = false := decide_eq_false c4
    clear c4
    obtain rfl := Option.some.inj H
    go_wp2
    repeat (go_quiet (fail); try go_wp2)
    go_ret
    exact ⟨qR, qB⟩

def impl_Mat_122.f (k : Nat) (l0 : List (S51)) (a1_0 : Int) (a1_1 : Int) (a1_2 : Int) (a1_3 : Int) : Option (Bool) := (impl_Mat_151.f k l0 a1_0 a1_1 a1_2 a1_3).bind fun t455 => (some (decide (t455 ≥ 0)))
set_option maxHeartbeats 8000000 in
set_option maxRecDepth 100000 in
theorem impl_Mat_122.calls (k : Nat) (A0 : Option Addr) (c0 : Nat) (l0 : List (S51)) (a1_0 : Int) (a1_1 : Int) (a1_2 : Int) (a1_3 : Int) (r : Bool) (w : World) (hr0 : Kd.C k51 w A0 l0.length l0) (hc0 : l0.length ≤ c0) (h : impl_Mat_122.f k l0 a1_0 a1_1 a1_2 a1_3 = some r) :
  Calls Try.prog 122 #[.slice A0 l0.length c0, .agg #[.int .i64 a1_0, .int .i64 a1_1, .int .i64 a1_2, .int .i64 a1_3]] w fun e w' => e = .returned (.bool r) ∧ Below w.heap.size w w' := by
 have hu51 := Try.underlying51
 have HR0 := aM hr0
 have HC0 := aM hc0
 clear hr0 hc0
 have HB := aM (Below.refl w.heap.size w)
 have H : ((impl_Mat_151.f k l0 a1_0 a1_1 a1_2 a1_3).bind fun t455 => (some (decide (t455 ≥ 0)))) = some r := h
 clear h
 obtain ⟨t455, A3, H⟩ := oB H
 try dsimp only at H
 obtain rfl := Option.some.inj H
 go_enter Try.func122, Try.ntmps122
 go_wp2_with (first | (refine bE 3 #[.int .i64 a1_0, .int .i64 a1_1, .int .i64 a1_2, .int .i64 a1_3] 51 ?_; intro gb454 hg w4 hbox hb; have BK454 := aM hbox; have GW454 := bZ hg HB; have GE454 := bZ hg HB; replace HB := bS HB hb; clear hb hbox hg; obtain ⟨hcz5_0, hcz5_1, hcz5_2, hcz5_3⟩ := z4 BK454; obtain ⟨hfz5_0, hfz5_1, hfz5_2, hfz5_3⟩ := y4 BK454) | (refine gC 151 ?_; refine gM 7 (impl_Mat_151.calls k _ _ l0 a1_0 a1_1 a1_2 a1_3 t455 _ (cD (Kd.C_below HR0.out HB.out)) HC0.out A3.out) Try.func151 ?_; rintro w6 hb; replace BK454 := bB BK454 hb; replace HB := bS HB hb; (try clear hb)))
 go_ret
 exact ⟨qR, qB⟩

def impl_IsPointMat.f (k : Nat) (a0 : Int) (a1_0 : Int) (a1_1 : Int) (a1_2 : Int) (a1_3 : Int) : Option (Bool) := (impl_IsFrame.f a0).bind fun t457 => (if t457 = true then ((impl_pointMats.f k a0).bind fun t458 => ((impl_Mat_122.f k t458 a1_0 a1_1 a1_2 a1_3).bind fun t461 => (some t461))) else (some false))
def impl_IsPointMat.T1 : Bool × List (List Nat × List Nat) := (true, [([], []), ([0], [0]), ([1, 1], [1]), ([2], [2]), ([3, 2, 2], [2, 3]), ([2], [2]), ([4, 5, 4, 2], [2, 4, 5]), ([2, 6], [2, 6]), ([7, 6, 0, 1, 2, 3, 4, 5, 6, 7], [7])])
def impl_IsPointMat.B1 : List Nat := [0, 1, 3, 7, 15, 7, 63, 127, 255]
theorem impl_IsPointMat.tab1 : rtab .any (opsOf Try.f60 1) = impl_IsPointMat.T1 := by kernel_rfl
theorem impl_IsPointMat.bits1 : waitsOk impl_IsPointMat.T1.2 impl_IsPointMat.B1 = true := by kernel_rfl
set_option maxHeartbeats 8000000 in
set_option maxRecDepth 100000 in
theorem impl_IsPointMat.calls (k : Nat) (a0 : Int) (a1_0 : Int) (a1_1 : Int) (a1_2 : Int) (a1_3 : Int) (r : Bool) (w : World) (h : impl_IsPointMat.f k a0 a1_0 a1_1 a1_2 a1_3 = some r) :
  Calls Try.prog 60 #[.int .i64 a0, .agg #[.int .i64 a1_0, .int .i64 a1_1, .int .i64 a1_2, .int .i64 a1_3]] w fun e w' => e = .returned (.bool r) ∧ Below w.heap.size w w' := by
 have hu51 := Try.underlying51
 have HB := aM (Below.refl w.heap.size w)
 have H : ((impl_IsFrame.f a0).bind fun t457 => (if t457 = true then ((impl_pointMats.f k a0).bind fun t458 => ((impl_Mat_122.f k t458 a1_0 a1_1 a1_2 a1_3).bind fun t461 => (some t461))) else (some false))) = some r := h
 clear h
 obtain ⟨t457, A3, H⟩ := oB H
 try dsimp only at H
 by_cases c4 : t457 = true
 ·subst c4
  have H1 : ((impl_pointMats.f k a0).bind fun t458 => ((impl_Mat_122.f k t458 a1_0 a1_1 a1_2 a1_3).bind fun t461 => (some t461))) = some r := by rw [if_pos rfl] at H; exact H
  clear H
  have H := H1
  clear H1
  obtain ⟨t458, A5, H⟩ := oB H
  try dsimp only at H
  obtain ⟨t461, A6, H⟩ := oB H
  try dsimp only at H
  obtain rfl := Option.some.inj H
  go_enter Try.func60, Try.ntmps60
  try go_wp2_with (first | (refine bE 3 #[.int .i64 a1_0, .int .i64 a1_1, .int .i64 a1_2, .int .i64 a1_3] 51 ?_; intro gb456 hg w7 hbox hb; have BK456 := aM hbox; have GW456 := bZ hg HB; have GE456 := bZ hg HB; replace HB := bS HB hb; clear hb hbox hg))
  replace BK456 := aM (blk_drew BK456.out)
  replace HB := aM (below_drew1 HB.out)
  refine sT (fun w' => w'.cell? ⟨gb456, 0, none⟩ = some (.int .i64 a1_0) ∧ w'.cell? ⟨gb456, 1, none⟩ = some (.int .i64 a1_1) ∧ w'.cell? ⟨gb456, 2, none⟩ = some (.int .i64 a1_2) ∧ w'.cell? ⟨gb456, 3, none⟩ = some (.int .i64 a1_3)) [] ⟨cB BK456, cB BK456, cB BK456, cB BK456⟩ (fun hHeld => ?_); refine with_tabW impl_IsPointMat.tab1 impl_IsPointMat.bits1 (fun HT_ HW_ => ?_)
  generalize w7.drew = w8 at BK456 HB hHeld ⊢
  refine pU 0 (some 5) 1 HT_ ?_
  refine oU 1 (some 6) 3 HT_ (fun K hK => ?_)
  refine gO Try.func62 #[.int .i64 a0] ?_
  with_reducible refine (impl_IsFrame.calls a0 true _ A3.out).mono ?_
  rintro e w' ⟨rfl, ⟨nd, rfl⟩⟩
  refine ⟨_, rfl, ?_⟩
  refine hK.out _ _ ⟨cB BK456, cB BK456, cB BK456, cB BK456⟩ (fun hHeld => ?_)
  clear hK K
  refine nM 6 ?_
  refine pU 2 (some 7) 7 HT_ ?_
  refine pU 3 (some 8) 15 HT_ ?_
  refine tU 5 (some 10) 47 HT_ HW_ hHeld ?_
  refine oU 4 (some 9) 63 HT_ (fun K hK => ?_)
  refine gO Try.func114 #[.int .i64 a0] ?_
  with_reducible refine (impl_pointMats.calls k a0 t458 _ A5.out).mono ?_
  rintro e w9 ⟨v459, rfl, ho0, hb⟩
  refine ⟨_, rfl, ?_⟩
  have HO460 := aM (Kd.R_lower (Kd.R_newB ho0 (g := gb456) (o := .cells #[.int .i64 a1_0, .int .i64 a1_1, .int .i64 a1_2, .int .i64 a1_3] 51 (0, 0)) (bk BK456)) (below_size qB))
  replace BK456 := bB BK456 hb
  replace HB := bS HB hb
  (try clear hb)
  (try clear hb2)
  (try clear hk)
  (try clear hi)
  (try clear ho0)
  obtain ⟨Ao10, co10, eo10⟩ := Kd.R_slice HO460.out
  (first | subst eo10 | (injection eo10 with f1_ f2_ f3_; have f4_ := f1_.symm; have f5_ := f3_.symm; clear f1_ f2_ f3_; subst f4_; subst f5_))
  refine hK.out _ _ ⟨cB BK456, cB BK456, cB BK456, cB BK456⟩ (fun hHeld => ?_)
  clear hK K
  refine nM 9 ?_
  refine oU 6 (some 11) 127 HT_ (fun K hK => ?_)
  refine gO Try.func122 #[.slice Ao10 t458.length co10, .agg #[.int .i64 a1_0, .int .i64 a1_1, .int .i64 a1_2, .int .i64 a1_3]] ?_
  with_reducible refine (impl_Mat_122.calls k _ _ t458 a1_0 a1_1 a1_2 a1_3 t461 _ ?side1 ?side2 A6.out).mono ?_
  (case side1 => repeat (first | exact (Kd.R_reads' HO460.out).2.2 | (with_reducible refine Kd.C_alloc ?_ _) | (with_reducible refine Kd.C_drewN ?_ _) | (with_reducible refine Kd.C_drew ?_)))
  (case side2 => exact (Kd.R_reads' HO460.out).2.1)
  rintro e w11 ⟨rfl, hb⟩
  refine ⟨_, rfl, ?_⟩
  have n0_ := aM (Kd.R_below (by (with_reducible repeat (first | apply Kd.R_alloc | apply Kd.R_drewN | apply Kd.R_drew)); exact HO460.out) hb)
  have n1_ := bB BK456 hb
  have n2_ := bS HB hb
  clear HO460
  clear BK456
  clear HB
  have HO460 := n0_
  have BK456 := n1_
  have HB := n2_
  clear n0_ n1_ n2_
  (try clear hb)
  (try clear hb2)
  (try clear hk)
  (try clear hi)
  refine hK.out _ _ ⟨cB BK456, cB BK456, cB BK456, cB BK456⟩ (fun hHeld => ?_)
  clear hK K
  refine nM 11 ?_
  refine pU 7 (some 12) 255 HT_ ?_
  refine pU 8 (some 4) 511 HT_ ?_
  refine dN HT_ ?_
  try go_wp2
  go_ret
  exact ⟨qR, qB⟩
 ·replace c4 := Bool.eq_false_iff.mpr c4
  subst c4
  have H1 : (some false) = some r := by rw [if_neg (show ¬ (false = true) by decide)] at H; exact H
  clear H
  have H := H1
  clear H1
  obtain rfl := Option.some.inj H
  go_enter Try.func60, Try.ntmps60
  try go_wp2_with (first | (refine bE 3 #[.int .i64 a1_0, .int .i64 a1_1, .int .i64 a1_2, .int .i64 a1_3] 51 ?_; intro gb456 hg w12 hbox hb; have BK456 := aM hbox; have GW456 := bZ hg HB; have GE456 := bZ hg HB; replace HB := bS HB hb; clear hb hbox hg))
  replace BK456 := aM (blk_drew BK456.out)
  replace HB := aM (below_drew1 HB.out)
  refine start_ (n := 9) (S := fun w' => True) (ds := []) (bz 9 0) (by kernel_rfl) rfl rfl trivial (fun hHeld => ?_); refine with_tabW impl_IsPointMat.tab1 impl_IsPointMat.bits1 (fun HT_ HW_ => ?_)
  generalize w12.drew = w13 at BK456 HB hHeld ⊢
  refine pU 0 (some 5) 1 HT_ ?_
  refine oU 1 (some 6) 3 HT_ (fun K hK => ?_)
  refine gO Try.func62 #[.int .i64 a0] ?_
  with_reducible refine (impl_IsFrame.calls a0 false _ A3.out).mono ?_
  rintro e w' ⟨rfl, ⟨nd, rfl⟩⟩
  refine ⟨_, rfl, ?_⟩
  refine hK.out _ _ trivial (fun hHeld => ?_)
  clear hK K
  refine nM 6 ?_
  refine pU 2 (some 7) 7 HT_ ?_
  refine pV 3 (some 8) 15 HT_ ?_
  refine pV 4 (some 9) 31 HT_ ?_
  refine pV 5 (some 10) 63 HT_ ?_
  refine pV 6 (some 11) 127 HT_ ?_
  refine pU 7 (some 12) 255 HT_ ?_
  refine pU 8 (some 4) 511 HT_ ?_
  refine dN HT_ ?_
  try go_wp2
  go_ret
  exact ⟨qR, qB⟩

def impl_Lattice_index.f (a0_0 : Int) (a0_1 : Int) (a0_2 : Int) : Option (Int) := some (wrap64 (a0_0 * a0_2))
set_option maxHeartbeats 8000000 in
set_option maxRecDepth 100000 in
theorem impl_Lattice_index.calls (a0_0 : Int) (a0_1 : Int) (a0_2 : Int) (r : Int) (w : World) (h : impl_Lattice_index.f a0_0 a0_1 a0_2 = some r) :
  Calls Try.prog 152 #[.agg #[.int .i64 a0_0, .int .i64 a0_1, .int .i64 a0_2]] w fun e w' => e = .returned (.int .i64 r) ∧ Below w.heap.size w w' := by
 have hu33 := Try.underlying33
 have HB := aM (Below.refl w.heap.size w)
 have H : (some (wrap64 (a0_0 * a0_2))) = some r := h
 clear h
 obtain rfl := Option.some.inj H
 go_enter Try.func152, Try.ntmps152
 go_wp2_with (first | (refine bE 1 #[.int .i64 a0_0, .int .i64 a0_1, .int .i64 a0_2] 33 ?_; intro gb462 hg w2 hbox hb; have BK462 := aM hbox; have GW462 := bZ hg HB; have GE462 := bZ hg HB; replace HB := bS HB hb; clear hb hbox hg; obtain ⟨hcz3_0, hcz3_1, hcz3_2⟩ := z3 BK462; obtain ⟨hfz3_0, hfz3_1, hfz3_2⟩ := y3 BK462))
 go_ret
 exact ⟨qR, qB⟩

def impl_IsLattice.f (a0_0 : Int) (a0_1 : Int) (a0_2 : Int) : Option (Bool) := (impl_within.f a0_0 1 64).bind fun t464 => (if t464 = true then ((impl_within.f a0_2 1 64).bind fun t465 => (if t465 = true then ((impl_within.f a0_1 0 (wrap64 (a0_0 - 1))).bind fun t466 => (if t466 = true then ((impl_Lattice_index.f a0_0 a0_1 a0_2).bind fun t467 => (some (decide (t467 ≤ 64)))) else (some false))) else (some false))) else (some false))
set_option maxHeartbeats 8000000 in
set_option maxRecDepth 100000 in
theorem impl_IsLattice.calls (a0_0 : Int) (a0_1 : Int) (a0_2 : Int) (r : Bool) (w : World) (h : impl_IsLattice.f a0_0 a0_1 a0_2 = some r) :
  Calls Try.prog 133 #[.agg #[.int .i64 a0_0, .int .i64 a0_1, .int .i64 a0_2]] w fun e w' => e = .returned (.bool r) ∧ Below w.heap.size w w' := by
 have hu33 := Try.underlying33
 have HB := aM (Below.refl w.heap.size w)
 have H : ((impl_within.f a0_0 1 64).bind fun t464 => (if t464 = true then ((impl_within.f a0_2 1 64).bind fun t465 => (if t465 = true then ((impl_within.f a0_1 0 (wrap64 (a0_0 - 1))).bind fun t466 => (if t466 = true then ((impl_Lattice_index.f a0_0 a0_1 a0_2).bind fun t467 => (some (decide (t467 ≤ 64)))) else (some false))) else (some false))) else (some false))) = some r := h
 clear h
 obtain ⟨t464, A2, H⟩ := oB H
 try dsimp only at H
 by_cases c3 : t464 = true
 ·subst c3
  have H1 : ((impl_within.f a0_2 1 64).bind fun t465 => (if t465 = true then ((impl_within.f a0_1 0 (wrap64 (a0_0 - 1))).bind fun t466 => (if t466 = true then ((impl_Lattice_index.f a0_0 a0_1 a0_2).bind fun t467 => (some (decide (t467 ≤ 64)))) else (some false))) else (some false))) = some r := by rw [if_pos rfl] at H; exact H
  clear H
  have H := H1
  clear H1
  obtain ⟨t465, A4, H⟩ := oB H
  try dsimp only at H
  by_cases c5 : t465 = true
  ·subst c5
   have H1 : ((impl_within.f a0_1 0 (wrap64 (a0_0 - 1))).bind fun t466 => (if t466 = true then ((impl_Lattice_index.f a0_0 a0_1 a0_2).bind fun t467 => (some (decide (t467 ≤ 64)))) else (some false))) = some r := by rw [if_pos rfl] at H; exact H
   clear H
   have H := H1
   clear H1
   obtain ⟨t466, A6, H⟩ := oB H
   try dsimp only at H
   by_cases c7 : t466 = true
   ·subst c7
    have H1 : ((impl_Lattice_index.f a0_0 a0_1 a0_2).bind fun t467 => (some (decide (t467 ≤ 64)))) = some r := by rw [if_pos rfl] at H; exact H
    clear H
    have H := H1
    clear H1
    obtain ⟨t467, A8, H⟩ := oB H
    try dsimp only at H
    obtain rfl := Option.some.inj H
    go_enter Try.func133, Try.ntmps133
    go_wp2_with (first | (refine bE 1 #[.int .i64 a0_0, .int .i64 a0_1, .int .i64 a0_2] 33 ?_; intro gb463 hg w9 hbox hb; have BK463 := aM hbox; have GW463 := bZ hg HB; have GE463 := bZ hg HB; replace HB := bS HB hb; clear hb hbox hg; obtain ⟨hcz10_0, hcz10_1, hcz10_2⟩ := z3 BK463; obtain ⟨hfz10_0, hfz10_1, hfz10_2⟩ := y3 BK463) | (refine gC 72 ?_; refine gM 5 (impl_within.calls a0_0 1 64 true _ A2.out) Try.func72 ?_; rintro w' ⟨⟨nd, rfl⟩⟩) | (go_at_call 72; (with_reducible refine (impl_within.calls a0_2 1 64 true _ A4.out).mono ?_); rintro e w' ⟨rfl, ⟨nd, rfl⟩⟩) | (go_at_call 72; (with_reducible refine (impl_within.calls a0_1 0 (wrap64 (a0_0 - 1)) true _ A6.out).mono ?_); rintro e w' ⟨rfl, ⟨nd, rfl⟩⟩) | (go_at_call 152; (with_reducible refine (impl_Lattice_index.calls a0_0 a0_1 a0_2 t467 _ A8.out).mono ?_); rintro e w11 ⟨rfl, hb⟩; replace BK463 := bB BK463 hb; replace HB := bS HB hb; (try clear hb)))
    go_ret
    exact ⟨qR, qB⟩
   ·replace c7 := Bool.eq_false_iff.mpr c7
    subst c7
    have H1 : (some false) = some r := by rw [if_neg (show ¬ (false = true) by decide)] at H; exact H
    clear H
    have H := H1
    clear H1
    obtain rfl := Option.some.inj H
    go_enter Try.func133, Try.ntmps133
    go_wp2_with (first | (refine bE 1 #[.int .i64 a0_0, .int .i64 a0_1, .int .i64 a0_2] 33 ?_; intro gb463 hg w12 hbox hb; have BK463 := aM hbox; have GW463 := bZ hg HB; have GE463 := bZ hg HB; replace HB := bS HB hb; clear hb hbox hg; obtain ⟨hcz13_0, hcz13_1, hcz13_2⟩ := z3 BK463; obtain ⟨hfz13_0, hfz13_1, hfz13_2⟩ := y3 BK463) | (refine gC 72 ?_; refine gM 5 (impl_within.calls a0_0 1 64 true _ A2.out) Try.func72 ?_; rintro w' ⟨⟨nd, rfl⟩⟩) | (go_at_call 72; (with_reducible refine (impl_within.calls a0_2 1 64 true _ A4.out).mono ?_); rintro e w' ⟨rfl, ⟨nd, rfl⟩⟩) | (go_at_call 72; (with_reducible refine (impl_within.calls a0_1 0 (wrap64 (a0_0 - 1)) false _ A6.out).mono ?_); rintro e w' ⟨rfl, ⟨nd, rfl⟩⟩))
    go_ret
    exact ⟨qR, qB⟩
  ·replace c5 := Bool.eq_false_iff.mpr c5
   subst c5
   have H1 : (some false) = some r := by rw [if_neg (show ¬ (false = true) by decide)] at H; exact H
   clear H
   have H := H1
   clear H1
   obtain rfl := Option.some.inj H
   go_enter Try.func133, Try.ntmps133
   go_wp2_with (first | (refine bE 1 #[.int .i64 a0_0, .int .i64 a0_1, .int .i64 a0_2] 33 ?_; intro gb463 hg w14 hbox hb; have BK463 := aM hbox; have GW463 := bZ hg HB; have GE463 := bZ hg HB; replace HB := bS HB hb; clear hb hbox hg; obtain ⟨hcz15_0, hcz15_1, hcz15_2⟩ := z3 BK463; obtain ⟨hfz15_0, hfz15_1, hfz15_2⟩ := y3 BK463) | (refine gC 72 ?_; refine gM 5 (impl_within.calls a0_0 1 64 true _ A2.out) Try.func72 ?_; rintro w' ⟨⟨nd, rfl⟩⟩) | (go_at_call 72; (with_reducible refine (impl_within.calls a0_2 1 64 false _ A4.out).mono ?_); rintro e w' ⟨rfl, ⟨nd, rfl⟩⟩))
   go_ret
   exact ⟨qR, qB⟩
 ·replace c3 := Bool.eq_false_iff.mpr c3
  subst c3
  have H1 : (some false) = some r := by rw [if_neg (show ¬ (false = true) by decide)] at H; exact H
  clear H
  have H := H1
  clear H1
  obtain rfl := Option.some.inj H
  go_enter Try.func133, Try.ntmps133
  go_wp2_with (first | (refine bE 1 #[.int .i64 a0_0, .int .i64 a0_1, .int .i64 a0_2] 33 ?_; intro gb463 hg w16 hbox hb; have BK463 := aM hbox; have GW463 := bZ hg HB; have GE463 := bZ hg HB; replace HB := bS HB hb; clear hb hbox hg; obtain ⟨hcz17_0, hcz17_1, hcz17_2⟩ := z3 BK463; obtain ⟨hfz17_0, hfz17_1, hfz17_2⟩ := y3 BK463) | (refine gC 72 ?_; refine gM 5 (impl_within.calls a0_0 1 64 false _ A2.out) Try.func72 ?_; rintro w' ⟨⟨nd, rfl⟩⟩))
  go_ret
  exact ⟨qR, qB⟩

def impl_frameCode.f (a0 : Int) (a1_0 : Int) (a1_1 : Int) (a1_2 : Int) : Option (Int) := (impl_IsFrame.f a0).bind fun t469 => (if t469 = true then ((impl_IsLattice.f a1_0 a1_1 a1_2).bind fun t470 => (if t470 = true then (some 0) else (some 1))) else (some 1))
set_option maxHeartbeats 8000000 in
set_option maxRecDepth 100000 in
theorem impl_frameCode.calls (a0 : Int) (a1_0 : Int) (a1_1 : Int) (a1_2 : Int) (r : Int) (w : World) (h : impl_frameCode.f a0 a1_0 a1_1 a1_2 = some r) :
  Calls Try.prog 80 #[.int .i64 a0, .agg #[.int .i64 a1_0, .int .i64 a1_1, .int .i64 a1_2]] w fun e w' => e = .returned (.int .i64 r) ∧ Below w.heap.size w w' := by
 have hu33 := Try.underlying33
 have HB := aM (Below.refl w.heap.size w)
 have H : ((impl_IsFrame.f a0).bind fun t469 => (if t469 = true then ((impl_IsLattice.f a1_0 a1_1 a1_2).bind fun t470 => (if t470 = true then (some 0) else (some 1))) else (some 1))) = some r := h
 clear h
 obtain ⟨t469, A3, H⟩ := oB H
 try dsimp only at H
 by_cases c4 : t469 = true
 ·subst c4
  have H1 : ((impl_IsLattice.f a1_0 a1_1 a1_2).bind fun t470 => (if t470 = true then (some 0) else (some 1))) = some r := by rw [if_pos rfl] at H; exact H
  clear H
  have H := H1
  clear H1
  obtain ⟨t470, A5, H⟩ := oB H
  try dsimp only at H
  by_cases c6 : t470 = true
  ·subst c6
   have H1 : (some 0) = some r := by rw [if_pos rfl] at H; exact H
   clear H
   have H := H1
   clear H1
   obtain rfl := Option.some.inj H
   go_enter Try.func80, Try.ntmps80
   go_wp2_with (first | (refine bE 3 #[.int .i64 a1_0, .int .i64 a1_1, .int .i64 a1_2] 33 ?_; intro gb468 hg w7 hbox hb; have BK468 := aM hbox; have GW468 := bZ hg HB; have GE468 := bZ hg HB; replace HB := bS HB hb; clear hb hbox hg) | (refine gC 62 ?_; refine gM 6 (impl_IsFrame.calls a0 true _ A3.out) Try.func62 ?_; rintro w' ⟨⟨nd, rfl⟩⟩; obtain ⟨hcz8_0, hcz8_1, hcz8_2⟩ := z3 BK468; obtain ⟨hfz8_0, hfz8_1, hfz8_2⟩ := y3 BK468) | (go_at_call 133; (with_reducible refine (impl_IsLattice.calls a1_0 a1_1 a1_2 true _ A5.out).mono ?_); rintro e w9 ⟨rfl, hb⟩; replace BK468 := bB BK468 hb; replace HB := bS HB hb; (try clear hb)))
   go_ret
   exact ⟨qR, qB⟩
  ·replace c6 := Bool.eq_false_iff.mpr c6
   subst c6
   have H1 : (some 1) = some r := by rw [if_neg (show ¬ (false = true) by decide)] at H; exact H
   clear H
   have H := H1
   clear H1
   obtain rfl := Option.some.inj H
   go_enter Try.func80, Try.ntmps80
   go_wp2_with (first | (refine bE 3 #[.int .i64 a1_0, .int .i64 a1_1, .int .i64 a1_2] 33 ?_; intro gb468 hg w10 hbox hb; have BK468 := aM hbox; have GW468 := bZ hg HB; have GE468 := bZ hg HB; replace HB := bS HB hb; clear hb hbox hg) | (refine gC 62 ?_; refine gM 6 (impl_IsFrame.calls a0 true _ A3.out) Try.func62 ?_; rintro w' ⟨⟨nd, rfl⟩⟩; obtain ⟨hcz11_0, hcz11_1, hcz11_2⟩ := z3 BK468; obtain ⟨hfz11_0, hfz11_1, hfz11_2⟩ := y3 BK468) | (go_at_call 133; (with_reducible refine (impl_IsLattice.calls a1_0 a1_1 a1_2 false _ A5.out).mono ?_); rintro e w12 ⟨rfl, hb⟩; replace BK468 := bB BK468 hb; replace HB := bS HB hb; (try clear hb)))
   go_ret
   exact ⟨qR, qB⟩
 ·replace c4 := Bool.eq_false_iff.mpr c4
  subst c4
  have H1 : (some 1) = some r := by rw [if_neg (show ¬ (false = true) by decide)] at H; exact H
  clear H
  have H := H1
  clear H1
  obtain rfl := Option.some.inj H
  go_enter Try.func80, Try.ntmps80
  go_wp2_with (first | (refine bE 3 #[.int .i64 a1_0, .int .i64 a1_1, .int .i64 a1_2] 33 ?_; intro gb468 hg w13 hbox hb; have BK468 := aM hbox; have GW468 := bZ hg HB; have GE468 := bZ hg HB; replace HB := bS HB hb; clear hb hbox hg) | (refine gC 62 ?_; refine gM 6 (impl_IsFrame.calls a0 false _ A3.out) Try.func62 ?_; rintro w' ⟨⟨nd, rfl⟩⟩))
  go_ret
  exact ⟨qR, qB⟩

def impl_Lattice_basis.f (a0_0 : Int) (a0_1 : Int) (a0_2 : Int) : Option (Int × Int × Int × Int) := some (a0_0, 0, a0_1, a0_2)
def impl_Lattice_basis.T1 : Bool × List (List Nat × List Nat) := (true, [([], []), ([0], [0]), ([1], [1]), ([], []), ([3], [3]), ([], []), ([5], [5]), ([4, 6], [4, 6]), ([2, 0, 1, 2], [2]), ([7, 8, 0, 1, 2, 3, 4, 5, 6, 7, 8], [7])])
def impl_Lattice_basis.B1 : List Nat := [0, 1, 3, 0, 8, 0, 32, 120, 7, 511]
theorem impl_Lattice_basis.tab1 : rtab .any (opsOf Try.f118 1) = impl_Lattice_basis.T1 := by kernel_rfl
theorem impl_Lattice_basis.bits1 : waitsOk impl_Lattice_basis.T1.2 impl_Lattice_basis.B1 = true := by kernel_rfl
set_option maxHeartbeats 8000000 in
set_option maxRecDepth 100000 in
theorem impl_Lattice_basis.calls (a0_0 : Int) (a0_1 : Int) (a0_2 : Int) (r1 : Int) (r2 : Int) (r3 : Int) (r4 : Int) (w : World) (h : impl_Lattice_basis.f a0_0 a0_1 a0_2 = some (r1, r2, r3, r4)) :
  Calls Try.prog 118 #[.agg #[.int .i64 a0_0, .int .i64 a0_1, .int .i64 a0_2]] w fun e w' => e = .returned (.tuple #[.agg #[.int .i64 r1, .int .i64 r2], .agg #[.int .i64 r3, .int .i64 r4]]) ∧ Below w.heap.size w w' := by
 have hu33 := Try.underlying33
 have hu47 := Try.underlying47
 have HB := aM (Below.refl w.heap.size w)
 have H : (some (a0_0, 0, a0_1, a0_2)) = some (r1, r2, r3, r4) := h
 clear h
 simp only [Option.some.injEq, Prod.mk.injEq] at H
 obtain ⟨rfl, rfl, rfl, rfl⟩ := H
 go_enter Try.func118, Try.ntmps118
 try go_wp2_with (first | (refine bE 1 #[.int .i64 a0_0, .int .i64 a0_1, .int .i64 a0_2] 33 ?_; intro gb471 hg w2 hbox hb; have BK471 := aM hbox; have GW471 := bZ hg HB; have GE471 := bZ hg HB; replace HB := bS HB hb; clear hb hbox hg) | (refine bE 2 #[.int .i64 0, .int .i64 0] 47 ?_; intro gb472 hg w3 hbox hb; have BK472 := aM hbox; have GW472 := bZ hg HB; have GE472 := bZ hg HB; have NB471_472 := nL hg BK471; have NB472_471 := nG hg BK471; replace BK471 := bB BK471 hb; replace HB := bS HB hb; clear hb hbox hg) | (refine bE 3 #[.int .i64 0, .int .i64 0] 47 ?_; intro gb473 hg w4 hbox hb; have BK473 := aM hbox; have GW473 := bZ hg HB; have GE473 := bZ hg HB; have NB471_473 := nL hg BK471; have NB473_471 := nG hg BK471; have NB472_473 := nL hg BK472; have NB473_472 := nG hg BK472; replace BK471 := bB BK471 hb; replace BK472 := bB BK472 hb; replace HB := bS HB hb; clear hb hbox hg))
 replace BK471 := aM (blk_drew BK471.out)
 replace BK472 := aM (blk_drew BK472.out)
 replace BK473 := aM (blk_drew BK473.out)
 replace HB := aM (below_drew1 HB.out)
 refine sT (fun w' => w'.cell? ⟨gb471, 0, none⟩ = some (.int .i64 a0_0) ∧ w'.cell? ⟨gb471, 1, none⟩ = some (.int .i64 a0_1) ∧ w'.cell? ⟨gb471, 2, none⟩ = some (.int .i64 a0_2)) [] ⟨cB BK471, cB BK471, cB BK471⟩ (fun hHeld => ?_); refine with_tabW impl_Lattice_basis.tab1 impl_Lattice_basis.bits1 (fun HT_ HW_ => ?_)
 generalize w4.drew = w5 at BK471 BK472 BK473 HB hHeld ⊢
 refine pU 0 (some 4) 1 HT_ ?_
 refine pU 3 (some 7) 9 HT_ ?_
 refine pU 5 (some 9) 41 HT_ ?_
 refine tU 1 (some 5) 43 HT_ HW_ hHeld ?_
 refine pU 2 (some 6) 47 HT_ ?_
 refine tU 4 (some 8) 63 HT_ HW_ hHeld ?_
 refine tU 6 (some 10) 127 HT_ HW_ hHeld ?_
 refine pU 7 (some 11) 255 HT_ ?_
 refine oU 8 none 511 HT_ (fun K hK => ?_)
 have hs6 : w5.cell? ⟨gb472, 0, none⟩ = some (.int .i64 0) := cB BK472
 have hfs6 := blk_frozen BK472.out 0
 have hns6_0 := NB471_472.out
 have hns6_2 := NB473_472.out
 have hms6_0 := NB472_471.out
 have hms6_2 := NB472_473.out
 have hs7 : w5.cell? ⟨gb472, 1, none⟩ = some (.int .i64 0) := cB BK472
 have hfs7 := blk_frozen BK472.out 1
 have hns7_0 := NB471_472.out
 have hns7_2 := NB473_472.out
 have hms7_0 := NB472_471.out
 have hms7_2 := NB472_473.out
 refine skip_ (w1 := ?_) (by rfl) rfl ?_ ?_
 rotate_left
 ·go_simp
  rfl
 refine hK.out _ _ ⟨((cell_far (p := ⟨gb472, _, none⟩) NB471_472.out _).trans (((cell_far (p := ⟨gb472, _, none⟩) NB471_472.out _).trans (hHeld.1)))), ((cell_far (p := ⟨gb472, _, none⟩) NB471_472.out _).trans (((cell_far (p := ⟨gb472, _, none⟩) NB471_472.out _).trans (hHeld.2.1)))), ((cell_far (p := ⟨gb472, _, none⟩) NB471_472.out _).trans (((cell_far (p := ⟨gb472, _, none⟩) NB471_472.out _).trans (hHeld.2.2))))⟩ (fun hHeld => ?_)
 clear hK K
 refine oU 9 none 1023 HT_ (fun K hK => ?_)
 have hs8 : w5.cell? ⟨gb473, 0, none⟩ = some (.int .i64 0) := cB BK473
 have hfs8 := blk_frozen BK473.out 0
 have hns8_0 := NB471_473.out
 have hns8_1 := NB472_473.out
 have hms8_0 := NB473_471.out
 have hms8_1 := NB473_472.out
 have hs9 : w5.cell? ⟨gb473, 1, none⟩ = some (.int .i64 0) := cB BK473
 have hfs9 := blk_frozen BK473.out 1
 have hns9_0 := NB471_473.out
 have hns9_1 := NB472_473.out
 have hms9_0 := NB473_471.out
 have hms9_1 := NB473_472.out
 refine skip_ (w1 := ?_) (by rfl) rfl ?_ ?_
 rotate_left
 ·go_simp
  rfl
 refine hK.out _ _ ⟨((cell_far (p := ⟨gb473, _, none⟩) NB471_473.out _).trans (((cell_far (p := ⟨gb473, _, none⟩) NB471_473.out _).trans (hHeld.1)))), ((cell_far (p := ⟨gb473, _, none⟩) NB471_473.out _).trans (((cell_far (p := ⟨gb473, _, none⟩) NB471_473.out _).trans (hHeld.2.1)))), ((cell_far (p := ⟨gb473, _, none⟩) NB471_473.out _).trans (((cell_far (p := ⟨gb473, _, none⟩) NB471_473.out _).trans (hHeld.2.2))))⟩ (fun hHeld => ?_)
 clear hK K
 refine dN HT_ ?_
 try go_wp2
 refine bodyPost_ret (results_cc rfl _ _ gb472 gb473 47 47 #[.int .i64 a0_0, .int .i64 0] #[.int .i64 a0_1, .int .i64 a0_2] (0, 0) (0, 0) _ _ rfl (by (repeat (first|(with_reducible first|apply kN|apply kD|apply kA)|refine blk_far ?_ NB472_473.out _)); refine blk_put (cs := #[.int .i64 a0_0, .int .i64 0]) ?_ 1 _ rfl; (with_reducible repeat (first|apply kN|apply kD|apply kA)); refine blk_put (cs := #[.int .i64 0, .int .i64 0]) ?_ 0 _ rfl; (with_reducible repeat (first|apply kN|apply kD|apply kA)); exact BK472.out) Try.underlying47 rfl (by kernel_rfl) rfl (by (with_reducible repeat (first|apply kN|apply kD|apply kA)); refine blk_put (cs := #[.int .i64 a0_1, .int .i64 0]) ?_ 1 _ rfl; (with_reducible repeat (first|apply kN|apply kD|apply kA)); refine blk_put (cs := #[.int .i64 0, .int .i64 0]) ?_ 0 _ rfl; (repeat (first|(with_reducible first|apply kN|apply kD|apply kA)|refine blk_far ?_ NB473_472.out _)); exact BK473.out) Try.underlying47 rfl (by kernel_rfl)) rfl ?_
 exact ⟨qR, qB⟩

def impl_Vec_add.f (a0_0 : Int) (a0_1 : Int) (a1_0 : Int) (a1_1 : Int) : Option (Int × Int) := some (wrap64 (a0_0 + a1_0), wrap64 (a0_1 + a1_1))
set_option maxHeartbeats 8000000 in
set_option maxRecDepth 100000 in
theorem impl_Vec_add.calls (a0_0 : Int) (a0_1 : Int) (a1_0 : Int) (a1_1 : Int) (r1 : Int) (r2 : Int) (w : World) (h : impl_Vec_add.f a0_0 a0_1 a1_0 a1_1 = some (r1, r2)) :
  Calls Try.prog 140 #[.agg #[.int .i64 a0_0, .int .i64 a0_1], .agg #[.int .i64 a1_0, .int .i64 a1_1]] w fun e w' => e = .returned (.agg #[.int .i64 r1, .int .i64 r2]) ∧ Below w.heap.size w w' := by
 have hu47 := Try.underlying47
 have HB := aM (Below.refl w.heap.size w)
 have H : (some (wrap64 (a0_0 + a1_0), wrap64 (a0_1 + a1_1))) = some (r1, r2) := h
 clear h
 simp only [Option.some.injEq, Prod.mk.injEq] at H
 obtain ⟨rfl, rfl⟩ := H
 go_enter Try.func140, Try.ntmps140
 go_wp2_with (first | (refine bE 2 #[.int .i64 a0_0, .int .i64 a0_1] 47 ?_; intro gb474 hg w3 hbox hb; have BK474 := aM hbox; have GW474 := bZ hg HB; have GE474 := bZ hg HB; replace HB := bS HB hb; clear hb hbox hg) | (refine bE 3 #[.int .i64 a1_0, .int .i64 a1_1] 47 ?_; intro gb475 hg w4 hbox hb; have BK475 := aM hbox; have GW475 := bZ hg HB; have GE475 := bZ hg HB; have NB474_475 := nL hg BK474; have NB475_474 := nG hg BK474; replace BK474 := bB BK474 hb; replace HB := bS HB hb; clear hb hbox hg) | (refine bE 4 #[.int .i64 0, .int .i64 0] 47 ?_; intro gb476 hg w5 hbox hb; have BK476 := aM hbox; have GW476 := bZ hg HB; have GE476 := bZ hg HB; have NB474_476 := nL hg BK474; have NB476_474 := nG hg BK474; have NB475_476 := nL hg BK475; have NB476_475 := nG hg BK475; replace BK474 := bB BK474 hb; replace BK475 := bB BK475 hb; replace HB := bS HB hb; clear hb hbox hg; have hnb6 := NB474_475.out; have hnc6 := NB475_474.out; have hnb7 := NB474_476.out; have hnc7 := NB476_474.out; obtain ⟨hcz8_0, hcz8_1⟩ := z2 BK474; obtain ⟨hfz8_0, hfz8_1⟩ := y2 BK474; have hnb9 := NB475_476.out; have hnc9 := NB476_475.out; obtain ⟨hcz10_0, hcz10_1⟩ := z2 BK475; obtain ⟨hfz10_0, hfz10_1⟩ := y2 BK475; obtain ⟨hcz11_0, hcz11_1⟩ := z2 BK476; obtain ⟨hfz11_0, hfz11_1⟩ := y2 BK476))
 refine bodyPost_ret (results_cell_row rfl _ _ gb476 47 #[.int .i64 (wrap64 (a0_0 + a1_0)), .int .i64 (wrap64 (a0_1 + a1_1))] (0, 0) _ rfl (by (with_reducible repeat (first|apply kN|apply kD|apply kA)); refine blk_put (cs := #[.int .i64 (wrap64 (a0_0 + a1_0)), .int .i64 0]) ?_ 1 _ rfl; (with_reducible repeat (first|apply kN|apply kD|apply kA)); refine blk_put (cs := #[.int .i64 0, .int .i64 0]) ?_ 0 _ rfl; (with_reducible repeat (first|apply kN|apply kD|apply kA)); exact BK476.out) Try.underlying47 rfl (by kernel_rfl)) rfl ?_
 exact ⟨qR, qB⟩

def impl_Vec_times.f (a0_0 : Int) (a0_1 : Int) (a1 : Int) : Option (Int × Int) := some (wrap64 (a1 * a0_0), wrap64 (a1 * a0_1))
set_option maxHeartbeats 8000000 in
set_option maxRecDepth 100000 in
theorem impl_Vec_times.calls (a0_0 : Int) (a0_1 : Int) (a1 : Int) (r1 : Int) (r2 : Int) (w : World) (h : impl_Vec_times.f a0_0 a0_1 a1 = some (r1, r2)) :
  Calls Try.prog 144 #[.agg #[.int .i64 a0_0, .int .i64 a0_1], .int .i64 a1] w fun e w' => e = .returned (.agg #[.int .i64 r1, .int .i64 r2]) ∧ Below w.heap.size w w' := by
 have hu47 := Try.underlying47
 have HB := aM (Below.refl w.heap.size w)
 have H : (some (wrap64 (a1 * a0_0), wrap64 (a1 * a0_1))) = some (r1, r2) := h
 clear h
 simp only [Option.some.injEq, Prod.mk.injEq] at H
 obtain ⟨rfl, rfl⟩ := H
 go_enter Try.func144, Try.ntmps144
 go_wp2_with (first | (refine bE 2 #[.int .i64 a0_0, .int .i64 a0_1] 47 ?_; intro gb477 hg w3 hbox hb; have BK477 := aM hbox; have GW477 := bZ hg HB; have GE477 := bZ hg HB; replace HB := bS HB hb; clear hb hbox hg) | (refine bE 4 #[.int .i64 0, .int .i64 0] 47 ?_; intro gb478 hg w4 hbox hb; have BK478 := aM hbox; have GW478 := bZ hg HB; have GE478 := bZ hg HB; have NB477_478 := nL hg BK477; have NB478_477 := nG hg BK477; replace BK477 := bB BK477 hb; replace HB := bS HB hb; clear hb hbox hg; have hnb5 := NB477_478.out; have hnc5 := NB478_477.out; obtain ⟨hcz6_0, hcz6_1⟩ := z2 BK477; obtain ⟨hfz6_0, hfz6_1⟩ := y2 BK477; obtain ⟨hcz7_0, hcz7_1⟩ := z2 BK478; obtain ⟨hfz7_0, hfz7_1⟩ := y2 BK478))
 refine bodyPost_ret (results_cell_row rfl _ _ gb478 47 #[.int .i64 (wrap64 (a1 * a0_0)), .int .i64 (wrap64 (a1 * a0_1))] (0, 0) _ rfl (by (with_reducible repeat (first|apply kN|apply kD|apply kA)); refine blk_put (cs := #[.int .i64 (wrap64 (a1 * a0_0)), .int .i64 0]) ?_ 1 _ rfl; (with_reducible repeat (first|apply kN|apply kD|apply kA)); refine blk_put (cs := #[.int .i64 0, .int .i64 0]) ?_ 0 _ rfl; (with_reducible repeat (first|apply kN|apply kD|apply kA)); exact BK478.out) Try.underlying47 rfl (by kernel_rfl)) rfl ?_
 exact ⟨qR, qB⟩

def impl_gcd.l0 : Nat → Int → Int → Option (Int)
 | 0, _, _ => none
 | k + 1, x0, x1 => if x1 = 0 then (some (mx x0 (wrap64 (-x0)))) else (impl_gcd.l0 k x1 (Int.tmod x0 x1))
def impl_gcd.f (k : Nat) (a0 : Int) (a1 : Int) : Option (Int) := impl_gcd.l0 k a0 a1
set_option maxHeartbeats 8000000 in
set_option maxRecDepth 100000 in
theorem impl_gcd.calls (k : Nat) (a0 : Int) (a1 : Int) (r : Int) (w : World) (h : impl_gcd.f k a0 a1 = some r) :
  Calls Try.prog 147 #[.int .i64 a0, .int .i64 a1] w fun e w' => e = .returned (.int .i64 r) ∧ Below w.heap.size w w' := by
 have HB := aM (Below.refl w.heap.size w)
 have H : (impl_gcd.l0 k a0 a1) = some r := h
 clear h
 have H' := aM H
 clear H
 go_enter Try.func147, Try.ntmps147
 go_wp2
 repeat (go_quiet (fail); try go_wp2)
 go_loopg [0, 1] k (fun kq v0 v1 w' => ∃ (x0_1 : Int) (x1_1 : Int), v0 = .int .i64 x0_1 ∧ v1 = .int .i64 x1_1 ∧ Aside0 (impl_gcd.l0 kq x0_1 x1_1 = some r) ∧ Aside0 (kq ≤ k) ∧ Aside0 (Below w.heap.size w w'))
 case atStart => exact ⟨(a0), (a1), (by first | rfl | (simp; done) | (simp [*]; done)), (by first | rfl | (simp; done) | (simp [*]; done)), H', ⟨Nat.le_refl _⟩, ⟨qB⟩⟩
 case round =>
  clear H'
  try clear c1
  try clear p2
  obtain ⟨x0_1, x1_1, rfl, rfl, HA, HK1, HB⟩ := hrel
  cases gk with
  | zero => exact absurd HA.out (by simp [impl_gcd.l0])
  | succ k1 =>
   have H := HA.out
   clear HA
   simp only [impl_gcd.l0] at H
   by_cases c3 : x1_1 = 0
   ·rw [if_pos c3] at H
    have c3b0 : (x1_1 == 0) = true := beq_iff_eq.mpr c3
    have c3b1 : (x1_1 != 0) = false := bne_eq_false_iff_eq.mpr c3
    clear c3
    obtain ⟨ji4, hji4⟩ : ∃ j_ : Int, (mx x0_1 (wrap64 (-x0_1))) = j_ := ⟨_, rfl⟩
    replace H : (some ji4) = some r := by first | (rw [hji4] at H; exact H) | (simp only [hji4] at H ⊢; exact H)
    have hji4_ : (if x0_1 < (wrap64 (-x0_1)) then (wrap64 (-x0_1)) else x0_1) = ji4 := hji4
    obtain rfl := Option.some.inj H
    go_wp2
    repeat (go_quiet (fail); try go_wp2)
    go_ret
    exact ⟨by first | rfl | (simp [errW_none, errW_some] <;> rfl) | (simp only [← hji4]; first | rfl | (simp [errW_none, errW_some] <;> rfl)) | (simp [*, errW_none, errW_some] <;> rfl), qB⟩
   ·rw [if_neg c3] at H
    have c3b0 : (x1_1 == 0) = false := beq_eq_false_iff_ne.mpr c3
    have c3b1 : (x1_1 != 0) = true := bne_iff_ne.mpr c3
    have H' := aM H
    clear H
    go_wp2
    repeat (go_quiet (fail); try go_wp2)
    go_roundg k1
    case measure => have := HK1.out; omega
    case rel => exact ⟨(x1_1), (Int.tmod x0_1 x1_1), (by first | rfl | (simp; done) | (simp [*]; done)), (by first | rfl | (simp; done) | (simp [*]; done)), H', ⟨by have := HK1.out; omega⟩, ⟨qB⟩⟩

def impl_mod.f (a0 : Int) (a1 : Int) : Option (Int) := if a1 = 0 then (none) else (some (Int.tmod (wrap64 ((Int.tmod a0 a1) + a1)) a1))
set_option maxHeartbeats 8000000 in
set_option maxRecDepth 100000 in
theorem impl_mod.calls (a0 : Int) (a1 : Int) (r : Int) (w : World) (h : impl_mod.f a0 a1 = some r) :
  Calls Try.prog 148 #[.int .i64 a0, .int .i64 a1] w fun e w' => e = .returned (.int .i64 r) ∧ Drawn0 w w' := by
 have H : (if a1 = 0 then (none) else (some (Int.tmod (wrap64 ((Int.tmod a0 a1) + a1)) a1))) = some r := h
 clear h
 by_cases c3 : a1 = 0
 ·rw [if_pos c3] at H
  exact absurd H (by simp)
 ·rw [if_neg c3] at H
  have c3b0 : (a1 == 0) = false := beq_eq_false_iff_ne.mpr c3
  have c3b1 : (a1 != 0) = true := bne_iff_ne.mpr c3
  obtain rfl := Option.some.inj H
  go_enter Try.func148, Try.ntmps148
  go_wp2
  go_ret
  exact ⟨by first | rfl | (simp; done) | (simp [*]; done), by repeat (first | exact Drawn0.refl _ | apply Drawn0.step)⟩

end Go.Proofs.Ytcjchihnopmplaa.F

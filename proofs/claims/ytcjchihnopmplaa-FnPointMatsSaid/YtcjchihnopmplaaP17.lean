import Derived.Test.YtcjchihnopmplaaP0
import Derived.Test.YtcjchihnopmplaaP15
import Derived.Test.YtcjchihnopmplaaP16
namespace Go.Proofs.Ytcjchihnopmplaa.F
open Go.RowKit Go.Proofs.YtcjchihnopmplaaW.PrintWords Go.Proofs.YtcjchihnopmplaaW.PrintLast Go.Proofs.YtcjchihnopmplaaW.PrintMore
attribute [local go_sem] max2_int min2_int max_two min_two max_three min_three max_four min_four   -- for this text's walks alone
set_option linter.unusedVariables false
set_option linter.unusedSimpArgs false
attribute [local go_sem high] eqA51

mutual
def spec_MapLattice.j0 : Nat → Int → Bool → Int → Int → Int → Int → Int → Int → Int → Option (Int × Int × Int × Int)
 | 0, _, _, _, _, _, _, _, _, _ => none
 | k + 1, x8, x19, x574000, x574001, x574002, x574003, x575000, x575001, x575002 => if x19 = true then (spec_MapLattice.j1 k 2 x574000 x574001 x574002 x574003 x575000 x575001 x575002) else (spec_MapLattice.j1 k x8 x574000 x574001 x574002 x574003 x575000 x575001 x575002)
def spec_MapLattice.j1 : Nat → Int → Int → Int → Int → Int → Int → Int → Int → Option (Int × Int × Int × Int)
 | 0, _, _, _, _, _, _, _, _ => none
 | k + 1, x8, x574000, x574001, x574002, x574003, x575000, x575001, x575002 => if x8 = 0 then ((spec_l04Image.f k x574000 x574001 x574002 x574003 x575000 x575001 x575002).bind fun bt578 => ((spec_l03Result.f bt578.1 bt578.2.1 bt578.2.2).bind fun bt581 => (some (bt581.1, bt581.2.1, bt581.2.2.1, bt581.2.2.2)))) else (some (0, 0, 0, x8))
end
def spec_MapLattice.f (k : Nat) (a0 : Int) (a1_0 : Int) (a1_1 : Int) (a1_2 : Int) (a1_3 : Int) (a2_0 : Int) (a2_1 : Int) (a2_2 : Int) : Option (Int × Int × Int × Int) := (spec_l04Code.f a0 a2_0 a2_1 a2_2).bind fun t576 => (if t576 = 0 then ((spec_IsPointMat.f a0 a1_0 a1_1 a1_2 a1_3).bind fun t577 => (spec_MapLattice.j0 k t576 (!t577) a1_0 a1_1 a1_2 a1_3 a2_0 a2_1 a2_2)) else (spec_MapLattice.j0 k t576 false a1_0 a1_1 a1_2 a1_3 a2_0 a2_1 a2_2))
set_option maxHeartbeats 8000000 in
set_option maxRecDepth 100000 in
theorem spec_MapLattice.calls (k : Nat) (a0 : Int) (a1_0 : Int) (a1_1 : Int) (a1_2 : Int) (a1_3 : Int) (a2_0 : Int) (a2_1 : Int) (a2_2 : Int) (r1 : Int) (r2 : Int) (r3 : Int) (r4 : Int) (w : World) (h : spec_MapLattice.f k a0 a1_0 a1_1 a1_2 a1_3 a2_0 a2_1 a2_2 = some (r1, r2, r3, r4)) :
  Calls Try.prog 58 #[.int .i64 a0, .agg #[.int .i64 a1_0, .int .i64 a1_1, .int .i64 a1_2, .int .i64 a1_3], .agg #[.int .i64 a2_0, .int .i64 a2_1, .int .i64 a2_2]] w fun e w' => e = .returned (.tuple #[.agg #[.int .i64 r1, .int .i64 r2, .int .i64 r3], .int .i64 r4]) ∧ Below w.heap.size w w' := by
 have hu51 := Try.underlying51
 have hu33 := Try.underlying33
 have HB := aM (Below.refl w.heap.size w)
 have H : ((spec_l04Code.f a0 a2_0 a2_1 a2_2).bind fun t576 => (if t576 = 0 then ((spec_IsPointMat.f a0 a1_0 a1_1 a1_2 a1_3).bind fun t577 => (spec_MapLattice.j0 k t576 (!t577) a1_0 a1_1 a1_2 a1_3 a2_0 a2_1 a2_2)) else (spec_MapLattice.j0 k t576 false a1_0 a1_1 a1_2 a1_3 a2_0 a2_1 a2_2))) = some (r1, r2, r3, r4) := h
 clear h
 obtain ⟨t576, A4, H⟩ := oB H
 try dsimp only at H
 have HC5 := aM H
 clear H
 go_enter Try.func58, Try.ntmps58
 go_upto_region 2 with (first | ((with_reducible refine gD (N:=4) rfl ?_); refine bE 4 #[.int .i64 a1_0, .int .i64 a1_1, .int .i64 a1_2, .int .i64 a1_3] 51 ?_; intro gb573 hg w6 hbox hb; have BK573 := aM hbox; have GW573 := bZ hg HB; have GE573 := bZ hg HB; replace HB := bS HB hb; clear hb hbox hg) | ((with_reducible refine gD (N:=5) rfl ?_); refine bE 5 #[.int .i64 a2_0, .int .i64 a2_1, .int .i64 a2_2] 33 ?_; intro gb574 hg w7 hbox hb; have BK574 := aM hbox; have GW574 := bZ hg HB; have GE574 := bZ hg HB; have NB573_574 := nL hg BK573; have NB574_573 := nG hg BK573; replace BK573 := bB BK573 hb; replace HB := bS HB hb; clear hb hbox hg) | ((with_reducible refine gD (N:=6) rfl ?_); refine bE 6 #[.int .i64 0, .int .i64 0, .int .i64 0] 33 ?_; intro gb575 hg w8 hbox hb; have BK575 := aM hbox; have GW575 := bZ hg HB; have GE575 := bZ hg HB; have NB573_575 := nL hg BK573; have NB575_573 := nG hg BK573; have NB574_575 := nL hg BK574; have NB575_574 := nG hg BK574; replace BK573 := bB BK573 hb; replace BK574 := bB BK574 hb; replace HB := bS HB hb; clear hb hbox hg; have hnb9 := NB574_573.out; have hnc9 := NB573_574.out; have hnb10 := NB574_575.out; have hnc10 := NB575_574.out; obtain ⟨hcz11_0, hcz11_1, hcz11_2⟩ := z3 BK574; obtain ⟨hfz11_0, hfz11_1, hfz11_2⟩ := y3 BK574) | ((with_reducible refine gC (f:=78) rfl ?_); refine gM 11 (spec_l04Code.calls a0 a2_0 a2_1 a2_2 t576 _ A4.out) Try.func78 ?_; rintro w12 hb; replace BK573 := bB BK573 hb; replace BK574 := bB BK574 hb; replace BK575 := bB BK575 hb; replace HB := bS HB hb; (try clear hb)))
 (try simp only [Act.put, List.setIfInBounds_toArray, List.set_cons_zero, List.set_cons_succ])
 go_cut [19] (fun v19 wc => ∃ (kq : Nat) (x19_4 : Bool), v19 = .bool x19_4 ∧ Aside0 (spec_MapLattice.j0 kq t576 x19_4 a1_0 a1_1 a1_2 a1_3 a2_0 a2_1 a2_2 = some (r1, r2, r3, r4)) ∧ Aside0 (kq ≤ k) ∧ Aside0 (wc.heap[gb573]? = some (.cells #[.int .i64 a1_0, .int .i64 a1_1, .int .i64 a1_2, .int .i64 a1_3] 51 (0, 0))) ∧ Aside0 (wc.heap[gb574]? = some (.cells #[.int .i64 a2_0, .int .i64 a2_1, .int .i64 a2_2] 33 (0, 0))) ∧ Aside0 (wc.heap[gb575]? = some (.cells #[.int .i64 0, .int .i64 0, .int .i64 0] 33 (0, 0))) ∧ Aside0 (Below w.heap.size w wc))
 case first =>
  have H := HC5.out
  clear HC5
  by_cases c13 : t576 = 0
  ·rw [if_pos c13] at H
   have c13b0 : (t576 == 0) = true := beq_iff_eq.mpr c13
   have c13b1 : (t576 != 0) = false := bne_eq_false_iff_eq.mpr c13
   clear c13
   (first | rw [c13b0] | (simp only [i64_w, i32_w]; rw [c13b0]) | skip)
   obtain ⟨t577, A14, H⟩ := oB H
   try dsimp only at H
   have H' := aM H
   clear H
   have hnb15 := NB573_574.out
   have hnc15 := NB574_573.out
   have hnb16 := NB573_575.out
   have hnc16 := NB575_573.out
   obtain ⟨hcz17_0, hcz17_1, hcz17_2, hcz17_3⟩ := z4 BK573
   obtain ⟨hfz17_0, hfz17_1, hfz17_2, hfz17_3⟩ := y4 BK573
   go_wp2_with (first | (go_at_call 61; (with_reducible refine (spec_IsPointMat.calls a0 a1_0 a1_1 a1_2 a1_3 t577 _ A14.out).mono ?_); rintro e w18 ⟨rfl, hb⟩; replace BK573 := bB BK573 hb; replace BK574 := bB BK574 hb; replace BK575 := bB BK575 hb; replace HB := bS HB hb; (try clear hb)))
   go_meet
   case rel => exact ⟨_, (!t577), (by first | rfl | (simp; done) | (simp [*]; done)), H', ⟨by first | omega | exact Nat.le_refl _⟩, ⟨bk BK573⟩, ⟨bk BK574⟩, ⟨bk BK575⟩, ⟨qB⟩⟩
  ·rw [if_neg c13] at H
   have c13b0 : (t576 == 0) = false := beq_eq_false_iff_ne.mpr c13
   have c13b1 : (t576 != 0) = true := bne_iff_ne.mpr c13
   (first | rw [c13b0] | (simp only [i64_w, i32_w]; rw [c13b0]) | skip)
   have H' := aM H
   clear H
   go_wp2
   go_meet
   case rel => exact ⟨_, (false), (by first | rfl | (simp; done) | (simp [*]; done)), H', ⟨by first | omega | exact Nat.le_refl _⟩, ⟨bk BK573⟩, ⟨bk BK574⟩, ⟨bk BK575⟩, ⟨qB⟩⟩
 case rest =>
  clear HC5
  try clear c1
  try clear p2
  try clear c5
  try clear c7
  try clear c9
  try clear c10
  try clear c13
  try clear c13b0
  try clear c13b1
  try clear c15
  try clear c16
  try clear hcz11_0
  try clear hcz11_1
  try clear hcz11_2
  try clear hcz17_0
  try clear hcz17_1
  try clear hcz17_2
  try clear hcz17_3
  try clear hfz11_0
  try clear hfz11_1
  try clear hfz11_2
  try clear hfz17_0
  try clear hfz17_1
  try clear hfz17_2
  try clear hfz17_3
  obtain ⟨kq, x19_4, rfl, HA, HJ4, BK573, BK574, BK575, HB⟩ := hcut
  cases kq with
  | zero => exact absurd HA.out (by simp [spec_MapLattice.j0])
  | succ kj4 =>
   have H := HA.out
   clear HA
   simp only [spec_MapLattice.j0] at H
   have HC19 := aM H
   clear H
   go_upto_if 19 with (fail)
   go_cut [8] (fun v8 wc => ∃ (kq : Nat) (x8_18 : Int), v8 = .int .i64 x8_18 ∧ Aside0 (spec_MapLattice.j1 kq x8_18 a1_0 a1_1 a1_2 a1_3 a2_0 a2_1 a2_2 = some (r1, r2, r3, r4)) ∧ Aside0 (kq ≤ kj4) ∧ Aside0 (wc.heap[gb573]? = some (.cells #[.int .i64 a1_0, .int .i64 a1_1, .int .i64 a1_2, .int .i64 a1_3] 51 (0, 0))) ∧ Aside0 (wc.heap[gb574]? = some (.cells #[.int .i64 a2_0, .int .i64 a2_1, .int .i64 a2_2] 33 (0, 0))) ∧ Aside0 (wc.heap[gb575]? = some (.cells #[.int .i64 0, .int .i64 0, .int .i64 0] 33 (0, 0))) ∧ Aside0 (Below w.heap.size w wc))
   case first =>
    have H := HC19.out
    clear HC19
    by_cases c20 : x19_4 = true
    ·subst c20
     have H1 : (spec_MapLattice.j1 kj4 2 a1_0 a1_1 a1_2 a1_3 a2_0 a2_1 a2_2) = some (r1, r2, r3, r4) := by rw [if_pos rfl] at H; exact H
     clear H
     have H := H1
     clear H1
     have H' := aM H
     clear H
     go_wp2
     go_meet
     case rel => exact ⟨_, (2), (by first | rfl | (simp; done) | (simp [*]; done)), H', ⟨by have := HJ4.out; first | omega | exact Nat.le_refl _⟩, ⟨bk BK573⟩, ⟨bk BK574⟩, ⟨bk BK575⟩, ⟨qB⟩⟩
    ·replace c20 := Bool.eq_false_iff.mpr c20
     subst c20
     have H1 : (spec_MapLattice.j1 kj4 t576 a1_0 a1_1 a1_2 a1_3 a2_0 a2_1 a2_2) = some (r1, r2, r3, r4) := by rw [if_neg (show ¬ (false = true) by decide)] at H; exact H
     clear H
     have H := H1
     clear H1
     have H' := aM H
     clear H
     go_wp2
     go_meet
     case rel => exact ⟨_, (t576), (by first | rfl | (simp; done) | (simp [*]; done)), H', ⟨by have := HJ4.out; first | omega | exact Nat.le_refl _⟩, ⟨bk BK573⟩, ⟨bk BK574⟩, ⟨bk BK575⟩, ⟨qB⟩⟩
   case rest =>
    clear HC19
    try clear c1
    try clear c2
    try clear p2
    try clear c5
    try clear c7
    try clear c9
    try clear c10
    try clear c13
    try clear c13b0
    try clear c13b1
    try clear c15
    try clear c16
    try clear c20
    try clear hcz11_0
    try clear hcz11_1
    try clear hcz11_2
    try clear hcz17_0
    try clear hcz17_1
    try clear hcz17_2
    try clear hcz17_3
    try clear hfz11_0
    try clear hfz11_1
    try clear hfz11_2
    try clear hfz17_0
    try clear hfz17_1
    try clear hfz17_2
    try clear hfz17_3
    try clear p2
    obtain ⟨kq, x8_18, rfl, HA, HJ18, BK573, BK574, BK575, HB⟩ := hcut
    cases kq with
    | zero => exact absurd HA.out (by simp [spec_MapLattice.j1])
    | succ kj18 =>
     have H := HA.out
     clear HA
     simp only [spec_MapLattice.j1] at H
     by_cases c21 : x8_18 = 0
     ·rw [if_pos c21] at H
      have c21b0 : (x8_18 == 0) = true := beq_iff_eq.mpr c21
      have c21b1 : (x8_18 != 0) = false := bne_eq_false_iff_eq.mpr c21
      clear c21
      obtain ⟨⟨t578, t579, t580⟩, A22, H⟩ := oB H
      try dsimp only at H
      obtain ⟨⟨t581, t582, t583, t584⟩, A23, H⟩ := oB H
      try dsimp only at H
      simp only [Option.some.injEq, Prod.mk.injEq] at H
      obtain ⟨rfl, rfl, rfl, rfl⟩ := H
      have hnb24 := NB573_574.out
      have hnc24 := NB574_573.out
      have hnb25 := NB573_575.out
      have hnc25 := NB575_573.out
      obtain ⟨hcz26_0, hcz26_1, hcz26_2, hcz26_3⟩ := z4 BK573
      obtain ⟨hfz26_0, hfz26_1, hfz26_2, hfz26_3⟩ := y4 BK573
      have hnb27 := NB574_575.out
      have hnc27 := NB575_574.out
      obtain ⟨hcz28_0, hcz28_1, hcz28_2⟩ := z3 BK574
      obtain ⟨hfz28_0, hfz28_1, hfz28_2⟩ := y3 BK574
      go_wp2_with (first | ((with_reducible refine gC (f:=121) rfl ?_); refine gM 26 (spec_l04Image.calls kj18 a1_0 a1_1 a1_2 a1_3 a2_0 a2_1 a2_2 t578 t579 t580 _ A22.out) Try.func121 ?_; rintro w29 hb; replace BK573 := bB BK573 hb; replace BK574 := bB BK574 hb; replace BK575 := bB BK575 hb; replace HB := bS HB hb; (try clear hb)) | ((with_reducible refine gC (f:=120) rfl ?_); refine gM 27 (spec_l03Result.calls t578 t579 t580 t581 t582 t583 t584 _ A23.out) Try.func120 ?_; rintro w30 hb; replace BK573 := bB BK573 hb; replace BK574 := bB BK574 hb; replace BK575 := bB BK575 hb; replace HB := bS HB hb; (try clear hb); obtain ⟨hcz31_0, hcz31_1, hcz31_2⟩ := z3 BK575; obtain ⟨hfz31_0, hfz31_1, hfz31_2⟩ := y3 BK575))
      refine bodyPost_ret (results_ct rfl _ _ gb575 33 #[.int .i64 t581, .int .i64 t582, .int .i64 t583] (0, 0) _ rfl (by (with_reducible repeat (first|apply kN|apply kD|apply kA)); refine blk_put (cs := #[.int .i64 t581, .int .i64 t582, .int .i64 0]) ?_ 2 _ rfl; (with_reducible repeat (first|apply kN|apply kD|apply kA)); refine blk_put (cs := #[.int .i64 t581, .int .i64 0, .int .i64 0]) ?_ 1 _ rfl; (with_reducible repeat (first|apply kN|apply kD|apply kA)); refine blk_put (cs := #[.int .i64 0, .int .i64 0, .int .i64 0]) ?_ 0 _ rfl; (with_reducible repeat (first|apply kN|apply kD|apply kA)); exact BK575.out) Try.underlying33 rfl (by kernel_rfl)) rfl ?_
      exact ⟨qR, qB⟩
     ·rw [if_neg c21] at H
      have c21b0 : (x8_18 == 0) = false := beq_eq_false_iff_ne.mpr c21
      have c21b1 : (x8_18 != 0) = true := bne_iff_ne.mpr c21
      simp only [Option.some.injEq, Prod.mk.injEq] at H
      obtain ⟨rfl, rfl, rfl, rfl⟩ := H
      have hnb32 := NB575_573.out
      have hnc32 := NB573_575.out
      have hnb33 := NB575_574.out
      have hnc33 := NB574_575.out
      obtain ⟨hcz34_0, hcz34_1, hcz34_2⟩ := z3 BK575
      obtain ⟨hfz34_0, hfz34_1, hfz34_2⟩ := y3 BK575
      go_wp2
      refine bodyPost_ret (results_ct rfl _ _ gb575 33 #[.int .i64 0, .int .i64 0, .int .i64 0] (0, 0) _ rfl (by (with_reducible repeat (first|apply kN|apply kD|apply kA)); refine blk_put (cs := #[.int .i64 0, .int .i64 0, .int .i64 0]) ?_ 2 _ rfl; (with_reducible repeat (first|apply kN|apply kD|apply kA)); refine blk_put (cs := #[.int .i64 0, .int .i64 0, .int .i64 0]) ?_ 1 _ rfl; (with_reducible repeat (first|apply kN|apply kD|apply kA)); refine blk_put (cs := #[.int .i64 0, .int .i64 0, .int .i64 0]) ?_ 0 _ rfl; (with_reducible repeat (first|apply kN|apply kD|apply kA)); exact BK575.out) Try.underlying33 rfl (by kernel_rfl)) rfl ?_
      exact ⟨qR, qB⟩

def laws_likeMats9.l0 : Nat → List (S51) → List (S51) → Int → Option (Bool)
 | 0, _, _, _ => none
 | k + 1, x0, x1, x5 => if x5 < (x0.length : Int) then (if 0 ≤ x5 then (if x5 < (x1.length : Int) then (if (!(((rd_T51 x0 x5).f0) == ((rd_T51 x1 x5).f0)) || (!(((rd_T51 x0 x5).f1) == ((rd_T51 x1 x5).f1)) || (!(((rd_T51 x0 x5).f2) == ((rd_T51 x1 x5).f2)) || (!(((rd_T51 x0 x5).f3) == ((rd_T51 x1 x5).f3)))))) = true then (some false) else (laws_likeMats9.l0 k x0 x1 (wrap64 (x5 + 1)))) else (none)) else (none)) else (some true)
def laws_likeMats9.f (k : Nat) (l0 : List (S51)) (l1 : List (S51)) : Option (Bool) := if (l0.length : Int) = (l1.length : Int) then (laws_likeMats9.l0 k l0 l1 0) else (some false)
set_option maxHeartbeats 8000000 in
set_option maxRecDepth 100000 in
theorem laws_likeMats9.calls (k : Nat) (A0 : Option Addr) (c0 : Nat) (l0 : List (S51)) (A1 : Option Addr) (c1 : Nat) (l1 : List (S51)) (r : Bool) (w : World) (hr0 : Kd.C k51 w A0 l0.length l0) (hc0 : l0.length ≤ c0) (hr1 : Kd.C k51 w A1 l1.length l1) (hc1 : l1.length ≤ c1) (h : laws_likeMats9.f k l0 l1 = some r) :
  Calls Try.prog 59 #[.slice A0 l0.length c0, .slice A1 l1.length c1] w fun e w' => e = .returned (.bool r) ∧ Drawn0 w w' := by
 have hu51 := Try.underlying51
 have HR0 := aM hr0
 have HC0 := aM hc0
 clear hr0 hc0
 have HR1 := aM hr1
 have HC1 := aM hc1
 clear hr1 hc1
 have H : (if (l0.length : Int) = (l1.length : Int) then (laws_likeMats9.l0 k l0 l1 0) else (some false)) = some r := h
 clear h
 by_cases c3 : (l0.length : Int) = (l1.length : Int)
 ·rw [if_pos c3] at H
  have c3b0 : ((l0.length : Int) == (l1.length : Int)) = true := beq_iff_eq.mpr c3
  have c3b1 : ((l0.length : Int) != (l1.length : Int)) = false := bne_eq_false_iff_eq.mpr c3
  have c3b2 : (l0.length == l1.length) = true := by first | simpa using c3 | (simp at c3 ⊢; omega)
  clear c3
  have H' := aM H
  clear H
  go_enter Try.func59, Try.ntmps59
  go_wp2
  repeat (go_quiet (fail); try go_wp2)
  go_loopg [5] k (fun kq v5 w' => ∃ (x5_1 : Int), v5 = .int .i64 x5_1 ∧ Aside0 (laws_likeMats9.l0 kq l0 l1 x5_1 = some r) ∧ Aside0 (kq ≤ k) ∧ Drawn0 w w')
  case atStart => exact ⟨(0), (by first | rfl | (simp; done) | (simp [*]; done)), H', ⟨Nat.le_refl _⟩, by repeat (first | exact Drawn0.refl _ | apply Drawn0.step)⟩
  case round =>
   clear H'
   try clear c1
   try clear p2
   try clear c3
   try clear c3b0
   try clear c3b1
   try clear c3b2
   obtain ⟨x5_1, rfl, HA, HK1, ⟨m1, rfl⟩⟩ := hrel
   cases gk with
   | zero => exact absurd HA.out (by simp [laws_likeMats9.l0])
   | succ k1 =>
    have H := HA.out
    clear HA
    simp only [laws_likeMats9.l0] at H
    by_cases c4 : x5_1 < (l0.length : Int)
    ·rw [if_pos c4] at H
     have c4b0 : decide (x5_1 < (l0.length : Int)) = true := decide_eq_true c4
     clear c4
     by_cases c5 : 0 ≤ x5_1
     ·rw [if_pos c5] at H
      have c5b0 : decide (0 ≤ x5_1) = true := decide_eq_true c5
      clear c5
      by_cases c6 : x5_1 < (l1.length : Int)
      ·rw [if_pos c6] at H
       have c6b0 : decide (x5_1 < (l1.length : Int)) = true := decide_eq_true c6
       clear c6
       by_cases c7 : (!(((rd_T51 l0 x5_1).f0) == ((rd_T51 l1 x5_1).f0)) || (!(((rd_T51 l0 x5_1).f1) == ((rd_T51 l1 x5_1).f1)) || (!(((rd_T51 l0 x5_1).f2) == ((rd_T51 l1 x5_1).f2)) || (!(((rd_T51 l0 x5_1).f3) == ((rd_T51 l1 x5_1).f3)))))) = true
       ·rw [if_pos c7] at H
        have c7b0 : (!(((rd_T51 l0 x5_1).f0) == ((rd_T51 l1 x5_1).f0)) || (!(((rd_T51 l0 x5_1).f1) == ((rd_T51 l1 x5_1).f1)) || (!(((rd_T51 l0 x5_1).f2) == ((rd_T51 l1 x5_1).f2)) || (!(((rd_T51 l0 x5_1).f3) == ((rd_T51 l1 x5_1).f3)))))) = true := c7
        clear c7
        obtain rfl := Option.some.inj H
        have p585 : 0 ≤ (x5_1 : Int) := of_decide_eq_true (by first | (with_reducible assumption) | assumption)
        have q585 : x5_1 < (l0.length : Int) := of_decide_eq_true (by first | (with_reducible assumption) | assumption)
        obtain ⟨ad585, e585, hx585_0, hx585_1, hx585_2, hx585_3⟩ := at_T51 HR0.out x5_1 p585 q585
        cases e585
        replace p585 := eq_true p585
        replace q585 := eq_true q585
        have p586 : 0 ≤ (x5_1 : Int) := of_decide_eq_true (by first | (with_reducible assumption) | assumption)
        have q586 : x5_1 < (l1.length : Int) := of_decide_eq_true (by first | (with_reducible assumption) | assumption)
        obtain ⟨ad586, e586, hx586_0, hx586_1, hx586_2, hx586_3⟩ := at_T51 HR1.out x5_1 p586 q586
        cases e586
        replace p586 := eq_true p586
        replace q586 := eq_true q586
        go_wp2
        repeat (go_quiet (fail); try go_wp2)
        go_ret
        exact ⟨by first | rfl | (simp; done) | (simp [*]; done), by repeat (first | exact Drawn0.refl _ | apply Drawn0.step)⟩
       ·rw [if_neg c7] at H
        have c7b0 : (!(((rd_T51 l0 x5_1).f0) == ((rd_T51 l1 x5_1).f0)) || (!(((rd_T51 l0 x5_1).f1) == ((rd_T51 l1 x5_1).f1)) || (!(((rd_T51 l0 x5_1).f2) == ((rd_T51 l1 x5_1).f2)) || (!(((rd_T51 l0 x5_1).f3) == ((rd_T51 l1 x5_1).f3)))))) = false := by simpa using c7
        clear c7
        have H' := aM H
        clear H
        have p585 : 0 ≤ (x5_1 : Int) := of_decide_eq_true (by first | (with_reducible assumption) | assumption)
        have q585 : x5_1 < (l0.length : Int) := of_decide_eq_true (by first | (with_reducible assumption) | assumption)
        obtain ⟨ad585, e585, hx585_0, hx585_1, hx585_2, hx585_3⟩ := at_T51 HR0.out x5_1 p585 q585
        cases e585
        replace p585 := eq_true p585
        replace q585 := eq_true q585
        have p586 : 0 ≤ (x5_1 : Int) := of_decide_eq_true (by first | (with_reducible assumption) | assumption)
        have q586 : x5_1 < (l1.length : Int) := of_decide_eq_true (by first | (with_reducible assumption) | assumption)
        obtain ⟨ad586, e586, hx586_0, hx586_1, hx586_2, hx586_3⟩ := at_T51 HR1.out x5_1 p586 q586
        cases e586
        replace p586 := eq_true p586
        replace q586 := eq_true q586
        go_wp2
        repeat (go_quiet (fail); try go_wp2)
        go_roundg k1
        case measure => have := HK1.out; omega
        case rel => exact ⟨(wrap64 (x5_1 + 1)), (by first | rfl | (simp; done) | (simp [*]; done)), H', ⟨by have := HK1.out; omega⟩, by repeat (first | exact Drawn0.refl _ | apply Drawn0.step)⟩
      ·rw [if_neg c6] at H
       exact absurd H (by simp)
     ·rw [if_neg c5] at H
      exact absurd H (by simp)
    ·rw [if_neg c4] at H
     have c4b0 : decide (x5_1 < (l0.length : Int)) = false := decide_eq_false c4
     clear c4
     obtain rfl := Option.some.inj H
     go_wp2
     repeat (go_quiet (fail); try go_wp2)
     go_ret
     exact ⟨by first | rfl | (simp; done) | (simp [*]; done), by repeat (first | exact Drawn0.refl _ | apply Drawn0.step)⟩
 ·rw [if_neg c3] at H
  have c3b0 : ((l0.length : Int) == (l1.length : Int)) = false := beq_eq_false_iff_ne.mpr c3
  have c3b1 : ((l0.length : Int) != (l1.length : Int)) = true := bne_iff_ne.mpr c3
  have c3b2 : (l0.length == l1.length) = false := by first | simpa using c3 | (simp at c3 ⊢; omega)
  obtain rfl := Option.some.inj H
  go_enter Try.func59, Try.ntmps59
  go_wp2
  repeat (go_quiet (fail); try go_wp2)
  go_ret
  exact ⟨by first | rfl | (simp; done) | (simp [*]; done), by repeat (first | exact Drawn0.refl _ | apply Drawn0.step)⟩

end Go.Proofs.Ytcjchihnopmplaa.F

import Derived.Test.YtcjchihnopmplaaY0
namespace Go.Proofs.Ytcjchihnopmplaa.F
open Go.RowKit Go.Proofs.YtcjchihnopmplaaW.PrintWords Go.Proofs.YtcjchihnopmplaaW.PrintLast Go.Proofs.YtcjchihnopmplaaW.PrintMore
attribute [local go_sem] max2_int min2_int max_two min_two max_three min_three max_four min_four   -- for this text's walks alone
set_option linter.unusedVariables false
set_option linter.unusedSimpArgs false

def spec_l02Apply.f (a0_0 : Int) (a0_1 : Int) (a0_2 : Int) (a0_3 : Int) (a1_0 : Int) (a1_1 : Int) : Option (Int × Int) := some (wrap64 ((wrap64 (a0_0 * a1_0)) + (wrap64 (a0_1 * a1_1))), wrap64 ((wrap64 (a0_2 * a1_0)) + (wrap64 (a0_3 * a1_1))))
set_option maxHeartbeats 8000000 in
set_option maxRecDepth 100000 in
theorem spec_l02Apply.calls (a0_0 : Int) (a0_1 : Int) (a0_2 : Int) (a0_3 : Int) (a1_0 : Int) (a1_1 : Int) (r1 : Int) (r2 : Int) (w : World) (h : spec_l02Apply.f a0_0 a0_1 a0_2 a0_3 a1_0 a1_1 = some (r1, r2)) :
  Calls Try.prog 100 #[.agg #[.int .i64 a0_0, .int .i64 a0_1, .int .i64 a0_2, .int .i64 a0_3], .agg #[.int .i64 a1_0, .int .i64 a1_1]] w fun e w' => e = .returned (.agg #[.int .i64 r1, .int .i64 r2]) ∧ Below w.heap.size w w' := by
 have hu51 := Try.underlying51
 have hu47 := Try.underlying47
 have HB := aM (Below.refl w.heap.size w)
 have H : (some (wrap64 ((wrap64 (a0_0 * a1_0)) + (wrap64 (a0_1 * a1_1))), wrap64 ((wrap64 (a0_2 * a1_0)) + (wrap64 (a0_3 * a1_1))))) = some (r1, r2) := h
 clear h
 simp only [Option.some.injEq, Prod.mk.injEq] at H
 obtain ⟨rfl, rfl⟩ := H
 go_enter Try.func100, Try.ntmps100
 go_wp2_with (first | (refine bE 2 #[.int .i64 a0_0, .int .i64 a0_1, .int .i64 a0_2, .int .i64 a0_3] 51 ?_; intro gb534 hg w3 hbox hb; have BK534 := aM hbox; have GW534 := bZ hg HB; have GE534 := bZ hg HB; replace HB := bS HB hb; clear hb hbox hg) | (refine bE 3 #[.int .i64 a1_0, .int .i64 a1_1] 47 ?_; intro gb535 hg w4 hbox hb; have BK535 := aM hbox; have GW535 := bZ hg HB; have GE535 := bZ hg HB; have NB534_535 := nL hg BK534; have NB535_534 := nG hg BK534; replace BK534 := bB BK534 hb; replace HB := bS HB hb; clear hb hbox hg) | (refine bE 4 #[.int .i64 0, .int .i64 0] 47 ?_; intro gb536 hg w5 hbox hb; have BK536 := aM hbox; have GW536 := bZ hg HB; have GE536 := bZ hg HB; have NB534_536 := nL hg BK534; have NB536_534 := nG hg BK534; have NB535_536 := nL hg BK535; have NB536_535 := nG hg BK535; replace BK534 := bB BK534 hb; replace BK535 := bB BK535 hb; replace HB := bS HB hb; clear hb hbox hg; have hnb6 := NB534_535.out; have hnc6 := NB535_534.out; have hnb7 := NB534_536.out; have hnc7 := NB536_534.out; obtain ⟨hcz8_0, hcz8_1, hcz8_2, hcz8_3⟩ := z4 BK534; obtain ⟨hfz8_0, hfz8_1, hfz8_2, hfz8_3⟩ := y4 BK534; have hnb9 := NB535_536.out; have hnc9 := NB536_535.out; obtain ⟨hcz10_0, hcz10_1⟩ := z2 BK535; obtain ⟨hfz10_0, hfz10_1⟩ := y2 BK535; obtain ⟨hcz11_0, hcz11_1⟩ := z2 BK536; obtain ⟨hfz11_0, hfz11_1⟩ := y2 BK536))
 refine bodyPost_ret (results_cell_row rfl _ _ gb536 47 #[.int .i64 (wrap64 ((wrap64 (a0_0 * a1_0)) + (wrap64 (a0_1 * a1_1)))), .int .i64 (wrap64 ((wrap64 (a0_2 * a1_0)) + (wrap64 (a0_3 * a1_1))))] (0, 0) _ rfl (by (with_reducible repeat (first|apply kN|apply kD|apply kA)); refine blk_put (cs := #[.int .i64 (wrap64 ((wrap64 (a0_0 * a1_0)) + (wrap64 (a0_1 * a1_1)))), .int .i64 0]) ?_ 1 _ rfl; (with_reducible repeat (first|apply kN|apply kD|apply kA)); refine blk_put (cs := #[.int .i64 0, .int .i64 0]) ?_ 0 _ rfl; (with_reducible repeat (first|apply kN|apply kD|apply kA)); exact BK536.out) Try.underlying47 rfl (by kernel_rfl)) rfl ?_
 exact ⟨qR, qB⟩

def spec_l03Basis.f (a0_0 : Int) (a0_1 : Int) (a0_2 : Int) : Option ((List (S47))) := some (([(⟨a0_0, 0⟩ : S47), (⟨a0_1, a0_2⟩ : S47)] : List (S47)))
set_option maxHeartbeats 8000000 in
set_option maxRecDepth 100000 in
theorem spec_l03Basis.calls (a0_0 : Int) (a0_1 : Int) (a0_2 : Int) (r : List (S47)) (w : World) (h : spec_l03Basis.f a0_0 a0_1 a0_2 = some r) :
  Calls Try.prog 149 #[.agg #[.int .i64 a0_0, .int .i64 a0_1, .int .i64 a0_2]] w fun e w' => ∃ v0_ : Value, e = .returned (v0_) ∧ Kd.R k47 47 w' w.heap.size (fun _ => True) v0_ r ∧ Below w.heap.size w w' := by
 have hu33 := Try.underlying33
 have hu47 := Try.underlying47
 have HB := aM (Below.refl w.heap.size w)
 have H : (some (([(⟨a0_0, 0⟩ : S47), (⟨a0_1, a0_2⟩ : S47)] : List (S47)))) = some r := h
 clear h
 obtain ⟨y538, hy538⟩ : ∃ y_ : List (S47), y_ = (([(⟨a0_0, 0⟩ : S47), (⟨a0_1, a0_2⟩ : S47)] : List (S47))) := ⟨_, rfl⟩
 replace H : (some y538) = some r := by first | (rw [hy538]; with_reducible exact H) | (have H2_ := (Option.bind_some _ _).symm.trans H; rw [hy538]; with_reducible exact H2_) | (have H2_ := (Option.bind_some _ _).symm.trans H; with_reducible exact H2_) | with_reducible exact H | (rw [hy538]; exact H) | exact H
 have Ny538 := aM hy538
 clear hy538
 obtain rfl := Option.some.inj H
 go_enter Try.func149, Try.ntmps149
 go_wp2_with (first | (refine bE 1 #[.int .i64 a0_0, .int .i64 a0_1, .int .i64 a0_2] 33 ?_; intro gb537 hg w2 hbox hb; have BK537 := aM hbox; have GW537 := bZ hg HB; have GE537 := bZ hg HB; replace HB := bS HB hb; clear hb hbox hg; obtain ⟨hcz3_0, hcz3_1, hcz3_2⟩ := z3 BK537; obtain ⟨hfz3_0, hfz3_1, hfz3_2⟩ := y3 BK537) | ((with_reducible refine gate_dst (N := 11) rfl ?_); refine Kd.R_lit k47 _ 47 ?hg (N := 11) ?hd (xs := ([(⟨a0_0, 0⟩ : S47), (⟨a0_1, a0_2⟩ : S47)] : List (S47))) (inner := [.int .i64 a0_0, .int .i64 0, .int .i64 a0_1, .int .i64 a0_2]) (ok := fun _ => True) (okp := fun _ => True) ?hr ?hp (fun _ hk => hk) trivial (Below.refl _ _) (Nat.le_refl _) (by simp) ?_; (case hd => rfl); (case hg => rfl); (case hr => first | (go_simp; done) | (go_simp; rfl)); (case hp => exact (Reps.c2 (show Kd.M k47 _ _ _ (⟨a0_0, 0⟩ : S47) [.int .i64 a0_0, .int .i64 0] from (k47_mkM _ _ _ (⟨a0_0, 0⟩ : S47) )) (Reps.c2 (show Kd.M k47 _ _ _ (⟨a0_1, a0_2⟩ : S47) [.int .i64 a0_1, .int .i64 a0_2] from (k47_mkM _ _ _ (⟨a0_1, a0_2⟩ : S47) )) (Reps.none _ _)))); intro v539 w4 ho5 hb hg_ hnew_; clear hg_ hnew_; (first | rw [← Ny538.out] at ho5 | (simp only [Int.reduceToNat] at ho5; rw [← Ny538.out] at ho5)); have HO540 := aM (Kd.R_lower ho5 (below_size qB)); replace BK537 := bB BK537 hb; replace HB := bS HB hb; clear hb ho5))
 go_ret
 exact ⟨_, qR, by (with_reducible repeat (first | apply Kd.R_alloc | apply Kd.R_drewN | apply Kd.R_drew)); exact HO540.out, qB⟩

def spec_l01Scale.f (a0_0 : Int) (a0_1 : Int) (a1 : Int) : Option (Int × Int) := some (wrap64 (a1 * a0_0), wrap64 (a1 * a0_1))
set_option maxHeartbeats 8000000 in
set_option maxRecDepth 100000 in
theorem spec_l01Scale.calls (a0_0 : Int) (a0_1 : Int) (a1 : Int) (r1 : Int) (r2 : Int) (w : World) (h : spec_l01Scale.f a0_0 a0_1 a1 = some (r1, r2)) :
  Calls Try.prog 145 #[.agg #[.int .i64 a0_0, .int .i64 a0_1], .int .i64 a1] w fun e w' => e = .returned (.agg #[.int .i64 r1, .int .i64 r2]) ∧ Below w.heap.size w w' := by
 have hu47 := Try.underlying47
 have HB := aM (Below.refl w.heap.size w)
 have H : (some (wrap64 (a1 * a0_0), wrap64 (a1 * a0_1))) = some (r1, r2) := h
 clear h
 simp only [Option.some.injEq, Prod.mk.injEq] at H
 obtain ⟨rfl, rfl⟩ := H
 go_enter Try.func145, Try.ntmps145
 go_wp2_with (first | (refine bE 2 #[.int .i64 a0_0, .int .i64 a0_1] 47 ?_; intro gb541 hg w3 hbox hb; have BK541 := aM hbox; have GW541 := bZ hg HB; have GE541 := bZ hg HB; replace HB := bS HB hb; clear hb hbox hg) | (refine bE 4 #[.int .i64 0, .int .i64 0] 47 ?_; intro gb542 hg w4 hbox hb; have BK542 := aM hbox; have GW542 := bZ hg HB; have GE542 := bZ hg HB; have NB541_542 := nL hg BK541; have NB542_541 := nG hg BK541; replace BK541 := bB BK541 hb; replace HB := bS HB hb; clear hb hbox hg; have hnb5 := NB541_542.out; have hnc5 := NB542_541.out; obtain ⟨hcz6_0, hcz6_1⟩ := z2 BK541; obtain ⟨hfz6_0, hfz6_1⟩ := y2 BK541; obtain ⟨hcz7_0, hcz7_1⟩ := z2 BK542; obtain ⟨hfz7_0, hfz7_1⟩ := y2 BK542))
 refine bodyPost_ret (results_cell_row rfl _ _ gb542 47 #[.int .i64 (wrap64 (a1 * a0_0)), .int .i64 (wrap64 (a1 * a0_1))] (0, 0) _ rfl (by (with_reducible repeat (first|apply kN|apply kD|apply kA)); refine blk_put (cs := #[.int .i64 (wrap64 (a1 * a0_0)), .int .i64 0]) ?_ 1 _ rfl; (with_reducible repeat (first|apply kN|apply kD|apply kA)); refine blk_put (cs := #[.int .i64 0, .int .i64 0]) ?_ 0 _ rfl; (with_reducible repeat (first|apply kN|apply kD|apply kA)); exact BK542.out) Try.underlying47 rfl (by kernel_rfl)) rfl ?_
 exact ⟨qR, qB⟩

def spec_l01Divisor.f : Nat → Int → Int → Option (Int)
 | 0, _, _ => none
 | k + 1, a0, a1 => if a1 = 0 then (some (mx a0 (wrap64 (-a0)))) else ((spec_l01Divisor.f k a1 (Int.tmod a0 a1)).bind fun t543 => (some t543))
set_option maxHeartbeats 8000000 in
set_option maxRecDepth 100000 in
theorem spec_l01Divisor.calls (k : Nat) : ∀ (a0 : Int) (a1 : Int) (r : Int) (w : World) (h : spec_l01Divisor.f k a0 a1 = some r),
  Calls Try.prog 157 #[.int .i64 a0, .int .i64 a1] w fun e w' => e = .returned (.int .i64 r) ∧ Below w.heap.size w w' := by
 induction k using Nat.strongRecOn with
 | _ k ih =>
 intro a0 a1 r w h
 cases k with
 | zero => exact absurd h (by simp [spec_l01Divisor.f])
 | succ k =>
 simp only [spec_l01Divisor.f] at h
 have HB := aM (Below.refl w.heap.size w)
 have H : (if a1 = 0 then (some (mx a0 (wrap64 (-a0)))) else ((spec_l01Divisor.f k a1 (Int.tmod a0 a1)).bind fun t543 => (some t543))) = some r := h
 clear h
 by_cases c3 : a1 = 0
 ·rw [if_pos c3] at H
  have c3b0 : (a1 == 0) = true := beq_iff_eq.mpr c3
  have c3b1 : (a1 != 0) = false := bne_eq_false_iff_eq.mpr c3
  clear c3
  obtain ⟨ji4, hji4⟩ : ∃ j_ : Int, (mx a0 (wrap64 (-a0))) = j_ := ⟨_, rfl⟩
  replace H : (some ji4) = some r := by first | (rw [hji4] at H; exact H) | (simp only [hji4] at H ⊢; exact H)
  have hji4_ : (if a0 < (wrap64 (-a0)) then (wrap64 (-a0)) else a0) = ji4 := hji4
  obtain rfl := Option.some.inj H
  go_enter Try.func157, Try.ntmps157
  go_wp2
  go_ret
  exact ⟨by first | rfl | (simp [errW_none, errW_some] <;> rfl) | (simp only [← hji4]; first | rfl | (simp [errW_none, errW_some] <;> rfl)) | (simp [*, errW_none, errW_some] <;> rfl), qB⟩
 ·rw [if_neg c3] at H
  have c3b0 : (a1 == 0) = false := beq_eq_false_iff_ne.mpr c3
  have c3b1 : (a1 != 0) = true := bne_iff_ne.mpr c3
  obtain ⟨t543, A5, H⟩ := oB H
  try dsimp only at H
  obtain rfl := Option.some.inj H
  go_enter Try.func157, Try.ntmps157
  go_wp2_with (first | (refine gC 157 ?_; refine gM 15 (ih k (by omega) a1 (Int.tmod a0 a1) t543 _ A5.out) Try.func157 ?_; rintro w6 hb; replace HB := bS HB hb; (try clear hb)))
  go_ret
  exact ⟨qR, qB⟩

def spec_l01Mod.f (a0 : Int) (a1 : Int) : Option (Int) := if a1 = 0 then (none) else (if (Int.tmod a0 a1) < 0 then (some (wrap64 ((Int.tmod a0 a1) + a1))) else (some (Int.tmod a0 a1)))
set_option maxHeartbeats 8000000 in
set_option maxRecDepth 100000 in
theorem spec_l01Mod.calls (a0 : Int) (a1 : Int) (r : Int) (w : World) (h : spec_l01Mod.f a0 a1 = some r) :
  Calls Try.prog 158 #[.int .i64 a0, .int .i64 a1] w fun e w' => e = .returned (.int .i64 r) ∧ Drawn0 w w' := by
 have H : (if a1 = 0 then (none) else (if (Int.tmod a0 a1) < 0 then (some (wrap64 ((Int.tmod a0 a1) + a1))) else (some (Int.tmod a0 a1)))) = some r := h
 clear h
 by_cases c3 : a1 = 0
 ·rw [if_pos c3] at H
  exact absurd H (by simp)
 ·rw [if_neg c3] at H
  have c3b0 : (a1 == 0) = false := beq_eq_false_iff_ne.mpr c3
  have c3b1 : (a1 != 0) = true := bne_iff_ne.mpr c3
  by_cases c4 : (Int.tmod a0 a1) < 0
  ·rw [if_pos c4] at H
   have c4b0 : decide ((Int.tmod a0 a1) < 0) = true := decide_eq_true c4
   clear c4
   obtain rfl := Option.some.inj H
   go_enter Try.func158, Try.ntmps158
   go_wp2
   go_ret
   exact ⟨by first | rfl | (simp; done) | (simp [*]; done), by repeat (first | exact Drawn0.refl _ | apply Drawn0.step)⟩
  ·rw [if_neg c4] at H
   have c4b0 : decide ((Int.tmod a0 a1) < 0) = false := decide_eq_false c4
   clear c4
   obtain rfl := Option.some.inj H
   go_enter Try.func158, Try.ntmps158
   go_wp2
   go_ret
   exact ⟨by first | rfl | (simp; done) | (simp [*]; done), by repeat (first | exact Drawn0.refl _ | apply Drawn0.step)⟩

mutual
def spec_l03Hermite.l0 : Nat → List (S47) → Int → Int → Int → Int → Option (Int × Int × Int)
 | 0, _, _, _, _, _ => none
 | k + 1, x0, x4, x5, x546000, x546001 => if x5 < (x0.length : Int) then (if 0 ≤ x5 then (spec_l03Hermite.l1 k x0 x4 x5 x546000 x546001 ((rd_T47 x0 x5).f0) ((rd_T47 x0 x5).f1)) else (none)) else (if x546001 < 0 then ((spec_l01Scale.f x546000 x546001 (-1)).bind fun bt551 => (if x4 > 0 then ((spec_l01Mod.f bt551.1 x4).bind fun t553 => (some (x4, t553, bt551.2))) else (some (x4, bt551.1, bt551.2)))) else (if x4 > 0 then ((spec_l01Mod.f x546000 x4).bind fun t554 => (some (x4, t554, x546001))) else (some (x4, x546000, x546001))))
def spec_l03Hermite.l1 : Nat → List (S47) → Int → Int → Int → Int → Int → Int → Option (Int × Int × Int)
 | 0, _, _, _, _, _, _, _ => none
 | k + 1, x0, x4, x5, x546000, x546001, x548000, x548001 => if x548001 = 0 then ((spec_l01Divisor.f k x4 x548000).bind fun t549 => (if t549 > 0 then ((spec_l01Mod.f x546000 t549).bind fun t550 => (spec_l03Hermite.l0 k x0 t549 (wrap64 (x5 + 1)) t550 x546001)) else (spec_l03Hermite.l0 k x0 t549 (wrap64 (x5 + 1)) x546000 x546001))) else (spec_l03Hermite.l1 k x0 x4 x5 x548000 x548001 (wrap64 (x546000 - (wrap64 ((wrap64 (Int.tdiv x546001 x548001)) * x548000)))) (wrap64 (x546001 - (wrap64 ((wrap64 (Int.tdiv x546001 x548001)) * x548001)))))
end
def spec_l03Hermite.f (k : Nat) (l0 : List (S47)) : Option (Int × Int × Int) := spec_l03Hermite.l0 k l0 0 0 0 0
set_option maxHeartbeats 8000000 in
set_option maxRecDepth 100000 in
theorem spec_l03Hermite.calls (k : Nat) (A0 : Option Addr) (c0 : Nat) (l0 : List (S47)) (r1 : Int) (r2 : Int) (r3 : Int) (w : World) (hr0 : Kd.C k47 w A0 l0.length l0) (hc0 : l0.length ≤ c0) (h : spec_l03Hermite.f k l0 = some (r1, r2, r3)) :
  Calls Try.prog 150 #[.slice A0 l0.length c0] w fun e w' => e = .returned (.agg #[.int .i64 r1, .int .i64 r2, .int .i64 r3]) ∧ Below w.heap.size w w' := by
 have hu33 := Try.underlying33
 have hu47 := Try.underlying47
 have HR0 := aM hr0
 have HC0 := aM hc0
 clear hr0 hc0
 have HB := aM (Below.refl w.heap.size w)
 have H : (spec_l03Hermite.l0 k l0 0 0 0 0) = some (r1, r2, r3) := h
 clear h
 have H' := aM H
 clear H
 go_enter Try.func150, Try.ntmps150
 go_wp2_with (first | (refine bE 2 #[.int .i64 0, .int .i64 0, .int .i64 0] 33 ?_; intro gb544 hg w2 hbox hb; have BK544 := aM hbox; have GW544 := bZ hg HB; have GE544 := bZ hg HB; replace HB := bS HB hb; clear hb hbox hg) | (refine bE 3 #[.int .i64 0, .int .i64 0] 47 ?_; intro gb545 hg w3 hbox hb; have BK545 := aM hbox; have GW545 := bZ hg HB; have GE545 := bZ hg HB; have NB544_545 := nL hg BK544; have NB545_544 := nG hg BK544; replace BK544 := bB BK544 hb; replace HB := bS HB hb; clear hb hbox hg; have hnb4 := NB545_544.out; have hnc4 := NB544_545.out; obtain ⟨hcz5_0, hcz5_1⟩ := z2 BK545; obtain ⟨hfz5_0, hfz5_1⟩ := y2 BK545))
 go_loopg [4, 5] k (fun kq v4 v5 w' => ∃ (x4_1 : Int) (x5_1 : Int) (x546000_1 : Int) (x546001_1 : Int), v4 = .int .i64 x4_1 ∧ v5 = .int .i64 x5_1 ∧ Aside0 (spec_l03Hermite.l0 kq l0 x4_1 x5_1 x546000_1 x546001_1 = some (r1, r2, r3)) ∧ Aside0 (kq ≤ k) ∧ Aside0 (w'.heap[gb544]? = some (.cells #[.int .i64 0, .int .i64 0, .int .i64 0] 33 (0, 0))) ∧ Aside0 (w'.heap[gb545]? = some (.cells #[.int .i64 x546000_1, .int .i64 x546001_1] 47 (0, 0))) ∧ Aside0 (Below w.heap.size w w'))
 case atStart => exact ⟨(0), (0), (0), (0), (by first | rfl | (simp; done) | (simp [*]; done)), (by first | rfl | (simp; done) | (simp [*]; done)), H', ⟨Nat.le_refl _⟩, ⟨by (repeat (first|(with_reducible first|apply kN|apply kD|apply kA)|refine blk_far ?_ NB544_545.out _)); exact BK544.out⟩, ⟨by (with_reducible repeat (first|apply kN|apply kD|apply kA)); refine blk_put (cs := #[.int .i64 0, .int .i64 0]) ?_ 1 _ rfl; (with_reducible repeat (first|apply kN|apply kD|apply kA)); refine blk_put (cs := #[.int .i64 0, .int .i64 0]) ?_ 0 _ rfl; (with_reducible repeat (first|apply kN|apply kD|apply kA)); exact BK545.out⟩, ⟨qB⟩⟩
 case round =>
  clear H'
  try clear c1
  try clear p2
  try clear c4
  try clear hcz5_0
  try clear hcz5_1
  try clear hfz5_0
  try clear hfz5_1
  obtain ⟨x4_1, x5_1, x546000_1, x546001_1, rfl, rfl, HA, HK1, BK544, BK545, HB⟩ := hrel
  cases gk with
  | zero => exact absurd HA.out (by simp [spec_l03Hermite.l0])
  | succ k1 =>
   have H := HA.out
   clear HA
   simp only [spec_l03Hermite.l0] at H
   by_cases c6 : x5_1 < (l0.length : Int)
   ·rw [if_pos c6] at H
    have c6b0 : decide (x5_1 < (l0.length : Int)) = true := decide_eq_true c6
    clear c6
    by_cases c7 : 0 ≤ x5_1
    ·rw [if_pos c7] at H
     have c7b0 : decide (0 ≤ x5_1) = true := decide_eq_true c7
     clear c7
     have H' := aM H
     clear H
     have p546 : 0 ≤ (x5_1 : Int) := of_decide_eq_true (by first | (with_reducible assumption) | assumption)
     have q546 : x5_1 < (l0.length : Int) := of_decide_eq_true (by first | (with_reducible assumption) | assumption)
     obtain ⟨ad546, e546, hx546_0, hx546_1⟩ := at_T47 HR0.out x5_1 p546 q546
     cases e546
     replace hx546_0 := (HB.out.cell (World.block_lt_of_cell? w _ hx546_0)).trans hx546_0
     replace hx546_1 := (HB.out.cell (World.block_lt_of_cell? w _ hx546_1)).trans hx546_1
     replace p546 := eq_true p546
     replace q546 := eq_true q546
     go_wp2_with (first | (refine bE 6 #[.int .i64 0, .int .i64 0] 47 ?_; intro gb547 hg w8 hbox hb; have BK547 := aM hbox; have GW547 := bZ hg HB; have GE547 := bZ hg HB; have NB544_547 := nL hg BK544; have NB547_544 := nG hg BK544; have NB545_547 := nL hg BK545; have NB547_545 := nG hg BK545; replace BK544 := bB BK544 hb; replace BK545 := bB BK545 hb; replace HB := bS HB hb; clear hb hbox hg; have hnb9 := NB547_544.out; have hnc9 := NB544_547.out; have hnb10 := NB547_545.out; have hnc10 := NB545_547.out; obtain ⟨hcz11_0, hcz11_1⟩ := z2 BK547; obtain ⟨hfz11_0, hfz11_1⟩ := y2 BK547))
     go_loopg [] k1 (fun kq w' => ∃ (x546000_2 : Int) (x546001_2 : Int) (x548000_2 : Int) (x548001_2 : Int), Aside0 (spec_l03Hermite.l1 kq l0 x4_1 x5_1 x546000_2 x546001_2 x548000_2 x548001_2 = some (r1, r2, r3)) ∧ Aside0 (kq ≤ k1) ∧ Aside0 (w'.heap[gb544]? = some (.cells #[.int .i64 0, .int .i64 0, .int .i64 0] 33 (0, 0))) ∧ Aside0 (w'.heap[gb545]? = some (.cells #[.int .i64 x546000_2, .int .i64 x546001_2] 47 (0, 0))) ∧ Aside0 (w'.heap[gb547]? = some (.cells #[.int .i64 x548000_2, .int .i64 x548001_2] 47 (0, 0))) ∧ Aside0 (Below w.heap.size w w'))
     case atStart => exact ⟨(x546000_1), (x546001_1), ((rd_T47 l0 x5_1).f0), ((rd_T47 l0 x5_1).f1), H', ⟨Nat.le_refl _⟩, ⟨by (repeat (first|(with_reducible first|apply kN|apply kD|apply kA)|refine blk_far ?_ NB544_547.out _)); exact BK544.out⟩, ⟨by (repeat (first|(with_reducible first|apply kN|apply kD|apply kA)|refine blk_far ?_ NB545_547.out _)); exact BK545.out⟩, ⟨by (with_reducible repeat (first|apply kN|apply kD|apply kA)); refine blk_put (cs := #[.int .i64 ((rd_T47 l0 x5_1).f0), .int .i64 0]) ?_ 1 _ rfl; (with_reducible repeat (first|apply kN|apply kD|apply kA)); refine blk_put (cs := #[.int .i64 0, .int .i64 0]) ?_ 0 _ rfl; (with_reducible repeat (first|apply kN|apply kD|apply kA)); exact BK547.out⟩, ⟨qB⟩⟩
     case round =>
      clear H'
      try clear c1
      try clear p2
      try clear c4
      try clear p5
      try clear q5
      try clear hx5
      try clear c6
      try clear c6b0
      try clear c7
      try clear c7b0
      try clear c9
      try clear c10
      try clear hcz11_0
      try clear hcz11_1
      try clear hcz5_0
      try clear hcz5_1
      try clear hfz11_0
      try clear hfz11_1
      try clear hfz5_0
      try clear hfz5_1
      try clear hx546_0
      try clear hx546_1
      try clear p2
      try clear p546
      try clear q546
      obtain ⟨x546000_2, x546001_2, x548000_2, x548001_2, HA, HK2, BK544, BK545, BK547, HB⟩ := hrel
      cases gk with
      | zero => exact absurd HA.out (by simp [spec_l03Hermite.l1])
      | succ k2 =>
       have H := HA.out
       clear HA
       simp only [spec_l03Hermite.l1] at H
       by_cases c12 : x548001_2 = 0
       ·rw [if_pos c12] at H
        have c12b0 : (x548001_2 == 0) = true := beq_iff_eq.mpr c12
        have c12b1 : (x548001_2 != 0) = false := bne_eq_false_iff_eq.mpr c12
        clear c12
        obtain ⟨t549, A13, H⟩ := oB H
        try dsimp only at H
        by_cases c14 : t549 > 0
        ·rw [if_pos c14] at H
         have c14b0 : decide (0 < t549) = true := decide_eq_true c14
         clear c14
         obtain ⟨t550, A15, H⟩ := oB H
         try dsimp only at H
         have H' := aM H
         clear H
         have hnb16 := NB547_544.out
         have hnc16 := NB544_547.out
         have hnb17 := NB547_545.out
         have hnc17 := NB545_547.out
         obtain ⟨hcz18_0, hcz18_1⟩ := z2 BK547
         obtain ⟨hfz18_0, hfz18_1⟩ := y2 BK547
         go_wp2_with (first | (refine gC 157 ?_; refine gM 48 (spec_l01Divisor.calls k2 x4_1 x548000_2 t549 _ A13.out) Try.func157 ?_; rintro w19 hb; replace BK544 := bB BK544 hb; replace BK545 := bB BK545 hb; replace BK547 := bB BK547 hb; replace HB := bS HB hb; (try clear hb); have hnb20 := NB545_544.out; have hnc20 := NB544_545.out; obtain ⟨hcz21_0, hcz21_1⟩ := z2 BK545; obtain ⟨hfz21_0, hfz21_1⟩ := y2 BK545) | (refine gC 158 ?_; refine gM 54 (spec_l01Mod.calls x546000_2 t549 t550 _ A15.out) Try.func158 ?_; rintro w' ⟨⟨nd, rfl⟩⟩; (try (rw [drewN_self w19]; generalize hq_ : World.drewN w19 _ = w19; have n0_ : Aside0 (w19.heap[gb544]? = some (.cells #[.int .i64 0, .int .i64 0, .int .i64 0] 33 (0, 0))) := ⟨by rw [← hq_]; exact (bk BK544)⟩; have n1_ : Aside0 (w19.heap[gb545]? = some (.cells #[.int .i64 x546000_2, .int .i64 x546001_2] 47 (0, 0))) := ⟨by rw [← hq_]; exact (bk BK545)⟩; have n2_ : Aside0 (w19.heap[gb547]? = some (.cells #[.int .i64 x548000_2, .int .i64 x548001_2] 47 (0, 0))) := ⟨by rw [← hq_]; exact (bk BK547)⟩; have n3_ : Aside0 (Below w.heap.size w w19) := ⟨by rw [← hq_]; exact qB⟩; clear BK544 BK545 BK547 HB hq_; have BK544 := n0_; have BK545 := n1_; have BK547 := n2_; have HB := n3_; clear n0_ n1_ n2_ n3_; obtain ⟨hcz18_0, hcz18_1⟩ := z2 BK547; obtain ⟨hfz18_0, hfz18_1⟩ := y2 BK547; obtain ⟨hcz21_0, hcz21_1⟩ := z2 BK545; obtain ⟨hfz21_0, hfz21_1⟩ := y2 BK545))))
         go_roundg k2
         case measure => have := HK1.out; have := HK2.out; omega
         case rel => exact ⟨(t549), (wrap64 (x5_1 + 1)), (t550), (x546001_2), (by first | rfl | (simp; done) | (simp [*]; done)), (by first | rfl | (simp; done) | (simp [*]; done)), H', ⟨by have := HK1.out; have := HK2.out; omega⟩, ⟨by (repeat (first|(with_reducible first|apply kN|apply kD|apply kA)|refine blk_far ?_ NB544_545.out _)); exact BK544.out⟩, ⟨by (with_reducible repeat (first|apply kN|apply kD|apply kA)); refine blk_put (cs := #[.int .i64 x546000_2, .int .i64 x546001_2]) ?_ 0 _ rfl; (with_reducible repeat (first|apply kN|apply kD|apply kA)); exact BK545.out⟩, ⟨qB⟩⟩
        ·rw [if_neg c14] at H
         have c14b0 : decide (0 < t549) = false := decide_eq_false c14
         clear c14
         have H' := aM H
         clear H
         have hnb22 := NB547_544.out
         have hnc22 := NB544_547.out
         have hnb23 := NB547_545.out
         have hnc23 := NB545_547.out
         obtain ⟨hcz24_0, hcz24_1⟩ := z2 BK547
         obtain ⟨hfz24_0, hfz24_1⟩ := y2 BK547
         go_wp2_with (first | (refine gC 157 ?_; refine gM 48 (spec_l01Divisor.calls k2 x4_1 x548000_2 t549 _ A13.out) Try.func157 ?_; rintro w25 hb; replace BK544 := bB BK544 hb; replace BK545 := bB BK545 hb; replace BK547 := bB BK547 hb; replace HB := bS HB hb; (try clear hb)))
         go_roundg k2
         case measure => have := HK1.out; have := HK2.out; omega
         case rel => exact ⟨(t549), (wrap64 (x5_1 + 1)), (x546000_2), (x546001_2), (by first | rfl | (simp; done) | (simp [*]; done)), (by first | rfl | (simp; done) | (simp [*]; done)), H', ⟨by have := HK1.out; have := HK2.out; omega⟩, ⟨bk BK544⟩, ⟨bk BK545⟩, ⟨qB⟩⟩
       ·rw [if_neg c12] at H
        have c12b0 : (x548001_2 == 0) = false := beq_eq_false_iff_ne.mpr c12
        have c12b1 : (x548001_2 != 0) = true := bne_iff_ne.mpr c12
        have H' := aM H
        clear H
        have hnb26 := NB547_544.out
        have hnc26 := NB544_547.out
        have hnb27 := NB547_545.out
        have hnc27 := NB545_547.out
        obtain ⟨hcz28_0, hcz28_1⟩ := z2 BK547
        obtain ⟨hfz28_0, hfz28_1⟩ := y2 BK547
        have hnb29 := NB545_544.out
        have hnc29 := NB544_545.out
        obtain ⟨hcz30_0, hcz30_1⟩ := z2 BK545
        obtain ⟨hfz30_0, hfz30_1⟩ := y2 BK545
        go_wp2_with (first | (refine bE 8 #[.int .i64 0, .int .i64 0] 47 ?_; intro gb548 hg w31 hbox hb; have BK548 := aM hbox; have GW548 := bZ hg HB; have GE548 := bZ hg HB; have NB544_548 := nL hg BK544; have NB548_544 := nG hg BK544; have NB545_548 := nL hg BK545; have NB548_545 := nG hg BK545; have NB547_548 := nL hg BK547; have NB548_547 := nG hg BK547; replace BK544 := bB BK544 hb; replace BK545 := bB BK545 hb; replace BK547 := bB BK547 hb; replace HB := bS HB hb; clear hb hbox hg; have hnb32 := NB548_544.out; have hnc32 := NB544_548.out; have hnb33 := NB548_545.out; have hnc33 := NB545_548.out; have hnb34 := NB548_547.out; have hnc34 := NB547_548.out; obtain ⟨hcz35_0, hcz35_1⟩ := z2 BK548; obtain ⟨hfz35_0, hfz35_1⟩ := y2 BK548; obtain ⟨hcz36_0, hcz36_1⟩ := z2 BK547; obtain ⟨hfz36_0, hfz36_1⟩ := y2 BK547; obtain ⟨hcz37_0, hcz37_1⟩ := z2 BK545; obtain ⟨hfz37_0, hfz37_1⟩ := y2 BK545))
        go_roundg k2
        case measure => have := HK1.out; have := HK2.out; omega
        case rel => exact ⟨(x548000_2), (x548001_2), (wrap64 (x546000_2 - (wrap64 ((wrap64 (Int.tdiv x546001_2 x548001_2)) * x548000_2)))), (wrap64 (x546001_2 - (wrap64 ((wrap64 (Int.tdiv x546001_2 x548001_2)) * x548001_2)))), H', ⟨by have := HK1.out; have := HK2.out; omega⟩, ⟨by (repeat (first|(with_reducible first|apply kN|apply kD|apply kA)|refine blk_far ?_ NB544_547.out _|refine blk_far ?_ NB544_545.out _|refine blk_far ?_ NB544_548.out _)); exact BK544.out⟩, ⟨by (repeat (first|(with_reducible first|apply kN|apply kD|apply kA)|refine blk_far ?_ NB545_547.out _)); refine blk_put (cs := #[.int .i64 x548000_2, .int .i64 x546001_2]) ?_ 1 _ rfl; (with_reducible repeat (first|apply kN|apply kD|apply kA)); refine blk_put (cs := #[.int .i64 x546000_2, .int .i64 x546001_2]) ?_ 0 _ rfl; (repeat (first|(with_reducible first|apply kN|apply kD|apply kA)|refine blk_far ?_ NB545_548.out _)); exact BK545.out⟩, ⟨by (with_reducible repeat (first|apply kN|apply kD|apply kA)); refine blk_put (cs := #[.int .i64 (wrap64 (x546000_2 - (wrap64 ((wrap64 (Int.tdiv x546001_2 x548001_2)) * x548000_2)))), .int .i64 x548001_2]) ?_ 1 _ rfl; (with_reducible repeat (first|apply kN|apply kD|apply kA)); refine blk_put (cs := #[.int .i64 x548000_2, .int .i64 x548001_2]) ?_ 0 _ rfl; (repeat (first|(with_reducible first|apply kN|apply kD|apply kA)|refine blk_far ?_ NB547_545.out _|refine blk_far ?_ NB547_548.out _)); exact BK547.out⟩, ⟨qB⟩⟩
    ·rw [if_neg c7] at H
     exact absurd H (by simp)
   ·rw [if_neg c6] at H
    have c6b0 : decide (x5_1 < (l0.length : Int)) = false := decide_eq_false c6
    clear c6
    by_cases c38 : x546001_1 < 0
    ·rw [if_pos c38] at H
     have c38b0 : decide (x546001_1 < 0) = true := decide_eq_true c38
     clear c38
     obtain ⟨⟨t551, t552⟩, A39, H⟩ := oB H
     try dsimp only at H
     by_cases c40 : x4_1 > 0
     ·rw [if_pos c40] at H
      have c40b0 : decide (0 < x4_1) = true := decide_eq_true c40
      clear c40
      obtain ⟨t553, A41, H⟩ := oB H
      try dsimp only at H
      simp only [Option.some.injEq, Prod.mk.injEq] at H
      obtain ⟨rfl, rfl, rfl⟩ := H
      have hnb42 := NB545_544.out
      have hnc42 := NB544_545.out
      obtain ⟨hcz43_0, hcz43_1⟩ := z2 BK545
      obtain ⟨hfz43_0, hfz43_1⟩ := y2 BK545
      go_wp2_with (first | (refine gC 145 ?_; refine gM 60 (spec_l01Scale.calls x546000_1 x546001_1 (-1) t551 t552 _ A39.out) Try.func145 ?_; rintro w44 hb; replace BK544 := bB BK544 hb; replace BK545 := bB BK545 hb; replace HB := bS HB hb; (try clear hb); obtain ⟨hcz45_0, hcz45_1⟩ := z2 BK545; obtain ⟨hfz45_0, hfz45_1⟩ := y2 BK545) | (refine gC 158 ?_; refine gM 66 (spec_l01Mod.calls t551 x4_1 t553 _ A41.out) Try.func158 ?_; rintro w' ⟨⟨nd, rfl⟩⟩; obtain ⟨hcz46_0, hcz46_1, hcz46_2⟩ := z3 BK544; obtain ⟨hfz46_0, hfz46_1, hfz46_2⟩ := y3 BK544))
      refine bodyPost_ret (results_cell_row rfl _ _ gb544 33 #[.int .i64 x4_1, .int .i64 t553, .int .i64 t552] (0, 0) _ rfl (by (with_reducible repeat (first|apply kN|apply kD|apply kA)); refine blk_put (cs := #[.int .i64 x4_1, .int .i64 t553, .int .i64 0]) ?_ 2 _ rfl; (with_reducible repeat (first|apply kN|apply kD|apply kA)); refine blk_put (cs := #[.int .i64 x4_1, .int .i64 0, .int .i64 0]) ?_ 1 _ rfl; (with_reducible repeat (first|apply kN|apply kD|apply kA)); refine blk_put (cs := #[.int .i64 0, .int .i64 0, .int .i64 0]) ?_ 0 _ rfl; (repeat (first|(with_reducible first|apply kN|apply kD|apply kA)|refine blk_far ?_ NB544_545.out _)); exact BK544.out) Try.underlying33 rfl (by kernel_rfl)) rfl ?_
      exact ⟨qR, qB⟩
     ·rw [if_neg c40] at H
      have c40b0 : decide (0 < x4_1) = false := decide_eq_false c40
      clear c40
      simp only [Option.some.injEq, Prod.mk.injEq] at H
      obtain ⟨rfl, rfl, rfl⟩ := H
      have hnb47 := NB545_544.out
      have hnc47 := NB544_545.out
      obtain ⟨hcz48_0, hcz48_1⟩ := z2 BK545
      obtain ⟨hfz48_0, hfz48_1⟩ := y2 BK545
      go_wp2_with (first | (refine gC 145 ?_; refine gM 60 (spec_l01Scale.calls x546000_1 x546001_1 (-1) t551 t552 _ A39.out) Try.func145 ?_; rintro w49 hb; replace BK544 := bB BK544 hb; replace BK545 := bB BK545 hb; replace HB := bS HB hb; (try clear hb); obtain ⟨hcz50_0, hcz50_1⟩ := z2 BK545; obtain ⟨hfz50_0, hfz50_1⟩ := y2 BK545; obtain ⟨hcz51_0, hcz51_1, hcz51_2⟩ := z3 BK544; obtain ⟨hfz51_0, hfz51_1, hfz51_2⟩ := y3 BK544))
      refine bodyPost_ret (results_cell_row rfl _ _ gb544 33 #[.int .i64 x4_1, .int .i64 t551, .int .i64 t552] (0, 0) _ rfl (by (with_reducible repeat (first|apply kN|apply kD|apply kA)); refine blk_put (cs := #[.int .i64 x4_1, .int .i64 t551, .int .i64 0]) ?_ 2 _ rfl; (with_reducible repeat (first|apply kN|apply kD|apply kA)); refine blk_put (cs := #[.int .i64 x4_1, .int .i64 0, .int .i64 0]) ?_ 1 _ rfl; (with_reducible repeat (first|apply kN|apply kD|apply kA)); refine blk_put (cs := #[.int .i64 0, .int .i64 0, .int .i64 0]) ?_ 0 _ rfl; (repeat (first|(with_reducible first|apply kN|apply kD|apply kA)|refine blk_far ?_ NB544_545.out _)); exact BK544.out) Try.underlying33 rfl (by kernel_rfl)) rfl ?_
      exact ⟨qR, qB⟩
    ·rw [if_neg c38] at H
     have c38b0 : decide (x546001_1 < 0) = false := decide_eq_false c38
     clear c38
     by_cases c52 : x4_1 > 0
     ·rw [if_pos c52] at H
      have c52b0 : decide (0 < x4_1) = true := decide_eq_true c52
      clear c52
      obtain ⟨t554, A53, H⟩ := oB H
      try dsimp only at H
      simp only [Option.some.injEq, Prod.mk.injEq] at H
      obtain ⟨rfl, rfl, rfl⟩ := H
      have hnb54 := NB545_544.out
      have hnc54 := NB544_545.out
      obtain ⟨hcz55_0, hcz55_1⟩ := z2 BK545
      obtain ⟨hfz55_0, hfz55_1⟩ := y2 BK545
      go_wp2_with (first | (refine gC 158 ?_; refine gM 66 (spec_l01Mod.calls x546000_1 x4_1 t554 _ A53.out) Try.func158 ?_; rintro w' ⟨⟨nd, rfl⟩⟩; (try (rw [drewN_self wr]; generalize hq_ : World.drewN wr _ = wr; have n0_ : Aside0 (wr.heap[gb544]? = some (.cells #[.int .i64 0, .int .i64 0, .int .i64 0] 33 (0, 0))) := ⟨by rw [← hq_]; exact (bk BK544)⟩; have n1_ : Aside0 (wr.heap[gb545]? = some (.cells #[.int .i64 x546000_1, .int .i64 x546001_1] 47 (0, 0))) := ⟨by rw [← hq_]; exact (bk BK545)⟩; have n2_ : Aside0 (Below w.heap.size w wr) := ⟨by rw [← hq_]; exact qB⟩; clear BK544 BK545 HB hq_; have BK544 := n0_; have BK545 := n1_; have HB := n2_; clear n0_ n1_ n2_; obtain ⟨hcz55_0, hcz55_1⟩ := z2 BK545; obtain ⟨hfz55_0, hfz55_1⟩ := y2 BK545)); obtain ⟨hcz56_0, hcz56_1, hcz56_2⟩ := z3 BK544; obtain ⟨hfz56_0, hfz56_1, hfz56_2⟩ := y3 BK544))
      refine bodyPost_ret (results_cell_row rfl _ _ gb544 33 #[.int .i64 x4_1, .int .i64 t554, .int .i64 x546001_1] (0, 0) _ rfl (by (with_reducible repeat (first|apply kN|apply kD|apply kA)); refine blk_put (cs := #[.int .i64 x4_1, .int .i64 t554, .int .i64 0]) ?_ 2 _ rfl; (with_reducible repeat (first|apply kN|apply kD|apply kA)); refine blk_put (cs := #[.int .i64 x4_1, .int .i64 0, .int .i64 0]) ?_ 1 _ rfl; (with_reducible repeat (first|apply kN|apply kD|apply kA)); refine blk_put (cs := #[.int .i64 0, .int .i64 0, .int .i64 0]) ?_ 0 _ rfl; (repeat (first|(with_reducible first|apply kN|apply kD|apply kA)|refine blk_far ?_ NB544_545.out _)); exact BK544.out) Try.underlying33 rfl (by kernel_rfl)) rfl ?_
      exact ⟨qR, qB⟩
     ·rw [if_neg c52] at H
      have c52b0 : decide (0 < x4_1) = false := decide_eq_false c52
      clear c52
      simp only [Option.some.injEq, Prod.mk.injEq] at H
      obtain ⟨rfl, rfl, rfl⟩ := H
      have hnb57 := NB545_544.out
      have hnc57 := NB544_545.out
      obtain ⟨hcz58_0, hcz58_1⟩ := z2 BK545
      obtain ⟨hfz58_0, hfz58_1⟩ := y2 BK545
      obtain ⟨hcz59_0, hcz59_1, hcz59_2⟩ := z3 BK544
      obtain ⟨hfz59_0, hfz59_1, hfz59_2⟩ := y3 BK544
      go_wp2
      refine bodyPost_ret (results_cell_row rfl _ _ gb544 33 #[.int .i64 x4_1, .int .i64 x546000_1, .int .i64 x546001_1] (0, 0) _ rfl (by (with_reducible repeat (first|apply kN|apply kD|apply kA)); refine blk_put (cs := #[.int .i64 x4_1, .int .i64 x546000_1, .int .i64 0]) ?_ 2 _ rfl; (with_reducible repeat (first|apply kN|apply kD|apply kA)); refine blk_put (cs := #[.int .i64 x4_1, .int .i64 0, .int .i64 0]) ?_ 1 _ rfl; (with_reducible repeat (first|apply kN|apply kD|apply kA)); refine blk_put (cs := #[.int .i64 0, .int .i64 0, .int .i64 0]) ?_ 0 _ rfl; (with_reducible repeat (first|apply kN|apply kD|apply kA)); exact BK544.out) Try.underlying33 rfl (by kernel_rfl)) rfl ?_
      exact ⟨qR, qB⟩

end Go.Proofs.Ytcjchihnopmplaa.F

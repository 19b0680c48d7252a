import Derived.Test.YtcjchihnopmplaaP0
namespace Go.Proofs.Ytcjchihnopmplaa.F
open Go.RowKit Go.Proofs.YtcjchihnopmplaaW.PrintWords Go.Proofs.YtcjchihnopmplaaW.PrintLast Go.Proofs.YtcjchihnopmplaaW.PrintMore
attribute [local go_sem] max2_int min2_int max_two min_two max_three min_three max_four min_four   -- for this text's walks alone
set_option linter.unusedVariables false
set_option linter.unusedSimpArgs false

def impl_Lattice_basis.f (a0_0 : Int) (a0_1 : Int) (a0_2 : Int) : Option (Int × Int × Int × Int) := some (a0_0, 0, a0_1, a0_2)
def impl_Lattice_basis.T1 : Bool × List (List Nat × List Nat) := (true, [([], []), ([0], [0]), ([1], [1]), ([], []), ([3], [3]), ([], []), ([5], [5]), ([4, 6], [4, 6]), ([2, 0, 1, 2], [2]), ([7, 8, 0, 1, 2, 3, 4, 5, 6, 7, 8], [7])])
def impl_Lattice_basis.B1 : List Nat := [0, 1, 3, 0, 8, 0, 32, 120, 7, 511]
theorem impl_Lattice_basis.tab1 : rtab .any (opsOf Try.f118 1) = impl_Lattice_basis.T1 := by kernel_rfl
theorem impl_Lattice_basis.bits1 : waitsOk impl_Lattice_basis.T1.2 impl_Lattice_basis.B1 = true := by kernel_rfl
set_option maxHeartbeats 8000000 in
set_option maxRecDepth 100000 in
theorem impl_Lattice_basis.calls (a0_0 : Int) (a0_1 : Int) (a0_2 : Int) (r1 : Int) (r2 : Int) (r3 : Int) (r4 : Int) (w : World) (h : impl_Lattice_basis.f a0_0 a0_1 a0_2 = some (r1, r2, r3, r4)) :
  Calls Try.prog 118 #[.agg #[.int .i64 a0_0, .int .i64 a0_1, .int .i64 a0_2]] w fun e w' => e = .returned (.tuple #[.agg #[.int .i64 r1, .int .i64 r2], .agg #[.int .i64 r3, .int .i64 r4]]) ∧ Below w.heap.size w w' := by
 have hu33 := Try.underlying33
 have hu47 := Try.underlying47
 have HB := aM (Below.refl w.heap.size w)
 have H : (some (a0_0, 0, a0_1, a0_2)) = some (r1, r2, r3, r4) := h
 clear h
 simp only [Option.some.injEq, Prod.mk.injEq] at H
 obtain ⟨rfl, rfl, rfl, rfl⟩ := H
 go_enter Try.func118, Try.ntmps118
 try go_wp2_with (first | ((with_reducible refine gD (N:=1) rfl ?_); refine bE 1 #[.int .i64 a0_0, .int .i64 a0_1, .int .i64 a0_2] 33 ?_; intro gb471 hg w2 hbox hb; have BK471 := aM hbox; have GW471 := bZ hg HB; have GE471 := bZ hg HB; replace HB := bS HB hb; clear hb hbox hg) | ((with_reducible refine gD (N:=2) rfl ?_); refine bE 2 #[.int .i64 0, .int .i64 0] 47 ?_; intro gb472 hg w3 hbox hb; have BK472 := aM hbox; have GW472 := bZ hg HB; have GE472 := bZ hg HB; have NB471_472 := nL hg BK471; have NB472_471 := nG hg BK471; replace BK471 := bB BK471 hb; replace HB := bS HB hb; clear hb hbox hg) | ((with_reducible refine gD (N:=3) rfl ?_); refine bE 3 #[.int .i64 0, .int .i64 0] 47 ?_; intro gb473 hg w4 hbox hb; have BK473 := aM hbox; have GW473 := bZ hg HB; have GE473 := bZ hg HB; have NB471_473 := nL hg BK471; have NB473_471 := nG hg BK471; have NB472_473 := nL hg BK472; have NB473_472 := nG hg BK472; replace BK471 := bB BK471 hb; replace BK472 := bB BK472 hb; replace HB := bS HB hb; clear hb hbox hg))
 replace BK471 := aM (blk_drew BK471.out)
 replace BK472 := aM (blk_drew BK472.out)
 replace BK473 := aM (blk_drew BK473.out)
 replace HB := aM (below_drew1 HB.out)
 refine sT (fun w' => w'.cell? ⟨gb471, 0, none⟩ = some (.int .i64 a0_0) ∧ w'.cell? ⟨gb471, 1, none⟩ = some (.int .i64 a0_1) ∧ w'.cell? ⟨gb471, 2, none⟩ = some (.int .i64 a0_2)) [] ⟨cB BK471, cB BK471, cB BK471⟩ (fun hHeld => ?_); refine with_tabW impl_Lattice_basis.tab1 impl_Lattice_basis.bits1 (fun HT_ HW_ => ?_)
 generalize w4.drew = w5 at BK471 BK472 BK473 HB hHeld ⊢
 refine pU 0 (some 4) 1 HT_ ?_
 refine pU 3 (some 7) 9 HT_ ?_
 refine pU 5 (some 9) 41 HT_ ?_
 refine tU 1 (some 5) 43 HT_ HW_ hHeld ?_
 refine pU 2 (some 6) 47 HT_ ?_
 refine tU 4 (some 8) 63 HT_ HW_ hHeld ?_
 refine tU 6 (some 10) 127 HT_ HW_ hHeld ?_
 refine pU 7 (some 11) 255 HT_ ?_
 refine oU 8 none 511 HT_ (fun K hK => ?_)
 have hs6 : w5.cell? ⟨gb472, 0, none⟩ = some (.int .i64 0) := cB BK472
 have hfs6 := blk_frozen BK472.out 0
 have hns6_0 := NB471_472.out
 have hns6_2 := NB473_472.out
 have hms6_0 := NB472_471.out
 have hms6_2 := NB472_473.out
 have hs7 : w5.cell? ⟨gb472, 1, none⟩ = some (.int .i64 0) := cB BK472
 have hfs7 := blk_frozen BK472.out 1
 have hns7_0 := NB471_472.out
 have hns7_2 := NB473_472.out
 have hms7_0 := NB472_471.out
 have hms7_2 := NB472_473.out
 refine skip_ (w1 := ?_) (by rfl) rfl ?_ ?_
 rotate_left
 ·go_simp
  rfl
 refine hK.out _ _ ⟨((cell_far (p := ⟨gb472, _, none⟩) NB471_472.out _).trans (((cell_far (p := ⟨gb472, _, none⟩) NB471_472.out _).trans (hHeld.1)))), ((cell_far (p := ⟨gb472, _, none⟩) NB471_472.out _).trans (((cell_far (p := ⟨gb472, _, none⟩) NB471_472.out _).trans (hHeld.2.1)))), ((cell_far (p := ⟨gb472, _, none⟩) NB471_472.out _).trans (((cell_far (p := ⟨gb472, _, none⟩) NB471_472.out _).trans (hHeld.2.2))))⟩ (fun hHeld => ?_)
 clear hK K
 refine oU 9 none 1023 HT_ (fun K hK => ?_)
 have hs8 : w5.cell? ⟨gb473, 0, none⟩ = some (.int .i64 0) := cB BK473
 have hfs8 := blk_frozen BK473.out 0
 have hns8_0 := NB471_473.out
 have hns8_1 := NB472_473.out
 have hms8_0 := NB473_471.out
 have hms8_1 := NB473_472.out
 have hs9 : w5.cell? ⟨gb473, 1, none⟩ = some (.int .i64 0) := cB BK473
 have hfs9 := blk_frozen BK473.out 1
 have hns9_0 := NB471_473.out
 have hns9_1 := NB472_473.out
 have hms9_0 := NB473_471.out
 have hms9_1 := NB473_472.out
 refine skip_ (w1 := ?_) (by rfl) rfl ?_ ?_
 rotate_left
 ·go_simp
  rfl
 refine hK.out _ _ ⟨((cell_far (p := ⟨gb473, _, none⟩) NB471_473.out _).trans (((cell_far (p := ⟨gb473, _, none⟩) NB471_473.out _).trans (hHeld.1)))), ((cell_far (p := ⟨gb473, _, none⟩) NB471_473.out _).trans (((cell_far (p := ⟨gb473, _, none⟩) NB471_473.out _).trans (hHeld.2.1)))), ((cell_far (p := ⟨gb473, _, none⟩) NB471_473.out _).trans (((cell_far (p := ⟨gb473, _, none⟩) NB471_473.out _).trans (hHeld.2.2))))⟩ (fun hHeld => ?_)
 clear hK K
 refine dN HT_ ?_
 try go_wp2
 refine bodyPost_ret (results_cc rfl _ _ gb472 gb473 47 47 #[.int .i64 a0_0, .int .i64 0] #[.int .i64 a0_1, .int .i64 a0_2] (0, 0) (0, 0) _ _ rfl (by (repeat (first|(with_reducible first|apply kN|apply kD|apply kA)|refine blk_far ?_ NB472_473.out _)); refine blk_put (cs := #[.int .i64 a0_0, .int .i64 0]) ?_ 1 _ rfl; (with_reducible repeat (first|apply kN|apply kD|apply kA)); refine blk_put (cs := #[.int .i64 0, .int .i64 0]) ?_ 0 _ rfl; (with_reducible repeat (first|apply kN|apply kD|apply kA)); exact BK472.out) Try.underlying47 rfl (by kernel_rfl) rfl (by (with_reducible repeat (first|apply kN|apply kD|apply kA)); refine blk_put (cs := #[.int .i64 a0_1, .int .i64 0]) ?_ 1 _ rfl; (with_reducible repeat (first|apply kN|apply kD|apply kA)); refine blk_put (cs := #[.int .i64 0, .int .i64 0]) ?_ 0 _ rfl; (repeat (first|(with_reducible first|apply kN|apply kD|apply kA)|refine blk_far ?_ NB473_472.out _)); exact BK473.out) Try.underlying47 rfl (by kernel_rfl)) rfl ?_
 exact ⟨qR, qB⟩

def impl_Vec_add.f (a0_0 : Int) (a0_1 : Int) (a1_0 : Int) (a1_1 : Int) : Option (Int × Int) := some (wrap64 (a0_0 + a1_0), wrap64 (a0_1 + a1_1))
set_option maxHeartbeats 8000000 in
set_option maxRecDepth 100000 in
theorem impl_Vec_add.calls (a0_0 : Int) (a0_1 : Int) (a1_0 : Int) (a1_1 : Int) (r1 : Int) (r2 : Int) (w : World) (h : impl_Vec_add.f a0_0 a0_1 a1_0 a1_1 = some (r1, r2)) :
  Calls Try.prog 140 #[.agg #[.int .i64 a0_0, .int .i64 a0_1], .agg #[.int .i64 a1_0, .int .i64 a1_1]] w fun e w' => e = .returned (.agg #[.int .i64 r1, .int .i64 r2]) ∧ Below w.heap.size w w' := by
 have hu47 := Try.underlying47
 have HB := aM (Below.refl w.heap.size w)
 have H : (some (wrap64 (a0_0 + a1_0), wrap64 (a0_1 + a1_1))) = some (r1, r2) := h
 clear h
 simp only [Option.some.injEq, Prod.mk.injEq] at H
 obtain ⟨rfl, rfl⟩ := H
 go_enter Try.func140, Try.ntmps140
 go_wp2_with (first | ((with_reducible refine gD (N:=2) rfl ?_); refine bE 2 #[.int .i64 a0_0, .int .i64 a0_1] 47 ?_; intro gb474 hg w3 hbox hb; have BK474 := aM hbox; have GW474 := bZ hg HB; have GE474 := bZ hg HB; replace HB := bS HB hb; clear hb hbox hg) | ((with_reducible refine gD (N:=3) rfl ?_); refine bE 3 #[.int .i64 a1_0, .int .i64 a1_1] 47 ?_; intro gb475 hg w4 hbox hb; have BK475 := aM hbox; have GW475 := bZ hg HB; have GE475 := bZ hg HB; have NB474_475 := nL hg BK474; have NB475_474 := nG hg BK474; replace BK474 := bB BK474 hb; replace HB := bS HB hb; clear hb hbox hg) | ((with_reducible refine gD (N:=4) rfl ?_); refine bE 4 #[.int .i64 0, .int .i64 0] 47 ?_; intro gb476 hg w5 hbox hb; have BK476 := aM hbox; have GW476 := bZ hg HB; have GE476 := bZ hg HB; have NB474_476 := nL hg BK474; have NB476_474 := nG hg BK474; have NB475_476 := nL hg BK475; have NB476_475 := nG hg BK475; replace BK474 := bB BK474 hb; replace BK475 := bB BK475 hb; replace HB := bS HB hb; clear hb hbox hg; have hnb6 := NB474_475.out; have hnc6 := NB475_474.out; have hnb7 := NB474_476.out; have hnc7 := NB476_474.out; obtain ⟨hcz8_0, hcz8_1⟩ := z2 BK474; obtain ⟨hfz8_0, hfz8_1⟩ := y2 BK474; have hnb9 := NB475_476.out; have hnc9 := NB476_475.out; obtain ⟨hcz10_0, hcz10_1⟩ := z2 BK475; obtain ⟨hfz10_0, hfz10_1⟩ := y2 BK475; obtain ⟨hcz11_0, hcz11_1⟩ := z2 BK476; obtain ⟨hfz11_0, hfz11_1⟩ := y2 BK476))
 refine bodyPost_ret (results_cell_row rfl _ _ gb476 47 #[.int .i64 (wrap64 (a0_0 + a1_0)), .int .i64 (wrap64 (a0_1 + a1_1))] (0, 0) _ rfl (by (with_reducible repeat (first|apply kN|apply kD|apply kA)); refine blk_put (cs := #[.int .i64 (wrap64 (a0_0 + a1_0)), .int .i64 0]) ?_ 1 _ rfl; (with_reducible repeat (first|apply kN|apply kD|apply kA)); refine blk_put (cs := #[.int .i64 0, .int .i64 0]) ?_ 0 _ rfl; (with_reducible repeat (first|apply kN|apply kD|apply kA)); exact BK476.out) Try.underlying47 rfl (by kernel_rfl)) rfl ?_
 exact ⟨qR, qB⟩

def impl_Vec_times.f (a0_0 : Int) (a0_1 : Int) (a1 : Int) : Option (Int × Int) := some (wrap64 (a1 * a0_0), wrap64 (a1 * a0_1))
set_option maxHeartbeats 8000000 in
set_option maxRecDepth 100000 in
theorem impl_Vec_times.calls (a0_0 : Int) (a0_1 : Int) (a1 : Int) (r1 : Int) (r2 : Int) (w : World) (h : impl_Vec_times.f a0_0 a0_1 a1 = some (r1, r2)) :
  Calls Try.prog 144 #[.agg #[.int .i64 a0_0, .int .i64 a0_1], .int .i64 a1] w fun e w' => e = .returned (.agg #[.int .i64 r1, .int .i64 r2]) ∧ Below w.heap.size w w' := by
 have hu47 := Try.underlying47
 have HB := aM (Below.refl w.heap.size w)
 have H : (some (wrap64 (a1 * a0_0), wrap64 (a1 * a0_1))) = some (r1, r2) := h
 clear h
 simp only [Option.some.injEq, Prod.mk.injEq] at H
 obtain ⟨rfl, rfl⟩ := H
 go_enter Try.func144, Try.ntmps144
 go_wp2_with (first | ((with_reducible refine gD (N:=2) rfl ?_); refine bE 2 #[.int .i64 a0_0, .int .i64 a0_1] 47 ?_; intro gb477 hg w3 hbox hb; have BK477 := aM hbox; have GW477 := bZ hg HB; have GE477 := bZ hg HB; replace HB := bS HB hb; clear hb hbox hg) | ((with_reducible refine gD (N:=4) rfl ?_); refine bE 4 #[.int .i64 0, .int .i64 0] 47 ?_; intro gb478 hg w4 hbox hb; have BK478 := aM hbox; have GW478 := bZ hg HB; have GE478 := bZ hg HB; have NB477_478 := nL hg BK477; have NB478_477 := nG hg BK477; replace BK477 := bB BK477 hb; replace HB := bS HB hb; clear hb hbox hg; have hnb5 := NB477_478.out; have hnc5 := NB478_477.out; obtain ⟨hcz6_0, hcz6_1⟩ := z2 BK477; obtain ⟨hfz6_0, hfz6_1⟩ := y2 BK477; obtain ⟨hcz7_0, hcz7_1⟩ := z2 BK478; obtain ⟨hfz7_0, hfz7_1⟩ := y2 BK478))
 refine bodyPost_ret (results_cell_row rfl _ _ gb478 47 #[.int .i64 (wrap64 (a1 * a0_0)), .int .i64 (wrap64 (a1 * a0_1))] (0, 0) _ rfl (by (with_reducible repeat (first|apply kN|apply kD|apply kA)); refine blk_put (cs := #[.int .i64 (wrap64 (a1 * a0_0)), .int .i64 0]) ?_ 1 _ rfl; (with_reducible repeat (first|apply kN|apply kD|apply kA)); refine blk_put (cs := #[.int .i64 0, .int .i64 0]) ?_ 0 _ rfl; (with_reducible repeat (first|apply kN|apply kD|apply kA)); exact BK478.out) Try.underlying47 rfl (by kernel_rfl)) rfl ?_
 exact ⟨qR, qB⟩

def impl_gcd.l0 : Nat → Int → Int → Option (Int)
 | 0, _, _ => none
 | k + 1, x0, x1 => if x1 = 0 then (some (mx x0 (wrap64 (-x0)))) else (impl_gcd.l0 k x1 (Int.tmod x0 x1))
def impl_gcd.f (k : Nat) (a0 : Int) (a1 : Int) : Option (Int) := impl_gcd.l0 k a0 a1
set_option maxHeartbeats 8000000 in
set_option maxRecDepth 100000 in
theorem impl_gcd.calls (k : Nat) (a0 : Int) (a1 : Int) (r : Int) (w : World) (h : impl_gcd.f k a0 a1 = some r) :
  Calls Try.prog 147 #[.int .i64 a0, .int .i64 a1] w fun e w' => e = .returned (.int .i64 r) ∧ Below w.heap.size w w' := by
 have HB := aM (Below.refl w.heap.size w)
 have H : (impl_gcd.l0 k a0 a1) = some r := h
 clear h
 have H' := aM H
 clear H
 go_enter Try.func147, Try.ntmps147
 go_wp2
 repeat (go_quiet (fail); try go_wp2)
 go_loopg [0, 1] k (fun kq v0 v1 w' => ∃ (x0_1 : Int) (x1_1 : Int), v0 = .int .i64 x0_1 ∧ v1 = .int .i64 x1_1 ∧ Aside0 (impl_gcd.l0 kq x0_1 x1_1 = some r) ∧ Aside0 (kq ≤ k) ∧ Aside0 (Below w.heap.size w w'))
 case atStart => exact ⟨(a0), (a1), (by first | rfl | (simp; done) | (simp [*]; done)), (by first | rfl | (simp; done) | (simp [*]; done)), H', ⟨Nat.le_refl _⟩, ⟨qB⟩⟩
 case round =>
  clear H'
  try clear c1
  try clear p2
  obtain ⟨x0_1, x1_1, rfl, rfl, HA, HK1, HB⟩ := hrel
  cases gk with
  | zero => exact absurd HA.out (by simp [impl_gcd.l0])
  | succ k1 =>
   have H := HA.out
   clear HA
   simp only [impl_gcd.l0] at H
   by_cases c3 : x1_1 = 0
   ·rw [if_pos c3] at H
    have c3b0 : (x1_1 == 0) = true := beq_iff_eq.mpr c3
    have c3b1 : (x1_1 != 0) = false := bne_eq_false_iff_eq.mpr c3
    clear c3
    obtain ⟨ji4, hji4⟩ : ∃ j_ : Int, (mx x0_1 (wrap64 (-x0_1))) = j_ := ⟨_, rfl⟩
    replace H : (some ji4) = some r := by first | (rw [hji4] at H; exact H) | (simp only [hji4] at H ⊢; exact H)
    have hji4_ : (if x0_1 < (wrap64 (-x0_1)) then (wrap64 (-x0_1)) else x0_1) = ji4 := hji4
    obtain rfl := Option.some.inj H
    go_wp2
    repeat (go_quiet (fail); try go_wp2)
    go_ret
    exact ⟨by first | rfl | (simp [errW_none, errW_some] <;> rfl) | (simp only [← hji4]; first | rfl | (simp [errW_none, errW_some] <;> rfl)) | (simp [*, errW_none, errW_some] <;> rfl), qB⟩
   ·rw [if_neg c3] at H
    have c3b0 : (x1_1 == 0) = false := beq_eq_false_iff_ne.mpr c3
    have c3b1 : (x1_1 != 0) = true := bne_iff_ne.mpr c3
    have H' := aM H
    clear H
    go_wp2
    repeat (go_quiet (fail); try go_wp2)
    go_roundg k1
    case measure => have := HK1.out; omega
    case rel => exact ⟨(x1_1), (Int.tmod x0_1 x1_1), (by first | rfl | (simp; done) | (simp [*]; done)), (by first | rfl | (simp; done) | (simp [*]; done)), H', ⟨by have := HK1.out; omega⟩, ⟨qB⟩⟩

def impl_mod.f (a0 : Int) (a1 : Int) : Option (Int) := if a1 = 0 then (none) else (some (Int.tmod (wrap64 ((Int.tmod a0 a1) + a1)) a1))
set_option maxHeartbeats 8000000 in
set_option maxRecDepth 100000 in
theorem impl_mod.calls (a0 : Int) (a1 : Int) (r : Int) (w : World) (h : impl_mod.f a0 a1 = some r) :
  Calls Try.prog 148 #[.int .i64 a0, .int .i64 a1] w fun e w' => e = .returned (.int .i64 r) ∧ Drawn0 w w' := by
 have H : (if a1 = 0 then (none) else (some (Int.tmod (wrap64 ((Int.tmod a0 a1) + a1)) a1))) = some r := h
 clear h
 by_cases c3 : a1 = 0
 ·rw [if_pos c3] at H
  exact absurd H (by simp)
 ·rw [if_neg c3] at H
  have c3b0 : (a1 == 0) = false := beq_eq_false_iff_ne.mpr c3
  have c3b1 : (a1 != 0) = true := bne_iff_ne.mpr c3
  obtain rfl := Option.some.inj H
  go_enter Try.func148, Try.ntmps148
  go_wp2
  go_ret
  exact ⟨by first | rfl | (simp; done) | (simp [*]; done), by repeat (first | exact Drawn0.refl _ | apply Drawn0.step)⟩

mutual
def impl_latticeOf.l0 : Nat → Int → List (S47) → Int → Int → Int → Int → Option (Int × Int × Int)
 | 0, _, _, _, _, _, _ => none
 | k + 1, x3, x9, x10, x11, x481000, x481001 => if x11 < x10 then (if 0 ≤ x11 then (if x11 < (x9.length : Int) then (impl_latticeOf.l1 k x3 x9 x10 x11 x481000 x481001 ((rd_T47 x9 x11).f0) ((rd_T47 x9 x11).f1)) else (none)) else (none)) else (if x481001 < 0 then ((impl_Vec_times.f x481000 x481001 (-1)).bind fun bt488 => ((impl_mod.f bt488.1 x3).bind fun t490 => (some (x3, t490, bt488.2)))) else ((impl_mod.f x481000 x3).bind fun t491 => (some (x3, t491, x481001))))
def impl_latticeOf.l1 : Nat → Int → List (S47) → Int → Int → Int → Int → Int → Int → Option (Int × Int × Int)
 | 0, _, _, _, _, _, _, _, _ => none
 | k + 1, x3, x9, x10, x11, x481000, x481001, x483000, x483001 => if x483001 = 0 then ((impl_gcd.f k x3 x483000).bind fun t483 => (impl_latticeOf.l0 k t483 x9 x10 (wrap64 (x11 + 1)) x481000 x481001)) else ((impl_Vec_times.f x483000 x483001 (wrap64 (-(wrap64 (Int.tdiv x481001 x483001))))).bind fun bt484 => ((impl_Vec_add.f x481000 x481001 bt484.1 bt484.2).bind fun bt486 => (impl_latticeOf.l1 k x3 x9 x10 x11 x483000 x483001 bt486.1 bt486.2)))
end
def impl_latticeOf.f (k : Nat) (l0 : List (S47)) : Option (Int × Int × Int) := impl_latticeOf.l0 k 0 l0 (l0.length : Int) 0 0 0
def impl_latticeOf.T7 : Bool × List (List Nat × List Nat) := (true, [([], []), ([], []), ([], []), ([], []), ([3], [3]), ([2, 4], [2, 4]), ([1, 5, 5], [1, 5]), ([0, 6, 0, 1], [0]), ([6, 7, 0, 1, 2, 3, 4, 5, 6, 7], [6])])
def impl_latticeOf.B7 : List Nat := [0, 0, 0, 0, 8, 28, 62, 127, 255]
theorem impl_latticeOf.tab7 : rtab .any (opsOf Try.f119 7) = impl_latticeOf.T7 := by kernel_rfl
theorem impl_latticeOf.bits7 : waitsOk impl_latticeOf.T7.2 impl_latticeOf.B7 = true := by kernel_rfl
def impl_latticeOf.T12 : Bool × List (List Nat × List Nat) := (true, [([], []), ([], []), ([1], [1]), ([], []), ([2, 3], [2, 3]), ([], []), ([5], [5]), ([0, 4, 6], [0, 4, 6]), ([7, 4, 0, 1, 2, 3, 4, 5, 6, 7], [7])])
def impl_latticeOf.B12 : List Nat := [0, 0, 2, 0, 14, 0, 32, 127, 255]
theorem impl_latticeOf.tab12 : rtab .any (opsOf Try.f119 12) = impl_latticeOf.T12 := by kernel_rfl
theorem impl_latticeOf.bits12 : waitsOk impl_latticeOf.T12.2 impl_latticeOf.B12 = true := by kernel_rfl
set_option maxHeartbeats 8000000 in
set_option maxRecDepth 100000 in
theorem impl_latticeOf.calls (k : Nat) (A0 : Option Addr) (c0 : Nat) (l0 : List (S47)) (r1 : Int) (r2 : Int) (r3 : Int) (w : World) (hr0 : Kd.C k47 w A0 l0.length l0) (hc0 : l0.length ≤ c0) (h : impl_latticeOf.f k l0 = some (r1, r2, r3)) :
  Calls Try.prog 119 #[.slice A0 l0.length c0] w fun e w' => e = .returned (.agg #[.int .i64 r1, .int .i64 r2, .int .i64 r3]) ∧ Below w.heap.size w w' := by
 have hu33 := Try.underlying33
 have hu47 := Try.underlying47
 have HR0 := aM hr0
 have HC0 := aM hc0
 clear hr0 hc0
 have HB := aM (Below.refl w.heap.size w)
 have H : (impl_latticeOf.l0 k 0 l0 (l0.length : Int) 0 0 0) = some (r1, r2, r3) := h
 clear h
 have H' := aM H
 clear H
 go_enter Try.func119, Try.ntmps119
 go_wp2_with (first | ((with_reducible refine gD (N:=2) rfl ?_); refine bE 2 #[.int .i64 0, .int .i64 0, .int .i64 0] 33 ?_; intro gb479 hg w2 hbox hb; have BK479 := aM hbox; have GW479 := bZ hg HB; have GE479 := bZ hg HB; replace HB := bS HB hb; clear hb hbox hg) | ((with_reducible refine gD (N:=4) rfl ?_); refine bE 4 #[.int .i64 0, .int .i64 0] 47 ?_; intro gb480 hg w3 hbox hb; have BK480 := aM hbox; have GW480 := bZ hg HB; have GE480 := bZ hg HB; have NB479_480 := nL hg BK479; have NB480_479 := nG hg BK479; replace BK479 := bB BK479 hb; replace HB := bS HB hb; clear hb hbox hg; have hnb4 := NB480_479.out; have hnc4 := NB479_480.out; obtain ⟨hcz5_0, hcz5_1⟩ := z2 BK480; obtain ⟨hfz5_0, hfz5_1⟩ := y2 BK480))
 go_loopg [3, 11] k (fun kq v3 v11 w' => ∃ (x3_1 : Int) (x11_1 : Int) (x481000_1 : Int) (x481001_1 : Int), v3 = .int .i64 x3_1 ∧ v11 = .int .i64 x11_1 ∧ Aside0 (impl_latticeOf.l0 kq x3_1 l0 (l0.length : Int) x11_1 x481000_1 x481001_1 = some (r1, r2, r3)) ∧ Aside0 (kq ≤ k) ∧ Aside0 (w'.heap[gb479]? = some (.cells #[.int .i64 0, .int .i64 0, .int .i64 0] 33 (0, 0))) ∧ Aside0 (w'.heap[gb480]? = some (.cells #[.int .i64 x481000_1, .int .i64 x481001_1] 47 (0, 0))) ∧ Aside0 (Below w.heap.size w w'))
 case atStart => exact ⟨(0), (0), (0), (0), (by first | rfl | (simp; done) | (simp [*]; done)), (by first | rfl | (simp; done) | (simp [*]; done)), H', ⟨Nat.le_refl _⟩, ⟨by (repeat (first|(with_reducible first|apply kN|apply kD|apply kA)|refine blk_far ?_ NB479_480.out _)); exact BK479.out⟩, ⟨by (with_reducible repeat (first|apply kN|apply kD|apply kA)); refine blk_put (cs := #[.int .i64 0, .int .i64 0]) ?_ 1 _ rfl; (with_reducible repeat (first|apply kN|apply kD|apply kA)); refine blk_put (cs := #[.int .i64 0, .int .i64 0]) ?_ 0 _ rfl; (with_reducible repeat (first|apply kN|apply kD|apply kA)); exact BK480.out⟩, ⟨qB⟩⟩
 case round =>
  clear H'
  try clear c1
  try clear p2
  try clear c4
  try clear hcz5_0
  try clear hcz5_1
  try clear hfz5_0
  try clear hfz5_1
  obtain ⟨x3_1, x11_1, x481000_1, x481001_1, rfl, rfl, HA, HK1, BK479, BK480, HB⟩ := hrel
  cases gk with
  | zero => exact absurd HA.out (by simp [impl_latticeOf.l0])
  | succ k1 =>
   have H := HA.out
   clear HA
   simp only [impl_latticeOf.l0] at H
   by_cases c6 : x11_1 < (l0.length : Int)
   ·rw [if_pos c6] at H
    have c6b0 : decide (x11_1 < (l0.length : Int)) = true := decide_eq_true c6
    clear c6
    by_cases c7 : 0 ≤ x11_1
    ·rw [if_pos c7] at H
     have c7b0 : decide (0 ≤ x11_1) = true := decide_eq_true c7
     clear c7
     by_cases c8 : x11_1 < (l0.length : Int)
     ·rw [if_pos c8] at H
      have c8b0 : decide (x11_1 < (l0.length : Int)) = true := decide_eq_true c8
      clear c8
      have H' := aM H
      clear H
      have p481 : 0 ≤ (x11_1 : Int) := of_decide_eq_true (by first | (with_reducible assumption) | assumption)
      have q481 : x11_1 < (l0.length : Int) := of_decide_eq_true (by first | (with_reducible assumption) | assumption)
      obtain ⟨ad481, e481, hx481_0, hx481_1⟩ := at_T47 HR0.out x11_1 p481 q481
      cases e481
      replace hx481_0 := (HB.out.cell (World.block_lt_of_cell? w _ hx481_0)).trans hx481_0
      replace hx481_1 := (HB.out.cell (World.block_lt_of_cell? w _ hx481_1)).trans hx481_1
      replace p481 := eq_true p481
      replace q481 := eq_true q481
      go_wp2_with (first | ((with_reducible refine gD (N:=6) rfl ?_); refine bE 6 #[.int .i64 0, .int .i64 0] 47 ?_; intro gb482 hg w9 hbox hb; have BK482 := aM hbox; have GW482 := bZ hg HB; have GE482 := bZ hg HB; have NB479_482 := nL hg BK479; have NB482_479 := nG hg BK479; have NB480_482 := nL hg BK480; have NB482_480 := nG hg BK480; replace BK479 := bB BK479 hb; replace BK480 := bB BK480 hb; replace HB := bS HB hb; clear hb hbox hg; have hnb10 := NB482_479.out; have hnc10 := NB479_482.out; have hnb11 := NB482_480.out; have hnc11 := NB480_482.out; obtain ⟨hcz12_0, hcz12_1⟩ := z2 BK482; obtain ⟨hfz12_0, hfz12_1⟩ := y2 BK482))
      go_loopg [] k1 (fun kq w' => ∃ (x481000_2 : Int) (x481001_2 : Int) (x483000_2 : Int) (x483001_2 : Int), Aside0 (impl_latticeOf.l1 kq x3_1 l0 (l0.length : Int) x11_1 x481000_2 x481001_2 x483000_2 x483001_2 = some (r1, r2, r3)) ∧ Aside0 (kq ≤ k1) ∧ Aside0 (w'.heap[gb479]? = some (.cells #[.int .i64 0, .int .i64 0, .int .i64 0] 33 (0, 0))) ∧ Aside0 (w'.heap[gb480]? = some (.cells #[.int .i64 x481000_2, .int .i64 x481001_2] 47 (0, 0))) ∧ Aside0 (w'.heap[gb482]? = some (.cells #[.int .i64 x483000_2, .int .i64 x483001_2] 47 (0, 0))) ∧ Aside0 (Below w.heap.size w w'))
      case atStart => exact ⟨(x481000_1), (x481001_1), ((rd_T47 l0 x11_1).f0), ((rd_T47 l0 x11_1).f1), H', ⟨Nat.le_refl _⟩, ⟨by (repeat (first|(with_reducible first|apply kN|apply kD|apply kA)|refine blk_far ?_ NB479_482.out _)); exact BK479.out⟩, ⟨by (repeat (first|(with_reducible first|apply kN|apply kD|apply kA)|refine blk_far ?_ NB480_482.out _)); exact BK480.out⟩, ⟨by (with_reducible repeat (first|apply kN|apply kD|apply kA)); refine blk_put (cs := #[.int .i64 ((rd_T47 l0 x11_1).f0), .int .i64 0]) ?_ 1 _ rfl; (with_reducible repeat (first|apply kN|apply kD|apply kA)); refine blk_put (cs := #[.int .i64 0, .int .i64 0]) ?_ 0 _ rfl; (with_reducible repeat (first|apply kN|apply kD|apply kA)); exact BK482.out⟩, ⟨qB⟩⟩
      case round =>
       clear H'
       try clear c1
       try clear p2
       try clear c4
       try clear p4
       try clear q4
       try clear hx4
       try clear c6
       try clear c6b0
       try clear c7
       try clear c7b0
       try clear c8
       try clear c8b0
       try clear c10
       try clear c11
       try clear hcz12_0
       try clear hcz12_1
       try clear hcz5_0
       try clear hcz5_1
       try clear hfz12_0
       try clear hfz12_1
       try clear hfz5_0
       try clear hfz5_1
       try clear hx481_0
       try clear hx481_1
       try clear p2
       try clear p481
       try clear q481
       obtain ⟨x481000_2, x481001_2, x483000_2, x483001_2, HA, HK2, BK479, BK480, BK482, HB⟩ := hrel
       cases gk with
       | zero => exact absurd HA.out (by simp [impl_latticeOf.l1])
       | succ k2 =>
        have H := HA.out
        clear HA
        simp only [impl_latticeOf.l1] at H
        by_cases c13 : x483001_2 = 0
        ·rw [if_pos c13] at H
         have c13b0 : (x483001_2 == 0) = true := beq_iff_eq.mpr c13
         have c13b1 : (x483001_2 != 0) = false := bne_eq_false_iff_eq.mpr c13
         clear c13
         obtain ⟨t483, A14, H⟩ := oB H
         try dsimp only at H
         have H' := aM H
         clear H
         have hnb15 := NB482_479.out
         have hnc15 := NB479_482.out
         have hnb16 := NB482_480.out
         have hnc16 := NB480_482.out
         obtain ⟨hcz17_0, hcz17_1⟩ := z2 BK482
         obtain ⟨hfz17_0, hfz17_1⟩ := y2 BK482
         go_wp2_with (first | ((with_reducible refine gC (f:=147) rfl ?_); refine gM 33 (impl_gcd.calls k2 x3_1 x483000_2 t483 _ A14.out) Try.func147 ?_; rintro w18 hb; replace BK479 := bB BK479 hb; replace BK480 := bB BK480 hb; replace BK482 := bB BK482 hb; replace HB := bS HB hb; (try clear hb)))
         go_roundg k2
         case measure => have := HK1.out; have := HK2.out; omega
         case rel => exact ⟨(t483), (wrap64 (x11_1 + 1)), (x481000_2), (x481001_2), (by first | rfl | (simp; done) | (simp [*]; done)), (by first | rfl | (simp; done) | (simp [*]; done)), H', ⟨by have := HK1.out; have := HK2.out; omega⟩, ⟨bk BK479⟩, ⟨bk BK480⟩, ⟨qB⟩⟩
        ·rw [if_neg c13] at H
         have c13b0 : (x483001_2 == 0) = false := beq_eq_false_iff_ne.mpr c13
         have c13b1 : (x483001_2 != 0) = true := bne_iff_ne.mpr c13
         obtain ⟨⟨t484, t485⟩, A19, H⟩ := oB H
         try dsimp only at H
         obtain ⟨⟨t486, t487⟩, A20, H⟩ := oB H
         try dsimp only at H
         have H' := aM H
         clear H
         have hnb21 := NB482_479.out
         have hnc21 := NB479_482.out
         have hnb22 := NB482_480.out
         have hnc22 := NB480_482.out
         obtain ⟨hcz23_0, hcz23_1⟩ := z2 BK482
         obtain ⟨hfz23_0, hfz23_1⟩ := y2 BK482
         have hnb24 := NB480_479.out
         have hnc24 := NB479_480.out
         obtain ⟨hcz25_0, hcz25_1⟩ := z2 BK480
         obtain ⟨hfz25_0, hfz25_1⟩ := y2 BK480
         try go_wp2
         replace BK479 := aM (blk_drew BK479.out)
         replace BK480 := aM (blk_drew BK480.out)
         replace BK482 := aM (blk_drew BK482.out)
         replace HB := aM (below_drew1 HB.out)
         refine sT (fun w' => w'.cell? ⟨gb482, 0, none⟩ = some (.int .i64 x483000_2) ∧ w'.cell? ⟨gb482, 1, none⟩ = some (.int .i64 x483001_2) ∧ w'.cell? ⟨gb480, 0, none⟩ = some (.int .i64 x481000_2) ∧ w'.cell? ⟨gb480, 1, none⟩ = some (.int .i64 x481001_2)) [7, 8] ⟨cB BK482, cB BK482, cB BK480, cB BK480⟩ (fun hHeld => ?_); refine with_tabW impl_latticeOf.tab7 impl_latticeOf.bits7 (fun HT_ HW_ => ?_)
         generalize wr.drew = w26 at BK479 BK480 BK482 HB hHeld ⊢
         refine pU 3 (some 26) 8 HT_ ?_
         refine pU 4 (some 27) 24 HT_ ?_
         refine tU 0 (some 23) 25 HT_ HW_ hHeld ?_
         refine tU 1 (some 24) 27 HT_ HW_ hHeld ?_
         refine tU 2 (some 25) 31 HT_ HW_ hHeld ?_
         refine oU 5 (some 28) 63 HT_ (fun K hK => ?_)
         refine gO Try.func144 #[.agg #[.int .i64 x483000_2, .int .i64 x483001_2], .int .i64 (wrap64 (-(wrap64 (Int.tdiv x481001_2 x483001_2))))] ?_
         with_reducible refine (impl_Vec_times.calls x483000_2 x483001_2 (wrap64 (-(wrap64 (Int.tdiv x481001_2 x483001_2)))) t484 t485 _ A19.out).mono ?_
         rintro e w27 ⟨rfl, hb⟩
         refine ⟨_, rfl, ?_⟩
         replace BK479 := bB BK479 hb
         replace BK480 := bB BK480 hb
         replace BK482 := bB BK482 hb
         replace HB := bS HB hb
         (try clear hb)
         (try clear hb2)
         (try clear hk)
         (try clear hi)
         refine hK.out _ _ ⟨cB BK482, cB BK482, cB BK480, cB BK480⟩ (fun hHeld => ?_)
         clear hK K
         refine nM 28 ?_
         refine oU 6 (some 29) 127 HT_ (fun K hK => ?_)
         refine gO Try.func140 #[.agg #[.int .i64 x481000_2, .int .i64 x481001_2], .agg #[.int .i64 t484, .int .i64 t485]] ?_
         with_reducible refine (impl_Vec_add.calls x481000_2 x481001_2 t484 t485 t486 t487 _ A20.out).mono ?_
         rintro e w28 ⟨rfl, hb⟩
         refine ⟨_, rfl, ?_⟩
         replace BK479 := bB BK479 hb
         replace BK480 := bB BK480 hb
         replace BK482 := bB BK482 hb
         replace HB := bS HB hb
         (try clear hb)
         (try clear hb2)
         (try clear hk)
         (try clear hi)
         refine hK.out _ _ ⟨cB BK482, cB BK482, cB BK480, cB BK480⟩ (fun hHeld => ?_)
         clear hK K
         refine nM 29 ?_
         refine last_ (i := 7) (N := none) (bz 9 255) rfl rfl (one_of HT_.out (by kernel_rfl)) (by decide) (fun K hK => ?_)
         have hs29 : w28.cell? ⟨gb480, 0, none⟩ = some (.int .i64 x481000_2) := cB BK480
         have hfs29 := blk_frozen BK480.out 0
         have hns29_0 := NB479_480.out
         have hns29_2 := NB482_480.out
         have hms29_0 := NB480_479.out
         have hms29_2 := NB480_482.out
         have hs30 : w28.cell? ⟨gb480, 1, none⟩ = some (.int .i64 x481001_2) := cB BK480
         have hfs30 := blk_frozen BK480.out 1
         have hns30_0 := NB479_480.out
         have hns30_2 := NB482_480.out
         have hms30_0 := NB480_479.out
         have hms30_2 := NB480_482.out
         refine skip_ (w1 := ?_) (by rfl) rfl ?_ ?_
         rotate_left
         ·go_simp
          rfl
         refine hK.out _ _ ?_
         clear hK K
         refine last_ (i := 8) (N := none) (bz 9 511) rfl rfl (one_of HT_.out (by kernel_rfl)) (by decide) (fun K hK => ?_)
         have hs31 : w28.cell? ⟨gb482, 0, none⟩ = some (.int .i64 x483000_2) := cB BK482
         have hfs31 := blk_frozen BK482.out 0
         have hns31_0 := NB479_482.out
         have hns31_1 := NB480_482.out
         have hms31_0 := NB482_479.out
         have hms31_1 := NB482_480.out
         have hs32 : w28.cell? ⟨gb482, 1, none⟩ = some (.int .i64 x483001_2) := cB BK482
         have hfs32 := blk_frozen BK482.out 1
         have hns32_0 := NB479_482.out
         have hns32_1 := NB480_482.out
         have hms32_0 := NB482_479.out
         have hms32_1 := NB482_480.out
         refine skip_ (w1 := ?_) (by rfl) rfl ?_ ?_
         rotate_left
         ·go_simp
          rfl
         refine hK.out _ _ ?_
         clear hK K
         refine dN HT_ ?_
         try go_wp2
         go_roundg k2
         case measure => have := HK1.out; have := HK2.out; omega
         case rel => exact ⟨(x483000_2), (x483001_2), (t486), (t487), H', ⟨by have := HK1.out; have := HK2.out; omega⟩, ⟨by (repeat (first|(with_reducible first|apply kN|apply kD|apply kA)|refine blk_far ?_ NB479_482.out _|refine blk_far ?_ NB479_480.out _)); exact BK479.out⟩, ⟨by (repeat (first|(with_reducible first|apply kN|apply kD|apply kA)|refine blk_far ?_ NB480_482.out _)); refine blk_put (cs := #[.int .i64 x483000_2, .int .i64 x481001_2]) ?_ 1 _ rfl; (with_reducible repeat (first|apply kN|apply kD|apply kA)); refine blk_put (cs := #[.int .i64 x481000_2, .int .i64 x481001_2]) ?_ 0 _ rfl; (with_reducible repeat (first|apply kN|apply kD|apply kA)); exact BK480.out⟩, ⟨by (with_reducible repeat (first|apply kN|apply kD|apply kA)); refine blk_put (cs := #[.int .i64 t486, .int .i64 x483001_2]) ?_ 1 _ rfl; (with_reducible repeat (first|apply kN|apply kD|apply kA)); refine blk_put (cs := #[.int .i64 x483000_2, .int .i64 x483001_2]) ?_ 0 _ rfl; (repeat (first|(with_reducible first|apply kN|apply kD|apply kA)|refine blk_far ?_ NB482_480.out _)); exact BK482.out⟩, ⟨qB⟩⟩
     ·rw [if_neg c8] at H
      exact absurd H (by simp)
    ·rw [if_neg c7] at H
     exact absurd H (by simp)
   ·rw [if_neg c6] at H
    have c6b0 : decide (x11_1 < (l0.length : Int)) = false := decide_eq_false c6
    clear c6
    by_cases c33 : x481001_1 < 0
    ·rw [if_pos c33] at H
     have c33b0 : decide (x481001_1 < 0) = true := decide_eq_true c33
     clear c33
     obtain ⟨⟨t488, t489⟩, A34, H⟩ := oB H
     try dsimp only at H
     obtain ⟨t490, A35, H⟩ := oB H
     try dsimp only at H
     simp only [Option.some.injEq, Prod.mk.injEq] at H
     obtain ⟨rfl, rfl, rfl⟩ := H
     have hnb36 := NB480_479.out
     have hnc36 := NB479_480.out
     obtain ⟨hcz37_0, hcz37_1⟩ := z2 BK480
     obtain ⟨hfz37_0, hfz37_1⟩ := y2 BK480
     try go_wp2_with (first | ((with_reducible refine gC (f:=144) rfl ?_); refine gM 39 (impl_Vec_times.calls x481000_1 x481001_1 (-1) t488 t489 _ A34.out) Try.func144 ?_; rintro w38 hb; replace BK479 := bB BK479 hb; replace BK480 := bB BK480 hb; replace HB := bS HB hb; (try clear hb); obtain ⟨hcz39_0, hcz39_1⟩ := z2 BK480; obtain ⟨hfz39_0, hfz39_1⟩ := y2 BK480))
     have n0_ : Aside0 (((w38.setCell ⟨gb480, 0, none⟩ (.int .i64 t488)).setCell ⟨gb480, 1, none⟩ (.int .i64 t489)).heap[gb479]? = some (.cells #[.int .i64 0, .int .i64 0, .int .i64 0] 33 (0, 0))) := ⟨by (repeat (first|(with_reducible first|apply kN|apply kD|apply kA)|refine blk_far ?_ NB479_480.out _)); exact BK479.out⟩
     have n1_ : Aside0 (((w38.setCell ⟨gb480, 0, none⟩ (.int .i64 t488)).setCell ⟨gb480, 1, none⟩ (.int .i64 t489)).heap[gb480]? = some (.cells #[.int .i64 t488, .int .i64 t489] 47 (0, 0))) := ⟨by (with_reducible repeat (first|apply kN|apply kD|apply kA)); refine blk_put (cs := #[.int .i64 t488, .int .i64 x481001_1]) ?_ 1 _ rfl; (with_reducible repeat (first|apply kN|apply kD|apply kA)); refine blk_put (cs := #[.int .i64 x481000_1, .int .i64 x481001_1]) ?_ 0 _ rfl; (with_reducible repeat (first|apply kN|apply kD|apply kA)); exact BK480.out⟩
     have n2_ : Aside0 (Below w.heap.size w ((w38.setCell ⟨gb480, 0, none⟩ (.int .i64 t488)).setCell ⟨gb480, 1, none⟩ (.int .i64 t489))) := ⟨qB⟩
     (try clear BK479)
     (try clear BK480)
     (try clear HB)
     generalize ((w38.setCell ⟨gb480, 0, none⟩ (.int .i64 t488)).setCell ⟨gb480, 1, none⟩ (.int .i64 t489)) = w40 at n0_ n1_ n2_ ⊢
     have BK479 := n0_
     have BK480 := n1_
     have HB := n2_
     clear n0_ n1_ n2_
     replace BK479 := aM (blk_drew BK479.out)
     replace BK480 := aM (blk_drew BK480.out)
     replace HB := aM (below_drew1 HB.out)
     refine sT (fun w' => w'.cell? ⟨gb480, 0, none⟩ = some (.int .i64 t488) ∧ w'.cell? ⟨gb480, 1, none⟩ = some (.int .i64 t489)) [] ⟨cB BK480, cB BK480⟩ (fun hHeld => ?_); refine with_tabW impl_latticeOf.tab12 impl_latticeOf.bits12 (fun HT_ HW_ => ?_)
     generalize w40.drew = w41 at BK479 BK480 HB hHeld ⊢
     refine pU 0 (some 40) 1 HT_ ?_
     refine pU 1 (some 41) 3 HT_ ?_
     refine pU 3 (some 43) 11 HT_ ?_
     refine pU 5 (some 45) 43 HT_ ?_
     refine tU 2 (some 42) 47 HT_ HW_ hHeld ?_
     refine tU 6 (some 46) 111 HT_ HW_ hHeld ?_
     refine oU 4 (some 44) 127 HT_ (fun K hK => ?_)
     refine gO Try.func148 #[.int .i64 t488, .int .i64 x3_1] ?_
     with_reducible refine (impl_mod.calls t488 x3_1 t490 _ A35.out).mono ?_
     rintro e w' ⟨rfl, ⟨nd, rfl⟩⟩
     refine ⟨_, rfl, ?_⟩
     refine hK.out _ _ ⟨cB BK480, cB BK480⟩ (fun hHeld => ?_)
     clear hK K
     refine nM 44 ?_
     refine pU 7 (some 47) 255 HT_ ?_
     refine oU 8 none 511 HT_ (fun K hK => ?_)
     have hs42 : w41.cell? ⟨gb479, 0, none⟩ = some (.int .i64 0) := cB BK479
     have hfs42 := blk_frozen BK479.out 0
     have hns42_1 := NB480_479.out
     have hms42_1 := NB479_480.out
     have hs43 : w41.cell? ⟨gb479, 1, none⟩ = some (.int .i64 0) := cB BK479
     have hfs43 := blk_frozen BK479.out 1
     have hns43_1 := NB480_479.out
     have hms43_1 := NB479_480.out
     have hs44 : w41.cell? ⟨gb479, 2, none⟩ = some (.int .i64 0) := cB BK479
     have hfs44 := blk_frozen BK479.out 2
     have hns44_1 := NB480_479.out
     have hms44_1 := NB479_480.out
     refine skip_ (w1 := ?_) (by rfl) rfl ?_ ?_
     rotate_left
     ·go_simp
      rfl
     refine hK.out _ _ ⟨((cell_far (p := ⟨gb479, _, none⟩) NB480_479.out _).trans (((cell_far (p := ⟨gb479, _, none⟩) NB480_479.out _).trans (((cell_far (p := ⟨gb479, _, none⟩) NB480_479.out _).trans (hHeld.1)))))), ((cell_far (p := ⟨gb479, _, none⟩) NB480_479.out _).trans (((cell_far (p := ⟨gb479, _, none⟩) NB480_479.out _).trans (((cell_far (p := ⟨gb479, _, none⟩) NB480_479.out _).trans (hHeld.2))))))⟩ (fun hHeld => ?_)
     clear hK K
     refine dN HT_ ?_
     try go_wp2
     refine bodyPost_ret (results_cell_row rfl _ _ gb479 33 #[.int .i64 x3_1, .int .i64 t490, .int .i64 t489] (0, 0) _ rfl (by (with_reducible repeat (first|apply kN|apply kD|apply kA)); refine blk_put (cs := #[.int .i64 x3_1, .int .i64 t490, .int .i64 0]) ?_ 2 _ rfl; (with_reducible repeat (first|apply kN|apply kD|apply kA)); refine blk_put (cs := #[.int .i64 x3_1, .int .i64 0, .int .i64 0]) ?_ 1 _ rfl; (with_reducible repeat (first|apply kN|apply kD|apply kA)); refine blk_put (cs := #[.int .i64 0, .int .i64 0, .int .i64 0]) ?_ 0 _ rfl; (with_reducible repeat (first|apply kN|apply kD|apply kA)); exact BK479.out) Try.underlying33 rfl (by kernel_rfl)) rfl ?_
     exact ⟨qR, qB⟩
    ·rw [if_neg c33] at H
     have c33b0 : decide (x481001_1 < 0) = false := decide_eq_false c33
     clear c33
     obtain ⟨t491, A45, H⟩ := oB H
     try dsimp only at H
     simp only [Option.some.injEq, Prod.mk.injEq] at H
     obtain ⟨rfl, rfl, rfl⟩ := H
     have hnb46 := NB480_479.out
     have hnc46 := NB479_480.out
     obtain ⟨hcz47_0, hcz47_1⟩ := z2 BK480
     obtain ⟨hfz47_0, hfz47_1⟩ := y2 BK480
     try go_wp2
     replace BK479 := aM (blk_drew BK479.out)
     replace BK480 := aM (blk_drew BK480.out)
     replace HB := aM (below_drew1 HB.out)
     refine sT (fun w' => w'.cell? ⟨gb480, 0, none⟩ = some (.int .i64 x481000_1) ∧ w'.cell? ⟨gb480, 1, none⟩ = some (.int .i64 x481001_1)) [] ⟨cB BK480, cB BK480⟩ (fun hHeld => ?_); refine with_tabW impl_latticeOf.tab12 impl_latticeOf.bits12 (fun HT_ HW_ => ?_)
     generalize wr.drew = w48 at BK479 BK480 HB hHeld ⊢
     refine pU 0 (some 40) 1 HT_ ?_
     refine pU 1 (some 41) 3 HT_ ?_
     refine pU 3 (some 43) 11 HT_ ?_
     refine pU 5 (some 45) 43 HT_ ?_
     refine tU 2 (some 42) 47 HT_ HW_ hHeld ?_
     refine tU 6 (some 46) 111 HT_ HW_ hHeld ?_
     refine oU 4 (some 44) 127 HT_ (fun K hK => ?_)
     refine gO Try.func148 #[.int .i64 x481000_1, .int .i64 x3_1] ?_
     with_reducible refine (impl_mod.calls x481000_1 x3_1 t491 _ A45.out).mono ?_
     rintro e w' ⟨rfl, ⟨nd, rfl⟩⟩
     refine ⟨_, rfl, ?_⟩
     refine hK.out _ _ ⟨cB BK480, cB BK480⟩ (fun hHeld => ?_)
     clear hK K
     refine nM 44 ?_
     refine pU 7 (some 47) 255 HT_ ?_
     refine oU 8 none 511 HT_ (fun K hK => ?_)
     have hs49 : w48.cell? ⟨gb479, 0, none⟩ = some (.int .i64 0) := cB BK479
     have hfs49 := blk_frozen BK479.out 0
     have hns49_1 := NB480_479.out
     have hms49_1 := NB479_480.out
     have hs50 : w48.cell? ⟨gb479, 1, none⟩ = some (.int .i64 0) := cB BK479
     have hfs50 := blk_frozen BK479.out 1
     have hns50_1 := NB480_479.out
     have hms50_1 := NB479_480.out
     have hs51 : w48.cell? ⟨gb479, 2, none⟩ = some (.int .i64 0) := cB BK479
     have hfs51 := blk_frozen BK479.out 2
     have hns51_1 := NB480_479.out
     have hms51_1 := NB479_480.out
     refine skip_ (w1 := ?_) (by rfl) rfl ?_ ?_
     rotate_left
     ·go_simp
      rfl
     refine hK.out _ _ ⟨((cell_far (p := ⟨gb479, _, none⟩) NB480_479.out _).trans (((cell_far (p := ⟨gb479, _, none⟩) NB480_479.out _).trans (((cell_far (p := ⟨gb479, _, none⟩) NB480_479.out _).trans (hHeld.1)))))), ((cell_far (p := ⟨gb479, _, none⟩) NB480_479.out _).trans (((cell_far (p := ⟨gb479, _, none⟩) NB480_479.out _).trans (((cell_far (p := ⟨gb479, _, none⟩) NB480_479.out _).trans (hHeld.2))))))⟩ (fun hHeld => ?_)
     clear hK K
     refine dN HT_ ?_
     try go_wp2
     refine bodyPost_ret (results_cell_row rfl _ _ gb479 33 #[.int .i64 x3_1, .int .i64 t491, .int .i64 x481001_1] (0, 0) _ rfl (by (with_reducible repeat (first|apply kN|apply kD|apply kA)); refine blk_put (cs := #[.int .i64 x3_1, .int .i64 t491, .int .i64 0]) ?_ 2 _ rfl; (with_reducible repeat (first|apply kN|apply kD|apply kA)); refine blk_put (cs := #[.int .i64 x3_1, .int .i64 0, .int .i64 0]) ?_ 1 _ rfl; (with_reducible repeat (first|apply kN|apply kD|apply kA)); refine blk_put (cs := #[.int .i64 0, .int .i64 0, .int .i64 0]) ?_ 0 _ rfl; (with_reducible repeat (first|apply kN|apply kD|apply kA)); exact BK479.out) Try.underlying33 rfl (by kernel_rfl)) rfl ?_
     exact ⟨qR, qB⟩

end Go.Proofs.Ytcjchihnopmplaa.F

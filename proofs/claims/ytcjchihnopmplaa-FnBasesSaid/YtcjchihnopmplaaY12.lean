import Derived.Test.YtcjchihnopmplaaY0
import Derived.Test.YtcjchihnopmplaaY1
import Derived.Test.YtcjchihnopmplaaY2
import Derived.Test.YtcjchihnopmplaaY7
namespace Go.Proofs.Ytcjchihnopmplaa.F
open Go.RowKit Go.Proofs.YtcjchihnopmplaaW.PrintWords Go.Proofs.YtcjchihnopmplaaW.PrintLast Go.Proofs.YtcjchihnopmplaaW.PrintMore
attribute [local go_sem] max2_int min2_int max_two min_two max_three min_three max_four min_four   -- for this text's walks alone
set_option linter.unusedVariables false
set_option linter.unusedSimpArgs false
attribute [local go_sem high] eqA33 eqA47

def impl_Lattice_reduce.f (a0_0 : Int) (a0_1 : Int) (a0_2 : Int) (a1_0 : Int) (a1_1 : Int) : Option (Int × Int) := (impl_mod.f a1_1 a0_2).bind fun t722 => (if a0_2 = 0 then (none) else ((impl_mod.f (wrap64 (a1_0 - (wrap64 ((wrap64 (Int.tdiv (wrap64 (a1_1 - t722)) a0_2)) * a0_1)))) a0_0).bind fun t723 => (some (t723, t722))))
def impl_Lattice_reduce.T2 : Bool × List (List Nat × List Nat) := (true, [([], []), ([0], [0]), ([], []), ([2], [2]), ([], []), ([3, 4], [3, 4]), ([], []), ([6], [6]), ([5, 7], [5, 7]), ([], []), ([9], [9]), ([8, 10], [8, 10]), ([1, 11], [1, 11]), ([], []), ([13], [13]), ([12, 14], [12, 14]), ([], []), ([15, 16], [15, 16]), ([17, 15, 0, 1, 2, 3, 4, 5, 6, 7, 8, 9, 10, 11, 12, 13, 14, 15, 16, 17], [17])])
def impl_Lattice_reduce.B2 : List Nat := [0, 1, 0, 4, 0, 28, 0, 64, 252, 0, 512, 2044, 4095, 0, 8192, 32767, 0, 131071, 262143]
theorem impl_Lattice_reduce.tab2 : rtab .any (opsOf Try.f155 2) = impl_Lattice_reduce.T2 := by kernel_rfl
theorem impl_Lattice_reduce.bits2 : waitsOk impl_Lattice_reduce.T2.2 impl_Lattice_reduce.B2 = true := by kernel_rfl
set_option maxHeartbeats 8000000 in
set_option maxRecDepth 100000 in
theorem impl_Lattice_reduce.calls (a0_0 : Int) (a0_1 : Int) (a0_2 : Int) (a1_0 : Int) (a1_1 : Int) (r1 : Int) (r2 : Int) (w : World) (h : impl_Lattice_reduce.f a0_0 a0_1 a0_2 a1_0 a1_1 = some (r1, r2)) :
  Calls Try.prog 155 #[.agg #[.int .i64 a0_0, .int .i64 a0_1, .int .i64 a0_2], .agg #[.int .i64 a1_0, .int .i64 a1_1]] w fun e w' => e = .returned (.agg #[.int .i64 r1, .int .i64 r2]) ∧ Below w.heap.size w w' := by
 have hu33 := Try.underlying33
 have hu47 := Try.underlying47
 have HB := aM (Below.refl w.heap.size w)
 have H : ((impl_mod.f a1_1 a0_2).bind fun t722 => (if a0_2 = 0 then (none) else ((impl_mod.f (wrap64 (a1_0 - (wrap64 ((wrap64 (Int.tdiv (wrap64 (a1_1 - t722)) a0_2)) * a0_1)))) a0_0).bind fun t723 => (some (t723, t722))))) = some (r1, r2) := h
 clear h
 obtain ⟨t722, A3, H⟩ := oB H
 try dsimp only at H
 by_cases c4 : a0_2 = 0
 ·rw [if_pos c4] at H
  exact absurd H (by simp)
 ·rw [if_neg c4] at H
  have c4b0 : (a0_2 == 0) = false := beq_eq_false_iff_ne.mpr c4
  have c4b1 : (a0_2 != 0) = true := bne_iff_ne.mpr c4
  obtain ⟨t723, A5, H⟩ := oB H
  try dsimp only at H
  simp only [Option.some.injEq, Prod.mk.injEq] at H
  obtain ⟨rfl, rfl⟩ := H
  go_enter Try.func155, Try.ntmps155
  try go_wp2_with (first | (refine bE 2 #[.int .i64 a0_0, .int .i64 a0_1, .int .i64 a0_2] 33 ?_; intro gb719 hg w6 hbox hb; have BK719 := aM hbox; have GW719 := bZ hg HB; have GE719 := bZ hg HB; replace HB := bS HB hb; clear hb hbox hg) | (refine bE 3 #[.int .i64 a1_0, .int .i64 a1_1] 47 ?_; intro gb720 hg w7 hbox hb; have BK720 := aM hbox; have GW720 := bZ hg HB; have GE720 := bZ hg HB; have NB719_720 := nL hg BK719; have NB720_719 := nG hg BK719; replace BK719 := bB BK719 hb; replace HB := bS HB hb; clear hb hbox hg) | (refine bE 4 #[.int .i64 0, .int .i64 0] 47 ?_; intro gb721 hg w8 hbox hb; have BK721 := aM hbox; have GW721 := bZ hg HB; have GE721 := bZ hg HB; have NB719_721 := nL hg BK719; have NB721_719 := nG hg BK719; have NB720_721 := nL hg BK720; have NB721_720 := nG hg BK720; replace BK719 := bB BK719 hb; replace BK720 := bB BK720 hb; replace HB := bS HB hb; clear hb hbox hg; have hnb9 := NB720_719.out; have hnc9 := NB719_720.out; have hnb10 := NB720_721.out; have hnc10 := NB721_720.out; obtain ⟨hcz11_0, hcz11_1⟩ := z2 BK720; obtain ⟨hfz11_0, hfz11_1⟩ := y2 BK720; have hnb12 := NB719_721.out; have hnc12 := NB721_719.out; obtain ⟨hcz13_0, hcz13_1, hcz13_2⟩ := z3 BK719; obtain ⟨hfz13_0, hfz13_1, hfz13_2⟩ := y3 BK719) | (refine gC 148 ?_; refine gM 10 (impl_mod.calls a1_1 a0_2 t722 _ A3.out) Try.func148 ?_; rintro w' ⟨⟨nd, rfl⟩⟩; (try (rw [drewN_self w8]; generalize hq_ : World.drewN w8 _ = w8; have n0_ : Aside0 (w8.heap[gb719]? = some (.cells #[.int .i64 a0_0, .int .i64 a0_1, .int .i64 a0_2] 33 (0, 0))) := ⟨by rw [← hq_]; exact (bk BK719)⟩; have n1_ : Aside0 (w8.heap[gb720]? = some (.cells #[.int .i64 a1_0, .int .i64 a1_1] 47 (0, 0))) := ⟨by rw [← hq_]; exact (bk BK720)⟩; have n2_ : Aside0 (w8.heap[gb721]? = some (.cells #[.int .i64 0, .int .i64 0] 47 (0, 0))) := ⟨by rw [← hq_]; exact (bk BK721)⟩; have n3_ : Aside0 (Below w.heap.size w w8) := ⟨by rw [← hq_]; exact qB⟩; clear BK719 BK720 BK721 HB hq_; have BK719 := n0_; have BK720 := n1_; have BK721 := n2_; have HB := n3_; clear n0_ n1_ n2_ n3_))))
  replace BK719 := aM (blk_drew BK719.out)
  replace BK720 := aM (blk_drew BK720.out)
  replace BK721 := aM (blk_drew BK721.out)
  replace HB := aM (below_drew1 HB.out)
  refine sT (fun w' => w'.cell? ⟨gb720, 0, none⟩ = some (.int .i64 a1_0) ∧ w'.cell? ⟨gb720, 1, none⟩ = some (.int .i64 a1_1) ∧ w'.cell? ⟨gb719, 0, none⟩ = some (.int .i64 a0_0) ∧ w'.cell? ⟨gb719, 1, none⟩ = some (.int .i64 a0_1) ∧ w'.cell? ⟨gb719, 2, none⟩ = some (.int .i64 a0_2)) [] ⟨cB BK720, cB BK720, cB BK719, cB BK719, cB BK719⟩ (fun hHeld => ?_); refine with_tabW impl_Lattice_reduce.tab2 impl_Lattice_reduce.bits2 (fun HT_ HW_ => ?_)
  generalize w8.drew = w14 at BK719 BK720 BK721 HB hHeld ⊢
  refine pU 0 (some 11) 1 HT_ ?_
  refine pU 2 (some 13) 5 HT_ ?_
  refine pU 4 (some 15) 21 HT_ ?_
  refine pU 6 (some 17) 85 HT_ ?_
  refine pU 9 (some 20) 597 HT_ ?_
  refine pU 13 (some 24) 8789 HT_ ?_
  refine pU 16 (some 27) 74325 HT_ ?_
  refine tU 1 (some 12) 74327 HT_ HW_ hHeld ?_
  refine tU 3 (some 14) 74335 HT_ HW_ hHeld ?_
  refine pU 5 (some 16) 74367 HT_ ?_
  refine tU 7 (some 18) 74495 HT_ HW_ hHeld ?_
  refine pU 8 (some 19) 74751 HT_ ?_
  refine tU 10 (some 21) 75775 HT_ HW_ hHeld ?_
  refine pU 11 (some 22) 77823 HT_ ?_
  refine pU 12 (some 23) 81919 HT_ ?_
  refine tU 14 (some 25) 98303 HT_ HW_ hHeld ?_
  refine oU 15 (some 26) 131071 HT_ (fun K hK => ?_)
  refine gO Try.func148 #[.int .i64 (wrap64 (a1_0 - (wrap64 ((wrap64 (Int.tdiv (wrap64 (a1_1 - t722)) a0_2)) * a0_1)))), .int .i64 a0_0] ?_
  with_reducible refine (impl_mod.calls (wrap64 (a1_0 - (wrap64 ((wrap64 (Int.tdiv (wrap64 (a1_1 - t722)) a0_2)) * a0_1)))) a0_0 t723 _ A5.out).mono ?_
  rintro e w' ⟨rfl, ⟨nd, rfl⟩⟩
  refine ⟨_, rfl, ?_⟩
  refine hK.out _ _ ⟨cB BK720, cB BK720, cB BK719, cB BK719, cB BK719⟩ (fun hHeld => ?_)
  clear hK K
  refine nM 26 ?_
  refine pU 17 (some 28) 262143 HT_ ?_
  refine oU 18 none 524287 HT_ (fun K hK => ?_)
  have hs15 : w14.cell? ⟨gb721, 0, none⟩ = some (.int .i64 0) := cB BK721
  have hfs15 := blk_frozen BK721.out 0
  have hns15_0 := NB719_721.out
  have hns15_1 := NB720_721.out
  have hms15_0 := NB721_719.out
  have hms15_1 := NB721_720.out
  have hs16 : w14.cell? ⟨gb721, 1, none⟩ = some (.int .i64 0) := cB BK721
  have hfs16 := blk_frozen BK721.out 1
  have hns16_0 := NB719_721.out
  have hns16_1 := NB720_721.out
  have hms16_0 := NB721_719.out
  have hms16_1 := NB721_720.out
  refine skip_ (w1 := ?_) (by rfl) rfl ?_ ?_
  rotate_left
  ·go_simp
   rfl
  refine hK.out _ _ ⟨((cell_far (p := ⟨gb721, _, none⟩) NB720_721.out _).trans (((cell_far (p := ⟨gb721, _, none⟩) NB720_721.out _).trans (hHeld.1)))), ((cell_far (p := ⟨gb721, _, none⟩) NB720_721.out _).trans (((cell_far (p := ⟨gb721, _, none⟩) NB720_721.out _).trans (hHeld.2.1)))), ((cell_far (p := ⟨gb721, _, none⟩) NB719_721.out _).trans (((cell_far (p := ⟨gb721, _, none⟩) NB719_721.out _).trans (hHeld.2.2.1)))), ((cell_far (p := ⟨gb721, _, none⟩) NB719_721.out _).trans (((cell_far (p := ⟨gb721, _, none⟩) NB719_721.out _).trans (hHeld.2.2.2.1)))), ((cell_far (p := ⟨gb721, _, none⟩) NB719_721.out _).trans (((cell_far (p := ⟨gb721, _, none⟩) NB719_721.out _).trans (hHeld.2.2.2.2))))⟩ (fun hHeld => ?_)
  clear hK K
  refine dN HT_ ?_
  try go_wp2
  refine bodyPost_ret (results_cell_row rfl _ _ gb721 47 #[.int .i64 t723, .int .i64 t722] (0, 0) _ rfl (by (with_reducible repeat (first|apply kN|apply kD|apply kA)); refine blk_put (cs := #[.int .i64 t723, .int .i64 0]) ?_ 1 _ rfl; (with_reducible repeat (first|apply kN|apply kD|apply kA)); refine blk_put (cs := #[.int .i64 0, .int .i64 0]) ?_ 0 _ rfl; (with_reducible repeat (first|apply kN|apply kD|apply kA)); exact BK721.out) Try.underlying47 rfl (by kernel_rfl)) rfl ?_
  exact ⟨qR, qB⟩

def impl_Lattice_has.f (a0_0 : Int) (a0_1 : Int) (a0_2 : Int) (a1_0 : Int) (a1_1 : Int) : Option (Bool) := (impl_Lattice_reduce.f a0_0 a0_1 a0_2 a1_0 a1_1).bind fun bt726 => (some (bt726.1 == 0 && (bt726.2 == 0)))
set_option maxHeartbeats 8000000 in
set_option maxRecDepth 100000 in
theorem impl_Lattice_has.calls (a0_0 : Int) (a0_1 : Int) (a0_2 : Int) (a1_0 : Int) (a1_1 : Int) (r : Bool) (w : World) (h : impl_Lattice_has.f a0_0 a0_1 a0_2 a1_0 a1_1 = some r) :
  Calls Try.prog 136 #[.agg #[.int .i64 a0_0, .int .i64 a0_1, .int .i64 a0_2], .agg #[.int .i64 a1_0, .int .i64 a1_1]] w fun e w' => e = .returned (.bool r) ∧ Below w.heap.size w w' := by
 have hu33 := Try.underlying33
 have hu47 := Try.underlying47
 have HB := aM (Below.refl w.heap.size w)
 have H : ((impl_Lattice_reduce.f a0_0 a0_1 a0_2 a1_0 a1_1).bind fun bt726 => (some (bt726.1 == 0 && (bt726.2 == 0)))) = some r := h
 clear h
 obtain ⟨⟨t726, t727⟩, A3, H⟩ := oB H
 try dsimp only at H
 obtain rfl := Option.some.inj H
 go_enter Try.func136, Try.ntmps136
 go_wp2_with (first | (refine bE 2 #[.int .i64 a0_0, .int .i64 a0_1, .int .i64 a0_2] 33 ?_; intro gb724 hg w4 hbox hb; have BK724 := aM hbox; have GW724 := bZ hg HB; have GE724 := bZ hg HB; replace HB := bS HB hb; clear hb hbox hg) | (refine bE 3 #[.int .i64 a1_0, .int .i64 a1_1] 47 ?_; intro gb725 hg w5 hbox hb; have BK725 := aM hbox; have GW725 := bZ hg HB; have GE725 := bZ hg HB; have NB724_725 := nL hg BK724; have NB725_724 := nG hg BK724; replace BK724 := bB BK724 hb; replace HB := bS HB hb; clear hb hbox hg; have hnb6 := NB724_725.out; have hnc6 := NB725_724.out; obtain ⟨hcz7_0, hcz7_1, hcz7_2⟩ := z3 BK724; obtain ⟨hfz7_0, hfz7_1, hfz7_2⟩ := y3 BK724; obtain ⟨hcz8_0, hcz8_1⟩ := z2 BK725; obtain ⟨hfz8_0, hfz8_1⟩ := y2 BK725) | (refine gC 155 ?_; refine gM 7 (impl_Lattice_reduce.calls a0_0 a0_1 a0_2 a1_0 a1_1 t726 t727 _ A3.out) Try.func155 ?_; rintro w9 hb; replace BK724 := bB BK724 hb; replace BK725 := bB BK725 hb; replace HB := bS HB hb; (try clear hb)))
 go_ret
 exact ⟨qR, qB⟩

def impl_latticeMats_1.f (a0_0 : Int) (a0_1 : Int) (a0_2 : Int) (a0_3 : Int) (a1_0 : Int) (a1_1 : Int) (a1_2 : Int) (a2_0 : Int) (a2_1 : Int) (a3_0 : Int) (a3_1 : Int) : Option (Bool) := (impl_Mat_apply.f a0_0 a0_1 a0_2 a0_3 a2_0 a2_1).bind fun bt239 => ((impl_Lattice_has.f a1_0 a1_1 a1_2 bt239.1 bt239.2).bind fun t241 => (if t241 = true then ((impl_Mat_apply.f a0_0 a0_1 a0_2 a0_3 a3_0 a3_1).bind fun bt242 => ((impl_Lattice_has.f a1_0 a1_1 a1_2 bt242.1 bt242.2).bind fun t244 => (some (!t244)))) else (some true)))
def impl_latticeMats_1.T1 : Bool × List (List Nat × List Nat) := (true, [([], []), ([], []), ([], []), ([1, 2], [1, 2]), ([0, 3, 3], [0, 3]), ([4], [4]), ([5, 4], [5]), ([6], [6]), ([6], [6]), ([6], [6]), ([8, 9, 6, 6], [6, 8, 9]), ([7, 10, 10, 6], [6, 7, 10]), ([11, 6], [6, 11]), ([6, 12], [6, 12]), ([13, 11, 0, 1, 2, 3, 4, 5, 6, 7, 8, 9, 10, 11, 12, 13], [13])])
def impl_latticeMats_1.B1 : List Nat := [0, 0, 0, 6, 15, 31, 63, 127, 127, 127, 895, 2047, 4095, 8191, 16383]
theorem impl_latticeMats_1.tab1 : rtab .any (opsOf Try.f135 1) = impl_latticeMats_1.T1 := by kernel_rfl
theorem impl_latticeMats_1.bits1 : waitsOk impl_latticeMats_1.T1.2 impl_latticeMats_1.B1 = true := by kernel_rfl
set_option maxHeartbeats 8000000 in
set_option maxRecDepth 100000 in
theorem impl_latticeMats_1.calls (a0_0 : Int) (a0_1 : Int) (a0_2 : Int) (a0_3 : Int) (a1_0 : Int) (a1_1 : Int) (a1_2 : Int) (a2_0 : Int) (a2_1 : Int) (a3_0 : Int) (a3_1 : Int) (r : Bool) (gb236 gb237 gb238 : Nat) (w : World) (hL : w.heap[gb236]? = some (.cells #[.int .i64 a1_0, .int .i64 a1_1, .int .i64 a1_2] 33 (0, 0))) (hU : w.heap[gb237]? = some (.cells #[.int .i64 a2_0, .int .i64 a2_1] 47 (0, 0))) (hV : w.heap[gb238]? = some (.cells #[.int .i64 a3_0, .int .i64 a3_1] 47 (0, 0))) (h : impl_latticeMats_1.f a0_0 a0_1 a0_2 a0_3 a1_0 a1_1 a1_2 a2_0 a2_1 a3_0 a3_1 = some r) :
  Calls Try.prog 135 #[.agg #[.int .i64 a0_0, .int .i64 a0_1, .int .i64 a0_2, .int .i64 a0_3], .pointer (some ⟨gb236, 0, none⟩), .pointer (some ⟨gb237, 0, none⟩), .pointer (some ⟨gb238, 0, none⟩)] w fun e w' => e = .returned (.bool r) ∧ Below w.heap.size w w' := by
 have hu51 := Try.underlying51
 have hu33 := Try.underlying33
 have hu47 := Try.underlying47
 have HB := aM (Below.refl w.heap.size w)
 have BK236 := aM hL
 have BK237 := aM hU
 have BK238 := aM hV
 clear hL hU hV
 have H : ((impl_Mat_apply.f a0_0 a0_1 a0_2 a0_3 a2_0 a2_1).bind fun bt239 => ((impl_Lattice_has.f a1_0 a1_1 a1_2 bt239.1 bt239.2).bind fun t241 => (if t241 = true then ((impl_Mat_apply.f a0_0 a0_1 a0_2 a0_3 a3_0 a3_1).bind fun bt242 => ((impl_Lattice_has.f a1_0 a1_1 a1_2 bt242.1 bt242.2).bind fun t244 => (some (!t244)))) else (some true)))) = some r := h
 clear h
 obtain ⟨⟨t239, t240⟩, A5, H⟩ := oB H
 try dsimp only at H
 obtain ⟨t241, A6, H⟩ := oB H
 try dsimp only at H
 by_cases c7 : t241 = true
 ·subst c7
  have H1 : ((impl_Mat_apply.f a0_0 a0_1 a0_2 a0_3 a3_0 a3_1).bind fun bt242 => ((impl_Lattice_has.f a1_0 a1_1 a1_2 bt242.1 bt242.2).bind fun t244 => (some (!t244)))) = some r := by rw [if_pos rfl] at H; exact H
  clear H
  have H := H1
  clear H1
  obtain ⟨⟨t242, t243⟩, A8, H⟩ := oB H
  try dsimp only at H
  obtain ⟨t244, A9, H⟩ := oB H
  try dsimp only at H
  obtain rfl := Option.some.inj H
  go_enter Try.func135, Try.ntmps135
  try go_wp2_with (first | (refine bE 4 #[.int .i64 a0_0, .int .i64 a0_1, .int .i64 a0_2, .int .i64 a0_3] 51 ?_; intro gb235 hg w13 hbox hb; have BK235 := aM hbox; replace HB := aM (below_step HB.out hb); replace BK236 := aM (blk_below BK236.out hb); replace BK237 := aM (blk_below BK237.out hb); replace BK238 := aM (blk_below BK238.out hb); clear hb hbox hg))
  replace BK235 := aM (blk_drew BK235.out)
  replace BK236 := aM (blk_drew BK236.out)
  replace BK237 := aM (blk_drew BK237.out)
  replace BK238 := aM (blk_drew BK238.out)
  replace HB := aM (below_drew1 HB.out)
  refine sT (fun w' => w'.cell? ⟨gb236, 0, none⟩ = some (.int .i64 a1_0) ∧ w'.cell? ⟨gb236, 1, none⟩ = some (.int .i64 a1_1) ∧ w'.cell? ⟨gb236, 2, none⟩ = some (.int .i64 a1_2) ∧ w'.cell? ⟨gb235, 0, none⟩ = some (.int .i64 a0_0) ∧ w'.cell? ⟨gb235, 1, none⟩ = some (.int .i64 a0_1) ∧ w'.cell? ⟨gb235, 2, none⟩ = some (.int .i64 a0_2) ∧ w'.cell? ⟨gb235, 3, none⟩ = some (.int .i64 a0_3) ∧ w'.cell? ⟨gb237, 0, none⟩ = some (.int .i64 a2_0) ∧ w'.cell? ⟨gb237, 1, none⟩ = some (.int .i64 a2_1) ∧ w'.cell? ⟨gb238, 0, none⟩ = some (.int .i64 a3_0) ∧ w'.cell? ⟨gb238, 1, none⟩ = some (.int .i64 a3_1)) [] ⟨cB BK236, cB BK236, cB BK236, cB BK235, cB BK235, cB BK235, cB BK235, cB BK237, cB BK237, cB BK238, cB BK238⟩ (fun hHeld => ?_); refine with_tabW impl_latticeMats_1.tab1 impl_latticeMats_1.bits1 (fun HT_ HW_ => ?_)
  generalize w13.drew = w14 at BK235 BK236 BK237 BK238 HB hHeld ⊢
  refine tU 0 (some 6) 1 HT_ HW_ hHeld ?_
  refine tU 1 (some 7) 3 HT_ HW_ hHeld ?_
  refine tU 2 (some 8) 7 HT_ HW_ hHeld ?_
  refine oU 3 (some 9) 15 HT_ (fun K hK => ?_)
  refine gO Try.func97 #[.agg #[.int .i64 a0_0, .int .i64 a0_1, .int .i64 a0_2, .int .i64 a0_3], .agg #[.int .i64 a2_0, .int .i64 a2_1]] ?_
  with_reducible refine (impl_Mat_apply.calls a0_0 a0_1 a0_2 a0_3 a2_0 a2_1 t239 t240 _ A5.out).mono ?_
  rintro e w15 ⟨rfl, hb⟩
  refine ⟨_, rfl, ?_⟩
  replace BK235 := bB BK235 hb
  replace BK236 := bB BK236 hb
  replace BK237 := bB BK237 hb
  replace BK238 := bB BK238 hb
  replace HB := bS HB hb
  (try clear hb)
  (try clear hb2)
  (try clear hk)
  (try clear hi)
  refine hK.out _ _ ⟨cB BK236, cB BK236, cB BK236, cB BK235, cB BK235, cB BK235, cB BK235, cB BK237, cB BK237, cB BK238, cB BK238⟩ (fun hHeld => ?_)
  clear hK K
  refine nM 9 ?_
  refine oU 4 (some 10) 31 HT_ (fun K hK => ?_)
  refine gO Try.func136 #[.agg #[.int .i64 a1_0, .int .i64 a1_1, .int .i64 a1_2], .agg #[.int .i64 t239, .int .i64 t240]] ?_
  with_reducible refine (impl_Lattice_has.calls a1_0 a1_1 a1_2 t239 t240 true _ A6.out).mono ?_
  rintro e w16 ⟨rfl, hb⟩
  refine ⟨_, rfl, ?_⟩
  replace BK235 := bB BK235 hb
  replace BK236 := bB BK236 hb
  replace BK237 := bB BK237 hb
  replace BK238 := bB BK238 hb
  replace HB := bS HB hb
  (try clear hb)
  (try clear hb2)
  (try clear hk)
  (try clear hi)
  refine hK.out _ _ ⟨cB BK236, cB BK236, cB BK236, cB BK235, cB BK235, cB BK235, cB BK235, cB BK237, cB BK237, cB BK238, cB BK238⟩ (fun hHeld => ?_)
  clear hK K
  refine nM 10 ?_
  refine pU 5 (some 11) 63 HT_ ?_
  refine pU 6 (some 12) 127 HT_ ?_
  refine tU 7 (some 13) 255 HT_ HW_ hHeld ?_
  refine tU 8 (some 14) 511 HT_ HW_ hHeld ?_
  refine tU 9 (some 15) 1023 HT_ HW_ hHeld ?_
  refine oU 10 (some 16) 2047 HT_ (fun K hK => ?_)
  refine gO Try.func97 #[.agg #[.int .i64 a0_0, .int .i64 a0_1, .int .i64 a0_2, .int .i64 a0_3], .agg #[.int .i64 a3_0, .int .i64 a3_1]] ?_
  with_reducible refine (impl_Mat_apply.calls a0_0 a0_1 a0_2 a0_3 a3_0 a3_1 t242 t243 _ A8.out).mono ?_
  rintro e w17 ⟨rfl, hb⟩
  refine ⟨_, rfl, ?_⟩
  replace BK235 := bB BK235 hb
  replace BK236 := bB BK236 hb
  replace BK237 := bB BK237 hb
  replace BK238 := bB BK238 hb
  replace HB := bS HB hb
  (try clear hb)
  (try clear hb2)
  (try clear hk)
  (try clear hi)
  refine hK.out _ _ ⟨cB BK236, cB BK236, cB BK236, cB BK235, cB BK235, cB BK235, cB BK235, cB BK237, cB BK237, cB BK238, cB BK238⟩ (fun hHeld => ?_)
  clear hK K
  refine nM 16 ?_
  refine oU 11 (some 17) 4095 HT_ (fun K hK => ?_)
  refine gO Try.func136 #[.agg #[.int .i64 a1_0, .int .i64 a1_1, .int .i64 a1_2], .agg #[.int .i64 t242, .int .i64 t243]] ?_
  with_reducible refine (impl_Lattice_has.calls a1_0 a1_1 a1_2 t242 t243 t244 _ A9.out).mono ?_
  rintro e w18 ⟨rfl, hb⟩
  refine ⟨_, rfl, ?_⟩
  replace BK235 := bB BK235 hb
  replace BK236 := bB BK236 hb
  replace BK237 := bB BK237 hb
  replace BK238 := bB BK238 hb
  replace HB := bS HB hb
  (try clear hb)
  (try clear hb2)
  (try clear hk)
  (try clear hi)
  refine hK.out _ _ ⟨cB BK236, cB BK236, cB BK236, cB BK235, cB BK235, cB BK235, cB BK235, cB BK237, cB BK237, cB BK238, cB BK238⟩ (fun hHeld => ?_)
  clear hK K
  refine nM 17 ?_
  refine pU 12 (some 18) 8191 HT_ ?_
  refine pU 13 (some 19) 16383 HT_ ?_
  refine pU 14 (some 5) 32767 HT_ ?_
  refine dN HT_ ?_
  try go_wp2
  go_ret
  exact ⟨qR, qB⟩
 ·replace c7 := Bool.eq_false_iff.mpr c7
  subst c7
  have H1 : (some true) = some r := by rw [if_neg (show ¬ (false = true) by decide)] at H; exact H
  clear H
  have H := H1
  clear H1
  obtain rfl := Option.some.inj H
  go_enter Try.func135, Try.ntmps135
  try go_wp2_with (first | (refine bE 4 #[.int .i64 a0_0, .int .i64 a0_1, .int .i64 a0_2, .int .i64 a0_3] 51 ?_; intro gb235 hg w22 hbox hb; have BK235 := aM hbox; replace HB := aM (below_step HB.out hb); replace BK236 := aM (blk_below BK236.out hb); replace BK237 := aM (blk_below BK237.out hb); replace BK238 := aM (blk_below BK238.out hb); clear hb hbox hg))
  replace BK235 := aM (blk_drew BK235.out)
  replace BK236 := aM (blk_drew BK236.out)
  replace BK237 := aM (blk_drew BK237.out)
  replace BK238 := aM (blk_drew BK238.out)
  replace HB := aM (below_drew1 HB.out)
  refine sT (fun w' => w'.cell? ⟨gb236, 0, none⟩ = some (.int .i64 a1_0) ∧ w'.cell? ⟨gb236, 1, none⟩ = some (.int .i64 a1_1) ∧ w'.cell? ⟨gb236, 2, none⟩ = some (.int .i64 a1_2) ∧ w'.cell? ⟨gb235, 0, none⟩ = some (.int .i64 a0_0) ∧ w'.cell? ⟨gb235, 1, none⟩ = some (.int .i64 a0_1) ∧ w'.cell? ⟨gb235, 2, none⟩ = some (.int .i64 a0_2) ∧ w'.cell? ⟨gb235, 3, none⟩ = some (.int .i64 a0_3) ∧ w'.cell? ⟨gb237, 0, none⟩ = some (.int .i64 a2_0) ∧ w'.cell? ⟨gb237, 1, none⟩ = some (.int .i64 a2_1)) [] ⟨cB BK236, cB BK236, cB BK236, cB BK235, cB BK235, cB BK235, cB BK235, cB BK237, cB BK237⟩ (fun hHeld => ?_); refine with_tabW impl_latticeMats_1.tab1 impl_latticeMats_1.bits1 (fun HT_ HW_ => ?_)
  generalize w22.drew = w23 at BK235 BK236 BK237 BK238 HB hHeld ⊢
  refine tU 0 (some 6) 1 HT_ HW_ hHeld ?_
  refine tU 1 (some 7) 3 HT_ HW_ hHeld ?_
  refine tU 2 (some 8) 7 HT_ HW_ hHeld ?_
  refine oU 3 (some 9) 15 HT_ (fun K hK => ?_)
  refine gO Try.func97 #[.agg #[.int .i64 a0_0, .int .i64 a0_1, .int .i64 a0_2, .int .i64 a0_3], .agg #[.int .i64 a2_0, .int .i64 a2_1]] ?_
  with_reducible refine (impl_Mat_apply.calls a0_0 a0_1 a0_2 a0_3 a2_0 a2_1 t239 t240 _ A5.out).mono ?_
  rintro e w24 ⟨rfl, hb⟩
  refine ⟨_, rfl, ?_⟩
  replace BK235 := bB BK235 hb
  replace BK236 := bB BK236 hb
  replace BK237 := bB BK237 hb
  replace BK238 := bB BK238 hb
  replace HB := bS HB hb
  (try clear hb)
  (try clear hb2)
  (try clear hk)
  (try clear hi)
  refine hK.out _ _ ⟨cB BK236, cB BK236, cB BK236, cB BK235, cB BK235, cB BK235, cB BK235, cB BK237, cB BK237⟩ (fun hHeld => ?_)
  clear hK K
  refine nM 9 ?_
  refine oU 4 (some 10) 31 HT_ (fun K hK => ?_)
  refine gO Try.func136 #[.agg #[.int .i64 a1_0, .int .i64 a1_1, .int .i64 a1_2], .agg #[.int .i64 t239, .int .i64 t240]] ?_
  with_reducible refine (impl_Lattice_has.calls a1_0 a1_1 a1_2 t239 t240 false _ A6.out).mono ?_
  rintro e w25 ⟨rfl, hb⟩
  refine ⟨_, rfl, ?_⟩
  replace BK235 := bB BK235 hb
  replace BK236 := bB BK236 hb
  replace BK237 := bB BK237 hb
  replace BK238 := bB BK238 hb
  replace HB := bS HB hb
  (try clear hb)
  (try clear hb2)
  (try clear hk)
  (try clear hi)
  refine hK.out _ _ ⟨cB BK236, cB BK236, cB BK236, cB BK235, cB BK235, cB BK235, cB BK235, cB BK237, cB BK237⟩ (fun hHeld => ?_)
  clear hK K
  refine nM 10 ?_
  refine pU 5 (some 11) 63 HT_ ?_
  refine pU 6 (some 12) 127 HT_ ?_
  refine pV 7 (some 13) 255 HT_ ?_
  refine pV 8 (some 14) 511 HT_ ?_
  refine pV 9 (some 15) 1023 HT_ ?_
  refine pV 10 (some 16) 2047 HT_ ?_
  refine pV 11 (some 17) 4095 HT_ ?_
  refine pV 12 (some 18) 8191 HT_ ?_
  refine pU 13 (some 19) 16383 HT_ ?_
  refine pU 14 (some 5) 32767 HT_ ?_
  refine dN HT_ ?_
  try go_wp2
  go_ret
  exact ⟨qR, qB⟩
/-- What the search answers. -/
def FirstAt {α : Type} (p : α → Bool) (z : α) (xs : List α) (i : Int) : Prop := (i = -1 ∧ ∀ j : Nat, j < xs.length → p (xs.getD j z) = false) ∨ (∃ k0 : Nat, i = (k0 : Int) ∧ k0 < xs.length ∧ p (xs.getD k0 z) = true ∧ ∀ j : Nat, j < k0 → p (xs.getD j z) = false)
set_option maxHeartbeats 8000000 in
set_option maxRecDepth 100000 in
theorem idx154 (p : S51 → Bool) (lb : Array Value) (A : Option Addr) (c : Nat) (xs : List S51) (w : World) (i : Int)
  (hp : ∀ (W : World) (x : S51), Below w.heap.size w W → Calls Try.prog 135 (#[.agg #[.int .i64 x.f0, .int .i64 x.f1, .int .i64 x.f2, .int .i64 x.f3]] ++ lb) W fun e w' => e = .returned (.bool (p x)) ∧ Below W.heap.size W w')
  (hr : Kd.C k51 w A xs.length xs) (hl : xs.length < 1000000) (hi : FirstAt p z51 xs i) :
  Calls Try.prog 154 #[.slice A xs.length c, .func (.func 135) #[] lb] w fun e w' => e = .returned (.int .i64 i) ∧ Below w.heap.size w w' := by
 have hu51 := Try.underlying51
 have HR := aM hr
 have HP := aM hp
 have HI := aM hi
 clear hr hp hi
 go_enter Try.func154, Try.ntmps154
 go_wp2
 go_loopg [5, 8] xs.length (fun gg _ s8 wr => ∃ kk : Nat, s8 = .int .i64 kk ∧ kk ≤ xs.length ∧ xs.length - kk ≤ gg ∧ Aside0 (Below w.heap.size w wr) ∧ Aside0 (∀ j : Nat, j < kk → p (xs.getD j z51) = false))
 case atStart => exact ⟨0, rfl, Nat.zero_le _, by omega, ⟨Below.refl _ w⟩, ⟨fun j hj => absurd hj (Nat.not_lt_zero _)⟩⟩
 case round =>
  obtain ⟨kk, rfl, hkk, hgg, BW, A0⟩ := hrel
  by_cases hlt : kk < xs.length
  ·have hltz : (kk : Int) < (xs.length : Int) := by omega
   have hk0 : (0 : Int) ≤ (kk : Int) := by omega
   obtain ⟨ad, e1, c0, c1, c2, c3⟩ := at_T51 (Kd.C_below HR.out BW.out) (kk : Int) hk0 (by omega)
   cases e1
   have hcall := aM (HP.out wr (rd_T51 xs kk) BW.out)
   have hrd : rd_T51 xs kk = xs.getD kk z51 := rfl
   rw [hrd] at hcall c0 c1 c2 c3
   simp only [Int.toNat_natCast] at c0 c1 c2 c3
   have RD := aM hrd
   clear hrd
   generalize hx : xs.getD kk z51 = x at hcall c0 c1 c2 c3
   have X := aM hx
   clear hx
   cases hq : p x with
   | true =>
    go_wp2_with (go_at_call 135; refine hcall.out.mono ?_; rintro e w5 ⟨rfl, hb5⟩; rw [hq])
    go_ret
    refine ⟨?_, below_step BW.out hb5⟩
    rcases HI.out with ⟨_, ha⟩ | ⟨k0, rfl, h0, h1, h2⟩
    ·have := ha kk hlt
     rw [X.out, hq] at this
     cases this
    ·rcases Nat.lt_trichotomy k0 kk with h | h | h
     ·have := A0.out k0 h
      rw [h1] at this
      cases this
     ·subst h; rfl
     ·have := h2 kk h
      rw [X.out, hq] at this
      cases this
   | false =>
    go_wp2_with (go_at_call 135; refine hcall.out.mono ?_; rintro e w5 ⟨rfl, hb5⟩; rw [hq])
    go_roundg (xs.length - (kk + 1))
    case measure => omega
    case rel =>
     refine ⟨kk + 1, by go_num, by omega, Nat.le_refl _, ⟨below_step BW.out hb5⟩, ⟨fun j hj => ?_⟩⟩
     by_cases e : j = kk
     ·subst e
      rw [X.out]; exact hq
     ·exact A0.out j (by omega)
  ·have hltz : ¬ (kk : Int) < (xs.length : Int) := by omega
   have : kk = xs.length := by omega
   subst this
   go_wp2
   go_ret
   refine ⟨?_, BW.out⟩
   rcases HI.out with ⟨rfl, _⟩ | ⟨k0, rfl, h0, h1, h2⟩
   ·rfl
   ·have := A0.out k0 h0
    rw [h1] at this
    cases this
/-- clear(s) on a row of its own block. -/
theorem run_clear_row {P : Program} (w : World) (t e ty : TypeId) (z : Value) (ht : P.underlying t = some (.slice e)) (hv : ∀ w, (zeroValue e).run P w = .ok z w) (b o n c : Nat) (hn : 0 < n)
  (cells : Array Value) (hh : w.heap[b]? = some (.cells cells e (0, 0))) (hfit : o + n * z.cells.size ≤ cells.size) (h1 : ∀ v ∈ z.cells, v.oneCell' = true) :
  (Builtin.clear_ #[t] ty #[.slice (some ⟨b, o, none⟩) n c]).run P w = .ok (.tuple #[]) (w.setCells b o (Builtin.zeroCells z.cells n).toList) := by
 have hsz : (Builtin.zeroCells z.cells n).toList.length = n * z.cells.size := by simp [Builtin.zeroCells]
 have hm : ∀ v ∈ (Builtin.zeroCells z.cells n).toList, v.oneCell' = true := by
  intro v hv'
  simp [Builtin.zeroCells] at hv'
  obtain ⟨i, hi, he⟩ := hv'
  have hpos : 0 < z.cells.size := by
   rcases Nat.eq_zero_or_pos z.cells.size with h | h
   ·rw [h] at hi; simp at hi
   ·exact h
  have hlt := Nat.mod_lt i hpos
  rw [getElem!_pos z.cells _ hlt] at he
  exact h1 v (by rw [← he]; exact Array.getElem_mem hlt)
 have hst := run_storeCells_cells (P := P) b o (Builtin.zeroCells z.cells n).toList 0 w (fun j hj => by rw [cell_of_row w b _ cells e (0, 0) hh]; simp; omega) (fun j _ => blk_frozen hh _) hm
 simp only [Nat.add_zero] at hst
 obtain ⟨m, rfl⟩ : ∃ m, n = m + 1 := ⟨n - 1, by omega⟩
 simp [Builtin.clear_, run_underlying ht, hv, hst]
/-- A row made shorter: what is written behind it doesn't touch it. -/
theorem R_tail {α : Type} {d : Kd α} {e : Nat} {w : World} {base : Nat} {ok : Nat → Prop} {g n cap o : Nat} {xs : List α} (h : d.R e w base ok (.slice (some ⟨g, 0, none⟩) n cap) xs) (vs : List Value) (ho : n * d.sz ≤ o) (hfit : o + vs.length ≤ cap * d.sz) (hE : ∀ q, q ∈ d.E → False) :
  d.R e (w.setCells g o vs) base ok (.slice (some ⟨g, 0, none⟩) n cap) xs ∧ w.grownBy (w.setCells g o vs) (some g) := by
 obtain ⟨h0, inner, ⟨h1, h2⟩, hr⟩ := h
 rcases h2 with ⟨he, _⟩ | ⟨g', cap', cur, he, hb, hh, hnc, hcm, hcs, ht⟩
 ·cases he
 injection he with ha hn hc
 injection ha with ha
 injection ha with hg
 subst hg; subst hc; subst hn
 obtain ⟨cur', h3, h4, h5⟩ := setCells_row vs o w cur hh (by omega)
 obtain ⟨s1, s2, s3, s4⟩ := setCells_same g vs o w
 refine ⟨⟨h0, inner, ⟨h1, .inr ⟨g, cap, cur', rfl, hb, h3, hnc, hcm, by rw [h4, hcs], ?_⟩⟩, ?_⟩, ⟨s1, s2, s3, by rw [s4]; exact Nat.le_refl _, fun k _ hk => setCells_far vs o k (fun he => hk (by rw [he]))⟩⟩
 ·have hcl : cur.toList.length = cur.size := Array.length_toList
  have hnc2 : xs.length * d.sz ≤ cap * d.sz := Nat.mul_le_mul_right _ hnc
  rw [h5, ← ht, List.append_assoc, List.take_append_of_le_length (by rw [List.length_take, hcl]; omega), List.take_take, Nat.min_eq_left ho]
 ·exact hr.imp_ (fun _ _ hp => d.M_move (fun k hk => setCells_far vs o k (fun he => hk.2 (by rw [he]; simp [Value.ownBlock]))) hp)
/-- The list while elements are struck: i kept so far, out of the first j. -/
def StrikeInv {α : Type} (p : α → Bool) (xs : List α) (i j : Nat) (dk : List α) : Prop := i < j ∧ j ≤ xs.length ∧ dk.length = xs.length ∧ dk.take i = (xs.take j).filter (fun x => !p x) ∧ ∀ m, j ≤ m → dk[m]? = xs[m]?
theorem strike_keep {α : Type} {p : α → Bool} {xs dk : List α} {i j : Nat} {x : α} (h : StrikeInv p xs i j dk) (hj : j < xs.length) (hx : xs[j]? = some x) (hp : p x = false) : StrikeInv p xs (i + 1) (j + 1) (dk.set i x) := by
 obtain ⟨h1, h2, h3, h4, h5⟩ := h
 refine ⟨by omega, by omega, by simp [h3], ?_, fun m hm => ?_⟩
 ·have e1 : (dk.set i x).take (i + 1) = dk.take i ++ [x] := by
   rw [List.take_add_one, List.getElem?_set_self (by omega), List.take_set_of_le (Nat.le_refl _)]
   rfl
  rw [e1, h4, List.take_add_one, hx]
  simp [hp]
 ·rw [List.getElem?_set_ne (by omega)]
  exact h5 m (by omega)
theorem strike_skip {α : Type} {p : α → Bool} {xs dk : List α} {i j : Nat} {x : α} (h : StrikeInv p xs i j dk) (hj : j < xs.length) (hx : xs[j]? = some x) (hp : p x = true) : StrikeInv p xs i (j + 1) dk := by
 obtain ⟨h1, h2, h3, h4, h5⟩ := h
 refine ⟨by omega, by omega, h3, ?_, fun m hm => h5 m (by omega)⟩
 rw [h4, List.take_add_one, hx]
 simp [hp]
theorem strike_start {α : Type} {p : α → Bool} {z : α} {xs : List α} {k0 : Nat} (h0 : k0 < xs.length) (h1 : p (xs.getD k0 z) = true) (h2 : ∀ j : Nat, j < k0 → p (xs.getD j z) = false) : StrikeInv p xs k0 (k0 + 1) xs := by
 refine ⟨by omega, by omega, rfl, ?_, fun _ _ => rfl⟩
 have hx : xs[k0]? = some (xs.getD k0 z) := by rw [List.getD_eq_getElem?_getD, List.getElem?_eq_getElem h0]; rfl
 rw [List.take_add_one, hx]
 show _ = List.filter _ (_ ++ [xs.getD k0 z])
 rw [List.filter_append, show List.filter (fun x => !p x) [xs.getD k0 z] = [] by simp only [List.filter_cons, h1]; rfl, List.append_nil]
 symm
 rw [List.filter_eq_self]
 intro a ha
 obtain ⟨j, hj, e⟩ := List.mem_iff_getElem.1 ha
 rw [List.length_take] at hj
 rw [List.getElem_take] at e
 have := h2 j (by omega)
 rw [List.getD_eq_getElem?_getD, List.getElem?_eq_getElem (by omega)] at this
 rw [← e]; simpa using this
theorem strike_none {α : Type} {p : α → Bool} {z : α} {xs : List α} (h : ∀ j : Nat, j < xs.length → p (xs.getD j z) = false) : xs.filter (fun x => !p x) = xs := by
 rw [List.filter_eq_self]
 intro a ha
 obtain ⟨j, hj, e⟩ := List.mem_iff_getElem.1 ha
 have := h j hj
 rw [List.getD_eq_getElem?_getD, List.getElem?_eq_getElem hj] at this
 rw [← e]; simpa using this
theorem strike_end {α : Type} {p : α → Bool} {xs dk : List α} {i : Nat} (h : StrikeInv p xs i xs.length dk) : dk.take i = xs.filter (fun x => !p x) := by
 rw [h.2.2.2.1, List.take_length]
theorem first_ex {α : Type} (p : α → Bool) (z : α) (xs : List α) : (∀ j : Nat, j < xs.length → p (xs.getD j z) = false) ∨ ∃ k0 : Nat, k0 < xs.length ∧ p (xs.getD k0 z) = true ∧ ∀ j : Nat, j < k0 → p (xs.getD j z) = false := by
 have key : ∀ n, n ≤ xs.length → (∀ j : Nat, j < n → p (xs.getD j z) = false) ∨ ∃ k0 : Nat, k0 < n ∧ p (xs.getD k0 z) = true ∧ ∀ j : Nat, j < k0 → p (xs.getD j z) = false := by
  intro n
  induction n with
  | zero => exact fun _ => .inl fun j hj => absurd hj (Nat.not_lt_zero _)
  | succ n ih =>
   intro hn
   rcases ih (by omega) with h | ⟨k0, a, b, c⟩
   ·cases hq : p (xs.getD n z) with
    | true => exact .inr ⟨n, by omega, hq, h⟩
    | false =>
     refine .inl fun j hj => ?_
     by_cases e : j = n
     ·rw [e]; exact hq
     ·exact h j (by omega)
   ·exact .inr ⟨k0, by omega, b, c⟩
 exact key _ (Nat.le_refl _)
theorem gb_below {w W W2 : World} {r : Option Nat} (h : w.grownBy W r) (k : Below W.heap.size W W2) : w.grownBy W2 r :=
 have hg := grown_of_below k none
 ⟨hg.os.trans h.os, hg.tape.trans h.tape, hg.output.trans h.output, Nat.le_trans h.size hg.size, fun i hi hr => (hg.block i (Nat.lt_of_lt_of_le hi h.size) (by simp)).trans (h.block i hi hr)⟩
theorem gb_grown {w W W2 : World} {r : Option Nat} (h : w.grownBy W r) (hg : W.grownBy W2 r) : w.grownBy W2 r :=
 ⟨hg.os.trans h.os, hg.tape.trans h.tape, hg.output.trans h.output, Nat.le_trans h.size hg.size, fun i hi hr => (hg.block i (Nat.lt_of_lt_of_le hi h.size) hr).trans (h.block i hi hr)⟩
theorem gb_refl (w : World) (r : Option Nat) : w.grownBy w r := ⟨rfl, rfl, rfl, Nat.le_refl _, fun _ _ _ => rfl⟩
theorem R_block {α : Type} {d : Kd α} {e : Nat} {w : World} {base : Nat} {ok : Nat → Prop} {g n cap : Nat} {xs : List α} (h : d.R e w base ok (.slice (some ⟨g, 0, none⟩) n cap) xs) : ∃ cur, w.heap[g]? = some (.cells cur e (0, 0)) ∧ cur.size = cap * d.sz ∧ n ≤ cap ∧ n = xs.length := by
 obtain ⟨h0, inner, ⟨h1, h2⟩, hr⟩ := h
 rcases h2 with ⟨he, _⟩ | ⟨g', cap', cur, he, hb, hh, hnc, hcm, hcs, ht⟩
 ·cases he
 injection he with ha hn hc
 injection ha with ha
 injection ha with hg
 subst hg; subst hc; subst hn
 exact ⟨cur, hh, hcs, hnc, rfl⟩
set_option maxHeartbeats 8000000 in
set_option maxRecDepth 100000 in
theorem del134 (p : S51 → Bool) (lb : Array Value) (g n cap base : Nat) (xs : List S51) (w : World)
  (hp : ∀ (W : World) (x : S51), w.grownBy W (some g) → Calls Try.prog 135 (#[.agg #[.int .i64 x.f0, .int .i64 x.f1, .int .i64 x.f2, .int .i64 x.f3]] ++ lb) W fun e w' => e = .returned (.bool (p x)) ∧ Below W.heap.size W w')
  (HO : Kd.R k51 51 w base (fun _ => True) (.slice (some ⟨g, 0, none⟩) n cap) xs) (hl : xs.length < 1000000) :
  Calls Try.prog 134 #[.slice (some ⟨g, 0, none⟩) n cap, .func (.func 135) #[] lb] w fun e w' => ∃ v0_ : Value, e = .returned v0_ ∧ Kd.R k51 51 w' base (fun _ => True) v0_ (xs.filter fun x => !p x) ∧ w.grownBy w' (some g) := by
 have hu51 := Try.underlying51
 obtain ⟨hn, hnc, hC⟩ := Kd.R_reads' HO
 subst hn
 have hp' : ∀ (W : World) (x : S51), Below w.heap.size w W → Calls Try.prog 135 (#[.agg #[.int .i64 x.f0, .int .i64 x.f1, .int .i64 x.f2, .int .i64 x.f3]] ++ lb) W fun e w' => e = .returned (.bool (p x)) ∧ Below W.heap.size W w' := fun W x hb => hp W x (grown_of_below hb _)
 rcases first_ex p z51 xs with hall | ⟨k0, hk0, hk1, hk2⟩
 ·have hcall := aM (idx154 p lb (some ⟨g, 0, none⟩) cap xs w (-1) hp' hC hl (.inl ⟨rfl, hall⟩))
  have HO' := aM HO
  rw [strike_none (z := z51) hall]
  clear hp hp' HO hC
  go_enter Try.func134, Try.ntmps134
  go_wp2_with (go_at_call 154; refine hcall.out.mono ?_; rintro e w5 ⟨rfl, hb5⟩)
  go_ret
  exact ⟨_, rfl, Kd.R_below HO'.out hb5, grown_of_below hb5 _⟩
 ·have hcall := aM (idx154 p lb (some ⟨g, 0, none⟩) cap xs w (k0 : Int) hp' hC hl (.inr ⟨k0, rfl, hk0, hk1, hk2⟩))
  have HO' := aM HO
  have HP := aM hp
  have HS := aM (strike_start hk0 hk1 hk2)
  have hne : ((k0 : Int) == -1) = false := beq_eq_false_iff_ne.2 (by omega)
  clear hp hp' HO hC hk1 hk2
  go_enter Try.func134, Try.ntmps134
  go_wp2_with (go_at_call 154; refine hcall.out.mono ?_; rintro e w5 ⟨rfl, hb5⟩)
  go_loopg [5, 6, 7] xs.length (fun gg s5 s6 _ wr => ∃ (i j : Nat) (dk : List S51), s5 = .int .i64 i ∧ s6 = .int .i64 j ∧ j ≤ xs.length ∧ xs.length - j ≤ gg ∧ Aside0 (StrikeInv p xs i j dk) ∧ Aside0 (Kd.R k51 51 wr base (fun _ => True) (.slice (some ⟨g, 0, none⟩) xs.length cap) dk) ∧ Aside0 (w.grownBy wr (some g)))
  case atStart => exact ⟨k0, k0 + 1, xs, rfl, by go_num, by omega, by omega, HS, ⟨Kd.R_below HO'.out hb5⟩, ⟨grown_of_below hb5 _⟩⟩
  case round =>
   obtain ⟨i, j, dk, rfl, rfl, hjd, hgg, SI, RO, GB⟩ := hrel
   have hij := SI.out.1
   have hdl := SI.out.2.2.1
   by_cases hlt : j < xs.length
   ·have hltz : (j : Int) < (xs.length : Int) := by omega
    obtain ⟨x, hx⟩ : ∃ x, xs[j]? = some x := ⟨xs[j], List.getElem?_eq_getElem hlt⟩
    have hdx : dk.getD j z51 = x := by rw [List.getD_eq_getElem?_getD, SI.out.2.2.2.2 j (Nat.le_refl _), hx]; rfl
    obtain ⟨cj, hcjl, hcjM, hcj, hfj⟩ := Kd.R_elem RO.out z51 (j : Int) (by omega) (by omega)
    simp only [Int.toNat_natCast] at hcjM hcj hfj
    rw [hdx] at hcjM
    have ecj := k51_openM hcjM
    have cj0 : wr.cell? ⟨g, j * 4, none⟩ = some (.int .i64 x.f0) := hcj 0 _ (by rw [ecj]; rfl)
    have cj1 : wr.cell? ⟨g, j * 4 + 1, none⟩ = some (.int .i64 x.f1) := hcj 1 _ (by rw [ecj]; rfl)
    have cj2 : wr.cell? ⟨g, j * 4 + 2, none⟩ = some (.int .i64 x.f2) := hcj 2 _ (by rw [ecj]; rfl)
    have cj3 : wr.cell? ⟨g, j * 4 + 3, none⟩ = some (.int .i64 x.f3) := hcj 3 _ (by rw [ecj]; rfl)
    have HX := aM hx
    clear hcjM hcj hfj hdx ecj hcjl hx
    go_wp2_with (first | (refine bE 7 #[.int .i64 0, .int .i64 0, .int .i64 0, .int .i64 0] 51 ?_; intro gb hgb w11 hbox hb; have hz0 : w11.cell? ⟨gb, 0, none⟩ = some (.int .i64 0) := (blk_cell hbox 0).trans rfl; have hf0 := blk_frozen hbox 0; have hz1 : w11.cell? ⟨gb, 1, none⟩ = some (.int .i64 0) := (blk_cell hbox 1).trans rfl; have hf1 := blk_frozen hbox 1; have hz2 : w11.cell? ⟨gb, 2, none⟩ = some (.int .i64 0) := (blk_cell hbox 2).trans rfl; have hf2 := blk_frozen hbox 2; have hz3 : w11.cell? ⟨gb, 3, none⟩ = some (.int .i64 0) := (blk_cell hbox 3).trans rfl; have hf3 := blk_frozen hbox 3; have hge := aM (show wr.heap.size ≤ gb from Nat.le_of_eq hgb.symm); have HBX := aM hbox; have HB11 := aM hb; clear hgb hbox hb))
    have HBs : Below wr.heap.size wr ((((w11.setCell ⟨gb, 0, none⟩ (.int .i64 x.f0)).setCell ⟨gb, 1, none⟩ (.int .i64 x.f1)).setCell ⟨gb, 2, none⟩ (.int .i64 x.f2)).setCell ⟨gb, 3, none⟩ (.int .i64 x.f3)) := below_set (below_set (below_set (below_set HB11.out hge.out) hge.out) hge.out) hge.out
    have BKs : ((((w11.setCell ⟨gb, 0, none⟩ (.int .i64 x.f0)).setCell ⟨gb, 1, none⟩ (.int .i64 x.f1)).setCell ⟨gb, 2, none⟩ (.int .i64 x.f2)).setCell ⟨gb, 3, none⟩ (.int .i64 x.f3)).heap[gb]? = some (.cells #[.int .i64 x.f0, .int .i64 x.f1, .int .i64 x.f2, .int .i64 x.f3] 51) := by simpa using blk_set (blk_set (blk_set (blk_set HBX.out 0 (.int .i64 x.f0)) 1 (.int .i64 x.f1)) 2 (.int .i64 x.f2)) 3 (.int .i64 x.f3)
    generalize ((((w11.setCell ⟨gb, 0, none⟩ (.int .i64 x.f0)).setCell ⟨gb, 1, none⟩ (.int .i64 x.f1)).setCell ⟨gb, 2, none⟩ (.int .i64 x.f2)).setCell ⟨gb, 3, none⟩ (.int .i64 x.f3)) = w12 at HBs BKs ⊢
    have hcl := HP.out w12 x (gb_below GB.out HBs)
    clear hz0 hz1 hz2 hz3 hf0 hf1 hf2 hf3 HBX HB11
    cases hq : p x with
    | false =>
     rw [hq] at hcl
     refine hcl.mono ?_
     rintro e w13 ⟨rfl, hb13⟩
     have B13 : Below wr.heap.size wr w13 := below_step HBs hb13
     have RO13 := aM (Kd.R_below RO.out B13)
     have GB13 := aM (gb_below GB.out B13)
     have BK13 := blk_below BKs hb13
     have hz0 : w13.cell? ⟨gb, 0, none⟩ = some (.int .i64 x.f0) := (blk_cell BK13 0).trans rfl
     have hz1 : w13.cell? ⟨gb, 1, none⟩ = some (.int .i64 x.f1) := (blk_cell BK13 1).trans rfl
     have hz2 : w13.cell? ⟨gb, 2, none⟩ = some (.int .i64 x.f2) := (blk_cell BK13 2).trans rfl
     have hz3 : w13.cell? ⟨gb, 3, none⟩ = some (.int .i64 x.f3) := (blk_cell BK13 3).trans rfl
     have hil : i < xs.length := by omega
     have hilz : (i : Int) < (xs.length : Int) := by omega
     obtain ⟨ci, hcil, hciM, hci, hfi⟩ := Kd.R_elem RO13.out z51 (i : Int) (by omega) (by omega)
     simp only [Int.toNat_natCast] at hciM hci hfi
     have eci := k51_openM hciM
     have ci0 : w13.cell? ⟨g, i * 4, none⟩ = some (.int .i64 (dk.getD i z51).f0) := hci 0 _ (by rw [eci]; rfl)
     have fi0 : w13.frozen? ⟨g, i * 4, none⟩ = false := hfi 0
     have ci1 : w13.cell? ⟨g, i * 4 + 1, none⟩ = some (.int .i64 (dk.getD i z51).f1) := hci 1 _ (by rw [eci]; rfl)
     have fi1 : w13.frozen? ⟨g, i * 4 + 1, none⟩ = false := hfi 1
     have ci2 : w13.cell? ⟨g, i * 4 + 2, none⟩ = some (.int .i64 (dk.getD i z51).f2) := hci 2 _ (by rw [eci]; rfl)
     have fi2 : w13.frozen? ⟨g, i * 4 + 2, none⟩ = false := hfi 2
     have ci3 : w13.cell? ⟨g, i * 4 + 3, none⟩ = some (.int .i64 (dk.getD i z51).f3) := hci 3 _ (by rw [eci]; rfl)
     have fi3 : w13.frozen? ⟨g, i * 4 + 3, none⟩ = false := hfi 3
     obtain ⟨RO14, hg14⟩ := Kd.R_seg (okp := fun _ => False) (j := 0) (seg := [.int .i64 x.f0, .int .i64 x.f1, .int .i64 x.f2, .int .i64 x.f3]) (x' := x) RO13.out (i : Int) (by omega) (by omega) hcil (by simpa using hci) (Nat.le_refl 4) (by simpa [eci] using k51_mkM w13 base (fun _ => False) x) (fun _ h => h.elim)
     have GB14 := aM (gb_grown GB13.out hg14)
     have RO14 := aM RO14
     clear hb13 BKs HBs hcl B13 BK13 hcil hciM hci hfi cj0 cj1 cj2 cj3 hge eci hg14
     go_wp2
     go_roundg (xs.length - (j + 1))
     case measure => omega
     case rel => exact ⟨i + 1, j + 1, dk.set i x, by go_num, by go_num, by omega, Nat.le_refl _, ⟨strike_keep SI.out hlt HX.out hq⟩, RO14, GB14⟩
    | true =>
     rw [hq] at hcl
     refine hcl.mono ?_
     rintro e w13 ⟨rfl, hb13⟩
     have B13 := aM (below_step HBs hb13)
     clear hb13 BKs HBs hcl cj0 cj1 cj2 cj3 hge
     go_wp2
     go_roundg (xs.length - (j + 1))
     case measure => omega
     case rel => exact ⟨i, j + 1, dk, rfl, by go_num, by omega, Nat.le_refl _, ⟨strike_skip SI.out hlt HX.out hq⟩, ⟨Kd.R_below RO.out B13.out⟩, ⟨gb_below GB.out B13.out⟩⟩
   ·obtain rfl : j = xs.length := by omega
    have hltz : ¬ (xs.length : Int) < (xs.length : Int) := by omega
    have hin : i < xs.length := by omega
    have hcapi : i ≤ cap := by omega
    have hiz : (i : Int) ≤ (xs.length : Int) := by omega
    obtain ⟨cur, hcur, hcsz, -, -⟩ := R_block RO.out
    have hfit : i * 4 + (xs.length - i) * 4 ≤ cur.size := by rw [hcsz]; show _ ≤ cap * 4; omega
    have hcl := fun ty => run_clear_row wr 30 51 ty (.agg #[.int .i64 0, .int .i64 0, .int .i64 0, .int .i64 0]) Try.underlying30 Try.zeroValue51 g (i * 4) (xs.length - i) (cap - i) (by omega) cur hcur hfit (by decide)
    have hlen : (Builtin.zeroCells (Value.agg #[.int .i64 0, .int .i64 0, .int .i64 0, .int .i64 0]).cells (xs.length - i)).toList.length = (xs.length - i) * 4 := by simp [Builtin.zeroCells, Value.cells]
    obtain ⟨RT, GT⟩ := R_tail (Kd.R_take RO.out (m := i) (by omega)) (Builtin.zeroCells (Value.agg #[.int .i64 0, .int .i64 0, .int .i64 0, .int .i64 0]).cells (xs.length - i)).toList (o := i * 4) (Nat.le_refl _) (by rw [hlen]; show _ ≤ cap * 4; omega) (by decide)
    generalize wr.setCells g (i * 4) (Builtin.zeroCells (Value.agg #[.int .i64 0, .int .i64 0, .int .i64 0, .int .i64 0]).cells (xs.length - i)).toList = wz at hcl RT GT
    have RT := aM RT
    have GT := aM (gb_grown GB.out GT)
    clear hcur hcsz hfit hlen
    go_wp2
    go_ret
    exact ⟨_, rfl, by rw [← strike_end SI.out]; exact RT.out, GT.out⟩
def impl_latticeMats.f (k : Nat) (a0 : Int) (a1_0 : Int) (a1_1 : Int) (a1_2 : Int) : Option ((List (S51))) := (impl_pointMats.f k a0).bind fun ys => if (a1_0 ≠ 0 ∧ a1_2 ≠ 0) ∧ ys.length < 1000000 ∧ 0 < ys.length then some (ys.filter fun m => !((impl_latticeMats_1.f m.f0 m.f1 m.f2 m.f3 a1_0 a1_1 a1_2 a1_0 0 a1_1 a1_2).getD false)) else none
theorem R_shape {α : Type} {d : Kd α} {e : Nat} {w : World} {base : Nat} {ok : Nat → Prop} {v : Value} {xs : List α} (h : d.R e w base ok v xs) (hp : 0 < xs.length) : ∃ g cap, v = .slice (some ⟨g, 0, none⟩) xs.length cap ∧ base ≤ g := by
 obtain ⟨h0, inner, ⟨h1, h2⟩, hr⟩ := h
 rcases h2 with ⟨he, hz⟩ | ⟨g, cap, cur, he, hb, _⟩
 ·omega
 ·exact ⟨g, cap, he, hb⟩
theorem lat_has_some {a b c : Int} (ha : a ≠ 0) (hc : c ≠ 0) (x y : Int) : ∃ r, impl_Lattice_has.f a b c x y = some r := by
 unfold impl_Lattice_has.f impl_Lattice_reduce.f impl_mod.f
 simp only [if_neg ha, if_neg hc, Option.bind_some]
 exact ⟨_, rfl⟩
theorem lat_cl_some {a b c : Int} (ha : a ≠ 0) (hc : c ≠ 0) (m0 m1 m2 m3 u0 u1 v0 v1 : Int) : ∃ r, impl_latticeMats_1.f m0 m1 m2 m3 a b c u0 u1 v0 v1 = some r := by
 unfold impl_latticeMats_1.f impl_Mat_apply.f
 simp only [Option.bind_some]
 obtain ⟨r1, e1⟩ := lat_has_some (b := b) ha hc (wrap64 ((wrap64 (m0 * u0)) + (wrap64 (m1 * u1)))) (wrap64 ((wrap64 (m2 * u0)) + (wrap64 (m3 * u1))))
 obtain ⟨r2, e2⟩ := lat_has_some (b := b) ha hc (wrap64 ((wrap64 (m0 * v0)) + (wrap64 (m1 * v1)))) (wrap64 ((wrap64 (m2 * v0)) + (wrap64 (m3 * v1))))
 rw [e1, e2]
 simp only [Option.bind_some]
 split <;> exact ⟨_, rfl⟩
set_option maxHeartbeats 8000000 in
set_option maxRecDepth 100000 in
theorem impl_latticeMats.calls (k : Nat) (a0 : Int) (a1_0 : Int) (a1_1 : Int) (a1_2 : Int) (r : List (S51)) (w : World) (h : impl_latticeMats.f k a0 a1_0 a1_1 a1_2 = some r) :
  Calls Try.prog 81 #[.int .i64 a0, .agg #[.int .i64 a1_0, .int .i64 a1_1, .int .i64 a1_2]] w fun e w' => ∃ v0_ : Value, e = .returned (v0_) ∧ Kd.R k51 51 w' w.heap.size (fun _ => True) v0_ r ∧ Below w.heap.size w w' := by
 have hmf : ∀ (fn : Fn) (first cap : Array Value) (w : World), (Instr.makeFunc fn first cap).run Try.prog w = .ok (.func fn first cap) w := fun _ _ _ _ => rfl
 have hu33 := Try.underlying33
 have hu47 := Try.underlying47
 obtain ⟨ys, hys, h⟩ := Option.bind_eq_some_iff.mp h
 obtain ⟨⟨ha, hc⟩, hl, hpos⟩ : (a1_0 ≠ 0 ∧ a1_2 ≠ 0) ∧ ys.length < 1000000 ∧ 0 < ys.length := by
  by_cases q : (a1_0 ≠ 0 ∧ a1_2 ≠ 0) ∧ ys.length < 1000000 ∧ 0 < ys.length
  ·exact q
  ·rw [if_neg q] at h; cases h
 rw [if_pos ⟨⟨ha, hc⟩, hl, hpos⟩] at h
 have HR := aM (Option.some.inj h)
 have HA := aM (And.intro ha hc)
 have hbas : impl_Lattice_basis.f a1_0 a1_1 a1_2 = some (a1_0, 0, a1_1, a1_2) := rfl
 clear h ha hc
 go_enter Try.func81, Try.ntmps81
 go_wp2_with (first | (refine bE 3 #[.int .i64 a1_0, .int .i64 a1_1, .int .i64 a1_2] 33 ?_; intro gL hg w3 hbox hb; have BL := aM hbox; have HB := aM hb; clear hg hbox hb; have cL0 : w3.cell? ⟨gL, 0, none⟩ = some (.int .i64 a1_0) := (blk_cell BL.out 0).trans rfl; have cL1 : w3.cell? ⟨gL, 1, none⟩ = some (.int .i64 a1_1) := (blk_cell BL.out 1).trans rfl; have cL2 : w3.cell? ⟨gL, 2, none⟩ = some (.int .i64 a1_2) := (blk_cell BL.out 2).trans rfl) | (go_at_call 118; (with_reducible refine (impl_Lattice_basis.calls a1_0 a1_1 a1_2 a1_0 0 a1_1 a1_2 _ hbas).mono ?_); rintro e w4 ⟨rfl, hb⟩; have BL4 := aM (blk_below BL.out hb); have HB4 := aM (below_step HB.out hb); clear hb) | (refine bE 5 #[.int .i64 0, .int .i64 0] 47 ?_; intro gU hg w5 hbox hb; have BU5 := aM hbox; have BL5 := aM (blk_below BL4.out hb); have HB5 := aM (below_step HB4.out hb); have gU5 := aM (show w4.heap.size ≤ gU from Nat.le_of_eq hg.symm); clear hg hbox hb) | (refine bE 6 #[.int .i64 0, .int .i64 0] 47 ?_; intro gV hg w6 hbox hb; have BV6 := aM hbox; have BU6 := aM (blk_below BU5.out hb); have BL6 := aM (blk_below BL5.out hb); have HB6 := aM (below_step HB5.out hb); have gV6 := aM (show w5.heap.size ≤ gV from Nat.le_of_eq hg.symm); clear hg hbox hb; have cu0 : w6.cell? ⟨gU, 0, none⟩ = some (.int .i64 0) := (blk_cell BU6.out 0).trans rfl; have cu1 : w6.cell? ⟨gU, 1, none⟩ = some (.int .i64 0) := (blk_cell BU6.out 1).trans rfl; have fu0 := blk_frozen BU6.out 0; have fu1 := blk_frozen BU6.out 1; have cv0 : w6.cell? ⟨gV, 0, none⟩ = some (.int .i64 0) := (blk_cell BV6.out 0).trans rfl; have cv1 : w6.cell? ⟨gV, 1, none⟩ = some (.int .i64 0) := (blk_cell BV6.out 1).trans rfl; have fv0 := blk_frozen BV6.out 0; have fv1 := blk_frozen BV6.out 1; have nUV : gU ≠ gV := (by have := blk_lt BU5.out; have := gV6.out; omega); have nVU := nUV.symm))
 have nLU : gL ≠ gU := by have := blk_lt BL4.out; have := gU5.out; omega
 have nLV : gL ≠ gV := by have := blk_lt BL5.out; have := gV6.out; omega
 have lU : w.heap.size ≤ gU := by have := HB4.out.size; have := gU5.out; omega
 have lV : w.heap.size ≤ gV := by have := HB5.out.size; have := gV6.out; omega
 have BL7 : ((((w6.setCell ⟨gU, 0, none⟩ (.int .i64 a1_0)).setCell ⟨gU, 1, none⟩ (.int .i64 0)).setCell ⟨gV, 0, none⟩ (.int .i64 a1_1)).setCell ⟨gV, 1, none⟩ (.int .i64 a1_2)).heap[gL]? = some (.cells #[.int .i64 a1_0, .int .i64 a1_1, .int .i64 a1_2] 33 (0, 0)) := blk_far (blk_far (blk_far (blk_far BL6.out nLU _) nLU _) nLV _) nLV _
 have BU7 : ((((w6.setCell ⟨gU, 0, none⟩ (.int .i64 a1_0)).setCell ⟨gU, 1, none⟩ (.int .i64 0)).setCell ⟨gV, 0, none⟩ (.int .i64 a1_1)).setCell ⟨gV, 1, none⟩ (.int .i64 a1_2)).heap[gU]? = some (.cells #[.int .i64 a1_0, .int .i64 0] 47 (0, 0)) := blk_far (blk_far (by simpa using blk_set (blk_set BU6.out 0 (.int .i64 a1_0)) 1 (.int .i64 0)) nUV _) nUV _
 have BV7 : ((((w6.setCell ⟨gU, 0, none⟩ (.int .i64 a1_0)).setCell ⟨gU, 1, none⟩ (.int .i64 0)).setCell ⟨gV, 0, none⟩ (.int .i64 a1_1)).setCell ⟨gV, 1, none⟩ (.int .i64 a1_2)).heap[gV]? = some (.cells #[.int .i64 a1_1, .int .i64 a1_2] 47 (0, 0)) := by simpa using blk_set (blk_set (blk_far (blk_far BV6.out nVU (.int .i64 a1_0) (p := ⟨gU, 0, none⟩)) nVU (.int .i64 0) (p := ⟨gU, 1, none⟩)) 0 (.int .i64 a1_1)) 1 (.int .i64 a1_2)
 have HB7 : Below w.heap.size w ((((w6.setCell ⟨gU, 0, none⟩ (.int .i64 a1_0)).setCell ⟨gU, 1, none⟩ (.int .i64 0)).setCell ⟨gV, 0, none⟩ (.int .i64 a1_1)).setCell ⟨gV, 1, none⟩ (.int .i64 a1_2)) := below_set (below_set (below_set (below_set HB6.out lU) lU) lV) lV
 generalize ((((w6.setCell ⟨gU, 0, none⟩ (.int .i64 a1_0)).setCell ⟨gU, 1, none⟩ (.int .i64 0)).setCell ⟨gV, 0, none⟩ (.int .i64 a1_1)).setCell ⟨gV, 1, none⟩ (.int .i64 a1_2)) = w7 at BL7 BU7 BV7 HB7 ⊢
 refine (impl_pointMats.calls k a0 ys _ hys).mono ?_
 rintro e w8 ⟨v8, rfl, hR8, hb8⟩
 obtain ⟨g, cap, rfl, hgb⟩ := R_shape hR8 hpos
 have BL8 := blk_below BL7 hb8
 have BU8 := blk_below BU7 hb8
 have BV8 := blk_below BV7 hb8
 have mL : gL ≠ g := by have := blk_lt BL7; omega
 have mU : gU ≠ g := by have := blk_lt BU7; omega
 have mV : gV ≠ g := by have := blk_lt BV7; omega
 have HD := aM (del134 (fun m => (impl_latticeMats_1.f m.f0 m.f1 m.f2 m.f3 a1_0 a1_1 a1_2 a1_0 0 a1_1 a1_2).getD false) #[.pointer (some ⟨gL, 0, none⟩), .pointer (some ⟨gU, 0, none⟩), .pointer (some ⟨gV, 0, none⟩)] g ys.length cap w7.heap.size ys w8 (fun W x hW => by
  have q0 := blk_grown BL8 hW (by intro he; injection he with he; exact mL he)
  have q1 := blk_grown BU8 hW (by intro he; injection he with he; exact mU he)
  have q2 := blk_grown BV8 hW (by intro he; injection he with he; exact mV he)
  obtain ⟨r, er⟩ := lat_cl_some (b := a1_1) HA.out.1 HA.out.2 x.f0 x.f1 x.f2 x.f3 a1_0 0 a1_1 a1_2
  rw [er]
  exact impl_latticeMats_1.calls x.f0 x.f1 x.f2 x.f3 a1_0 a1_1 a1_2 a1_0 0 a1_1 a1_2 r gL gU gV W q0 q1 q2 er) hR8 hl)
 have B8 := aM hb8
 have H7 := aM HB7
 clear BL4 BL5 BL6 BU5 BU6 BV6 BL7 BU7 BV7 BL8 BU8 BV8 hR8 hb8 HB7 cu0 cu1 cv0 cv1 fu0 fu1 fv0 fv1 nUV nVU nLU nLV lU lV mL mU mV
 go_wp2_with (go_at_call 134; refine HD.out.mono ?_; rintro e w9 ⟨v9, rfl, hR9, hg9⟩; have R9 := aM hR9; have G9 := aM hg9; clear hR9 hg9)
 go_ret
 have hg9 := G9.out
 have B9 : Below w7.heap.size w7 w9 := ⟨hg9.os.trans B8.out.os, hg9.tape.trans B8.out.tape, hg9.output.trans B8.out.output, Nat.le_trans B8.out.size hg9.size, fun i hi => (hg9.block i (Nat.lt_of_lt_of_le hi B8.out.size) (by intro he; injection he with he; omega)).trans (B8.out.block i hi)⟩
 exact ⟨_, rfl, by rw [← HR.out]; exact Kd.R_lower R9.out H7.out.size, below_step H7.out B9⟩

end Go.Proofs.Ytcjchihnopmplaa.F

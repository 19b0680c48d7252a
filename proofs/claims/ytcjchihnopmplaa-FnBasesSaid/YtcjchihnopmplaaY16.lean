import Derived.Test.YtcjchihnopmplaaY0
import Derived.Test.YtcjchihnopmplaaY3
import Derived.Test.YtcjchihnopmplaaY7
import Derived.Test.YtcjchihnopmplaaY10
import Derived.Test.YtcjchihnopmplaaY15
namespace Go.Proofs.Ytcjchihnopmplaa.F
open Go.RowKit Go.Proofs.YtcjchihnopmplaaW.PrintWords Go.Proofs.YtcjchihnopmplaaW.PrintLast Go.Proofs.YtcjchihnopmplaaW.PrintMore
attribute [local go_sem] max2_int min2_int max_two min_two max_three min_three max_four min_four   -- for this text's walks alone
set_option linter.unusedVariables false
set_option linter.unusedSimpArgs false
attribute [local go_sem high] eqA47

def impl_ReducedBasis.f (k : Nat) (a0 : Int) (a1_0 : Int) (a1_1 : Int) (a1_2 : Int) : Option (Int × Int × Int × Int × Int) := (impl_frameCode.f a0 a1_0 a1_1 a1_2).bind fun t769 => (if t769 = 0 then ((impl_reducedBasis.f k a0 a1_0 a1_1 a1_2).bind fun bt770 => (some (bt770.1, bt770.2.1, bt770.2.2.1, bt770.2.2.2, 0))) else (some (0, 0, 0, 0, t769)))
set_option maxHeartbeats 8000000 in
set_option maxRecDepth 100000 in
theorem impl_ReducedBasis.calls (k : Nat) (a0 : Int) (a1_0 : Int) (a1_1 : Int) (a1_2 : Int) (r1 : Int) (r2 : Int) (r3 : Int) (r4 : Int) (r5 : Int) (w : World) (h : impl_ReducedBasis.f k a0 a1_0 a1_1 a1_2 = some (r1, r2, r3, r4, r5)) :
  Calls Try.prog 65 #[.int .i64 a0, .agg #[.int .i64 a1_0, .int .i64 a1_1, .int .i64 a1_2]] w fun e w' => e = .returned (.tuple #[.agg #[.int .i64 r1, .int .i64 r2], .agg #[.int .i64 r3, .int .i64 r4], .int .i64 r5]) ∧ Below w.heap.size w w' := by
 have hu33 := Try.underlying33
 have hu47 := Try.underlying47
 have HB := aM (Below.refl w.heap.size w)
 have H : ((impl_frameCode.f a0 a1_0 a1_1 a1_2).bind fun t769 => (if t769 = 0 then ((impl_reducedBasis.f k a0 a1_0 a1_1 a1_2).bind fun bt770 => (some (bt770.1, bt770.2.1, bt770.2.2.1, bt770.2.2.2, 0))) else (some (0, 0, 0, 0, t769)))) = some (r1, r2, r3, r4, r5) := h
 clear h
 obtain ⟨t769, A3, H⟩ := oB H
 try dsimp only at H
 by_cases c4 : t769 = 0
 ·rw [if_pos c4] at H
  have c4b0 : (t769 == 0) = true := beq_iff_eq.mpr c4
  have c4b1 : (t769 != 0) = false := bne_eq_false_iff_eq.mpr c4
  clear c4
  obtain ⟨⟨t770, t771, t772, t773⟩, A5, H⟩ := oB H
  try dsimp only at H
  simp only [Option.some.injEq, Prod.mk.injEq] at H
  obtain ⟨rfl, rfl, rfl, rfl, rfl⟩ := H
  go_enter Try.func65, Try.ntmps65
  try go_wp2_with (first | (refine bE 3 #[.int .i64 a1_0, .int .i64 a1_1, .int .i64 a1_2] 33 ?_; intro gb766 hg w6 hbox hb; have BK766 := aM hbox; have GW766 := bZ hg HB; have GE766 := bZ hg HB; replace HB := bS HB hb; clear hb hbox hg) | (refine bE 4 #[.int .i64 0, .int .i64 0] 47 ?_; intro gb767 hg w7 hbox hb; have BK767 := aM hbox; have GW767 := bZ hg HB; have GE767 := bZ hg HB; have NB766_767 := nL hg BK766; have NB767_766 := nG hg BK766; replace BK766 := bB BK766 hb; replace HB := bS HB hb; clear hb hbox hg) | (refine bE 5 #[.int .i64 0, .int .i64 0] 47 ?_; intro gb768 hg w8 hbox hb; have BK768 := aM hbox; have GW768 := bZ hg HB; have GE768 := bZ hg HB; have NB766_768 := nL hg BK766; have NB768_766 := nG hg BK766; have NB767_768 := nL hg BK767; have NB768_767 := nG hg BK767; replace BK766 := bB BK766 hb; replace BK767 := bB BK767 hb; replace HB := bS HB hb; clear hb hbox hg; have hnb9 := NB766_767.out; have hnc9 := NB767_766.out; have hnb10 := NB766_768.out; have hnc10 := NB768_766.out; obtain ⟨hcz11_0, hcz11_1, hcz11_2⟩ := z3 BK766; obtain ⟨hfz11_0, hfz11_1, hfz11_2⟩ := y3 BK766) | (refine gC 80 ?_; refine gM 12 (impl_frameCode.calls a0 a1_0 a1_1 a1_2 t769 _ A3.out) Try.func80 ?_; rintro w12 hb; replace BK766 := bB BK766 hb; replace BK767 := bB BK767 hb; replace BK768 := bB BK768 hb; replace HB := bS HB hb; (try clear hb); obtain ⟨hcz13_0, hcz13_1, hcz13_2⟩ := z3 BK766; obtain ⟨hfz13_0, hfz13_1, hfz13_2⟩ := y3 BK766) | (refine gC 125 ?_; refine gM 21 (impl_reducedBasis.calls k a0 a1_0 a1_1 a1_2 t770 t771 t772 t773 _ A5.out) Try.func125 ?_; rintro w14 hb; replace BK766 := bB BK766 hb; replace BK767 := bB BK767 hb; replace BK768 := bB BK768 hb; replace HB := bS HB hb; (try clear hb)) | (refine bE 8 #[.int .i64 0, .int .i64 0] 47 ?_; intro gb774 hg w15 hbox hb; have BK774 := aM hbox; have GW774 := bZ hg HB; have GE774 := bZ hg HB; have NB766_774 := nL hg BK766; have NB774_766 := nG hg BK766; have NB767_774 := nL hg BK767; have NB774_767 := nG hg BK767; have NB768_774 := nL hg BK768; have NB774_768 := nG hg BK768; replace BK766 := bB BK766 hb; replace BK767 := bB BK767 hb; replace BK768 := bB BK768 hb; replace HB := bS HB hb; clear hb hbox hg) | (refine bE 9 #[.int .i64 0, .int .i64 0] 47 ?_; intro gb775 hg w16 hbox hb; have BK775 := aM hbox; have GW775 := bZ hg HB; have GE775 := bZ hg HB; have NB766_775 := nL hg BK766; have NB775_766 := nG hg BK766; have NB767_775 := nL hg BK767; have NB775_767 := nG hg BK767; have NB768_775 := nL hg BK768; have NB775_768 := nG hg BK768; have NB774_775 := nL hg BK774; have NB775_774 := nG hg BK774; replace BK766 := bB BK766 hb; replace BK767 := bB BK767 hb; replace BK768 := bB BK768 hb; replace BK774 := bB BK774 hb; replace HB := bS HB hb; clear hb hbox hg; have hnb17 := NB774_766.out; have hnc17 := NB766_774.out; have hnb18 := NB774_767.out; have hnc18 := NB767_774.out; have hnb19 := NB774_768.out; have hnc19 := NB768_774.out; have hnb20 := NB774_775.out; have hnc20 := NB775_774.out; obtain ⟨hcz21_0, hcz21_1⟩ := z2 BK774; obtain ⟨hfz21_0, hfz21_1⟩ := y2 BK774; have hnb22 := NB775_766.out; have hnc22 := NB766_775.out; have hnb23 := NB775_767.out; have hnc23 := NB767_775.out; have hnb24 := NB775_768.out; have hnc24 := NB768_775.out; obtain ⟨hcz25_0, hcz25_1⟩ := z2 BK775; obtain ⟨hfz25_0, hfz25_1⟩ := y2 BK775))
  have n0_ : Aside0 (((((w16.setCell ⟨gb774, 0, none⟩ (.int .i64 t770)).setCell ⟨gb774, 1, none⟩ (.int .i64 t771)).setCell ⟨gb775, 0, none⟩ (.int .i64 t772)).setCell ⟨gb775, 1, none⟩ (.int .i64 t773)).heap[gb766]? = some (.cells #[.int .i64 a1_0, .int .i64 a1_1, .int .i64 a1_2] 33 (0, 0))) := ⟨by (repeat (first|(with_reducible first|apply kN|apply kD|apply kA)|refine blk_far ?_ NB766_775.out _|refine blk_far ?_ NB766_774.out _)); exact BK766.out⟩
  have n1_ : Aside0 (((((w16.setCell ⟨gb774, 0, none⟩ (.int .i64 t770)).setCell ⟨gb774, 1, none⟩ (.int .i64 t771)).setCell ⟨gb775, 0, none⟩ (.int .i64 t772)).setCell ⟨gb775, 1, none⟩ (.int .i64 t773)).heap[gb767]? = some (.cells #[.int .i64 0, .int .i64 0] 47 (0, 0))) := ⟨by (repeat (first|(with_reducible first|apply kN|apply kD|apply kA)|refine blk_far ?_ NB767_775.out _|refine blk_far ?_ NB767_774.out _)); exact BK767.out⟩
  have n2_ : Aside0 (((((w16.setCell ⟨gb774, 0, none⟩ (.int .i64 t770)).setCell ⟨gb774, 1, none⟩ (.int .i64 t771)).setCell ⟨gb775, 0, none⟩ (.int .i64 t772)).setCell ⟨gb775, 1, none⟩ (.int .i64 t773)).heap[gb768]? = some (.cells #[.int .i64 0, .int .i64 0] 47 (0, 0))) := ⟨by (repeat (first|(with_reducible first|apply kN|apply kD|apply kA)|refine blk_far ?_ NB768_775.out _|refine blk_far ?_ NB768_774.out _)); exact BK768.out⟩
  have n3_ : Aside0 (((((w16.setCell ⟨gb774, 0, none⟩ (.int .i64 t770)).setCell ⟨gb774, 1, none⟩ (.int .i64 t771)).setCell ⟨gb775, 0, none⟩ (.int .i64 t772)).setCell ⟨gb775, 1, none⟩ (.int .i64 t773)).heap[gb774]? = some (.cells #[.int .i64 t770, .int .i64 t771] 47 (0, 0))) := ⟨by (repeat (first|(with_reducible first|apply kN|apply kD|apply kA)|refine blk_far ?_ NB774_775.out _)); refine blk_put (cs := #[.int .i64 t770, .int .i64 0]) ?_ 1 _ rfl; (with_reducible repeat (first|apply kN|apply kD|apply kA)); refine blk_put (cs := #[.int .i64 0, .int .i64 0]) ?_ 0 _ rfl; (with_reducible repeat (first|apply kN|apply kD|apply kA)); exact BK774.out⟩
  have n4_ : Aside0 (((((w16.setCell ⟨gb774, 0, none⟩ (.int .i64 t770)).setCell ⟨gb774, 1, none⟩ (.int .i64 t771)).setCell ⟨gb775, 0, none⟩ (.int .i64 t772)).setCell ⟨gb775, 1, none⟩ (.int .i64 t773)).heap[gb775]? = some (.cells #[.int .i64 t772, .int .i64 t773] 47 (0, 0))) := ⟨by (with_reducible repeat (first|apply kN|apply kD|apply kA)); refine blk_put (cs := #[.int .i64 t772, .int .i64 0]) ?_ 1 _ rfl; (with_reducible repeat (first|apply kN|apply kD|apply kA)); refine blk_put (cs := #[.int .i64 0, .int .i64 0]) ?_ 0 _ rfl; (repeat (first|(with_reducible first|apply kN|apply kD|apply kA)|refine blk_far ?_ NB775_774.out _)); exact BK775.out⟩
  have n5_ : Aside0 (Below w.heap.size w ((((w16.setCell ⟨gb774, 0, none⟩ (.int .i64 t770)).setCell ⟨gb774, 1, none⟩ (.int .i64 t771)).setCell ⟨gb775, 0, none⟩ (.int .i64 t772)).setCell ⟨gb775, 1, none⟩ (.int .i64 t773))) := ⟨qB⟩
  (try clear BK766)
  (try clear BK767)
  (try clear BK768)
  (try clear BK774)
  (try clear BK775)
  (try clear HB)
  generalize ((((w16.setCell ⟨gb774, 0, none⟩ (.int .i64 t770)).setCell ⟨gb774, 1, none⟩ (.int .i64 t771)).setCell ⟨gb775, 0, none⟩ (.int .i64 t772)).setCell ⟨gb775, 1, none⟩ (.int .i64 t773)) = w26 at n0_ n1_ n2_ n3_ n4_ n5_ ⊢
  have BK766 := n0_
  have BK767 := n1_
  have BK768 := n2_
  have BK774 := n3_
  have BK775 := n4_
  have HB := n5_
  clear n0_ n1_ n2_ n3_ n4_ n5_
  replace BK766 := aM (blk_drew BK766.out)
  replace BK767 := aM (blk_drew BK767.out)
  replace BK768 := aM (blk_drew BK768.out)
  replace BK774 := aM (blk_drew BK774.out)
  replace BK775 := aM (blk_drew BK775.out)
  replace HB := aM (below_drew1 HB.out)
  refine sT (fun w' => w'.cell? ⟨gb774, 0, none⟩ = some (.int .i64 t770) ∧ w'.cell? ⟨gb774, 1, none⟩ = some (.int .i64 t771) ∧ w'.cell? ⟨gb775, 0, none⟩ = some (.int .i64 t772) ∧ w'.cell? ⟨gb775, 1, none⟩ = some (.int .i64 t773)) [] ⟨cB BK774, cB BK774, cB BK775, cB BK775⟩ (fun hHeld => ?_)
  generalize w26.drew = w27 at BK766 BK767 BK768 BK774 BK775 HB hHeld ⊢
  refine take_ (i := 0) (N := some 24) (v := ?_) (a' := ?_) (bz 5 1) rfl rfl (by kernel_rfl) (fun _ _ _ h => h) (Or.inl ⟨by rfl, ?_⟩) hHeld ?_ ?_
  rotate_left
  ·rintro w' ⟨s0, s1, s2, s3⟩
   go_simp
   with_reducible rfl
  rotate_left
  ·simp only [Act.put, List.setIfInBounds_toArray, List.set_cons_zero, List.set_cons_succ, i64_w, i32_w]
   rfl
  refine take_ (i := 1) (N := some 25) (v := ?_) (a' := ?_) (bz 5 3) rfl rfl (by kernel_rfl) (fun _ _ _ h => h) (Or.inl ⟨by rfl, ?_⟩) hHeld ?_ ?_
  rotate_left
  ·rintro w' ⟨s0, s1, s2, s3⟩
   go_simp
   with_reducible rfl
  rotate_left
  ·simp only [Act.put, List.setIfInBounds_toArray, List.set_cons_zero, List.set_cons_succ, i64_w, i32_w]
   rfl
  refine one_ (i := 2) (N := none) (bz 5 7) rfl rfl (by kernel_rfl) (by decide) (fun K hK => ?_)
  have hs28 : w27.cell? ⟨gb767, 0, none⟩ = some (.int .i64 0) := cB BK767
  have hfs28 := blk_frozen BK767.out 0
  have hns28_0 := NB766_767.out
  have hns28_2 := NB768_767.out
  have hns28_3 := NB774_767.out
  have hns28_4 := NB775_767.out
  have hms28_0 := NB767_766.out
  have hms28_2 := NB767_768.out
  have hms28_3 := NB767_774.out
  have hms28_4 := NB767_775.out
  have hs29 : w27.cell? ⟨gb767, 1, none⟩ = some (.int .i64 0) := cB BK767
  have hfs29 := blk_frozen BK767.out 1
  have hns29_0 := NB766_767.out
  have hns29_2 := NB768_767.out
  have hns29_3 := NB774_767.out
  have hns29_4 := NB775_767.out
  have hms29_0 := NB767_766.out
  have hms29_2 := NB767_768.out
  have hms29_3 := NB767_774.out
  have hms29_4 := NB767_775.out
  refine skip_ (w1 := ?_) (by rfl) rfl ?_ ?_
  rotate_left
  ·go_simp
   rfl
  refine hK.out _ _ ⟨((cell_far (p := ⟨gb767, _, none⟩) NB774_767.out _).trans (((cell_far (p := ⟨gb767, _, none⟩) NB774_767.out _).trans (hHeld.1)))), ((cell_far (p := ⟨gb767, _, none⟩) NB774_767.out _).trans (((cell_far (p := ⟨gb767, _, none⟩) NB774_767.out _).trans (hHeld.2.1)))), ((cell_far (p := ⟨gb767, _, none⟩) NB775_767.out _).trans (((cell_far (p := ⟨gb767, _, none⟩) NB775_767.out _).trans (hHeld.2.2.1)))), ((cell_far (p := ⟨gb767, _, none⟩) NB775_767.out _).trans (((cell_far (p := ⟨gb767, _, none⟩) NB775_767.out _).trans (hHeld.2.2.2))))⟩ (fun hHeld => ?_)
  clear hK K
  refine one_ (i := 3) (N := none) (bz 5 15) rfl rfl (by kernel_rfl) (by decide) (fun K hK => ?_)
  have hs30 : w27.cell? ⟨gb768, 0, none⟩ = some (.int .i64 0) := cB BK768
  have hfs30 := blk_frozen BK768.out 0
  have hns30_0 := NB766_768.out
  have hns30_1 := NB767_768.out
  have hns30_3 := NB774_768.out
  have hns30_4 := NB775_768.out
  have hms30_0 := NB768_766.out
  have hms30_1 := NB768_767.out
  have hms30_3 := NB768_774.out
  have hms30_4 := NB768_775.out
  have hs31 : w27.cell? ⟨gb768, 1, none⟩ = some (.int .i64 0) := cB BK768
  have hfs31 := blk_frozen BK768.out 1
  have hns31_0 := NB766_768.out
  have hns31_1 := NB767_768.out
  have hns31_3 := NB774_768.out
  have hns31_4 := NB775_768.out
  have hms31_0 := NB768_766.out
  have hms31_1 := NB768_767.out
  have hms31_3 := NB768_774.out
  have hms31_4 := NB768_775.out
  refine skip_ (w1 := ?_) (by rfl) rfl ?_ ?_
  rotate_left
  ·go_simp
   rfl
  refine hK.out _ _ ⟨((cell_far (p := ⟨gb768, _, none⟩) NB774_768.out _).trans (((cell_far (p := ⟨gb768, _, none⟩) NB774_768.out _).trans (hHeld.1)))), ((cell_far (p := ⟨gb768, _, none⟩) NB774_768.out _).trans (((cell_far (p := ⟨gb768, _, none⟩) NB774_768.out _).trans (hHeld.2.1)))), ((cell_far (p := ⟨gb768, _, none⟩) NB775_768.out _).trans (((cell_far (p := ⟨gb768, _, none⟩) NB775_768.out _).trans (hHeld.2.2.1)))), ((cell_far (p := ⟨gb768, _, none⟩) NB775_768.out _).trans (((cell_far (p := ⟨gb768, _, none⟩) NB775_768.out _).trans (hHeld.2.2.2))))⟩ (fun hHeld => ?_)
  clear hK K
  refine pure_ (i := 4) (N := some 6) (v := ?_) (a' := ?_) (bz 5 31) rfl rfl (by kernel_rfl) (fun _ _ _ h => h) (Or.inl ⟨by rfl, ?_⟩) ?_ ?_
  rotate_left
  ·intro w'
   go_simp
   with_reducible rfl
  rotate_left
  ·simp only [Act.put, List.setIfInBounds_toArray, List.set_cons_zero, List.set_cons_succ, i64_w, i32_w]
   rfl
  refine done_ (by kernel_rfl) ?_
  try go_wp2
  refine bodyPost_ret (results_list (rs := [.cell 4 47, .cell 5 47, .tmp 6]) rfl (by simp) (.cell gb767 47 #[.int .i64 t770, .int .i64 t771] (0, 0) _ rfl (by (repeat (first|(with_reducible first|apply kN|apply kD|apply kA)|refine blk_far ?_ NB767_768.out _)); refine blk_put (cs := #[.int .i64 t770, .int .i64 0]) ?_ 1 _ rfl; (with_reducible repeat (first|apply kN|apply kD|apply kA)); refine blk_put (cs := #[.int .i64 0, .int .i64 0]) ?_ 0 _ rfl; (with_reducible repeat (first|apply kN|apply kD|apply kA)); exact BK767.out) Try.underlying47 rfl (by kernel_rfl) (.cell gb768 47 #[.int .i64 t772, .int .i64 t773] (0, 0) _ rfl (by (with_reducible repeat (first|apply kN|apply kD|apply kA)); refine blk_put (cs := #[.int .i64 t772, .int .i64 0]) ?_ 1 _ rfl; (with_reducible repeat (first|apply kN|apply kD|apply kA)); refine blk_put (cs := #[.int .i64 0, .int .i64 0]) ?_ 0 _ rfl; (repeat (first|(with_reducible first|apply kN|apply kD|apply kA)|refine blk_far ?_ NB768_767.out _)); exact BK768.out) Try.underlying47 rfl (by kernel_rfl) (.tmp .nil)))) rfl ?_
  exact ⟨qR, qB⟩
 ·rw [if_neg c4] at H
  have c4b0 : (t769 == 0) = false := beq_eq_false_iff_ne.mpr c4
  have c4b1 : (t769 != 0) = true := bne_iff_ne.mpr c4
  simp only [Option.some.injEq, Prod.mk.injEq] at H
  obtain ⟨rfl, rfl, rfl, rfl, rfl⟩ := H
  go_enter Try.func65, Try.ntmps65
  go_wp2_with (first | (refine bE 3 #[.int .i64 a1_0, .int .i64 a1_1, .int .i64 a1_2] 33 ?_; intro gb766 hg w32 hbox hb; have BK766 := aM hbox; have GW766 := bZ hg HB; have GE766 := bZ hg HB; replace HB := bS HB hb; clear hb hbox hg) | (refine bE 4 #[.int .i64 0, .int .i64 0] 47 ?_; intro gb767 hg w33 hbox hb; have BK767 := aM hbox; have GW767 := bZ hg HB; have GE767 := bZ hg HB; have NB766_767 := nL hg BK766; have NB767_766 := nG hg BK766; replace BK766 := bB BK766 hb; replace HB := bS HB hb; clear hb hbox hg) | (refine bE 5 #[.int .i64 0, .int .i64 0] 47 ?_; intro gb768 hg w34 hbox hb; have BK768 := aM hbox; have GW768 := bZ hg HB; have GE768 := bZ hg HB; have NB766_768 := nL hg BK766; have NB768_766 := nG hg BK766; have NB767_768 := nL hg BK767; have NB768_767 := nG hg BK767; replace BK766 := bB BK766 hb; replace BK767 := bB BK767 hb; replace HB := bS HB hb; clear hb hbox hg; have hnb35 := NB766_767.out; have hnc35 := NB767_766.out; have hnb36 := NB766_768.out; have hnc36 := NB768_766.out; obtain ⟨hcz37_0, hcz37_1, hcz37_2⟩ := z3 BK766; obtain ⟨hfz37_0, hfz37_1, hfz37_2⟩ := y3 BK766) | (refine gC 80 ?_; refine gM 12 (impl_frameCode.calls a0 a1_0 a1_1 a1_2 t769 _ A3.out) Try.func80 ?_; rintro w38 hb; replace BK766 := bB BK766 hb; replace BK767 := bB BK767 hb; replace BK768 := bB BK768 hb; replace HB := bS HB hb; (try clear hb); have hnb39 := NB767_768.out; have hnc39 := NB768_767.out; obtain ⟨hcz40_0, hcz40_1⟩ := z2 BK767; obtain ⟨hfz40_0, hfz40_1⟩ := y2 BK767; obtain ⟨hcz41_0, hcz41_1⟩ := z2 BK768; obtain ⟨hfz41_0, hfz41_1⟩ := y2 BK768))
  refine bodyPost_ret (results_list (rs := [.cell 4 47, .cell 5 47, .tmp 6]) rfl (by simp) (.cell gb767 47 #[.int .i64 0, .int .i64 0] (0, 0) _ rfl (by (repeat (first|(with_reducible first|apply kN|apply kD|apply kA)|refine blk_far ?_ NB767_768.out _)); refine blk_put (cs := #[.int .i64 0, .int .i64 0]) ?_ 1 _ rfl; (with_reducible repeat (first|apply kN|apply kD|apply kA)); refine blk_put (cs := #[.int .i64 0, .int .i64 0]) ?_ 0 _ rfl; (with_reducible repeat (first|apply kN|apply kD|apply kA)); exact BK767.out) Try.underlying47 rfl (by kernel_rfl) (.cell gb768 47 #[.int .i64 0, .int .i64 0] (0, 0) _ rfl (by (with_reducible repeat (first|apply kN|apply kD|apply kA)); refine blk_put (cs := #[.int .i64 0, .int .i64 0]) ?_ 1 _ rfl; (with_reducible repeat (first|apply kN|apply kD|apply kA)); refine blk_put (cs := #[.int .i64 0, .int .i64 0]) ?_ 0 _ rfl; (repeat (first|(with_reducible first|apply kN|apply kD|apply kA)|refine blk_far ?_ NB768_767.out _)); exact BK768.out) Try.underlying47 rfl (by kernel_rfl) (.tmp .nil)))) rfl ?_
  exact ⟨qR, qB⟩

mutual
def spec_l04Near.l0 : Nat → Int → Int → Int → List (S47) → Int → Option ((List (S47)))
 | 0, _, _, _, _, _ => none
 | k + 1, x0, x1, x2, x7, x8 => if x8 ≤ x2 then (spec_l04Near.l1 k x0 x1 x2 x7 x8 (wrap64 (-x2))) else (some x7)
def spec_l04Near.l1 : Nat → Int → Int → Int → List (S47) → Int → Int → Option ((List (S47)))
 | 0, _, _, _, _, _, _ => none
 | k + 1, x0, x1, x2, x7, x8, x9 => if x9 ≤ x2 then ((spec_l04Norm.f x0 x8 x9).bind fun t780 => (if t780 ≤ x1 then (if x7.length < 8796093022208 then (spec_l04Near.l1 k x0 x1 x2 (x7 ++ [(⟨x8, x9⟩ : S47)]) x8 (wrap64 (x9 + 1))) else (none)) else (spec_l04Near.l1 k x0 x1 x2 x7 x8 (wrap64 (x9 + 1))))) else (spec_l04Near.l0 k x0 x1 x2 x7 (wrap64 (x8 + 1)))
end
def spec_l04Near.f (k : Nat) (a0 : Int) (a1 : Int) (a2 : Int) : Option ((List (S47))) := spec_l04Near.l0 k a0 a1 a2 (([] : List (S47))) (wrap64 (-a2))
set_option maxHeartbeats 8000000 in
set_option maxRecDepth 100000 in
theorem spec_l04Near.calls (k : Nat) (a0 : Int) (a1 : Int) (a2 : Int) (r : List (S47)) (w : World) (h : spec_l04Near.f k a0 a1 a2 = some r) :
  Calls Try.prog 71 #[.int .i64 a0, .int .i64 a1, .int .i64 a2] w fun e w' => ∃ v0_ : Value, e = .returned (v0_) ∧ Kd.R k47 47 w' w.heap.size (fun _ => True) v0_ r ∧ Below w.heap.size w w' := by
 have hu47 := Try.underlying47
 have HB := aM (Below.refl w.heap.size w)
 have H : (spec_l04Near.l0 k a0 a1 a2 (([] : List (S47))) (wrap64 (-a2))) = some r := h
 clear h
 obtain ⟨y776, hy776⟩ : ∃ y_ : List (S47), y_ = (([] : List (S47))) := ⟨_, rfl⟩
 replace H : (spec_l04Near.l0 k a0 a1 a2 y776 (wrap64 (-a2))) = some r := by first | (rw [hy776]; with_reducible exact H) | (have H2_ := (Option.bind_some _ _).symm.trans H; rw [hy776]; with_reducible exact H2_) | (have H2_ := (Option.bind_some _ _).symm.trans H; with_reducible exact H2_) | with_reducible exact H | (rw [hy776]; exact H) | exact H
 have Ny776 := aM hy776
 clear hy776
 have H' := aM H
 clear H
 go_enter Try.func71, Try.ntmps71
 go_wp2_with (first | ((with_reducible refine gate_dst (N := 11) rfl ?_); refine Kd.R_lit k47 _ 47 ?hg (N := 11) ?hd (xs := ([] : List (S47))) (inner := []) (ok := fun _ => True) (okp := fun _ => True) ?hr ?hp (fun _ hk => hk) trivial (Below.refl _ _) (Nat.le_refl _) (by simp) ?_; (case hd => rfl); (case hg => rfl); (case hr => first | (go_simp; done) | (go_simp; rfl)); (case hp => exact (Reps.none _ _)); intro v777 w4 ho5 hb hg_ hnew_; clear hg_ hnew_; (first | rw [← Ny776.out] at ho5 | (simp only [Int.reduceToNat] at ho5; rw [← Ny776.out] at ho5)); have HO778 := aM (Kd.R_lower ho5 (below_size qB)); replace HB := bS HB hb; clear hb ho5))
 go_loopg [7, 8] k (fun kq v7 v8 w' => ∃ (x7_1 : List (S47)) (x8_1 : Int), v8 = .int .i64 x8_1 ∧ Aside0 (spec_l04Near.l0 kq a0 a1 a2 x7_1 x8_1 = some r) ∧ Aside0 (kq ≤ k) ∧ Aside0 (Kd.R k47 47 w' w.heap.size (fun _ => True) v7 x7_1) ∧ Aside0 (Below w.heap.size w w'))
 case atStart => exact ⟨(y776), (wrap64 (-a2)), (by first | rfl | (simp; done) | (simp [*]; done)), H', ⟨Nat.le_refl _⟩, ⟨by (with_reducible repeat (first | apply Kd.R_alloc | apply Kd.R_drewN | apply Kd.R_drew)); exact HO778.out⟩, ⟨qB⟩⟩
 case round =>
  clear H'
  try clear p2
  obtain ⟨x7_1, x8_1, rfl, HA, HK1, HO_7, HB⟩ := hrel
  cases gk with
  | zero => exact absurd HA.out (by simp [spec_l04Near.l0])
  | succ k1 =>
   have H := HA.out
   clear HA
   simp only [spec_l04Near.l0] at H
   by_cases c6 : x8_1 ≤ a2
   ·rw [if_pos c6] at H
    have c6b0 : decide (x8_1 ≤ a2) = true := decide_eq_true c6
    clear c6
    have H' := aM H
    clear H
    go_wp2
    go_loopg [7, 9] k1 (fun kq v7 v9 w' => ∃ (x7_2 : List (S47)) (x9_2 : Int), v9 = .int .i64 x9_2 ∧ Aside0 (spec_l04Near.l1 kq a0 a1 a2 x7_2 x8_1 x9_2 = some r) ∧ Aside0 (kq ≤ k1) ∧ Aside0 (Kd.R k47 47 w' w.heap.size (fun _ => True) v7 x7_2) ∧ Aside0 (Below w.heap.size w w'))
    case atStart => exact ⟨(x7_1), (wrap64 (-a2)), (by first | rfl | (simp; done) | (simp [*]; done)), H', ⟨Nat.le_refl _⟩, ⟨by (with_reducible repeat (first | apply Kd.R_alloc | apply Kd.R_drewN | apply Kd.R_drew)); exact HO_7.out⟩, ⟨qB⟩⟩
    case round =>
     clear H'
     try clear p2
     try clear c6
     try clear c6b0
     try clear p6
     try clear p2
     obtain ⟨x7_2, x9_2, rfl, HA, HK2, HO_7, HB⟩ := hrel
     cases gk with
     | zero => exact absurd HA.out (by simp [spec_l04Near.l1])
     | succ k2 =>
      have H := HA.out
      clear HA
      simp only [spec_l04Near.l1] at H
      by_cases c7 : x9_2 ≤ a2
      ·rw [if_pos c7] at H
       have c7b0 : decide (x9_2 ≤ a2) = true := decide_eq_true c7
       clear c7
       obtain ⟨t780, A8, H⟩ := oB H
       try dsimp only at H
       by_cases c9 : t780 ≤ a1
       ·rw [if_pos c9] at H
        have c9b0 : decide (t780 ≤ a1) = true := decide_eq_true c9
        clear c9
        by_cases c10 : x7_2.length < 8796093022208
        ·rw [if_pos c10] at H
         have LMc10 := aM c10
         clear c10
         obtain ⟨y781, hy781⟩ : ∃ y_ : List (S47), y_ = (x7_2 ++ [(⟨x8_1, x9_2⟩ : S47)]) := ⟨_, rfl⟩
         replace H : (spec_l04Near.l1 k2 a0 a1 a2 y781 x8_1 (wrap64 (x9_2 + 1))) = some r := by first | (rw [hy781]; with_reducible exact H) | (have H2_ := (Option.bind_some _ _).symm.trans H; rw [hy781]; with_reducible exact H2_) | (have H2_ := (Option.bind_some _ _).symm.trans H; with_reducible exact H2_) | with_reducible exact H | (rw [hy781]; exact H) | exact H
         have Ny781 := aM hy781
         clear hy781
         have H' := aM H
         clear H
         go_wp2_with (first | (refine bE 10 #[.int .i64 0, .int .i64 0] 47 ?_; intro gb779 hg w11 hbox hb; have BK779 := aM hbox; have GW779 := bZ hg HB; have GE779 := bZ hg HB; replace HO_7 := aM (Kd.R_below (Kd.R_elderB (by (with_reducible repeat (first | apply Kd.R_alloc | apply Kd.R_drewN | apply Kd.R_drew)); exact HO_7.out) gb779 (Nat.le_of_eq hg.symm)) hb); replace HB := bS HB hb; clear hb hbox hg; obtain ⟨hcz12_0, hcz12_1⟩ := z2 BK779; obtain ⟨hfz12_0, hfz12_1⟩ := y2 BK779) | (refine gC 116 ?_; refine gM 31 (spec_l04Norm.calls a0 x8_1 x9_2 t780 _ A8.out) Try.func116 ?_; rintro w13 hb; replace HO_7 := aM (Kd.R_below (by (with_reducible repeat (first | apply Kd.R_alloc | apply Kd.R_drewN | apply Kd.R_drew)); exact (Kd.R_mono (Kd.R_far (p := ⟨gb779, 1, none⟩) (Kd.R_far (p := ⟨gb779, 0, none⟩) (Kd.R_mono HO_7.out (fun k_ hk => (⟨hk, hk.2⟩ : _ ∧ k_ ≠ gb779))) (fun _ hk => hk.2) (.int .i64 x8_1)) (fun _ hk => hk.2) (.int .i64 x9_2)) (fun _ h_ => h_.1))) hb); replace BK779 := bW (.cells #[.int .i64 x8_1, .int .i64 x9_2] 47 (0, 0)) BK779 hb; replace HB := bS HB hb; (try clear hb); obtain ⟨hcz14_0, hcz14_1⟩ := z2 BK779; obtain ⟨hfz14_0, hfz14_1⟩ := y2 BK779) | ((with_reducible refine gate_builtin (b := .append) (xs := #[.tmp 34, .tmp 36]) rfl ?_); at_builtin; refine Kd.R_append k47 (w0 := w) w.heap.size rfl (.tmp 34) (.tmp 36) 22 47 (.agg #[(.int .i64 0), (.int .i64 0)]) 16 rfl Try.underlying22 info47 rfl (by decide) (by omega) u7 x7_2 (⟨x8_1, x9_2⟩ : S47) [.int .i64 x8_1, .int .i64 x9_2] (fun k_ => k_ ≠ gb779) (fun _ => False) rfl rfl ?aP (fun _ hk => hk.elim) ?aF ?aO ?aB ?aS ?aL ?_; (case aP => exact k47_mkM _ _ _ (⟨x8_1, x9_2⟩ : S47)); (case aB => exact qB); (case aF => exact (fun k_ hk => Kd.freshB (g := gb779) (o := .cells #[.int .i64 x8_1, .int .i64 x9_2] 47 (0, 0)) (bk BK779) k_ hk)); (case aO => exact (by (with_reducible repeat (first | apply Kd.R_alloc | apply Kd.R_drewN | apply Kd.R_drew)); exact Kd.R_mono HO_7.out (fun _ hk => hk.2))); (case aS => exact (below_size qB)); (case aL => have := LMc10.out; omega); intro v782 w15 ho hb hg hat; rw [← Ny781.out] at ho; have HO783 := aM ho; replace BK779 := aM (blk_grown (g := gb779) (o := .cells #[.int .i64 x8_1, .int .i64 x9_2] 47 (0, 0)) (bk BK779) hg (Kd.R_away HO_7.out (fun _ hk => hk.2))); replace HB := aM hb; clear HO_7; clear ho hb hg hat))
         go_roundg k2
         case measure => have := HK1.out; have := HK2.out; omega
         case rel => exact ⟨(y781), (wrap64 (x9_2 + 1)), (by first | rfl | (simp; done) | (simp [*]; done)), H', ⟨by have := HK1.out; have := HK2.out; omega⟩, ⟨by (with_reducible repeat (first | apply Kd.R_alloc | apply Kd.R_drewN | apply Kd.R_drew)); exact Kd.R_mono HO783.out (fun _ hk => trivial)⟩, ⟨qB⟩⟩
        ·rw [if_neg c10] at H
         exact absurd H (by simp)
       ·rw [if_neg c9] at H
        have c9b0 : decide (t780 ≤ a1) = false := decide_eq_false c9
        clear c9
        have H' := aM H
        clear H
        go_wp2_with (first | (refine bE 10 #[.int .i64 0, .int .i64 0] 47 ?_; intro gb779 hg w16 hbox hb; have BK779 := aM hbox; have GW779 := bZ hg HB; have GE779 := bZ hg HB; replace HO_7 := aM (Kd.R_below (Kd.R_elderB (by (with_reducible repeat (first | apply Kd.R_alloc | apply Kd.R_drewN | apply Kd.R_drew)); exact HO_7.out) gb779 (Nat.le_of_eq hg.symm)) hb); replace HB := bS HB hb; clear hb hbox hg; obtain ⟨hcz17_0, hcz17_1⟩ := z2 BK779; obtain ⟨hfz17_0, hfz17_1⟩ := y2 BK779) | (refine gC 116 ?_; refine gM 31 (spec_l04Norm.calls a0 x8_1 x9_2 t780 _ A8.out) Try.func116 ?_; rintro w18 hb; replace HO_7 := aM (Kd.R_below (by (with_reducible repeat (first | apply Kd.R_alloc | apply Kd.R_drewN | apply Kd.R_drew)); exact (Kd.R_mono (Kd.R_far (p := ⟨gb779, 1, none⟩) (Kd.R_far (p := ⟨gb779, 0, none⟩) (Kd.R_mono HO_7.out (fun k_ hk => (⟨hk, hk.2⟩ : _ ∧ k_ ≠ gb779))) (fun _ hk => hk.2) (.int .i64 x8_1)) (fun _ hk => hk.2) (.int .i64 x9_2)) (fun _ h_ => h_.1))) hb); replace BK779 := bW (.cells #[.int .i64 x8_1, .int .i64 x9_2] 47 (0, 0)) BK779 hb; replace HB := bS HB hb; (try clear hb)))
        go_roundg k2
        case measure => have := HK1.out; have := HK2.out; omega
        case rel => exact ⟨(x7_2), (wrap64 (x9_2 + 1)), (by first | rfl | (simp; done) | (simp [*]; done)), H', ⟨by have := HK1.out; have := HK2.out; omega⟩, ⟨by (with_reducible repeat (first | apply Kd.R_alloc | apply Kd.R_drewN | apply Kd.R_drew)); exact Kd.R_mono HO_7.out (fun _ hk => trivial)⟩, ⟨qB⟩⟩
      ·rw [if_neg c7] at H
       have c7b0 : decide (x9_2 ≤ a2) = false := decide_eq_false c7
       clear c7
       have H' := aM H
       clear H
       go_wp2
       go_roundg k2
       case measure => have := HK1.out; have := HK2.out; omega
       case rel => exact ⟨(x7_2), (wrap64 (x8_1 + 1)), (by first | rfl | (simp; done) | (simp [*]; done)), H', ⟨by have := HK1.out; have := HK2.out; omega⟩, ⟨by (with_reducible repeat (first | apply Kd.R_alloc | apply Kd.R_drewN | apply Kd.R_drew)); exact HO_7.out⟩, ⟨qB⟩⟩
   ·rw [if_neg c6] at H
    have c6b0 : decide (x8_1 ≤ a2) = false := decide_eq_false c6
    clear c6
    obtain rfl := Option.some.inj H
    go_wp2
    go_ret
    exact ⟨_, qR, by (with_reducible repeat (first | apply Kd.R_alloc | apply Kd.R_drewN | apply Kd.R_drew)); exact HO_7.out, qB⟩

def spec_l03Reduce.f (a0_0 : Int) (a0_1 : Int) (a0_2 : Int) (a1_0 : Int) (a1_1 : Int) : Option (Int × Int) := (spec_l01Mod.f a1_1 a0_2).bind fun t787 => (if a0_2 = 0 then (none) else ((spec_l01Mod.f (wrap64 (a1_0 - (wrap64 ((wrap64 (Int.tdiv (wrap64 (a1_1 - t787)) a0_2)) * a0_1)))) a0_0).bind fun t788 => (some (t788, t787))))
set_option maxHeartbeats 8000000 in
set_option maxRecDepth 100000 in
theorem spec_l03Reduce.calls (a0_0 : Int) (a0_1 : Int) (a0_2 : Int) (a1_0 : Int) (a1_1 : Int) (r1 : Int) (r2 : Int) (w : World) (h : spec_l03Reduce.f a0_0 a0_1 a0_2 a1_0 a1_1 = some (r1, r2)) :
  Calls Try.prog 153 #[.agg #[.int .i64 a0_0, .int .i64 a0_1, .int .i64 a0_2], .agg #[.int .i64 a1_0, .int .i64 a1_1]] w fun e w' => e = .returned (.agg #[.int .i64 r1, .int .i64 r2]) ∧ Below w.heap.size w w' := by
 have hu33 := Try.underlying33
 have hu47 := Try.underlying47
 have HB := aM (Below.refl w.heap.size w)
 have H : ((spec_l01Mod.f a1_1 a0_2).bind fun t787 => (if a0_2 = 0 then (none) else ((spec_l01Mod.f (wrap64 (a1_0 - (wrap64 ((wrap64 (Int.tdiv (wrap64 (a1_1 - t787)) a0_2)) * a0_1)))) a0_0).bind fun t788 => (some (t788, t787))))) = some (r1, r2) := h
 clear h
 obtain ⟨t787, A3, H⟩ := oB H
 try dsimp only at H
 by_cases c4 : a0_2 = 0
 ·rw [if_pos c4] at H
  exact absurd H (by simp)
 ·rw [if_neg c4] at H
  have c4b0 : (a0_2 == 0) = false := beq_eq_false_iff_ne.mpr c4
  have c4b1 : (a0_2 != 0) = true := bne_iff_ne.mpr c4
  obtain ⟨t788, A5, H⟩ := oB H
  try dsimp only at H
  simp only [Option.some.injEq, Prod.mk.injEq] at H
  obtain ⟨rfl, rfl⟩ := H
  go_enter Try.func153, Try.ntmps153
  go_wp2_with (first | (refine bE 2 #[.int .i64 a0_0, .int .i64 a0_1, .int .i64 a0_2] 33 ?_; intro gb784 hg w6 hbox hb; have BK784 := aM hbox; have GW784 := bZ hg HB; have GE784 := bZ hg HB; replace HB := bS HB hb; clear hb hbox hg) | (refine bE 3 #[.int .i64 a1_0, .int .i64 a1_1] 47 ?_; intro gb785 hg w7 hbox hb; have BK785 := aM hbox; have GW785 := bZ hg HB; have GE785 := bZ hg HB; have NB784_785 := nL hg BK784; have NB785_784 := nG hg BK784; replace BK784 := bB BK784 hb; replace HB := bS HB hb; clear hb hbox hg) | (refine bE 4 #[.int .i64 0, .int .i64 0] 47 ?_; intro gb786 hg w8 hbox hb; have BK786 := aM hbox; have GW786 := bZ hg HB; have GE786 := bZ hg HB; have NB784_786 := nL hg BK784; have NB786_784 := nG hg BK784; have NB785_786 := nL hg BK785; have NB786_785 := nG hg BK785; replace BK784 := bB BK784 hb; replace BK785 := bB BK785 hb; replace HB := bS HB hb; clear hb hbox hg; have hnb9 := NB785_784.out; have hnc9 := NB784_785.out; have hnb10 := NB785_786.out; have hnc10 := NB786_785.out; obtain ⟨hcz11_0, hcz11_1⟩ := z2 BK785; obtain ⟨hfz11_0, hfz11_1⟩ := y2 BK785; have hnb12 := NB784_786.out; have hnc12 := NB786_784.out; obtain ⟨hcz13_0, hcz13_1, hcz13_2⟩ := z3 BK784; obtain ⟨hfz13_0, hfz13_1, hfz13_2⟩ := y3 BK784) | (refine gC 158 ?_; refine gM 11 (spec_l01Mod.calls a1_1 a0_2 t787 _ A3.out) Try.func158 ?_; rintro w' ⟨⟨nd, rfl⟩⟩; (try (rw [drewN_self w8]; generalize hq_ : World.drewN w8 _ = w8; have n0_ : Aside0 (w8.heap[gb784]? = some (.cells #[.int .i64 a0_0, .int .i64 a0_1, .int .i64 a0_2] 33 (0, 0))) := ⟨by rw [← hq_]; exact (bk BK784)⟩; have n1_ : Aside0 (w8.heap[gb785]? = some (.cells #[.int .i64 a1_0, .int .i64 a1_1] 47 (0, 0))) := ⟨by rw [← hq_]; exact (bk BK785)⟩; have n2_ : Aside0 (w8.heap[gb786]? = some (.cells #[.int .i64 0, .int .i64 0] 47 (0, 0))) := ⟨by rw [← hq_]; exact (bk BK786)⟩; have n3_ : Aside0 (Below w.heap.size w w8) := ⟨by rw [← hq_]; exact qB⟩; clear BK784 BK785 BK786 HB hq_; have BK784 := n0_; have BK785 := n1_; have BK786 := n2_; have HB := n3_; clear n0_ n1_ n2_ n3_; obtain ⟨hcz11_0, hcz11_1⟩ := z2 BK785; obtain ⟨hfz11_0, hfz11_1⟩ := y2 BK785; obtain ⟨hcz13_0, hcz13_1, hcz13_2⟩ := z3 BK784; obtain ⟨hfz13_0, hfz13_1, hfz13_2⟩ := y3 BK784))) | ((with_reducible refine gate_callee (f := 158) rfl ?_); refine goesL_ (some 28) rfl rfl Try.func158 (by kernel_rfl) rfl #[.int .i64 (wrap64 (a1_0 - (wrap64 ((wrap64 (Int.tdiv (wrap64 (a1_1 - t787)) a0_2)) * a0_1)))), .int .i64 a0_0] rfl (by first|rfl|(simp only [List.map_toArray, List.map_cons, List.map_nil]; try rfl)) ?_; (with_reducible refine (spec_l01Mod.calls (wrap64 (a1_0 - (wrap64 ((wrap64 (Int.tdiv (wrap64 (a1_1 - t787)) a0_2)) * a0_1)))) a0_0 t788 _ A5.out).mono ?_); rintro e w' ⟨rfl, ⟨nd, rfl⟩⟩; refine ⟨_, rfl, ?_⟩; (try (rw [drewN_self w8]; generalize hq_ : World.drewN w8 _ = w8; have n0_ : Aside0 (w8.heap[gb784]? = some (.cells #[.int .i64 a0_0, .int .i64 a0_1, .int .i64 a0_2] 33 (0, 0))) := ⟨by rw [← hq_]; exact (bk BK784)⟩; have n1_ : Aside0 (w8.heap[gb785]? = some (.cells #[.int .i64 a1_0, .int .i64 a1_1] 47 (0, 0))) := ⟨by rw [← hq_]; exact (bk BK785)⟩; have n2_ : Aside0 (w8.heap[gb786]? = some (.cells #[.int .i64 0, .int .i64 0] 47 (0, 0))) := ⟨by rw [← hq_]; exact (bk BK786)⟩; have n3_ : Aside0 (Below w.heap.size w w8) := ⟨by rw [← hq_]; exact qB⟩; clear BK784 BK785 BK786 HB hq_; have BK784 := n0_; have BK785 := n1_; have BK786 := n2_; have HB := n3_; clear n0_ n1_ n2_ n3_; obtain ⟨hcz11_0, hcz11_1⟩ := z2 BK785; obtain ⟨hfz11_0, hfz11_1⟩ := y2 BK785; obtain ⟨hcz13_0, hcz13_1, hcz13_2⟩ := z3 BK784; obtain ⟨hfz13_0, hfz13_1, hfz13_2⟩ := y3 BK784)); obtain ⟨hcz14_0, hcz14_1⟩ := z2 BK786; obtain ⟨hfz14_0, hfz14_1⟩ := y2 BK786))
  refine bodyPost_ret (results_cell_row rfl _ _ gb786 47 #[.int .i64 t788, .int .i64 t787] (0, 0) _ rfl (by (with_reducible repeat (first|apply kN|apply kD|apply kA)); refine blk_put (cs := #[.int .i64 t788, .int .i64 0]) ?_ 1 _ rfl; (with_reducible repeat (first|apply kN|apply kD|apply kA)); refine blk_put (cs := #[.int .i64 0, .int .i64 0]) ?_ 0 _ rfl; (with_reducible repeat (first|apply kN|apply kD|apply kA)); exact BK786.out) Try.underlying47 rfl (by kernel_rfl)) rfl ?_
  exact ⟨qR, qB⟩

def spec_l03Has.f (a0_0 : Int) (a0_1 : Int) (a0_2 : Int) (a1_0 : Int) (a1_1 : Int) : Option (Bool) := (spec_l03Reduce.f a0_0 a0_1 a0_2 a1_0 a1_1).bind fun bt791 => (some (bt791.1 == 0 && (bt791.2 == 0)))
set_option maxHeartbeats 8000000 in
set_option maxRecDepth 100000 in
theorem spec_l03Has.calls (a0_0 : Int) (a0_1 : Int) (a0_2 : Int) (a1_0 : Int) (a1_1 : Int) (r : Bool) (w : World) (h : spec_l03Has.f a0_0 a0_1 a0_2 a1_0 a1_1 = some r) :
  Calls Try.prog 128 #[.agg #[.int .i64 a0_0, .int .i64 a0_1, .int .i64 a0_2], .agg #[.int .i64 a1_0, .int .i64 a1_1]] w fun e w' => e = .returned (.bool r) ∧ Below w.heap.size w w' := by
 have hu33 := Try.underlying33
 have hu47 := Try.underlying47
 have HB := aM (Below.refl w.heap.size w)
 have H : ((spec_l03Reduce.f a0_0 a0_1 a0_2 a1_0 a1_1).bind fun bt791 => (some (bt791.1 == 0 && (bt791.2 == 0)))) = some r := h
 clear h
 obtain ⟨⟨t791, t792⟩, A3, H⟩ := oB H
 try dsimp only at H
 obtain rfl := Option.some.inj H
 go_enter Try.func128, Try.ntmps128
 go_wp2_with (first | (refine bE 2 #[.int .i64 a0_0, .int .i64 a0_1, .int .i64 a0_2] 33 ?_; intro gb789 hg w4 hbox hb; have BK789 := aM hbox; have GW789 := bZ hg HB; have GE789 := bZ hg HB; replace HB := bS HB hb; clear hb hbox hg) | (refine bE 3 #[.int .i64 a1_0, .int .i64 a1_1] 47 ?_; intro gb790 hg w5 hbox hb; have BK790 := aM hbox; have GW790 := bZ hg HB; have GE790 := bZ hg HB; have NB789_790 := nL hg BK789; have NB790_789 := nG hg BK789; replace BK789 := bB BK789 hb; replace HB := bS HB hb; clear hb hbox hg; have hnb6 := NB789_790.out; have hnc6 := NB790_789.out; obtain ⟨hcz7_0, hcz7_1, hcz7_2⟩ := z3 BK789; obtain ⟨hfz7_0, hfz7_1, hfz7_2⟩ := y3 BK789; obtain ⟨hcz8_0, hcz8_1⟩ := z2 BK790; obtain ⟨hfz8_0, hfz8_1⟩ := y2 BK790) | (refine gC 153 ?_; refine gM 7 (spec_l03Reduce.calls a0_0 a0_1 a0_2 a1_0 a1_1 t791 t792 _ A3.out) Try.func153 ?_; rintro w9 hb; replace BK789 := bB BK789 hb; replace BK790 := bB BK790 hb; replace HB := bS HB hb; (try clear hb)))
 go_ret
 exact ⟨qR, qB⟩

end Go.Proofs.Ytcjchihnopmplaa.F

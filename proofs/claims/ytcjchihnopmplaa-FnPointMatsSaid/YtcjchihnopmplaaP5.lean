import Derived.Test.YtcjchihnopmplaaP0
import Derived.Test.YtcjchihnopmplaaP4
namespace Go.Proofs.Ytcjchihnopmplaa.F
open Go.RowKit Go.Proofs.YtcjchihnopmplaaW.PrintWords Go.Proofs.YtcjchihnopmplaaW.PrintLast Go.Proofs.YtcjchihnopmplaaW.PrintMore
attribute [local go_sem] max2_int min2_int max_two min_two max_three min_three max_four min_four   -- for this text's walks alone
set_option linter.unusedVariables false
set_option linter.unusedSimpArgs false

def spec_l04Keeps.f (a0 : Int) (a1_0 : Int) (a1_1 : Int) (a1_2 : Int) (a1_3 : Int) : Option (Bool) := (spec_l04Norm.f a0 a1_0 a1_2).bind fun t194 => (if t194 = 1 then ((spec_l04Norm.f a0 a1_1 a1_3).bind fun t195 => (if t195 = 1 then ((spec_l01Add.f a1_0 a1_2 a1_1 a1_3).bind fun bt196 => ((spec_l04Norm.f a0 bt196.1 bt196.2).bind fun t198 => (some (t198 == (wrap64 (2 + a0)))))) else (some false))) else (some false))
def spec_l04Keeps.T1 : Bool × List (List Nat × List Nat) := (true, [([], []), ([0], [0]), ([], []), ([2], [2]), ([1, 3], [1, 3]), ([], []), ([5], [5]), ([], []), ([7], [7]), ([6, 8], [6, 8]), ([], []), ([], []), ([10, 4, 0, 1, 2, 3, 4, 10, 11], [4, 10]), ([11, 9, 12, 0, 1, 2, 3, 4, 5, 6, 7, 8, 9, 10, 11, 12], [9, 11])])
def spec_l04Keeps.B1 : List Nat := [0, 1, 0, 4, 15, 0, 32, 0, 128, 480, 0, 0, 3103, 8191]
theorem spec_l04Keeps.tab1 : rtab .any (opsOf Try.f123 1) = spec_l04Keeps.T1 := by kernel_rfl
theorem spec_l04Keeps.bits1 : waitsOk spec_l04Keeps.T1.2 spec_l04Keeps.B1 = true := by kernel_rfl
set_option maxHeartbeats 8000000 in
set_option maxRecDepth 100000 in
theorem spec_l04Keeps.calls (a0 : Int) (a1_0 : Int) (a1_1 : Int) (a1_2 : Int) (a1_3 : Int) (r : Bool) (w : World) (h : spec_l04Keeps.f a0 a1_0 a1_1 a1_2 a1_3 = some r) :
  Calls Try.prog 123 #[.int .i64 a0, .agg #[.int .i64 a1_0, .int .i64 a1_1, .int .i64 a1_2, .int .i64 a1_3]] w fun e w' => e = .returned (.bool r) ∧ Below w.heap.size w w' := by
 have hu51 := Try.underlying51
 have hu47 := Try.underlying47
 have HB := aM (Below.refl w.heap.size w)
 have H : ((spec_l04Norm.f a0 a1_0 a1_2).bind fun t194 => (if t194 = 1 then ((spec_l04Norm.f a0 a1_1 a1_3).bind fun t195 => (if t195 = 1 then ((spec_l01Add.f a1_0 a1_2 a1_1 a1_3).bind fun bt196 => ((spec_l04Norm.f a0 bt196.1 bt196.2).bind fun t198 => (some (t198 == (wrap64 (2 + a0)))))) else (some false))) else (some false))) = some r := h
 clear h
 obtain ⟨t194, A3, H⟩ := oB H
 try dsimp only at H
 by_cases c4 : t194 = 1
 ·rw [if_pos c4] at H
  have c4b0 : (t194 == 1) = true := beq_iff_eq.mpr c4
  have c4b1 : (t194 != 1) = false := bne_eq_false_iff_eq.mpr c4
  clear c4
  obtain ⟨t195, A5, H⟩ := oB H
  try dsimp only at H
  by_cases c6 : t195 = 1
  ·rw [if_pos c6] at H
   have c6b0 : (t195 == 1) = true := beq_iff_eq.mpr c6
   have c6b1 : (t195 != 1) = false := bne_eq_false_iff_eq.mpr c6
   clear c6
   obtain ⟨⟨t196, t197⟩, A7, H⟩ := oB H
   try dsimp only at H
   obtain ⟨t198, A8, H⟩ := oB H
   try dsimp only at H
   obtain rfl := Option.some.inj H
   go_enter Try.func123, Try.ntmps123
   try go_wp2_with (first | ((with_reducible refine gD (N:=3) rfl ?_); refine bE 3 #[.int .i64 a1_0, .int .i64 a1_1, .int .i64 a1_2, .int .i64 a1_3] 51 ?_; intro gb191 hg w9 hbox hb; have BK191 := aM hbox; have GW191 := bZ hg HB; have GE191 := bZ hg HB; replace HB := bS HB hb; clear hb hbox hg))
   replace BK191 := aM (blk_drew BK191.out)
   replace HB := aM (below_drew1 HB.out)
   refine sT (fun w' => w'.cell? ⟨gb191, 0, none⟩ = some (.int .i64 a1_0) ∧ w'.cell? ⟨gb191, 1, none⟩ = some (.int .i64 a1_1) ∧ w'.cell? ⟨gb191, 2, none⟩ = some (.int .i64 a1_2) ∧ w'.cell? ⟨gb191, 3, none⟩ = some (.int .i64 a1_3)) [] ⟨cB BK191, cB BK191, cB BK191, cB BK191⟩ (fun hHeld => ?_); refine with_tabW spec_l04Keeps.tab1 spec_l04Keeps.bits1 (fun HT_ HW_ => ?_)
   generalize w9.drew = w10 at BK191 HB hHeld ⊢
   refine pU 0 (some 7) 1 HT_ ?_
   refine pU 2 (some 9) 5 HT_ ?_
   refine pU 5 (some 12) 37 HT_ ?_
   refine pU 7 (some 14) 165 HT_ ?_
   refine tU 1 (some 8) 167 HT_ HW_ hHeld ?_
   refine tU 3 (some 10) 175 HT_ HW_ hHeld ?_
   refine pU 4 (some 11) 191 HT_ ?_
   refine tU 6 (some 13) 255 HT_ HW_ hHeld ?_
   refine tU 8 (some 15) 511 HT_ HW_ hHeld ?_
   refine pU 9 (some 16) 1023 HT_ ?_
   refine join_ (σ := Nat × Nat) 2 (bz 14 4095) (fun s_ => [(5, .pointer (some ⟨s_.1, 0, none⟩)), (6, .pointer (some ⟨s_.2, 0, none⟩))]) (fun s_ w' => (w'.cell? ⟨gb191, 0, none⟩ = some (.int .i64 a1_0) ∧ w'.cell? ⟨gb191, 1, none⟩ = some (.int .i64 a1_1) ∧ w'.cell? ⟨gb191, 2, none⟩ = some (.int .i64 a1_2) ∧ w'.cell? ⟨gb191, 3, none⟩ = some (.int .i64 a1_3)) ∧ (w'.heap[gb191]? = some (.cells #[.int .i64 a1_0, .int .i64 a1_1, .int .i64 a1_2, .int .i64 a1_3] 51 (0, 0))) ∧ (w'.heap[s_.1]? = some (.cells #[.int .i64 0, .int .i64 0] 47 (0, 0))) ∧ (w'.heap[s_.2]? = some (.cells #[.int .i64 0, .int .i64 0] 47 (0, 0))) ∧ (w.heap.size ≤ s_.1) ∧ (w.heap.size ≤ s_.1) ∧ (gb191 ≠ s_.1) ∧ (s_.1 ≠ gb191) ∧ (s_.2 ≠ s_.1) ∧ (s_.1 ≠ s_.2) ∧ (w.heap.size ≤ s_.2) ∧ (w.heap.size ≤ s_.2) ∧ (gb191 ≠ s_.2) ∧ (s_.2 ≠ gb191) ∧ (Below w.heap.size w w')) ?_ ?_
   rotate_left
   ·intro hCont
    refine two_ (i := 10) (j := 11) (Ni := some 5) (Nj := some 6) (bz 14 2047) (bz 14 3071) rfl rfl rfl rfl (two_of HT_.out (by kernel_rfl)) (by decide) (by decide) (fun K hK => ?_) (fun K hK => ?_)
    ·skip
     refine xS 5 #[.int .i64 0, .int .i64 0] 47 ?_
     intro gb192 hg w11 hbox hb
     have BK192 := aM hbox
     have GW192 := bZ hg HB
     have GE192 := bZ hg HB
     have NB191_192 := nL hg BK191
     have NB192_191 := nG hg BK191
     replace BK191 := bB BK191 hb
     replace HB := bS HB hb
     clear hb hbox hg
     refine hK.out _ _ ⟨cB BK191, cB BK191, cB BK191, cB BK191⟩ (fun hHeld => ?_)
     clear hK K
     refine nM 5 ?_
     refine oU 11 (some 6) 4095 HT_ (fun K hK => ?_)
     refine xS 6 #[.int .i64 0, .int .i64 0] 47 ?_
     intro gb193 hg w12 hbox hb
     have BK193 := aM hbox
     have GW193 := bZ hg HB
     have GE193 := bZ hg HB
     have NB191_193 := nL hg BK191
     have NB193_191 := nG hg BK191
     have NB192_193 := nL hg BK192
     have NB193_192 := nG hg BK192
     replace BK191 := bB BK191 hb
     replace BK192 := bB BK192 hb
     replace HB := bS HB hb
     clear hb hbox hg
     refine hK.out _ _ ⟨cB BK191, cB BK191, cB BK191, cB BK191⟩ (fun hHeld => ?_)
     clear hK K
     refine nM 6 ?_
     exact norm_ (by simp only [putAll, Act.put, List.setIfInBounds_toArray, List.set_cons_zero, List.set_cons_succ]) (hCont (gb192, gb193) _ ⟨hHeld, (bk BK191), (bk BK192), (bk BK193), GW192.out, GE192.out, NB191_192.out, NB192_191.out, NB193_192.out, NB192_193.out, GW193.out, GE193.out, NB191_193.out, NB193_191.out, qB⟩)
    ·skip
     refine xS 6 #[.int .i64 0, .int .i64 0] 47 ?_
     intro gb193 hg w11 hbox hb
     have BK193 := aM hbox
     have GW193 := bZ hg HB
     have GE193 := bZ hg HB
     have NB191_193 := nL hg BK191
     have NB193_191 := nG hg BK191
     replace BK191 := bB BK191 hb
     replace HB := bS HB hb
     clear hb hbox hg
     refine hK.out _ _ ⟨cB BK191, cB BK191, cB BK191, cB BK191⟩ (fun hHeld => ?_)
     clear hK K
     refine nM 6 ?_
     refine oU 10 (some 5) 4095 HT_ (fun K hK => ?_)
     refine xS 5 #[.int .i64 0, .int .i64 0] 47 ?_
     intro gb192 hg w12 hbox hb
     have BK192 := aM hbox
     have GW192 := bZ hg HB
     have GE192 := bZ hg HB
     have NB191_192 := nL hg BK191
     have NB192_191 := nG hg BK191
     have NB193_192 := nL hg BK193
     have NB192_193 := nG hg BK193
     replace BK191 := bB BK191 hb
     replace BK193 := bB BK193 hb
     replace HB := bS HB hb
     clear hb hbox hg
     refine hK.out _ _ ⟨cB BK191, cB BK191, cB BK191, cB BK191⟩ (fun hHeld => ?_)
     clear hK K
     refine nM 5 ?_
     exact norm_ (by simp only [putAll, Act.put, List.setIfInBounds_toArray, List.set_cons_zero, List.set_cons_succ]) (hCont (gb192, gb193) _ ⟨hHeld, (bk BK191), (bk BK192), (bk BK193), GW192.out, GE192.out, NB191_192.out, NB192_191.out, NB193_192.out, NB192_193.out, GW193.out, GE193.out, NB191_193.out, NB193_191.out, qB⟩)
   rintro ⟨gb192, gb193⟩ w13 ⟨hS_, h0_, h1_, h2_, h3_, h4_, h5_, h6_, h7_, h8_, h9_, h10_, h11_, h12_, h13_⟩
   have n0_ : Aside0 (w13.heap[gb191]? = some (.cells #[.int .i64 a1_0, .int .i64 a1_1, .int .i64 a1_2, .int .i64 a1_3] 51 (0, 0))) := ⟨h0_⟩
   have n1_ : Aside0 (w13.heap[gb192]? = some (.cells #[.int .i64 0, .int .i64 0] 47 (0, 0))) := ⟨h1_⟩
   have n2_ : Aside0 (w13.heap[gb193]? = some (.cells #[.int .i64 0, .int .i64 0] 47 (0, 0))) := ⟨h2_⟩
   have n3_ : Aside0 (w.heap.size ≤ gb192) := ⟨h3_⟩
   have n4_ : Aside0 (w.heap.size ≤ gb192) := ⟨h4_⟩
   have n5_ : Aside0 (gb191 ≠ gb192) := ⟨h5_⟩
   have n6_ : Aside0 (gb192 ≠ gb191) := ⟨h6_⟩
   have n7_ : Aside0 (gb193 ≠ gb192) := ⟨h7_⟩
   have n8_ : Aside0 (gb192 ≠ gb193) := ⟨h8_⟩
   have n9_ : Aside0 (w.heap.size ≤ gb193) := ⟨h9_⟩
   have n10_ : Aside0 (w.heap.size ≤ gb193) := ⟨h10_⟩
   have n11_ : Aside0 (gb191 ≠ gb193) := ⟨h11_⟩
   have n12_ : Aside0 (gb193 ≠ gb191) := ⟨h12_⟩
   have n13_ : Aside0 (Below w.heap.size w w13) := ⟨h13_⟩
   clear BK191
   clear HB
   clear h0_ h1_ h2_ h3_ h4_ h5_ h6_ h7_ h8_ h9_ h10_ h11_ h12_ h13_
   have BK191 := n0_
   have BK192 := n1_
   have BK193 := n2_
   have GW192 := n3_
   have GE192 := n4_
   have NB191_192 := n5_
   have NB192_191 := n6_
   have NB193_192 := n7_
   have NB192_193 := n8_
   have GW193 := n9_
   have GE193 := n10_
   have NB191_193 := n11_
   have NB193_191 := n12_
   have HB := n13_
   clear n0_ n1_ n2_ n3_ n4_ n5_ n6_ n7_ n8_ n9_ n10_ n11_ n12_ n13_
   have hHeld : w13.cell? ⟨gb191, 0, none⟩ = some (.int .i64 a1_0) ∧ w13.cell? ⟨gb191, 1, none⟩ = some (.int .i64 a1_1) ∧ w13.cell? ⟨gb191, 2, none⟩ = some (.int .i64 a1_2) ∧ w13.cell? ⟨gb191, 3, none⟩ = some (.int .i64 a1_3) := hS_
   refine norm_ (a' := ?_) ?_ ?_
   rotate_left
   ·simp only [putAll, Act.put, List.setIfInBounds_toArray, List.set_cons_zero, List.set_cons_succ]
    rfl
   refine oU 12 none 8191 HT_ (fun K hK => ?_)
   have hs14 : w13.cell? ⟨gb192, 0, none⟩ = some (.int .i64 0) := cB BK192
   have hfs14 := blk_frozen BK192.out 0
   have hns14_0 := NB191_192.out
   have hns14_2 := NB193_192.out
   have hms14_0 := NB192_191.out
   have hms14_2 := NB192_193.out
   have hs15 : w13.cell? ⟨gb192, 1, none⟩ = some (.int .i64 0) := cB BK192
   have hfs15 := blk_frozen BK192.out 1
   have hns15_0 := NB191_192.out
   have hns15_2 := NB193_192.out
   have hms15_0 := NB192_191.out
   have hms15_2 := NB192_193.out
   refine skip_ (w1 := ?_) (by rfl) rfl ?_ ?_
   rotate_left
   ·go_simp
    rfl
   refine hK.out _ _ ⟨((cell_far (p := ⟨gb192, _, none⟩) NB191_192.out _).trans (((cell_far (p := ⟨gb192, _, none⟩) NB191_192.out _).trans (hHeld.1)))), ((cell_far (p := ⟨gb192, _, none⟩) NB191_192.out _).trans (((cell_far (p := ⟨gb192, _, none⟩) NB191_192.out _).trans (hHeld.2.1)))), ((cell_far (p := ⟨gb192, _, none⟩) NB191_192.out _).trans (((cell_far (p := ⟨gb192, _, none⟩) NB191_192.out _).trans (hHeld.2.2.1)))), ((cell_far (p := ⟨gb192, _, none⟩) NB191_192.out _).trans (((cell_far (p := ⟨gb192, _, none⟩) NB191_192.out _).trans (hHeld.2.2.2))))⟩ (fun hHeld => ?_)
   clear hK K
   refine oU 13 none 16383 HT_ (fun K hK => ?_)
   have hs16 : w13.cell? ⟨gb193, 0, none⟩ = some (.int .i64 0) := cB BK193
   have hfs16 := blk_frozen BK193.out 0
   have hns16_0 := NB191_193.out
   have hns16_1 := NB192_193.out
   have hms16_0 := NB193_191.out
   have hms16_1 := NB193_192.out
   have hs17 : w13.cell? ⟨gb193, 1, none⟩ = some (.int .i64 0) := cB BK193
   have hfs17 := blk_frozen BK193.out 1
   have hns17_0 := NB191_193.out
   have hns17_1 := NB192_193.out
   have hms17_0 := NB193_191.out
   have hms17_1 := NB193_192.out
   refine skip_ (w1 := ?_) (by rfl) rfl ?_ ?_
   rotate_left
   ·go_simp
    rfl
   refine hK.out _ _ ⟨((cell_far (p := ⟨gb193, _, none⟩) NB191_193.out _).trans (((cell_far (p := ⟨gb193, _, none⟩) NB191_193.out _).trans (hHeld.1)))), ((cell_far (p := ⟨gb193, _, none⟩) NB191_193.out _).trans (((cell_far (p := ⟨gb193, _, none⟩) NB191_193.out _).trans (hHeld.2.1)))), ((cell_far (p := ⟨gb193, _, none⟩) NB191_193.out _).trans (((cell_far (p := ⟨gb193, _, none⟩) NB191_193.out _).trans (hHeld.2.2.1)))), ((cell_far (p := ⟨gb193, _, none⟩) NB191_193.out _).trans (((cell_far (p := ⟨gb193, _, none⟩) NB191_193.out _).trans (hHeld.2.2.2))))⟩ (fun hHeld => ?_)
   clear hK K
   refine dN HT_ ?_
   have hnb18 := NB192_191.out
   have hnc18 := NB191_192.out
   have hnb19 := NB192_193.out
   have hnc19 := NB193_192.out
   obtain ⟨hcz20_0, hcz20_1⟩ := z2 BK192
   obtain ⟨hfz20_0, hfz20_1⟩ := y2 BK192
   try go_wp2_with (first | ((with_reducible refine gC (f:=116) rfl ?_); refine gM 19 (spec_l04Norm.calls a0 a1_0 a1_2 t194 _ A3.out) Try.func116 ?_; rintro w21 hb; replace BK191 := bF BK191 hb; replace BK192 := bW (.cells #[.int .i64 a1_0, .int .i64 a1_2] 47 (0, 0)) BK192 hb; replace BK193 := bW (.cells #[.int .i64 a1_1, .int .i64 a1_3] 47 (0, 0)) BK193 hb; replace HB := bS HB hb; (try clear hb); have hnb22 := NB193_191.out; have hnc22 := NB191_193.out; obtain ⟨hcz23_0, hcz23_1⟩ := z2 BK193; obtain ⟨hfz23_0, hfz23_1⟩ := y2 BK193) | (go_at_call 116; (with_reducible refine (spec_l04Norm.calls a0 a1_1 a1_3 t195 _ A5.out).mono ?_); rintro e w24 ⟨rfl, hb⟩; replace BK191 := bB BK191 hb; replace BK192 := bB BK192 hb; replace BK193 := bB BK193 hb; replace HB := bS HB hb; (try clear hb); obtain ⟨hcz25_0, hcz25_1⟩ := z2 BK192; obtain ⟨hfz25_0, hfz25_1⟩ := y2 BK192; obtain ⟨hcz26_0, hcz26_1⟩ := z2 BK193; obtain ⟨hfz26_0, hfz26_1⟩ := y2 BK193) | (go_at_call 143; (with_reducible refine (spec_l01Add.calls a1_0 a1_2 a1_1 a1_3 t196 t197 _ A7.out).mono ?_); rintro e w27 ⟨rfl, hb⟩; replace BK191 := bB BK191 hb; replace BK192 := bB BK192 hb; replace BK193 := bB BK193 hb; replace HB := bS HB hb; (try clear hb)) | (go_at_call 116; (with_reducible refine (spec_l04Norm.calls a0 t196 t197 t198 _ A8.out).mono ?_); rintro e w28 ⟨rfl, hb⟩; replace BK191 := bB BK191 hb; replace BK192 := bB BK192 hb; replace BK193 := bB BK193 hb; replace HB := bS HB hb; (try clear hb)))
   go_ret
   exact ⟨qR, qB⟩
  ·rw [if_neg c6] at H
   have c6b0 : (t195 == 1) = false := beq_eq_false_iff_ne.mpr c6
   have c6b1 : (t195 != 1) = true := bne_iff_ne.mpr c6
   obtain rfl := Option.some.inj H
   go_enter Try.func123, Try.ntmps123
   try go_wp2_with (first | ((with_reducible refine gD (N:=3) rfl ?_); refine bE 3 #[.int .i64 a1_0, .int .i64 a1_1, .int .i64 a1_2, .int .i64 a1_3] 51 ?_; intro gb191 hg w29 hbox hb; have BK191 := aM hbox; have GW191 := bZ hg HB; have GE191 := bZ hg HB; replace HB := bS HB hb; clear hb hbox hg))
   replace BK191 := aM (blk_drew BK191.out)
   replace HB := aM (below_drew1 HB.out)
   refine sT (fun w' => w'.cell? ⟨gb191, 0, none⟩ = some (.int .i64 a1_0) ∧ w'.cell? ⟨gb191, 1, none⟩ = some (.int .i64 a1_1) ∧ w'.cell? ⟨gb191, 2, none⟩ = some (.int .i64 a1_2) ∧ w'.cell? ⟨gb191, 3, none⟩ = some (.int .i64 a1_3)) [] ⟨cB BK191, cB BK191, cB BK191, cB BK191⟩ (fun hHeld => ?_); refine with_tabW spec_l04Keeps.tab1 spec_l04Keeps.bits1 (fun HT_ HW_ => ?_)
   generalize w29.drew = w30 at BK191 HB hHeld ⊢
   refine pU 0 (some 7) 1 HT_ ?_
   refine pU 2 (some 9) 5 HT_ ?_
   refine pU 5 (some 12) 37 HT_ ?_
   refine pU 7 (some 14) 165 HT_ ?_
   refine tU 1 (some 8) 167 HT_ HW_ hHeld ?_
   refine tU 3 (some 10) 175 HT_ HW_ hHeld ?_
   refine pU 4 (some 11) 191 HT_ ?_
   refine tU 6 (some 13) 255 HT_ HW_ hHeld ?_
   refine tU 8 (some 15) 511 HT_ HW_ hHeld ?_
   refine pU 9 (some 16) 1023 HT_ ?_
   refine join_ (σ := Nat × Nat) 2 (bz 14 4095) (fun s_ => [(5, .pointer (some ⟨s_.1, 0, none⟩)), (6, .pointer (some ⟨s_.2, 0, none⟩))]) (fun s_ w' => (w'.cell? ⟨gb191, 0, none⟩ = some (.int .i64 a1_0) ∧ w'.cell? ⟨gb191, 1, none⟩ = some (.int .i64 a1_1) ∧ w'.cell? ⟨gb191, 2, none⟩ = some (.int .i64 a1_2) ∧ w'.cell? ⟨gb191, 3, none⟩ = some (.int .i64 a1_3)) ∧ (w'.heap[gb191]? = some (.cells #[.int .i64 a1_0, .int .i64 a1_1, .int .i64 a1_2, .int .i64 a1_3] 51 (0, 0))) ∧ (w'.heap[s_.1]? = some (.cells #[.int .i64 0, .int .i64 0] 47 (0, 0))) ∧ (w'.heap[s_.2]? = some (.cells #[.int .i64 0, .int .i64 0] 47 (0, 0))) ∧ (w.heap.size ≤ s_.1) ∧ (w.heap.size ≤ s_.1) ∧ (gb191 ≠ s_.1) ∧ (s_.1 ≠ gb191) ∧ (s_.2 ≠ s_.1) ∧ (s_.1 ≠ s_.2) ∧ (w.heap.size ≤ s_.2) ∧ (w.heap.size ≤ s_.2) ∧ (gb191 ≠ s_.2) ∧ (s_.2 ≠ gb191) ∧ (Below w.heap.size w w')) ?_ ?_
   rotate_left
   ·intro hCont
    refine two_ (i := 10) (j := 11) (Ni := some 5) (Nj := some 6) (bz 14 2047) (bz 14 3071) rfl rfl rfl rfl (two_of HT_.out (by kernel_rfl)) (by decide) (by decide) (fun K hK => ?_) (fun K hK => ?_)
    ·skip
     refine xS 5 #[.int .i64 0, .int .i64 0] 47 ?_
     intro gb192 hg w31 hbox hb
     have BK192 := aM hbox
     have GW192 := bZ hg HB
     have GE192 := bZ hg HB
     have NB191_192 := nL hg BK191
     have NB192_191 := nG hg BK191
     replace BK191 := bB BK191 hb
     replace HB := bS HB hb
     clear hb hbox hg
     refine hK.out _ _ ⟨cB BK191, cB BK191, cB BK191, cB BK191⟩ (fun hHeld => ?_)
     clear hK K
     refine nM 5 ?_
     refine oU 11 (some 6) 4095 HT_ (fun K hK => ?_)
     refine xS 6 #[.int .i64 0, .int .i64 0] 47 ?_
     intro gb193 hg w32 hbox hb
     have BK193 := aM hbox
     have GW193 := bZ hg HB
     have GE193 := bZ hg HB
     have NB191_193 := nL hg BK191
     have NB193_191 := nG hg BK191
     have NB192_193 := nL hg BK192
     have NB193_192 := nG hg BK192
     replace BK191 := bB BK191 hb
     replace BK192 := bB BK192 hb
     replace HB := bS HB hb
     clear hb hbox hg
     refine hK.out _ _ ⟨cB BK191, cB BK191, cB BK191, cB BK191⟩ (fun hHeld => ?_)
     clear hK K
     refine nM 6 ?_
     exact norm_ (by simp only [putAll, Act.put, List.setIfInBounds_toArray, List.set_cons_zero, List.set_cons_succ]) (hCont (gb192, gb193) _ ⟨hHeld, (bk BK191), (bk BK192), (bk BK193), GW192.out, GE192.out, NB191_192.out, NB192_191.out, NB193_192.out, NB192_193.out, GW193.out, GE193.out, NB191_193.out, NB193_191.out, qB⟩)
    ·skip
     refine xS 6 #[.int .i64 0, .int .i64 0] 47 ?_
     intro gb193 hg w31 hbox hb
     have BK193 := aM hbox
     have GW193 := bZ hg HB
     have GE193 := bZ hg HB
     have NB191_193 := nL hg BK191
     have NB193_191 := nG hg BK191
     replace BK191 := bB BK191 hb
     replace HB := bS HB hb
     clear hb hbox hg
     refine hK.out _ _ ⟨cB BK191, cB BK191, cB BK191, cB BK191⟩ (fun hHeld => ?_)
     clear hK K
     refine nM 6 ?_
     refine oU 10 (some 5) 4095 HT_ (fun K hK => ?_)
     refine xS 5 #[.int .i64 0, .int .i64 0] 47 ?_
     intro gb192 hg w32 hbox hb
     have BK192 := aM hbox
     have GW192 := bZ hg HB
     have GE192 := bZ hg HB
     have NB191_192 := nL hg BK191
     have NB192_191 := nG hg BK191
     have NB193_192 := nL hg BK193
     have NB192_193 := nG hg BK193
     replace BK191 := bB BK191 hb
     replace BK193 := bB BK193 hb
     replace HB := bS HB hb
     clear hb hbox hg
     refine hK.out _ _ ⟨cB BK191, cB BK191, cB BK191, cB BK191⟩ (fun hHeld => ?_)
     clear hK K
     refine nM 5 ?_
     exact norm_ (by simp only [putAll, Act.put, List.setIfInBounds_toArray, List.set_cons_zero, List.set_cons_succ]) (hCont (gb192, gb193) _ ⟨hHeld, (bk BK191), (bk BK192), (bk BK193), GW192.out, GE192.out, NB191_192.out, NB192_191.out, NB193_192.out, NB192_193.out, GW193.out, GE193.out, NB191_193.out, NB193_191.out, qB⟩)
   rintro ⟨gb192, gb193⟩ w33 ⟨hS_, h0_, h1_, h2_, h3_, h4_, h5_, h6_, h7_, h8_, h9_, h10_, h11_, h12_, h13_⟩
   have n0_ : Aside0 (w33.heap[gb191]? = some (.cells #[.int .i64 a1_0, .int .i64 a1_1, .int .i64 a1_2, .int .i64 a1_3] 51 (0, 0))) := ⟨h0_⟩
   have n1_ : Aside0 (w33.heap[gb192]? = some (.cells #[.int .i64 0, .int .i64 0] 47 (0, 0))) := ⟨h1_⟩
   have n2_ : Aside0 (w33.heap[gb193]? = some (.cells #[.int .i64 0, .int .i64 0] 47 (0, 0))) := ⟨h2_⟩
   have n3_ : Aside0 (w.heap.size ≤ gb192) := ⟨h3_⟩
   have n4_ : Aside0 (w.heap.size ≤ gb192) := ⟨h4_⟩
   have n5_ : Aside0 (gb191 ≠ gb192) := ⟨h5_⟩
   have n6_ : Aside0 (gb192 ≠ gb191) := ⟨h6_⟩
   have n7_ : Aside0 (gb193 ≠ gb192) := ⟨h7_⟩
   have n8_ : Aside0 (gb192 ≠ gb193) := ⟨h8_⟩
   have n9_ : Aside0 (w.heap.size ≤ gb193) := ⟨h9_⟩
   have n10_ : Aside0 (w.heap.size ≤ gb193) := ⟨h10_⟩
   have n11_ : Aside0 (gb191 ≠ gb193) := ⟨h11_⟩
   have n12_ : Aside0 (gb193 ≠ gb191) := ⟨h12_⟩
   have n13_ : Aside0 (Below w.heap.size w w33) := ⟨h13_⟩
   clear BK191
   clear HB
   clear h0_ h1_ h2_ h3_ h4_ h5_ h6_ h7_ h8_ h9_ h10_ h11_ h12_ h13_
   have BK191 := n0_
   have BK192 := n1_
   have BK193 := n2_
   have GW192 := n3_
   have GE192 := n4_
   have NB191_192 := n5_
   have NB192_191 := n6_
   have NB193_192 := n7_
   have NB192_193 := n8_
   have GW193 := n9_
   have GE193 := n10_
   have NB191_193 := n11_
   have NB193_191 := n12_
   have HB := n13_
   clear n0_ n1_ n2_ n3_ n4_ n5_ n6_ n7_ n8_ n9_ n10_ n11_ n12_ n13_
   have hHeld : w33.cell? ⟨gb191, 0, none⟩ = some (.int .i64 a1_0) ∧ w33.cell? ⟨gb191, 1, none⟩ = some (.int .i64 a1_1) ∧ w33.cell? ⟨gb191, 2, none⟩ = some (.int .i64 a1_2) ∧ w33.cell? ⟨gb191, 3, none⟩ = some (.int .i64 a1_3) := hS_
   refine norm_ (a' := ?_) ?_ ?_
   rotate_left
   ·simp only [putAll, Act.put, List.setIfInBounds_toArray, List.set_cons_zero, List.set_cons_succ]
    rfl
   refine oU 12 none 8191 HT_ (fun K hK => ?_)
   have hs34 : w33.cell? ⟨gb192, 0, none⟩ = some (.int .i64 0) := cB BK192
   have hfs34 := blk_frozen BK192.out 0
   have hns34_0 := NB191_192.out
   have hns34_2 := NB193_192.out
   have hms34_0 := NB192_191.out
   have hms34_2 := NB192_193.out
   have hs35 : w33.cell? ⟨gb192, 1, none⟩ = some (.int .i64 0) := cB BK192
   have hfs35 := blk_frozen BK192.out 1
   have hns35_0 := NB191_192.out
   have hns35_2 := NB193_192.out
   have hms35_0 := NB192_191.out
   have hms35_2 := NB192_193.out
   refine skip_ (w1 := ?_) (by rfl) rfl ?_ ?_
   rotate_left
   ·go_simp
    rfl
   refine hK.out _ _ ⟨((cell_far (p := ⟨gb192, _, none⟩) NB191_192.out _).trans (((cell_far (p := ⟨gb192, _, none⟩) NB191_192.out _).trans (hHeld.1)))), ((cell_far (p := ⟨gb192, _, none⟩) NB191_192.out _).trans (((cell_far (p := ⟨gb192, _, none⟩) NB191_192.out _).trans (hHeld.2.1)))), ((cell_far (p := ⟨gb192, _, none⟩) NB191_192.out _).trans (((cell_far (p := ⟨gb192, _, none⟩) NB191_192.out _).trans (hHeld.2.2.1)))), ((cell_far (p := ⟨gb192, _, none⟩) NB191_192.out _).trans (((cell_far (p := ⟨gb192, _, none⟩) NB191_192.out _).trans (hHeld.2.2.2))))⟩ (fun hHeld => ?_)
   clear hK K
   refine oU 13 none 16383 HT_ (fun K hK => ?_)
   have hs36 : w33.cell? ⟨gb193, 0, none⟩ = some (.int .i64 0) := cB BK193
   have hfs36 := blk_frozen BK193.out 0
   have hns36_0 := NB191_193.out
   have hns36_1 := NB192_193.out
   have hms36_0 := NB193_191.out
   have hms36_1 := NB193_192.out
   have hs37 : w33.cell? ⟨gb193, 1, none⟩ = some (.int .i64 0) := cB BK193
   have hfs37 := blk_frozen BK193.out 1
   have hns37_0 := NB191_193.out
   have hns37_1 := NB192_193.out
   have hms37_0 := NB193_191.out
   have hms37_1 := NB193_192.out
   refine skip_ (w1 := ?_) (by rfl) rfl ?_ ?_
   rotate_left
   ·go_simp
    rfl
   refine hK.out _ _ ⟨((cell_far (p := ⟨gb193, _, none⟩) NB191_193.out _).trans (((cell_far (p := ⟨gb193, _, none⟩) NB191_193.out _).trans (hHeld.1)))), ((cell_far (p := ⟨gb193, _, none⟩) NB191_193.out _).trans (((cell_far (p := ⟨gb193, _, none⟩) NB191_193.out _).trans (hHeld.2.1)))), ((cell_far (p := ⟨gb193, _, none⟩) NB191_193.out _).trans (((cell_far (p := ⟨gb193, _, none⟩) NB191_193.out _).trans (hHeld.2.2.1)))), ((cell_far (p := ⟨gb193, _, none⟩) NB191_193.out _).trans (((cell_far (p := ⟨gb193, _, none⟩) NB191_193.out _).trans (hHeld.2.2.2))))⟩ (fun hHeld => ?_)
   clear hK K
   refine dN HT_ ?_
   have hnb38 := NB192_191.out
   have hnc38 := NB191_192.out
   have hnb39 := NB192_193.out
   have hnc39 := NB193_192.out
   obtain ⟨hcz40_0, hcz40_1⟩ := z2 BK192
   obtain ⟨hfz40_0, hfz40_1⟩ := y2 BK192
   try go_wp2_with (first | ((with_reducible refine gC (f:=116) rfl ?_); refine gM 19 (spec_l04Norm.calls a0 a1_0 a1_2 t194 _ A3.out) Try.func116 ?_; rintro w41 hb; replace BK191 := bF BK191 hb; replace BK192 := bW (.cells #[.int .i64 a1_0, .int .i64 a1_2] 47 (0, 0)) BK192 hb; replace BK193 := bW (.cells #[.int .i64 a1_1, .int .i64 a1_3] 47 (0, 0)) BK193 hb; replace HB := bS HB hb; (try clear hb); have hnb42 := NB193_191.out; have hnc42 := NB191_193.out; obtain ⟨hcz43_0, hcz43_1⟩ := z2 BK193; obtain ⟨hfz43_0, hfz43_1⟩ := y2 BK193) | (go_at_call 116; (with_reducible refine (spec_l04Norm.calls a0 a1_1 a1_3 t195 _ A5.out).mono ?_); rintro e w44 ⟨rfl, hb⟩; replace BK191 := bB BK191 hb; replace BK192 := bB BK192 hb; replace BK193 := bB BK193 hb; replace HB := bS HB hb; (try clear hb)))
   go_ret
   exact ⟨qR, qB⟩
 ·rw [if_neg c4] at H
  have c4b0 : (t194 == 1) = false := beq_eq_false_iff_ne.mpr c4
  have c4b1 : (t194 != 1) = true := bne_iff_ne.mpr c4
  obtain rfl := Option.some.inj H
  go_enter Try.func123, Try.ntmps123
  try go_wp2_with (first | ((with_reducible refine gD (N:=3) rfl ?_); refine bE 3 #[.int .i64 a1_0, .int .i64 a1_1, .int .i64 a1_2, .int .i64 a1_3] 51 ?_; intro gb191 hg w45 hbox hb; have BK191 := aM hbox; have GW191 := bZ hg HB; have GE191 := bZ hg HB; replace HB := bS HB hb; clear hb hbox hg))
  replace BK191 := aM (blk_drew BK191.out)
  replace HB := aM (below_drew1 HB.out)
  refine sT (fun w' => w'.cell? ⟨gb191, 0, none⟩ = some (.int .i64 a1_0) ∧ w'.cell? ⟨gb191, 1, none⟩ = some (.int .i64 a1_1) ∧ w'.cell? ⟨gb191, 2, none⟩ = some (.int .i64 a1_2) ∧ w'.cell? ⟨gb191, 3, none⟩ = some (.int .i64 a1_3)) [] ⟨cB BK191, cB BK191, cB BK191, cB BK191⟩ (fun hHeld => ?_); refine with_tabW spec_l04Keeps.tab1 spec_l04Keeps.bits1 (fun HT_ HW_ => ?_)
  generalize w45.drew = w46 at BK191 HB hHeld ⊢
  refine pU 0 (some 7) 1 HT_ ?_
  refine pU 2 (some 9) 5 HT_ ?_
  refine pU 5 (some 12) 37 HT_ ?_
  refine pU 7 (some 14) 165 HT_ ?_
  refine tU 1 (some 8) 167 HT_ HW_ hHeld ?_
  refine tU 3 (some 10) 175 HT_ HW_ hHeld ?_
  refine pU 4 (some 11) 191 HT_ ?_
  refine tU 6 (some 13) 255 HT_ HW_ hHeld ?_
  refine tU 8 (some 15) 511 HT_ HW_ hHeld ?_
  refine pU 9 (some 16) 1023 HT_ ?_
  refine join_ (σ := Nat × Nat) 2 (bz 14 4095) (fun s_ => [(5, .pointer (some ⟨s_.1, 0, none⟩)), (6, .pointer (some ⟨s_.2, 0, none⟩))]) (fun s_ w' => (w'.cell? ⟨gb191, 0, none⟩ = some (.int .i64 a1_0) ∧ w'.cell? ⟨gb191, 1, none⟩ = some (.int .i64 a1_1) ∧ w'.cell? ⟨gb191, 2, none⟩ = some (.int .i64 a1_2) ∧ w'.cell? ⟨gb191, 3, none⟩ = some (.int .i64 a1_3)) ∧ (w'.heap[gb191]? = some (.cells #[.int .i64 a1_0, .int .i64 a1_1, .int .i64 a1_2, .int .i64 a1_3] 51 (0, 0))) ∧ (w'.heap[s_.1]? = some (.cells #[.int .i64 0, .int .i64 0] 47 (0, 0))) ∧ (w'.heap[s_.2]? = some (.cells #[.int .i64 0, .int .i64 0] 47 (0, 0))) ∧ (w.heap.size ≤ s_.1) ∧ (w.heap.size ≤ s_.1) ∧ (gb191 ≠ s_.1) ∧ (s_.1 ≠ gb191) ∧ (s_.2 ≠ s_.1) ∧ (s_.1 ≠ s_.2) ∧ (w.heap.size ≤ s_.2) ∧ (w.heap.size ≤ s_.2) ∧ (gb191 ≠ s_.2) ∧ (s_.2 ≠ gb191) ∧ (Below w.heap.size w w')) ?_ ?_
  rotate_left
  ·intro hCont
   refine two_ (i := 10) (j := 11) (Ni := some 5) (Nj := some 6) (bz 14 2047) (bz 14 3071) rfl rfl rfl rfl (two_of HT_.out (by kernel_rfl)) (by decide) (by decide) (fun K hK => ?_) (fun K hK => ?_)
   ·skip
    refine xS 5 #[.int .i64 0, .int .i64 0] 47 ?_
    intro gb192 hg w47 hbox hb
    have BK192 := aM hbox
    have GW192 := bZ hg HB
    have GE192 := bZ hg HB
    have NB191_192 := nL hg BK191
    have NB192_191 := nG hg BK191
    replace BK191 := bB BK191 hb
    replace HB := bS HB hb
    clear hb hbox hg
    refine hK.out _ _ ⟨cB BK191, cB BK191, cB BK191, cB BK191⟩ (fun hHeld => ?_)
    clear hK K
    refine nM 5 ?_
    refine oU 11 (some 6) 4095 HT_ (fun K hK => ?_)
    refine xS 6 #[.int .i64 0, .int .i64 0] 47 ?_
    intro gb193 hg w48 hbox hb
    have BK193 := aM hbox
    have GW193 := bZ hg HB
    have GE193 := bZ hg HB
    have NB191_193 := nL hg BK191
    have NB193_191 := nG hg BK191
    have NB192_193 := nL hg BK192
    have NB193_192 := nG hg BK192
    replace BK191 := bB BK191 hb
    replace BK192 := bB BK192 hb
    replace HB := bS HB hb
    clear hb hbox hg
    refine hK.out _ _ ⟨cB BK191, cB BK191, cB BK191, cB BK191⟩ (fun hHeld => ?_)
    clear hK K
    refine nM 6 ?_
    exact norm_ (by simp only [putAll, Act.put, List.setIfInBounds_toArray, List.set_cons_zero, List.set_cons_succ]) (hCont (gb192, gb193) _ ⟨hHeld, (bk BK191), (bk BK192), (bk BK193), GW192.out, GE192.out, NB191_192.out, NB192_191.out, NB193_192.out, NB192_193.out, GW193.out, GE193.out, NB191_193.out, NB193_191.out, qB⟩)
   ·skip
    refine xS 6 #[.int .i64 0, .int .i64 0] 47 ?_
    intro gb193 hg w47 hbox hb
    have BK193 := aM hbox
    have GW193 := bZ hg HB
    have GE193 := bZ hg HB
    have NB191_193 := nL hg BK191
    have NB193_191 := nG hg BK191
    replace BK191 := bB BK191 hb
    replace HB := bS HB hb
    clear hb hbox hg
    refine hK.out _ _ ⟨cB BK191, cB BK191, cB BK191, cB BK191⟩ (fun hHeld => ?_)
    clear hK K
    refine nM 6 ?_
    refine oU 10 (some 5) 4095 HT_ (fun K hK => ?_)
    refine xS 5 #[.int .i64 0, .int .i64 0] 47 ?_
    intro gb192 hg w48 hbox hb
    have BK192 := aM hbox
    have GW192 := bZ hg HB
    have GE192 := bZ hg HB
    have NB191_192 := nL hg BK191
    have NB192_191 := nG hg BK191
    have NB193_192 := nL hg BK193
    have NB192_193 := nG hg BK193
    replace BK191 := bB BK191 hb
    replace BK193 := bB BK193 hb
    replace HB := bS HB hb
    clear hb hbox hg
    refine hK.out _ _ ⟨cB BK191, cB BK191, cB BK191, cB BK191⟩ (fun hHeld => ?_)
    clear hK K
    refine nM 5 ?_
    exact norm_ (by simp only [putAll, Act.put, List.setIfInBounds_toArray, List.set_cons_zero, List.set_cons_succ]) (hCont (gb192, gb193) _ ⟨hHeld, (bk BK191), (bk BK192), (bk BK193), GW192.out, GE192.out, NB191_192.out, NB192_191.out, NB193_192.out, NB192_193.out, GW193.out, GE193.out, NB191_193.out, NB193_191.out, qB⟩)
  rintro ⟨gb192, gb193⟩ w49 ⟨hS_, h0_, h1_, h2_, h3_, h4_, h5_, h6_, h7_, h8_, h9_, h10_, h11_, h12_, h13_⟩
  have n0_ : Aside0 (w49.heap[gb191]? = some (.cells #[.int .i64 a1_0, .int .i64 a1_1, .int .i64 a1_2, .int .i64 a1_3] 51 (0, 0))) := ⟨h0_⟩
  have n1_ : Aside0 (w49.heap[gb192]? = some (.cells #[.int .i64 0, .int .i64 0] 47 (0, 0))) := ⟨h1_⟩
  have n2_ : Aside0 (w49.heap[gb193]? = some (.cells #[.int .i64 0, .int .i64 0] 47 (0, 0))) := ⟨h2_⟩
  have n3_ : Aside0 (w.heap.size ≤ gb192) := ⟨h3_⟩
  have n4_ : Aside0 (w.heap.size ≤ gb192) := ⟨h4_⟩
  have n5_ : Aside0 (gb191 ≠ gb192) := ⟨h5_⟩
  have n6_ : Aside0 (gb192 ≠ gb191) := ⟨h6_⟩
  have n7_ : Aside0 (gb193 ≠ gb192) := ⟨h7_⟩
  have n8_ : Aside0 (gb192 ≠ gb193) := ⟨h8_⟩
  have n9_ : Aside0 (w.heap.size ≤ gb193) := ⟨h9_⟩
  have n10_ : Aside0 (w.heap.size ≤ gb193) := ⟨h10_⟩
  have n11_ : Aside0 (gb191 ≠ gb193) := ⟨h11_⟩
  have n12_ : Aside0 (gb193 ≠ gb191) := ⟨h12_⟩
  have n13_ : Aside0 (Below w.heap.size w w49) := ⟨h13_⟩
  clear BK191
  clear HB
  clear h0_ h1_ h2_ h3_ h4_ h5_ h6_ h7_ h8_ h9_ h10_ h11_ h12_ h13_
  have BK191 := n0_
  have BK192 := n1_
  have BK193 := n2_
  have GW192 := n3_
  have GE192 := n4_
  have NB191_192 := n5_
  have NB192_191 := n6_
  have NB193_192 := n7_
  have NB192_193 := n8_
  have GW193 := n9_
  have GE193 := n10_
  have NB191_193 := n11_
  have NB193_191 := n12_
  have HB := n13_
  clear n0_ n1_ n2_ n3_ n4_ n5_ n6_ n7_ n8_ n9_ n10_ n11_ n12_ n13_
  have hHeld : w49.cell? ⟨gb191, 0, none⟩ = some (.int .i64 a1_0) ∧ w49.cell? ⟨gb191, 1, none⟩ = some (.int .i64 a1_1) ∧ w49.cell? ⟨gb191, 2, none⟩ = some (.int .i64 a1_2) ∧ w49.cell? ⟨gb191, 3, none⟩ = some (.int .i64 a1_3) := hS_
  refine norm_ (a' := ?_) ?_ ?_
  rotate_left
  ·simp only [putAll, Act.put, List.setIfInBounds_toArray, List.set_cons_zero, List.set_cons_succ]
   rfl
  refine oU 12 none 8191 HT_ (fun K hK => ?_)
  have hs50 : w49.cell? ⟨gb192, 0, none⟩ = some (.int .i64 0) := cB BK192
  have hfs50 := blk_frozen BK192.out 0
  have hns50_0 := NB191_192.out
  have hns50_2 := NB193_192.out
  have hms50_0 := NB192_191.out
  have hms50_2 := NB192_193.out
  have hs51 : w49.cell? ⟨gb192, 1, none⟩ = some (.int .i64 0) := cB BK192
  have hfs51 := blk_frozen BK192.out 1
  have hns51_0 := NB191_192.out
  have hns51_2 := NB193_192.out
  have hms51_0 := NB192_191.out
  have hms51_2 := NB192_193.out
  refine skip_ (w1 := ?_) (by rfl) rfl ?_ ?_
  rotate_left
  ·go_simp
   rfl
  refine hK.out _ _ ⟨((cell_far (p := ⟨gb192, _, none⟩) NB191_192.out _).trans (((cell_far (p := ⟨gb192, _, none⟩) NB191_192.out _).trans (hHeld.1)))), ((cell_far (p := ⟨gb192, _, none⟩) NB191_192.out _).trans (((cell_far (p := ⟨gb192, _, none⟩) NB191_192.out _).trans (hHeld.2.1)))), ((cell_far (p := ⟨gb192, _, none⟩) NB191_192.out _).trans (((cell_far (p := ⟨gb192, _, none⟩) NB191_192.out _).trans (hHeld.2.2.1)))), ((cell_far (p := ⟨gb192, _, none⟩) NB191_192.out _).trans (((cell_far (p := ⟨gb192, _, none⟩) NB191_192.out _).trans (hHeld.2.2.2))))⟩ (fun hHeld => ?_)
  clear hK K
  refine oU 13 none 16383 HT_ (fun K hK => ?_)
  have hs52 : w49.cell? ⟨gb193, 0, none⟩ = some (.int .i64 0) := cB BK193
  have hfs52 := blk_frozen BK193.out 0
  have hns52_0 := NB191_193.out
  have hns52_1 := NB192_193.out
  have hms52_0 := NB193_191.out
  have hms52_1 := NB193_192.out
  have hs53 : w49.cell? ⟨gb193, 1, none⟩ = some (.int .i64 0) := cB BK193
  have hfs53 := blk_frozen BK193.out 1
  have hns53_0 := NB191_193.out
  have hns53_1 := NB192_193.out
  have hms53_0 := NB193_191.out
  have hms53_1 := NB193_192.out
  refine skip_ (w1 := ?_) (by rfl) rfl ?_ ?_
  rotate_left
  ·go_simp
   rfl
  refine hK.out _ _ ⟨((cell_far (p := ⟨gb193, _, none⟩) NB191_193.out _).trans (((cell_far (p := ⟨gb193, _, none⟩) NB191_193.out _).trans (hHeld.1)))), ((cell_far (p := ⟨gb193, _, none⟩) NB191_193.out _).trans (((cell_far (p := ⟨gb193, _, none⟩) NB191_193.out _).trans (hHeld.2.1)))), ((cell_far (p := ⟨gb193, _, none⟩) NB191_193.out _).trans (((cell_far (p := ⟨gb193, _, none⟩) NB191_193.out _).trans (hHeld.2.2.1)))), ((cell_far (p := ⟨gb193, _, none⟩) NB191_193.out _).trans (((cell_far (p := ⟨gb193, _, none⟩) NB191_193.out _).trans (hHeld.2.2.2))))⟩ (fun hHeld => ?_)
  clear hK K
  refine dN HT_ ?_
  have hnb54 := NB192_191.out
  have hnc54 := NB191_192.out
  have hnb55 := NB192_193.out
  have hnc55 := NB193_192.out
  obtain ⟨hcz56_0, hcz56_1⟩ := z2 BK192
  obtain ⟨hfz56_0, hfz56_1⟩ := y2 BK192
  try go_wp2_with (first | ((with_reducible refine gC (f:=116) rfl ?_); refine gM 19 (spec_l04Norm.calls a0 a1_0 a1_2 t194 _ A3.out) Try.func116 ?_; rintro w57 hb; replace BK191 := bF BK191 hb; replace BK192 := bW (.cells #[.int .i64 a1_0, .int .i64 a1_2] 47 (0, 0)) BK192 hb; replace BK193 := bW (.cells #[.int .i64 a1_1, .int .i64 a1_3] 47 (0, 0)) BK193 hb; replace HB := bS HB hb; (try clear hb)))
  go_ret
  exact ⟨qR, qB⟩

end Go.Proofs.Ytcjchihnopmplaa.F

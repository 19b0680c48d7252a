import Derived.Test.YtcjchihnopmplaaY0
import Derived.Test.YtcjchihnopmplaaY5
import Derived.Test.YtcjchihnopmplaaY9
import Derived.Test.YtcjchihnopmplaaY10
namespace Go.Proofs.Ytcjchihnopmplaa.F
open Go.RowKit Go.Proofs.YtcjchihnopmplaaW.PrintWords Go.Proofs.YtcjchihnopmplaaW.PrintLast Go.Proofs.YtcjchihnopmplaaW.PrintMore
attribute [local go_sem] max2_int min2_int max_two min_two max_three min_three max_four min_four   -- for this text's walks alone
set_option linter.unusedVariables false
set_option linter.unusedSimpArgs false
attribute [local go_sem high] eqA33 eqA51

def spec_l04Image.f (k : Nat) (a0_0 : Int) (a0_1 : Int) (a0_2 : Int) (a0_3 : Int) (a1_0 : Int) (a1_1 : Int) (a1_2 : Int) : Option (Int × Int × Int) := (spec_l03Basis.f a1_0 a1_1 a1_2).bind fun t558 => (if 0 < (t558.length : Int) then ((spec_l02Apply.f a0_0 a0_1 a0_2 a0_3 ((rd_T47 t558 0).f0) ((rd_T47 t558 0).f1)).bind fun bt562 => (if 1 < (t558.length : Int) then ((spec_l02Apply.f a0_0 a0_1 a0_2 a0_3 ((rd_T47 t558 1).f0) ((rd_T47 t558 1).f1)).bind fun bt565 => ((spec_l03Hermite.f k (([(⟨bt562.1, bt562.2⟩ : S47), (⟨bt565.1, bt565.2⟩ : S47)] : List (S47)))).bind fun bt570 => (some (bt570.1, bt570.2.1, bt570.2.2)))) else (none))) else (none))
def spec_l04Image.T2 : Bool × List (List Nat × List Nat) := (true, [([], []), ([], []), ([1], [1]), ([2], [2]), ([0, 3], [0, 3]), ([], []), ([], []), ([6], [6]), ([7], [7]), ([5, 8, 4], [5, 8]), ([4, 9], [4, 9]), ([10, 9], [10]), ([11, 11, 0, 1, 2, 3, 4, 5, 6, 7, 8, 9, 10, 11], [11])])
def spec_l04Image.B2 : List Nat := [0, 0, 2, 6, 15, 0, 0, 64, 192, 511, 1023, 2047, 4095]
theorem spec_l04Image.tab2 : rtab .any (opsOf Try.f121 2) = spec_l04Image.T2 := by kernel_rfl
theorem spec_l04Image.bits2 : waitsOk spec_l04Image.T2.2 spec_l04Image.B2 = true := by kernel_rfl
set_option maxHeartbeats 8000000 in
set_option maxRecDepth 100000 in
theorem spec_l04Image.calls (k : Nat) (a0_0 : Int) (a0_1 : Int) (a0_2 : Int) (a0_3 : Int) (a1_0 : Int) (a1_1 : Int) (a1_2 : Int) (r1 : Int) (r2 : Int) (r3 : Int) (w : World) (h : spec_l04Image.f k a0_0 a0_1 a0_2 a0_3 a1_0 a1_1 a1_2 = some (r1, r2, r3)) :
  Calls Try.prog 121 #[.agg #[.int .i64 a0_0, .int .i64 a0_1, .int .i64 a0_2, .int .i64 a0_3], .agg #[.int .i64 a1_0, .int .i64 a1_1, .int .i64 a1_2]] w fun e w' => e = .returned (.agg #[.int .i64 r1, .int .i64 r2, .int .i64 r3]) ∧ Below w.heap.size w w' := by
 have hu51 := Try.underlying51
 have hu33 := Try.underlying33
 have hu47 := Try.underlying47
 have HB := aM (Below.refl w.heap.size w)
 have H : ((spec_l03Basis.f a1_0 a1_1 a1_2).bind fun t558 => (if 0 < (t558.length : Int) then ((spec_l02Apply.f a0_0 a0_1 a0_2 a0_3 ((rd_T47 t558 0).f0) ((rd_T47 t558 0).f1)).bind fun bt562 => (if 1 < (t558.length : Int) then ((spec_l02Apply.f a0_0 a0_1 a0_2 a0_3 ((rd_T47 t558 1).f0) ((rd_T47 t558 1).f1)).bind fun bt565 => ((spec_l03Hermite.f k (([(⟨bt562.1, bt562.2⟩ : S47), (⟨bt565.1, bt565.2⟩ : S47)] : List (S47)))).bind fun bt570 => (some (bt570.1, bt570.2.1, bt570.2.2)))) else (none))) else (none))) = some (r1, r2, r3) := h
 clear h
 obtain ⟨t558, A3, H⟩ := oB H
 try dsimp only at H
 by_cases c4 : 0 < (t558.length : Int)
 ·rw [if_pos c4] at H
  have c4b0 : decide (0 < (t558.length : Int)) = true := decide_eq_true c4
  have c4b1 : decide (0 < t558.length) = true := decide_eq_true (by omega)
  clear c4
  obtain ⟨⟨t562, t563⟩, A5, H⟩ := oB H
  try dsimp only at H
  by_cases c6 : 1 < (t558.length : Int)
  ·rw [if_pos c6] at H
   have c6b0 : decide (1 < (t558.length : Int)) = true := decide_eq_true c6
   have c6b1 : decide (1 < t558.length) = true := decide_eq_true (by omega)
   clear c6
   obtain ⟨⟨t565, t566⟩, A7, H⟩ := oB H
   try dsimp only at H
   obtain ⟨y567, hy567⟩ : ∃ y_ : List (S47), y_ = (([(⟨t562, t563⟩ : S47), (⟨t565, t566⟩ : S47)] : List (S47))) := ⟨_, rfl⟩
   replace H : ((spec_l03Hermite.f k y567).bind fun bt570 => (some (bt570.1, bt570.2.1, bt570.2.2))) = some (r1, r2, r3) := by first | (rw [hy567]; with_reducible exact H) | (have H2_ := (Option.bind_some _ _).symm.trans H; rw [hy567]; with_reducible exact H2_) | (have H2_ := (Option.bind_some _ _).symm.trans H; with_reducible exact H2_) | with_reducible exact H | (rw [hy567]; exact H) | exact H
   have Ny567 := aM hy567
   clear hy567
   obtain ⟨⟨t570, t571, t572⟩, A8, H⟩ := oB H
   try dsimp only at H
   simp only [Option.some.injEq, Prod.mk.injEq] at H
   obtain ⟨rfl, rfl, rfl⟩ := H
   go_enter Try.func121, Try.ntmps121
   try go_wp2_with (first | (refine bE 2 #[.int .i64 a0_0, .int .i64 a0_1, .int .i64 a0_2, .int .i64 a0_3] 51 ?_; intro gb555 hg w9 hbox hb; have BK555 := aM hbox; have GW555 := bZ hg HB; have GE555 := bZ hg HB; replace HB := bS HB hb; clear hb hbox hg) | (refine bE 3 #[.int .i64 a1_0, .int .i64 a1_1, .int .i64 a1_2] 33 ?_; intro gb556 hg w10 hbox hb; have BK556 := aM hbox; have GW556 := bZ hg HB; have GE556 := bZ hg HB; have NB555_556 := nL hg BK555; have NB556_555 := nG hg BK555; replace BK555 := bB BK555 hb; replace HB := bS HB hb; clear hb hbox hg) | (refine bE 4 #[.int .i64 0, .int .i64 0, .int .i64 0] 33 ?_; intro gb557 hg w11 hbox hb; have BK557 := aM hbox; have GW557 := bZ hg HB; have GE557 := bZ hg HB; have NB555_557 := nL hg BK555; have NB557_555 := nG hg BK555; have NB556_557 := nL hg BK556; have NB557_556 := nG hg BK556; replace BK555 := bB BK555 hb; replace BK556 := bB BK556 hb; replace HB := bS HB hb; clear hb hbox hg; have hnb12 := NB556_555.out; have hnc12 := NB555_556.out; have hnb13 := NB556_557.out; have hnc13 := NB557_556.out; obtain ⟨hcz14_0, hcz14_1, hcz14_2⟩ := z3 BK556; obtain ⟨hfz14_0, hfz14_1, hfz14_2⟩ := y3 BK556) | ((with_reducible refine gate_callee (f := 149) rfl ?_); refine goesL_ (some 7) rfl rfl Try.func149 (by kernel_rfl) rfl #[.agg #[.int .i64 a1_0, .int .i64 a1_1, .int .i64 a1_2]] rfl (by first|rfl|(simp only [List.map_toArray, List.map_cons, List.map_nil]; try rfl)) ?_; (with_reducible refine (spec_l03Basis.calls a1_0 a1_1 a1_2 t558 _ A3.out).mono ?_); rintro e w15 ⟨v559, rfl, ho0, hb⟩; refine ⟨_, rfl, ?_⟩; have HO560 := aM (Kd.R_lower ho0 (below_size qB)); replace BK555 := bB BK555 hb; replace BK556 := bB BK556 hb; replace BK557 := bB BK557 hb; replace HB := bS HB hb; (try clear hb); (try clear ho0)))
   replace HO560 := aM (Kd.R_drew HO560.out)
   replace BK555 := aM (blk_drew BK555.out)
   replace BK556 := aM (blk_drew BK556.out)
   replace BK557 := aM (blk_drew BK557.out)
   replace HB := aM (below_drew1 HB.out)
   obtain ⟨Ao17, co17, eo17⟩ := Kd.R_slice HO560.out
   (first | subst eo17 | (injection eo17 with f1_ f2_ f3_; have f4_ := f1_.symm; have f5_ := f3_.symm; clear f1_ f2_ f3_; subst f4_; subst f5_))
   have p561 : 0 ≤ (0 : Int) := (by omega)
   have q561 : 0 < (t558.length : Int) := of_decide_eq_true (by first | (with_reducible assumption) | assumption)
   obtain ⟨ad561, e561, hx561_0, hx561_1⟩ := at_T47 (Kd.R_reads' HO560.out).2.2 0 p561 q561
   cases e561
   have qi561 : (0 < t558.length) = True := eq_true (by omega)
   (try rw [show ((0 : Int)).toNat = 0 from rfl] at hx561_0)
   (try rw [show 0 * 2 = 0 from rfl] at hx561_0)
   (try rw [Addr.add_zero'] at hx561_0)
   (try rw [show ((0 : Int)).toNat = 0 from rfl] at hx561_1)
   (try rw [show 0 * 2 = 0 from rfl] at hx561_1)
   (try rw [Addr.add_zero'] at hx561_1)
   replace p561 := eq_true p561
   replace q561 := eq_true q561
   have p564 : 0 ≤ (1 : Int) := (by omega)
   have q564 : 1 < (t558.length : Int) := of_decide_eq_true (by first | (with_reducible assumption) | assumption)
   obtain ⟨ad564, e564, hx564_0, hx564_1⟩ := at_T47 (Kd.R_reads' HO560.out).2.2 1 p564 q564
   obtain rfl : ad561 = ad564 := (by injection e564)
   (try simp only [show (1 : Int).toNat = 1 from rfl, Nat.reduceMul, Nat.reduceEqDiff, Go.Addr.add, ↓reduceIte] at hx564_0)
   (try simp only [show (1 : Int).toNat = 1 from rfl, Nat.reduceMul, Nat.reduceEqDiff, Go.Addr.add, ↓reduceIte] at hx564_1)
   have qi564 : (1 < t558.length) = True := eq_true (by omega)
   (try rw [show ((1 : Int)).toNat = 1 from rfl] at hx564_0)
   (try rw [show 1 * 2 = 2 from rfl] at hx564_0)
   (try rw [show ((1 : Int)).toNat = 1 from rfl] at hx564_1)
   (try rw [show 1 * 2 = 2 from rfl] at hx564_1)
   replace p564 := eq_true p564
   replace q564 := eq_true q564
   refine sT (fun w' => w'.cell? ⟨gb555, 0, none⟩ = some (.int .i64 a0_0) ∧ w'.cell? ⟨gb555, 1, none⟩ = some (.int .i64 a0_1) ∧ w'.cell? ⟨gb555, 2, none⟩ = some (.int .i64 a0_2) ∧ w'.cell? ⟨gb555, 3, none⟩ = some (.int .i64 a0_3) ∧ w'.cell? ad561 = some (.int .i64 ((rd_T47 t558 0).f0)) ∧ w'.cell? ⟨ad561.block, ad561.off + 1, none⟩ = some (.int .i64 ((rd_T47 t558 0).f1)) ∧ w'.cell? ⟨ad561.block, ad561.off + 2, none⟩ = some (.int .i64 ((rd_T47 t558 1).f0)) ∧ w'.cell? ⟨ad561.block, ad561.off + 2 + 1, none⟩ = some (.int .i64 ((rd_T47 t558 1).f1))) [] ⟨cB BK555, cB BK555, cB BK555, cB BK555, hx561_0, hx561_1, hx564_0, hx564_1⟩ (fun hHeld => ?_); refine with_tabW spec_l04Image.tab2 spec_l04Image.bits2 (fun HT_ HW_ => ?_)
   generalize w15.drew = w16 at HO560 BK555 BK556 BK557 HB hx561_0 hx561_1 hx564_0 hx564_1 hHeld ⊢
   refine pU 1 (some 9) 2 HT_ ?_
   refine pU 2 (some 10) 6 HT_ ?_
   refine pU 6 (some 14) 70 HT_ ?_
   refine pU 7 (some 15) 198 HT_ ?_
   refine tU 0 (some 8) 199 HT_ HW_ hHeld ?_
   refine tU 3 (some 11) 207 HT_ HW_ hHeld ?_
   refine tU 5 (some 13) 239 HT_ HW_ hHeld ?_
   refine tU 8 (some 16) 495 HT_ HW_ hHeld ?_
   refine oU 4 (some 12) 511 HT_ (fun K hK => ?_)
   refine gO Try.func100 #[.agg #[.int .i64 a0_0, .int .i64 a0_1, .int .i64 a0_2, .int .i64 a0_3], .agg #[.int .i64 ((rd_T47 t558 0).f0), .int .i64 ((rd_T47 t558 0).f1)]] ?_
   with_reducible refine (spec_l02Apply.calls a0_0 a0_1 a0_2 a0_3 ((rd_T47 t558 0).f0) ((rd_T47 t558 0).f1) t562 t563 _ A5.out).mono ?_
   rintro e w18 ⟨rfl, hb⟩
   have HS4_ := (hb.cell (World.block_lt_of_cell? _ _ (hHeld.2.2.2.2.1))).trans (hHeld.2.2.2.2.1)
   have HS5_ := (hb.cell (World.block_lt_of_cell? _ _ (hHeld.2.2.2.2.2.1))).trans (hHeld.2.2.2.2.2.1)
   have HS6_ := (hb.cell (World.block_lt_of_cell? _ _ (hHeld.2.2.2.2.2.2.1))).trans (hHeld.2.2.2.2.2.2.1)
   have HS7_ := (hb.cell (World.block_lt_of_cell? _ _ (hHeld.2.2.2.2.2.2.2))).trans (hHeld.2.2.2.2.2.2.2)
   refine ⟨_, rfl, ?_⟩
   have n0_ := aM (Kd.R_below (by (with_reducible repeat (first | apply Kd.R_alloc | apply Kd.R_drewN | apply Kd.R_drew)); exact HO560.out) hb)
   have n1_ := bB BK555 hb
   have n2_ := bB BK556 hb
   have n3_ := bB BK557 hb
   have n4_ := bS HB hb
   clear HO560
   clear BK555
   clear BK556
   clear BK557
   clear HB
   have HO560 := n0_
   have BK555 := n1_
   have BK556 := n2_
   have BK557 := n3_
   have HB := n4_
   clear n0_ n1_ n2_ n3_ n4_
   (try clear hb)
   (try clear hb2)
   (try clear hk)
   (try clear hi)
   refine hK.out _ _ ⟨cB BK555, cB BK555, cB BK555, cB BK555, HS4_, HS5_, HS6_, HS7_⟩ (fun hHeld => ?_)
   clear hK K
   refine nM 12 ?_
   refine oU 9 (some 17) 1023 HT_ (fun K hK => ?_)
   refine gO Try.func100 #[.agg #[.int .i64 a0_0, .int .i64 a0_1, .int .i64 a0_2, .int .i64 a0_3], .agg #[.int .i64 ((rd_T47 t558 1).f0), .int .i64 ((rd_T47 t558 1).f1)]] ?_
   with_reducible refine (spec_l02Apply.calls a0_0 a0_1 a0_2 a0_3 ((rd_T47 t558 1).f0) ((rd_T47 t558 1).f1) t565 t566 _ A7.out).mono ?_
   rintro e w19 ⟨rfl, hb⟩
   have HS4_ := (hb.cell (World.block_lt_of_cell? _ _ (hHeld.2.2.2.2.1))).trans (hHeld.2.2.2.2.1)
   have HS5_ := (hb.cell (World.block_lt_of_cell? _ _ (hHeld.2.2.2.2.2.1))).trans (hHeld.2.2.2.2.2.1)
   have HS6_ := (hb.cell (World.block_lt_of_cell? _ _ (hHeld.2.2.2.2.2.2.1))).trans (hHeld.2.2.2.2.2.2.1)
   have HS7_ := (hb.cell (World.block_lt_of_cell? _ _ (hHeld.2.2.2.2.2.2.2))).trans (hHeld.2.2.2.2.2.2.2)
   refine ⟨_, rfl, ?_⟩
   have n0_ := aM (Kd.R_below (by (with_reducible repeat (first | apply Kd.R_alloc | apply Kd.R_drewN | apply Kd.R_drew)); exact HO560.out) hb)
   have n1_ := bB BK555 hb
   have n2_ := bB BK556 hb
   have n3_ := bB BK557 hb
   have n4_ := bS HB hb
   clear HO560
   clear BK555
   clear BK556
   clear BK557
   clear HB
   have HO560 := n0_
   have BK555 := n1_
   have BK556 := n2_
   have BK557 := n3_
   have HB := n4_
   clear n0_ n1_ n2_ n3_ n4_
   (try clear hb)
   (try clear hb2)
   (try clear hk)
   (try clear hi)
   refine hK.out _ _ ⟨cB BK555, cB BK555, cB BK555, cB BK555, HS4_, HS5_, HS6_, HS7_⟩ (fun hHeld => ?_)
   clear hK K
   refine nM 17 ?_
   refine oU 10 (some 18) 2047 HT_ (fun K hK => ?_)
   refine Kd.R_lit_step k47 _ 47 ?hg (N := 18) ?hd (xs := ([(⟨t562, t563⟩ : S47), (⟨t565, t566⟩ : S47)] : List (S47))) (inner := [.int .i64 t562, .int .i64 t563, .int .i64 t565, .int .i64 t566]) (ok := fun _ => True) (okp := fun _ => True) ?hr ?hp (fun _ hk => hk) trivial (Below.refl _ _) (Nat.le_refl _) (by simp) ?_; (case hd => rfl); (case hg => rfl); (case hr => first | (go_simp; done) | (go_simp; rfl)); (case hp => exact (Reps.c2 (show Kd.M k47 _ _ _ (⟨t562, t563⟩ : S47) [.int .i64 t562, .int .i64 t563] from (k47_mkM _ _ _ (⟨t562, t563⟩ : S47) )) (Reps.c2 (show Kd.M k47 _ _ _ (⟨t565, t566⟩ : S47) [.int .i64 t565, .int .i64 t566] from (k47_mkM _ _ _ (⟨t565, t566⟩ : S47) )) (Reps.none _ _))))
   intro v568 w20 ho21 hb hg_ hnew_
   have HS4_ := (hb.cell (World.block_lt_of_cell? _ _ (hHeld.2.2.2.2.1))).trans (hHeld.2.2.2.2.1)
   have HS5_ := (hb.cell (World.block_lt_of_cell? _ _ (hHeld.2.2.2.2.2.1))).trans (hHeld.2.2.2.2.2.1)
   have HS6_ := (hb.cell (World.block_lt_of_cell? _ _ (hHeld.2.2.2.2.2.2.1))).trans (hHeld.2.2.2.2.2.2.1)
   have HS7_ := (hb.cell (World.block_lt_of_cell? _ _ (hHeld.2.2.2.2.2.2.2))).trans (hHeld.2.2.2.2.2.2.2)
   clear hg_ hnew_
   (first | rw [← Ny567.out] at ho21 | (simp only [Int.reduceToNat] at ho21; rw [← Ny567.out] at ho21))
   have n0_ := aM (Kd.R_elder' (by (with_reducible repeat (first | apply Kd.R_alloc | apply Kd.R_drewN | apply Kd.R_drew)); exact HO560.out) (Kd.R_base ho21) hb)
   have n1_ := aM (Kd.R_lower (Kd.R_new' ho21 (Kd.R_lt (by (with_reducible repeat (first | apply Kd.R_alloc | apply Kd.R_drewN | apply Kd.R_drew)); exact HO560.out))) (below_size qB))
   have n2_ := bB BK555 hb
   have n3_ := bB BK556 hb
   have n4_ := bB BK557 hb
   have n5_ := bS HB hb
   clear HO560
   clear BK555
   clear BK556
   clear BK557
   clear HB
   have HO560 := n0_
   have HO569 := n1_
   have BK555 := n2_
   have BK556 := n3_
   have BK557 := n4_
   have HB := n5_
   clear n0_ n1_ n2_ n3_ n4_ n5_
   clear hb ho21
   obtain ⟨Ao22, co22, eo22⟩ := Kd.R_slice HO569.out
   (first | subst eo22 | (injection eo22 with f1_ f2_ f3_; have f4_ := f1_.symm; have f5_ := f3_.symm; clear f1_ f2_ f3_; subst f4_; subst f5_))
   refine hK.out _ _ ⟨cB BK555, cB BK555, cB BK555, cB BK555, HS4_, HS5_, HS6_, HS7_⟩ (fun hHeld => ?_)
   clear hK K
   refine nM 18 ?_
   refine oU 11 (some 19) 4095 HT_ (fun K hK => ?_)
   refine gO Try.func150 #[.slice Ao22 y567.length co22] ?_
   with_reducible refine (spec_l03Hermite.calls k _ _ y567 t570 t571 t572 _ ?side1 ?side2 A8.out).mono ?_
   (case side1 => repeat (first | exact (Kd.R_reads' HO569.out).2.2 | (with_reducible refine Kd.C_alloc ?_ _) | (with_reducible refine Kd.C_drewN ?_ _) | (with_reducible refine Kd.C_drew ?_)))
   (case side2 => exact (Kd.R_reads' HO569.out).2.1)
   rintro e w23 ⟨rfl, hb⟩
   have HS4_ := (hb.cell (World.block_lt_of_cell? _ _ (hHeld.2.2.2.2.1))).trans (hHeld.2.2.2.2.1)
   have HS5_ := (hb.cell (World.block_lt_of_cell? _ _ (hHeld.2.2.2.2.2.1))).trans (hHeld.2.2.2.2.2.1)
   have HS6_ := (hb.cell (World.block_lt_of_cell? _ _ (hHeld.2.2.2.2.2.2.1))).trans (hHeld.2.2.2.2.2.2.1)
   have HS7_ := (hb.cell (World.block_lt_of_cell? _ _ (hHeld.2.2.2.2.2.2.2))).trans (hHeld.2.2.2.2.2.2.2)
   refine ⟨_, rfl, ?_⟩
   have n0_ := aM (Kd.R_below (by (with_reducible repeat (first | apply Kd.R_alloc | apply Kd.R_drewN | apply Kd.R_drew)); exact HO560.out) hb)
   have n1_ := aM (Kd.R_below (by (with_reducible repeat (first | apply Kd.R_alloc | apply Kd.R_drewN | apply Kd.R_drew)); exact HO569.out) hb)
   have n2_ := bB BK555 hb
   have n3_ := bB BK556 hb
   have n4_ := bB BK557 hb
   have n5_ := bS HB hb
   clear HO560
   clear HO569
   clear BK555
   clear BK556
   clear BK557
   clear HB
   have HO560 := n0_
   have HO569 := n1_
   have BK555 := n2_
   have BK556 := n3_
   have BK557 := n4_
   have HB := n5_
   clear n0_ n1_ n2_ n3_ n4_ n5_
   (try clear hb)
   (try clear hb2)
   (try clear hk)
   (try clear hi)
   refine hK.out _ _ ⟨cB BK555, cB BK555, cB BK555, cB BK555, HS4_, HS5_, HS6_, HS7_⟩ (fun hHeld => ?_)
   clear hK K
   refine nM 19 ?_
   refine oU 12 none 8191 HT_ (fun K hK => ?_)
   have hs24 : w23.cell? ⟨gb557, 0, none⟩ = some (.int .i64 0) := cB BK557
   have hfs24 := blk_frozen BK557.out 0
   have hns24_0 := NB555_557.out
   have hns24_1 := NB556_557.out
   have hms24_0 := NB557_555.out
   have hms24_1 := NB557_556.out
   have hs25 : w23.cell? ⟨gb557, 1, none⟩ = some (.int .i64 0) := cB BK557
   have hfs25 := blk_frozen BK557.out 1
   have hns25_0 := NB555_557.out
   have hns25_1 := NB556_557.out
   have hms25_0 := NB557_555.out
   have hms25_1 := NB557_556.out
   have hs26 : w23.cell? ⟨gb557, 2, none⟩ = some (.int .i64 0) := cB BK557
   have hfs26 := blk_frozen BK557.out 2
   have hns26_0 := NB555_557.out
   have hns26_1 := NB556_557.out
   have hms26_0 := NB557_555.out
   have hms26_1 := NB557_556.out
   refine skip_ (w1 := ?_) (by rfl) rfl ?_ ?_
   rotate_left
   ·go_simp
    rfl
   refine hK.out _ _ ⟨((cell_far (p := ⟨gb557, _, none⟩) NB555_557.out _).trans (((cell_far (p := ⟨gb557, _, none⟩) NB555_557.out _).trans (((cell_far (p := ⟨gb557, _, none⟩) NB555_557.out _).trans (hHeld.1)))))), ((cell_far (p := ⟨gb557, _, none⟩) NB555_557.out _).trans (((cell_far (p := ⟨gb557, _, none⟩) NB555_557.out _).trans (((cell_far (p := ⟨gb557, _, none⟩) NB555_557.out _).trans (hHeld.2.1)))))), ((cell_far (p := ⟨gb557, _, none⟩) NB555_557.out _).trans (((cell_far (p := ⟨gb557, _, none⟩) NB555_557.out _).trans (((cell_far (p := ⟨gb557, _, none⟩) NB555_557.out _).trans (hHeld.2.2.1)))))), ((cell_far (p := ⟨gb557, _, none⟩) NB555_557.out _).trans (((cell_far (p := ⟨gb557, _, none⟩) NB555_557.out _).trans (((cell_far (p := ⟨gb557, _, none⟩) NB555_557.out _).trans (hHeld.2.2.2.1)))))), ((cell_far (p := ⟨gb557, _, none⟩) (by first | exact Kd.own_blk (Kd.R_ne HO560.out BK557.out (by decide)) | (rw [add_block]; exact Kd.own_blk (Kd.R_ne HO560.out BK557.out (by decide))) | (show (Addr.add _ _).block ≠ _; rw [add_block]; exact Kd.own_blk (Kd.R_ne HO560.out BK557.out (by decide))) | (dsimp only; exact Kd.own_blk (Kd.R_ne HO560.out BK557.out (by decide)))) _).trans (((cell_far (p := ⟨gb557, _, none⟩) (by first | exact Kd.own_blk (Kd.R_ne HO560.out BK557.out (by decide)) | (rw [add_block]; exact Kd.own_blk (Kd.R_ne HO560.out BK557.out (by decide))) | (show (Addr.add _ _).block ≠ _; rw [add_block]; exact Kd.own_blk (Kd.R_ne HO560.out BK557.out (by decide))) | (dsimp only; exact Kd.own_blk (Kd.R_ne HO560.out BK557.out (by decide)))) _).trans (((cell_far (p := ⟨gb557, _, none⟩) (by first | exact Kd.own_blk (Kd.R_ne HO560.out BK557.out (by decide)) | (rw [add_block]; exact Kd.own_blk (Kd.R_ne HO560.out BK557.out (by decide))) | (show (Addr.add _ _).block ≠ _; rw [add_block]; exact Kd.own_blk (Kd.R_ne HO560.out BK557.out (by decide))) | (dsimp only; exact Kd.own_blk (Kd.R_ne HO560.out BK557.out (by decide)))) _).trans (hHeld.2.2.2.2.1)))))), ((cell_far (p := ⟨gb557, _, none⟩) (by first | exact Kd.own_blk (Kd.R_ne HO560.out BK557.out (by decide)) | (rw [add_block]; exact Kd.own_blk (Kd.R_ne HO560.out BK557.out (by decide))) | (show (Addr.add _ _).block ≠ _; rw [add_block]; exact Kd.own_blk (Kd.R_ne HO560.out BK557.out (by decide))) | (dsimp only; exact Kd.own_blk (Kd.R_ne HO560.out BK557.out (by decide)))) _).trans (((cell_far (p := ⟨gb557, _, none⟩) (by first | exact Kd.own_blk (Kd.R_ne HO560.out BK557.out (by decide)) | (rw [add_block]; exact Kd.own_blk (Kd.R_ne HO560.out BK557.out (by decide))) | (show (Addr.add _ _).block ≠ _; rw [add_block]; exact Kd.own_blk (Kd.R_ne HO560.out BK557.out (by decide))) | (dsimp only; exact Kd.own_blk (Kd.R_ne HO560.out BK557.out (by decide)))) _).trans (((cell_far (p := ⟨gb557, _, none⟩) (by first | exact Kd.own_blk (Kd.R_ne HO560.out BK557.out (by decide)) | (rw [add_block]; exact Kd.own_blk (Kd.R_ne HO560.out BK557.out (by decide))) | (show (Addr.add _ _).block ≠ _; rw [add_block]; exact Kd.own_blk (Kd.R_ne HO560.out BK557.out (by decide))) | (dsimp only; exact Kd.own_blk (Kd.R_ne HO560.out BK557.out (by decide)))) _).trans (hHeld.2.2.2.2.2.1)))))), ((cell_far (p := ⟨gb557, _, none⟩) (by first | exact Kd.own_blk (Kd.R_ne HO560.out BK557.out (by decide)) | (rw [add_block]; exact Kd.own_blk (Kd.R_ne HO560.out BK557.out (by decide))) | (show (Addr.add _ _).block ≠ _; rw [add_block]; exact Kd.own_blk (Kd.R_ne HO560.out BK557.out (by decide))) | (dsimp only; exact Kd.own_blk (Kd.R_ne HO560.out BK557.out (by decide)))) _).trans (((cell_far (p := ⟨gb557, _, none⟩) (by first | exact Kd.own_blk (Kd.R_ne HO560.out BK557.out (by decide)) | (rw [add_block]; exact Kd.own_blk (Kd.R_ne HO560.out BK557.out (by decide))) | (show (Addr.add _ _).block ≠ _; rw [add_block]; exact Kd.own_blk (Kd.R_ne HO560.out BK557.out (by decide))) | (dsimp only; exact Kd.own_blk (Kd.R_ne HO560.out BK557.out (by decide)))) _).trans (((cell_far (p := ⟨gb557, _, none⟩) (by first | exact Kd.own_blk (Kd.R_ne HO560.out BK557.out (by decide)) | (rw [add_block]; exact Kd.own_blk (Kd.R_ne HO560.out BK557.out (by decide))) | (show (Addr.add _ _).block ≠ _; rw [add_block]; exact Kd.own_blk (Kd.R_ne HO560.out BK557.out (by decide))) | (dsimp only; exact Kd.own_blk (Kd.R_ne HO560.out BK557.out (by decide)))) _).trans (hHeld.2.2.2.2.2.2.1)))))), ((cell_far (p := ⟨gb557, _, none⟩) (by first | exact Kd.own_blk (Kd.R_ne HO560.out BK557.out (by decide)) | (rw [add_block]; exact Kd.own_blk (Kd.R_ne HO560.out BK557.out (by decide))) | (show (Addr.add _ _).block ≠ _; rw [add_block]; exact Kd.own_blk (Kd.R_ne HO560.out BK557.out (by decide))) | (dsimp only; exact Kd.own_blk (Kd.R_ne HO560.out BK557.out (by decide)))) _).trans (((cell_far (p := ⟨gb557, _, none⟩) (by first | exact Kd.own_blk (Kd.R_ne HO560.out BK557.out (by decide)) | (rw [add_block]; exact Kd.own_blk (Kd.R_ne HO560.out BK557.out (by decide))) | (show (Addr.add _ _).block ≠ _; rw [add_block]; exact Kd.own_blk (Kd.R_ne HO560.out BK557.out (by decide))) | (dsimp only; exact Kd.own_blk (Kd.R_ne HO560.out BK557.out (by decide)))) _).trans (((cell_far (p := ⟨gb557, _, none⟩) (by first | exact Kd.own_blk (Kd.R_ne HO560.out BK557.out (by decide)) | (rw [add_block]; exact Kd.own_blk (Kd.R_ne HO560.out BK557.out (by decide))) | (show (Addr.add _ _).block ≠ _; rw [add_block]; exact Kd.own_blk (Kd.R_ne HO560.out BK557.out (by decide))) | (dsimp only; exact Kd.own_blk (Kd.R_ne HO560.out BK557.out (by decide)))) _).trans (hHeld.2.2.2.2.2.2.2))))))⟩ (fun hHeld => ?_)
   clear hK K
   refine dN HT_ ?_
   try go_wp2
   refine bodyPost_ret (results_cell_row rfl _ _ gb557 33 #[.int .i64 t570, .int .i64 t571, .int .i64 t572] (0, 0) _ rfl (by (with_reducible repeat (first|apply kN|apply kD|apply kA)); refine blk_put (cs := #[.int .i64 t570, .int .i64 t571, .int .i64 0]) ?_ 2 _ rfl; (with_reducible repeat (first|apply kN|apply kD|apply kA)); refine blk_put (cs := #[.int .i64 t570, .int .i64 0, .int .i64 0]) ?_ 1 _ rfl; (with_reducible repeat (first|apply kN|apply kD|apply kA)); refine blk_put (cs := #[.int .i64 0, .int .i64 0, .int .i64 0]) ?_ 0 _ rfl; (with_reducible repeat (first|apply kN|apply kD|apply kA)); exact BK557.out) Try.underlying33 rfl (by kernel_rfl)) rfl ?_
   exact ⟨qR, qB⟩
  ·rw [if_neg c6] at H
   exact absurd H (by simp)
 ·rw [if_neg c4] at H
  exact absurd H (by simp)

def laws_likeMats9.l0 : Nat → List (S51) → List (S51) → Int → Option (Bool)
 | 0, _, _, _ => none
 | k + 1, x0, x1, x5 => if x5 < (x0.length : Int) then (if 0 ≤ x5 then (if x5 < (x1.length : Int) then (if (!(((rd_T51 x0 x5).f0) == ((rd_T51 x1 x5).f0)) || (!(((rd_T51 x0 x5).f1) == ((rd_T51 x1 x5).f1)) || (!(((rd_T51 x0 x5).f2) == ((rd_T51 x1 x5).f2)) || (!(((rd_T51 x0 x5).f3) == ((rd_T51 x1 x5).f3)))))) = true then (some false) else (laws_likeMats9.l0 k x0 x1 (wrap64 (x5 + 1)))) else (none)) else (none)) else (some true)
def laws_likeMats9.f (k : Nat) (l0 : List (S51)) (l1 : List (S51)) : Option (Bool) := if (l0.length : Int) = (l1.length : Int) then (laws_likeMats9.l0 k l0 l1 0) else (some false)
set_option maxHeartbeats 8000000 in
set_option maxRecDepth 100000 in
theorem laws_likeMats9.calls (k : Nat) (A0 : Option Addr) (c0 : Nat) (l0 : List (S51)) (A1 : Option Addr) (c1 : Nat) (l1 : List (S51)) (r : Bool) (w : World) (hr0 : Kd.C k51 w A0 l0.length l0) (hc0 : l0.length ≤ c0) (hr1 : Kd.C k51 w A1 l1.length l1) (hc1 : l1.length ≤ c1) (h : laws_likeMats9.f k l0 l1 = some r) :
  Calls Try.prog 59 #[.slice A0 l0.length c0, .slice A1 l1.length c1] w fun e w' => e = .returned (.bool r) ∧ Drawn0 w w' := by
 have hu51 := Try.underlying51
 have HR0 := aM hr0
 have HC0 := aM hc0
 clear hr0 hc0
 have HR1 := aM hr1
 have HC1 := aM hc1
 clear hr1 hc1
 have H : (if (l0.length : Int) = (l1.length : Int) then (laws_likeMats9.l0 k l0 l1 0) else (some false)) = some r := h
 clear h
 by_cases c3 : (l0.length : Int) = (l1.length : Int)
 ·rw [if_pos c3] at H
  have c3b0 : ((l0.length : Int) == (l1.length : Int)) = true := beq_iff_eq.mpr c3
  have c3b1 : ((l0.length : Int) != (l1.length : Int)) = false := bne_eq_false_iff_eq.mpr c3
  have c3b2 : (l0.length == l1.length) = true := by first | simpa using c3 | (simp at c3 ⊢; omega)
  clear c3
  have H' := aM H
  clear H
  go_enter Try.func59, Try.ntmps59
  go_wp2
  repeat (go_quiet (fail); try go_wp2)
  go_loopg [5] k (fun kq v5 w' => ∃ (x5_1 : Int), v5 = .int .i64 x5_1 ∧ Aside0 (laws_likeMats9.l0 kq l0 l1 x5_1 = some r) ∧ Aside0 (kq ≤ k) ∧ Drawn0 w w')
  case atStart => exact ⟨(0), (by first | rfl | (simp; done) | (simp [*]; done)), H', ⟨Nat.le_refl _⟩, by repeat (first | exact Drawn0.refl _ | apply Drawn0.step)⟩
  case round =>
   clear H'
   try clear c1
   try clear p2
   try clear c3
   try clear c3b0
   try clear c3b1
   try clear c3b2
   obtain ⟨x5_1, rfl, HA, HK1, ⟨m1, rfl⟩⟩ := hrel
   cases gk with
   | zero => exact absurd HA.out (by simp [laws_likeMats9.l0])
   | succ k1 =>
    have H := HA.out
    clear HA
    simp only [laws_likeMats9.l0] at H
    by_cases c4 : x5_1 < (l0.length : Int)
    ·rw [if_pos c4] at H
     have c4b0 : decide (x5_1 < (l0.length : Int)) = true := decide_eq_true c4
     clear c4
     by_cases c5 : 0 ≤ x5_1
     ·rw [if_pos c5] at H
      have c5b0 : decide (0 ≤ x5_1) = true := decide_eq_true c5
      clear c5
      by_cases c6 : x5_1 < (l1.length : Int)
      ·rw [if_pos c6] at H
       have c6b0 : decide (x5_1 < (l1.length : Int)) = true := decide_eq_true c6
       clear c6
       by_cases c7 : (!(((rd_T51 l0 x5_1).f0) == ((rd_T51 l1 x5_1).f0)) || (!(((rd_T51 l0 x5_1).f1) == ((rd_T51 l1 x5_1).f1)) || (!(((rd_T51 l0 x5_1).f2) == ((rd_T51 l1 x5_1).f2)) || (!(((rd_T51 l0 x5_1).f3) == ((rd_T51 l1 x5_1).f3)))))) = true
       ·rw [if_pos c7] at H
        have c7b0 : (!(((rd_T51 l0 x5_1).f0) == ((rd_T51 l1 x5_1).f0)) || (!(((rd_T51 l0 x5_1).f1) == ((rd_T51 l1 x5_1).f1)) || (!(((rd_T51 l0 x5_1).f2) == ((rd_T51 l1 x5_1).f2)) || (!(((rd_T51 l0 x5_1).f3) == ((rd_T51 l1 x5_1).f3)))))) = true := c7
        clear c7
        obtain rfl := Option.some.inj H
        have p585 : 0 ≤ (x5_1 : Int) := of_decide_eq_true (by first | (with_reducible assumption) | assumption)
        have q585 : x5_1 < (l0.length : Int) := of_decide_eq_true (by first | (with_reducible assumption) | assumption)
        obtain ⟨ad585, e585, hx585_0, hx585_1, hx585_2, hx585_3⟩ := at_T51 HR0.out x5_1 p585 q585
        cases e585
        replace p585 := eq_true p585
        replace q585 := eq_true q585
        have p586 : 0 ≤ (x5_1 : Int) := of_decide_eq_true (by first | (with_reducible assumption) | assumption)
        have q586 : x5_1 < (l1.length : Int) := of_decide_eq_true (by first | (with_reducible assumption) | assumption)
        obtain ⟨ad586, e586, hx586_0, hx586_1, hx586_2, hx586_3⟩ := at_T51 HR1.out x5_1 p586 q586
        cases e586
        replace p586 := eq_true p586
        replace q586 := eq_true q586
        go_wp2
        repeat (go_quiet (fail); try go_wp2)
        go_ret
        exact ⟨by first | rfl | (simp; done) | (simp [*]; done), by repeat (first | exact Drawn0.refl _ | apply Drawn0.step)⟩
       ·rw [if_neg c7] at H
        have c7b0 : (!(((rd_T51 l0 x5_1).f0) == ((rd_T51 l1 x5_1).f0)) || (!(((rd_T51 l0 x5_1).f1) == ((rd_T51 l1 x5_1).f1)) || (!(((rd_T51 l0 x5_1).f2) == ((rd_T51 l1 x5_1).f2)) || (!(((rd_T51 l0 x5_1).f3) == ((rd_T51 l1 x5_1).f3)))))) = false := by simpa using c7
        clear c7
        have H' := aM H
        clear H
        have p585 : 0 ≤ (x5_1 : Int) := of_decide_eq_true (by first | (with_reducible assumption) | assumption)
        have q585 : x5_1 < (l0.length : Int) := of_decide_eq_true (by first | (with_reducible assumption) | assumption)
        obtain ⟨ad585, e585, hx585_0, hx585_1, hx585_2, hx585_3⟩ := at_T51 HR0.out x5_1 p585 q585
        cases e585
        replace p585 := eq_true p585
        replace q585 := eq_true q585
        have p586 : 0 ≤ (x5_1 : Int) := of_decide_eq_true (by first | (with_reducible assumption) | assumption)
        have q586 : x5_1 < (l1.length : Int) := of_decide_eq_true (by first | (with_reducible assumption) | assumption)
        obtain ⟨ad586, e586, hx586_0, hx586_1, hx586_2, hx586_3⟩ := at_T51 HR1.out x5_1 p586 q586
        cases e586
        replace p586 := eq_true p586
        replace q586 := eq_true q586
        go_wp2
        repeat (go_quiet (fail); try go_wp2)
        go_roundg k1
        case measure => have := HK1.out; omega
        case rel => exact ⟨(wrap64 (x5_1 + 1)), (by first | rfl | (simp; done) | (simp [*]; done)), H', ⟨by have := HK1.out; omega⟩, by repeat (first | exact Drawn0.refl _ | apply Drawn0.step)⟩
      ·rw [if_neg c6] at H
       exact absurd H (by simp)
     ·rw [if_neg c5] at H
      exact absurd H (by simp)
    ·rw [if_neg c4] at H
     have c4b0 : decide (x5_1 < (l0.length : Int)) = false := decide_eq_false c4
     clear c4
     obtain rfl := Option.some.inj H
     go_wp2
     repeat (go_quiet (fail); try go_wp2)
     go_ret
     exact ⟨by first | rfl | (simp; done) | (simp [*]; done), by repeat (first | exact Drawn0.refl _ | apply Drawn0.step)⟩
 ·rw [if_neg c3] at H
  have c3b0 : ((l0.length : Int) == (l1.length : Int)) = false := beq_eq_false_iff_ne.mpr c3
  have c3b1 : ((l0.length : Int) != (l1.length : Int)) = true := bne_iff_ne.mpr c3
  have c3b2 : (l0.length == l1.length) = false := by first | simpa using c3 | (simp at c3 ⊢; omega)
  obtain rfl := Option.some.inj H
  go_enter Try.func59, Try.ntmps59
  go_wp2
  repeat (go_quiet (fail); try go_wp2)
  go_ret
  exact ⟨by first | rfl | (simp; done) | (simp [*]; done), by repeat (first | exact Drawn0.refl _ | apply Drawn0.step)⟩

def spec_l04Stable.l0 : Nat → List (S51) → List (S51) → Int → Int → Int → Int → Option ((List (S51)))
 | 0, _, _, _, _, _, _ => none
 | k + 1, x5, x6, x7, x648000, x648001, x648002 => if x7 < (x5.length : Int) then (if 0 ≤ x7 then ((spec_l04Image.f k ((rd_T51 x5 x7).f0) ((rd_T51 x5 x7).f1) ((rd_T51 x5 x7).f2) ((rd_T51 x5 x7).f3) x648000 x648001 x648002).bind fun bt655 => (if (bt655.1 == x648000 && (bt655.2.1 == x648001 && (bt655.2.2 == x648002))) = true then (if x6.length < 4398046511104 then (spec_l04Stable.l0 k x5 (x6 ++ [(⟨(rd_T51 x5 x7).f0, (rd_T51 x5 x7).f1, (rd_T51 x5 x7).f2, (rd_T51 x5 x7).f3⟩ : S51)]) (wrap64 (x7 + 1)) x648000 x648001 x648002) else (none)) else (spec_l04Stable.l0 k x5 x6 (wrap64 (x7 + 1)) x648000 x648001 x648002))) else (none)) else (some x6)
def spec_l04Stable.f (k : Nat) (a0 : Int) (a1_0 : Int) (a1_1 : Int) (a1_2 : Int) : Option ((List (S51))) := (spec_l04Mats.f k a0).bind fun t648 => (spec_l04Stable.l0 k t648 (([] : List (S51))) 0 a1_0 a1_1 a1_2)
def spec_l04Stable.T6 : Bool × List (List Nat × List Nat) := (true, [([], []), ([], []), ([0, 1], [0, 1]), ([2], [2]), ([], []), ([3, 4], [3, 4]), ([], []), ([5, 6], [5, 6])])
def spec_l04Stable.B6 : List Nat := [0, 0, 3, 7, 0, 31, 0, 127]
theorem spec_l04Stable.tab6 : rtab .any (opsOf Try.f79 6) = spec_l04Stable.T6 := by kernel_rfl
theorem spec_l04Stable.bits6 : waitsOk spec_l04Stable.T6.2 spec_l04Stable.B6 = true := by kernel_rfl
set_option maxHeartbeats 8000000 in
set_option maxRecDepth 100000 in
theorem spec_l04Stable.calls (k : Nat) (a0 : Int) (a1_0 : Int) (a1_1 : Int) (a1_2 : Int) (r : List (S51)) (w : World) (h : spec_l04Stable.f k a0 a1_0 a1_1 a1_2 = some r) :
  Calls Try.prog 79 #[.int .i64 a0, .agg #[.int .i64 a1_0, .int .i64 a1_1, .int .i64 a1_2]] w fun e w' => ∃ v0_ : Value, e = .returned (v0_) ∧ Kd.R k51 51 w' w.heap.size (fun _ => True) v0_ r ∧ Below w.heap.size w w' := by
 have hu33 := Try.underlying33
 have hu51 := Try.underlying51
 have HB := aM (Below.refl w.heap.size w)
 have H : ((spec_l04Mats.f k a0).bind fun t648 => (spec_l04Stable.l0 k t648 (([] : List (S51))) 0 a1_0 a1_1 a1_2)) = some r := h
 clear h
 obtain ⟨t648, A3, H⟩ := oB H
 try dsimp only at H
 obtain ⟨y651, hy651⟩ : ∃ y_ : List (S51), y_ = (([] : List (S51))) := ⟨_, rfl⟩
 replace H : (spec_l04Stable.l0 k t648 y651 0 a1_0 a1_1 a1_2) = some r := by first | (rw [hy651]; with_reducible exact H) | (have H2_ := (Option.bind_some _ _).symm.trans H; rw [hy651]; with_reducible exact H2_) | (have H2_ := (Option.bind_some _ _).symm.trans H; with_reducible exact H2_) | with_reducible exact H | (rw [hy651]; exact H) | exact H
 have Ny651 := aM hy651
 clear hy651
 have H' := aM H
 clear H
 go_enter Try.func79, Try.ntmps79
 go_wp2_with (first | (refine bE 3 #[.int .i64 a1_0, .int .i64 a1_1, .int .i64 a1_2] 33 ?_; intro gb647 hg w4 hbox hb; have BK647 := aM hbox; have GW647 := bZ hg HB; have GE647 := bZ hg HB; replace HB := bS HB hb; clear hb hbox hg) | ((with_reducible refine gate_callee (f := 115) rfl ?_); refine goesL_ (some 9) rfl rfl Try.func115 (by kernel_rfl) rfl #[.int .i64 a0] rfl (by first|rfl|(simp only [List.map_toArray, List.map_cons, List.map_nil]; try rfl)) ?_; (with_reducible refine (spec_l04Mats.calls k a0 t648 _ A3.out).mono ?_); rintro e w5 ⟨v649, rfl, ho0, hb⟩; refine ⟨_, rfl, ?_⟩; have HO650 := aM (Kd.R_lower ho0 (below_size qB)); replace BK647 := bB BK647 hb; replace HB := bS HB hb; (try clear hb); (try clear ho0)) | ((with_reducible refine gate_dst (N := 10) rfl ?_); refine Kd.R_lit k51 _ 51 ?hg (N := 10) ?hd (xs := ([] : List (S51))) (inner := []) (ok := fun _ => True) (okp := fun _ => True) ?hr ?hp (fun _ hk => hk) trivial (Below.refl _ _) (Nat.le_refl _) (by simp) ?_; (case hd => rfl); (case hg => rfl); (case hr => first | (go_simp; done) | (go_simp; rfl)); (case hp => exact (Reps.none _ _)); intro v652 w6 ho7 hb hg_ hnew_; clear hg_ hnew_; (first | rw [← Ny651.out] at ho7 | (simp only [Int.reduceToNat] at ho7; rw [← Ny651.out] at ho7)); have HO653 := aM (Kd.R_lower (Kd.R_new' ho7 (Kd.R_lt (by (with_reducible repeat (first | apply Kd.R_alloc | apply Kd.R_drewN | apply Kd.R_drew)); exact HO650.out))) (below_size qB)); replace HO650 := aM (Kd.R_elder' (by (with_reducible repeat (first | apply Kd.R_alloc | apply Kd.R_drewN | apply Kd.R_drew)); exact HO650.out) (Kd.R_base ho7) hb); replace BK647 := bB BK647 hb; replace HB := bS HB hb; clear hb ho7))
 go_loopg [6, 7] k (fun kq v6 v7 w' => ∃ (x6_1 : List (S51)) (x7_1 : Int), v7 = .int .i64 x7_1 ∧ Aside0 (spec_l04Stable.l0 kq t648 x6_1 x7_1 a1_0 a1_1 a1_2 = some r) ∧ Aside0 (kq ≤ k) ∧ Aside0 (Kd.R k51 51 w' w.heap.size (fun k_ => some k_ ≠ (v6 : Value).ownBlock) v649 t648) ∧ Aside0 (Kd.R k51 51 w' w.heap.size (fun k_ => some k_ ≠ (v649 : Value).ownBlock) v6 x6_1) ∧ Aside0 (w'.heap[gb647]? = some (.cells #[.int .i64 a1_0, .int .i64 a1_1, .int .i64 a1_2] 33 (0, 0))) ∧ Aside0 (Below w.heap.size w w'))
 case atStart => exact ⟨(y651), (0), (by first | rfl | (simp; done) | (simp [*]; done)), H', ⟨Nat.le_refl _⟩, ⟨by (with_reducible repeat (first | apply Kd.R_alloc | apply Kd.R_drewN | apply Kd.R_drew)); exact Kd.R_mono HO650.out (fun _ hk => hk.2)⟩, ⟨by (with_reducible repeat (first | apply Kd.R_alloc | apply Kd.R_drewN | apply Kd.R_drew)); exact Kd.R_mono HO653.out (fun _ hk => hk.2)⟩, ⟨bk BK647⟩, ⟨qB⟩⟩
 case round =>
  clear H'
  try clear c1
  try clear p2
  try clear c7
  obtain ⟨x6_1, x7_1, rfl, HA, HK1, HO_5, HO_6, BK647, HB⟩ := hrel
  cases gk with
  | zero => exact absurd HA.out (by simp [spec_l04Stable.l0])
  | succ k1 =>
   have H := HA.out
   clear HA
   simp only [spec_l04Stable.l0] at H
   by_cases c8 : x7_1 < (t648.length : Int)
   ·rw [if_pos c8] at H
    have c8b0 : decide (x7_1 < (t648.length : Int)) = true := decide_eq_true c8
    clear c8
    by_cases c9 : 0 ≤ x7_1
    ·rw [if_pos c9] at H
     have c9b0 : decide (0 ≤ x7_1) = true := decide_eq_true c9
     clear c9
     obtain ⟨⟨t655, t656, t657⟩, A10, H⟩ := oB H
     try dsimp only at H
     by_cases c11 : (t655 == a1_0 && (t656 == a1_1 && (t657 == a1_2))) = true
     ·rw [if_pos c11] at H
      have c11b0 : (t655 == a1_0 && (t656 == a1_1 && (t657 == a1_2))) = true := c11
      (try (have c11b1 : decide (t655 = a1_0 && (t656 == a1_1 && (t657 == a1_2))) = true := by simpa using c11))
      (try (have c11b2 : (t655 == a1_0 && (t656 == a1_1 && (t657 == a1_2))) = true := by simpa using c11))
      clear c11
      by_cases c12 : x6_1.length < 4398046511104
      ·rw [if_pos c12] at H
       have LMc12 := aM c12
       clear c12
       obtain ⟨y659, hy659⟩ : ∃ y_ : List (S51), y_ = (x6_1 ++ [(⟨(rd_T51 t648 x7_1).f0, (rd_T51 t648 x7_1).f1, (rd_T51 t648 x7_1).f2, (rd_T51 t648 x7_1).f3⟩ : S51)]) := ⟨_, rfl⟩
       replace H : (spec_l04Stable.l0 k1 t648 y659 (wrap64 (x7_1 + 1)) a1_0 a1_1 a1_2) = some r := by first | (rw [hy659]; with_reducible exact H) | (have H2_ := (Option.bind_some _ _).symm.trans H; rw [hy659]; with_reducible exact H2_) | (have H2_ := (Option.bind_some _ _).symm.trans H; with_reducible exact H2_) | with_reducible exact H | (rw [hy659]; exact H) | exact H
       have Ny659 := aM hy659
       clear hy659
       have H' := aM H
       clear H
       obtain ⟨Ao13, co13, eo13⟩ := Kd.R_slice HO_5.out
       subst eo13
       try go_wp2
       replace HO_5 := aM (Kd.R_drew HO_5.out)
       replace HO_6 := aM (Kd.R_drew HO_6.out)
       replace BK647 := aM (blk_drew BK647.out)
       replace HB := aM (below_drew1 HB.out)
       have p654 : 0 ≤ (x7_1 : Int) := of_decide_eq_true (by first | (with_reducible assumption) | assumption)
       have q654 : x7_1 < (t648.length : Int) := of_decide_eq_true (by first | (with_reducible assumption) | assumption)
       obtain ⟨ad654, e654, hx654_0, hx654_1, hx654_2, hx654_3⟩ := at_T51 (Kd.R_reads' HO_5.out).2.2 x7_1 p654 q654
       cases e654
       replace p654 := eq_true p654
       replace q654 := eq_true q654
       refine sT (fun w' => w'.cell? ⟨gb647, 0, none⟩ = some (.int .i64 a1_0) ∧ w'.cell? ⟨gb647, 1, none⟩ = some (.int .i64 a1_1) ∧ w'.cell? ⟨gb647, 2, none⟩ = some (.int .i64 a1_2) ∧ w'.cell? (ad654.add ((x7_1).toNat * 4)) = some (.int .i64 ((rd_T51 t648 x7_1).f0)) ∧ w'.cell? ⟨(ad654.add ((x7_1).toNat * 4)).block, (ad654.add ((x7_1).toNat * 4)).off + 1, none⟩ = some (.int .i64 ((rd_T51 t648 x7_1).f1)) ∧ w'.cell? ⟨(ad654.add ((x7_1).toNat * 4)).block, (ad654.add ((x7_1).toNat * 4)).off + 2, none⟩ = some (.int .i64 ((rd_T51 t648 x7_1).f2)) ∧ w'.cell? ⟨(ad654.add ((x7_1).toNat * 4)).block, (ad654.add ((x7_1).toNat * 4)).off + 3, none⟩ = some (.int .i64 ((rd_T51 t648 x7_1).f3))) [] ⟨cB BK647, cB BK647, cB BK647, hx654_0, hx654_1, hx654_2, hx654_3⟩ (fun hHeld => ?_); refine with_tabW spec_l04Stable.tab6 spec_l04Stable.bits6 (fun HT_ HW_ => ?_)
       generalize wr.drew = w14 at HO_5 HO_6 BK647 HB hx654_0 hx654_1 hx654_2 hx654_3 hHeld ⊢
       refine pU 0 (some 17) 1 HT_ ?_
       refine pU 1 (some 18) 3 HT_ ?_
       refine pU 2 (some 19) 7 HT_ ?_
       refine tU 3 (some 20) 15 HT_ HW_ hHeld ?_
       refine tU 4 (some 21) 31 HT_ HW_ hHeld ?_
       refine tU 6 (some 23) 95 HT_ HW_ hHeld ?_
       refine oU 5 (some 22) 127 HT_ (fun K hK => ?_)
       refine gO Try.func121 #[.agg #[.int .i64 ((rd_T51 t648 x7_1).f0), .int .i64 ((rd_T51 t648 x7_1).f1), .int .i64 ((rd_T51 t648 x7_1).f2), .int .i64 ((rd_T51 t648 x7_1).f3)], .agg #[.int .i64 a1_0, .int .i64 a1_1, .int .i64 a1_2]] ?_
       with_reducible refine (spec_l04Image.calls k1 ((rd_T51 t648 x7_1).f0) ((rd_T51 t648 x7_1).f1) ((rd_T51 t648 x7_1).f2) ((rd_T51 t648 x7_1).f3) a1_0 a1_1 a1_2 t655 t656 t657 _ A10.out).mono ?_
       rintro e w15 ⟨rfl, hb⟩
       have HS3_ := (hb.cell (World.block_lt_of_cell? _ _ (hHeld.2.2.2.1))).trans (hHeld.2.2.2.1)
       have HS4_ := (hb.cell (World.block_lt_of_cell? _ _ (hHeld.2.2.2.2.1))).trans (hHeld.2.2.2.2.1)
       have HS5_ := (hb.cell (World.block_lt_of_cell? _ _ (hHeld.2.2.2.2.2.1))).trans (hHeld.2.2.2.2.2.1)
       have HS6_ := (hb.cell (World.block_lt_of_cell? _ _ (hHeld.2.2.2.2.2.2))).trans (hHeld.2.2.2.2.2.2)
       refine ⟨_, rfl, ?_⟩
       have n0_ := aM (Kd.R_below (by (with_reducible repeat (first | apply Kd.R_alloc | apply Kd.R_drewN | apply Kd.R_drew)); exact HO_5.out) hb)
       have n1_ := aM (Kd.R_below (by (with_reducible repeat (first | apply Kd.R_alloc | apply Kd.R_drewN | apply Kd.R_drew)); exact HO_6.out) hb)
       have n2_ := bB BK647 hb
       have n3_ := bS HB hb
       clear HO_5
       clear HO_6
       clear BK647
       clear HB
       have HO_5 := n0_
       have HO_6 := n1_
       have BK647 := n2_
       have HB := n3_
       clear n0_ n1_ n2_ n3_
       (try clear hb)
       (try clear hb2)
       (try clear hk)
       (try clear hi)
       refine hK.out _ _ ⟨cB BK647, cB BK647, cB BK647, HS3_, HS4_, HS5_, HS6_⟩ (fun hHeld => ?_)
       clear hK K
       refine nM 22 ?_
       refine pU 7 (some 24) 255 HT_ ?_
       refine dN HT_ ?_
       have p658 : 0 ≤ (x7_1 : Int) := of_decide_eq_true (by first | (with_reducible assumption) | assumption)
       have q658 : x7_1 < (t648.length : Int) := of_decide_eq_true (by first | (with_reducible assumption) | assumption)
       obtain ⟨ad658, e658, hx658_0, hx658_1, hx658_2, hx658_3⟩ := at_T51 (Kd.R_reads' HO_5.out).2.2 x7_1 p658 q658
       obtain rfl : ad654 = ad658 := (by injection e658)
       replace p658 := eq_true p658
       replace q658 := eq_true q658
       try go_wp2_with (first | ((with_reducible refine gate_builtin (b := .append) (xs := #[.tmp 25, .tmp 30]) rfl ?_); at_builtin; refine Kd.R_append k51 (w0 := w) w.heap.size rfl (.tmp 25) (.tmp 30) 30 51 (.agg #[(.int .i64 0), (.int .i64 0), (.int .i64 0), (.int .i64 0)]) 32 rfl Try.underlying30 info51 rfl (by decide) (by omega) u6 x6_1 (⟨(rd_T51 t648 x7_1).f0, (rd_T51 t648 x7_1).f1, (rd_T51 t648 x7_1).f2, (rd_T51 t648 x7_1).f3⟩ : S51) [.int .i64 ((rd_T51 t648 x7_1).f0), .int .i64 ((rd_T51 t648 x7_1).f1), .int .i64 ((rd_T51 t648 x7_1).f2), .int .i64 ((rd_T51 t648 x7_1).f3)] (fun k_ => some k_ ≠ (.slice (some ad654) t648.length co13 : Value).ownBlock) (fun _ => False) rfl rfl ?aP (fun _ hk => hk.elim) ?aF ?aO ?aB ?aS ?aL ?_; (case aP => exact k51_mkM _ _ _ (⟨(rd_T51 t648 x7_1).f0, (rd_T51 t648 x7_1).f1, (rd_T51 t648 x7_1).f2, (rd_T51 t648 x7_1).f3⟩ : S51)); (case aB => exact qB); (case aF => exact (fun k_ hk => Kd.fresh' (Kd.R_lt (by (with_reducible repeat (first | apply Kd.R_alloc | apply Kd.R_drewN | apply Kd.R_drew)); exact HO_5.out)) k_ hk)); (case aO => exact (by (with_reducible repeat (first | apply Kd.R_alloc | apply Kd.R_drewN | apply Kd.R_drew)); exact HO_6.out)); (case aS => exact (below_size qB)); (case aL => have := LMc12.out; omega); intro v660 w16 ho hb hg hat; rw [← Ny659.out] at ho; have HO661 := aM ho; replace HO_5 := aM (Kd.R_after (ok := (fun _ => True)) (by (with_reducible repeat (first | apply Kd.R_alloc | apply Kd.R_drewN | apply Kd.R_drew)); exact Kd.R_mono HO_5.out (fun _ hk => ⟨trivial, hk⟩)) hg hat); replace BK647 := aM (blk_grown (g := gb647) (o := .cells #[.int .i64 a1_0, .int .i64 a1_1, .int .i64 a1_2] 33 (0, 0)) (bk BK647) hg (Kd.R_ne HO_6.out BK647.out (by decide))); replace HB := aM hb; clear HO_6; clear ho hb hg hat))
       go_roundg k1
       case measure => have := HK1.out; omega
       case rel => exact ⟨(y659), (wrap64 (x7_1 + 1)), (by first | rfl | (simp; done) | (simp [*]; done)), H', ⟨by have := HK1.out; omega⟩, ⟨by (with_reducible repeat (first | apply Kd.R_alloc | apply Kd.R_drewN | apply Kd.R_drew)); exact Kd.R_mono HO_5.out (fun _ hk => hk.2)⟩, ⟨by (with_reducible repeat (first | apply Kd.R_alloc | apply Kd.R_drewN | apply Kd.R_drew)); exact HO661.out⟩, ⟨bk BK647⟩, ⟨qB⟩⟩
      ·rw [if_neg c12] at H
       exact absurd H (by simp)
     ·rw [if_neg c11] at H
      have c11b0 : (t655 == a1_0 && (t656 == a1_1 && (t657 == a1_2))) = false := by simpa using c11
      (try (have c11b1 : decide (t655 = a1_0 && (t656 == a1_1 && (t657 == a1_2))) = false := by simpa using c11))
      (try (have c11b2 : (t655 == a1_0 && (t656 == a1_1 && (t657 == a1_2))) = false := by simpa using c11))
      (try (have c11b3 : ¬ (t655 = a1_0 && (t656 == a1_1 && (t657 == a1_2))) := by simpa using c11))
      clear c11
      have H' := aM H
      clear H
      obtain ⟨Ao17, co17, eo17⟩ := Kd.R_slice HO_5.out
      subst eo17
      try go_wp2
      replace HO_5 := aM (Kd.R_drew HO_5.out)
      replace HO_6 := aM (Kd.R_drew HO_6.out)
      replace BK647 := aM (blk_drew BK647.out)
      replace HB := aM (below_drew1 HB.out)
      have p654 : 0 ≤ (x7_1 : Int) := of_decide_eq_true (by first | (with_reducible assumption) | assumption)
      have q654 : x7_1 < (t648.length : Int) := of_decide_eq_true (by first | (with_reducible assumption) | assumption)
      obtain ⟨ad654, e654, hx654_0, hx654_1, hx654_2, hx654_3⟩ := at_T51 (Kd.R_reads' HO_5.out).2.2 x7_1 p654 q654
      cases e654
      replace p654 := eq_true p654
      replace q654 := eq_true q654
      refine sT (fun w' => w'.cell? ⟨gb647, 0, none⟩ = some (.int .i64 a1_0) ∧ w'.cell? ⟨gb647, 1, none⟩ = some (.int .i64 a1_1) ∧ w'.cell? ⟨gb647, 2, none⟩ = some (.int .i64 a1_2) ∧ w'.cell? (ad654.add ((x7_1).toNat * 4)) = some (.int .i64 ((rd_T51 t648 x7_1).f0)) ∧ w'.cell? ⟨(ad654.add ((x7_1).toNat * 4)).block, (ad654.add ((x7_1).toNat * 4)).off + 1, none⟩ = some (.int .i64 ((rd_T51 t648 x7_1).f1)) ∧ w'.cell? ⟨(ad654.add ((x7_1).toNat * 4)).block, (ad654.add ((x7_1).toNat * 4)).off + 2, none⟩ = some (.int .i64 ((rd_T51 t648 x7_1).f2)) ∧ w'.cell? ⟨(ad654.add ((x7_1).toNat * 4)).block, (ad654.add ((x7_1).toNat * 4)).off + 3, none⟩ = some (.int .i64 ((rd_T51 t648 x7_1).f3))) [] ⟨cB BK647, cB BK647, cB BK647, hx654_0, hx654_1, hx654_2, hx654_3⟩ (fun hHeld => ?_); refine with_tabW spec_l04Stable.tab6 spec_l04Stable.bits6 (fun HT_ HW_ => ?_)
      generalize wr.drew = w18 at HO_5 HO_6 BK647 HB hx654_0 hx654_1 hx654_2 hx654_3 hHeld ⊢
      refine pU 0 (some 17) 1 HT_ ?_
      refine pU 1 (some 18) 3 HT_ ?_
      refine pU 2 (some 19) 7 HT_ ?_
      refine tU 3 (some 20) 15 HT_ HW_ hHeld ?_
      refine tU 4 (some 21) 31 HT_ HW_ hHeld ?_
      refine tU 6 (some 23) 95 HT_ HW_ hHeld ?_
      refine oU 5 (some 22) 127 HT_ (fun K hK => ?_)
      refine gO Try.func121 #[.agg #[.int .i64 ((rd_T51 t648 x7_1).f0), .int .i64 ((rd_T51 t648 x7_1).f1), .int .i64 ((rd_T51 t648 x7_1).f2), .int .i64 ((rd_T51 t648 x7_1).f3)], .agg #[.int .i64 a1_0, .int .i64 a1_1, .int .i64 a1_2]] ?_
      with_reducible refine (spec_l04Image.calls k1 ((rd_T51 t648 x7_1).f0) ((rd_T51 t648 x7_1).f1) ((rd_T51 t648 x7_1).f2) ((rd_T51 t648 x7_1).f3) a1_0 a1_1 a1_2 t655 t656 t657 _ A10.out).mono ?_
      rintro e w19 ⟨rfl, hb⟩
      have HS3_ := (hb.cell (World.block_lt_of_cell? _ _ (hHeld.2.2.2.1))).trans (hHeld.2.2.2.1)
      have HS4_ := (hb.cell (World.block_lt_of_cell? _ _ (hHeld.2.2.2.2.1))).trans (hHeld.2.2.2.2.1)
      have HS5_ := (hb.cell (World.block_lt_of_cell? _ _ (hHeld.2.2.2.2.2.1))).trans (hHeld.2.2.2.2.2.1)
      have HS6_ := (hb.cell (World.block_lt_of_cell? _ _ (hHeld.2.2.2.2.2.2))).trans (hHeld.2.2.2.2.2.2)
      refine ⟨_, rfl, ?_⟩
      have n0_ := aM (Kd.R_below (by (with_reducible repeat (first | apply Kd.R_alloc | apply Kd.R_drewN | apply Kd.R_drew)); exact HO_5.out) hb)
      have n1_ := aM (Kd.R_below (by (with_reducible repeat (first | apply Kd.R_alloc | apply Kd.R_drewN | apply Kd.R_drew)); exact HO_6.out) hb)
      have n2_ := bB BK647 hb
      have n3_ := bS HB hb
      clear HO_5
      clear HO_6
      clear BK647
      clear HB
      have HO_5 := n0_
      have HO_6 := n1_
      have BK647 := n2_
      have HB := n3_
      clear n0_ n1_ n2_ n3_
      (try clear hb)
      (try clear hb2)
      (try clear hk)
      (try clear hi)
      refine hK.out _ _ ⟨cB BK647, cB BK647, cB BK647, HS3_, HS4_, HS5_, HS6_⟩ (fun hHeld => ?_)
      clear hK K
      refine nM 22 ?_
      refine pU 7 (some 24) 255 HT_ ?_
      refine dN HT_ ?_
      try go_wp2
      go_roundg k1
      case measure => have := HK1.out; omega
      case rel => exact ⟨(x6_1), (wrap64 (x7_1 + 1)), (by first | rfl | (simp; done) | (simp [*]; done)), H', ⟨by have := HK1.out; omega⟩, ⟨by (with_reducible repeat (first | apply Kd.R_alloc | apply Kd.R_drewN | apply Kd.R_drew)); exact HO_5.out⟩, ⟨by (with_reducible repeat (first | apply Kd.R_alloc | apply Kd.R_drewN | apply Kd.R_drew)); exact HO_6.out⟩, ⟨bk BK647⟩, ⟨qB⟩⟩
    ·rw [if_neg c9] at H
     exact absurd H (by simp)
   ·rw [if_neg c8] at H
    have c8b0 : decide (x7_1 < (t648.length : Int)) = false := decide_eq_false c8
    clear c8
    obtain rfl := Option.some.inj H
    obtain ⟨Ao20, co20, eo20⟩ := Kd.R_slice HO_5.out
    subst eo20
    go_wp2
    go_ret
    exact ⟨_, qR, by (with_reducible repeat (first | apply Kd.R_alloc | apply Kd.R_drewN | apply Kd.R_drew)); exact Kd.R_mono HO_6.out (fun _ hk => trivial), qB⟩

def spec_LatticeMats.f (k : Nat) (a0 : Int) (a1_0 : Int) (a1_1 : Int) (a1_2 : Int) : Option ((List (S51)) × Int) := (spec_l04Code.f a0 a1_0 a1_1 a1_2).bind fun t663 => (if t663 = 0 then ((spec_l04Stable.f k a0 a1_0 a1_1 a1_2).bind fun t664 => (some (t664, 0))) else (some (([] : List (S51)), t663)))
set_option maxHeartbeats 8000000 in
set_option maxRecDepth 100000 in
theorem spec_LatticeMats.calls (k : Nat) (a0 : Int) (a1_0 : Int) (a1_1 : Int) (a1_2 : Int) (r1 : List (S51)) (r2 : Int) (w : World) (h : spec_LatticeMats.f k a0 a1_0 a1_1 a1_2 = some (r1, r2)) :
  Calls Try.prog 15 #[.int .i64 a0, .agg #[.int .i64 a1_0, .int .i64 a1_1, .int .i64 a1_2]] w fun e w' => ∃ v0_ : Value, e = .returned (.tuple #[v0_, .int .i64 r2]) ∧ Kd.R k51 51 w' w.heap.size (fun _ => True) v0_ r1 ∧ Below w.heap.size w w' := by
 have hu33 := Try.underlying33
 have HB := aM (Below.refl w.heap.size w)
 have H : ((spec_l04Code.f a0 a1_0 a1_1 a1_2).bind fun t663 => (if t663 = 0 then ((spec_l04Stable.f k a0 a1_0 a1_1 a1_2).bind fun t664 => (some (t664, 0))) else (some (([] : List (S51)), t663)))) = some (r1, r2) := h
 clear h
 obtain ⟨t663, A3, H⟩ := oB H
 try dsimp only at H
 by_cases c4 : t663 = 0
 ·rw [if_pos c4] at H
  have c4b0 : (t663 == 0) = true := beq_iff_eq.mpr c4
  have c4b1 : (t663 != 0) = false := bne_eq_false_iff_eq.mpr c4
  clear c4
  obtain ⟨t664, A5, H⟩ := oB H
  try dsimp only at H
  simp only [Option.some.injEq, Prod.mk.injEq] at H
  obtain ⟨rfl, rfl⟩ := H
  go_enter Try.func15, Try.ntmps15
  go_wp2_with (first | (refine bE 3 #[.int .i64 a1_0, .int .i64 a1_1, .int .i64 a1_2] 33 ?_; intro gb662 hg w6 hbox hb; have BK662 := aM hbox; have GW662 := bZ hg HB; have GE662 := bZ hg HB; replace HB := bS HB hb; clear hb hbox hg; obtain ⟨hcz7_0, hcz7_1, hcz7_2⟩ := z3 BK662; obtain ⟨hfz7_0, hfz7_1, hfz7_2⟩ := y3 BK662) | (refine gC 78 ?_; refine gM 9 (spec_l04Code.calls a0 a1_0 a1_1 a1_2 t663 _ A3.out) Try.func78 ?_; rintro w8 hb; replace BK662 := bB BK662 hb; replace HB := bS HB hb; (try clear hb); obtain ⟨hcz9_0, hcz9_1, hcz9_2⟩ := z3 BK662; obtain ⟨hfz9_0, hfz9_1, hfz9_2⟩ := y3 BK662) | ((with_reducible refine gate_callee (f := 79) rfl ?_); refine goesL_ (some 15) rfl rfl Try.func79 (by kernel_rfl) rfl #[.int .i64 a0, .agg #[.int .i64 a1_0, .int .i64 a1_1, .int .i64 a1_2]] rfl (by first|rfl|(simp only [List.map_toArray, List.map_cons, List.map_nil]; try rfl)) ?_; (with_reducible refine (spec_l04Stable.calls k a0 a1_0 a1_1 a1_2 t664 _ A5.out).mono ?_); rintro e w10 ⟨v665, rfl, ho0, hb⟩; refine ⟨_, rfl, ?_⟩; have HO666 := aM (Kd.R_lower ho0 (below_size qB)); replace BK662 := bB BK662 hb; replace HB := bS HB hb; (try clear hb); (try clear ho0)))
  go_ret2
  exact ⟨_, qR, by (with_reducible repeat (first | apply Kd.R_alloc | apply Kd.R_drewN | apply Kd.R_drew)); exact HO666.out, qB⟩
 ·rw [if_neg c4] at H
  have c4b0 : (t663 == 0) = false := beq_eq_false_iff_ne.mpr c4
  have c4b1 : (t663 != 0) = true := bne_iff_ne.mpr c4
  simp only [Option.some.injEq, Prod.mk.injEq] at H
  obtain ⟨rfl, rfl⟩ := H
  go_enter Try.func15, Try.ntmps15
  go_wp2_with (first | (refine bE 3 #[.int .i64 a1_0, .int .i64 a1_1, .int .i64 a1_2] 33 ?_; intro gb662 hg w11 hbox hb; have BK662 := aM hbox; have GW662 := bZ hg HB; have GE662 := bZ hg HB; replace HB := bS HB hb; clear hb hbox hg; obtain ⟨hcz12_0, hcz12_1, hcz12_2⟩ := z3 BK662; obtain ⟨hfz12_0, hfz12_1, hfz12_2⟩ := y3 BK662) | (refine gC 78 ?_; refine gM 9 (spec_l04Code.calls a0 a1_0 a1_1 a1_2 t663 _ A3.out) Try.func78 ?_; rintro w13 hb; replace BK662 := bB BK662 hb; replace HB := bS HB hb; (try clear hb)))
  go_ret2
  exact ⟨_, qR, by first | exact Kd.R_nil _ _ _ _ _ | exact Kd.N_nil _ _ _ _ _ | exact Kd.V_nil _ _ _ _ _ | exact Kd.Q_nil _ _ _ _ _ | exact Kd.S_nil _ _ _ _ _, qB⟩

end Go.Proofs.Ytcjchihnopmplaa.F

import Derived.Test.YtcjchihnopmplaaP0
import Derived.Test.YtcjchihnopmplaaP1
import Derived.Test.YtcjchihnopmplaaP6
import Derived.Test.YtcjchihnopmplaaP7
import Derived.Test.YtcjchihnopmplaaP12
import Derived.Test.YtcjchihnopmplaaP13
namespace Go.Proofs.Ytcjchihnopmplaa.F
open Go.RowKit Go.Proofs.YtcjchihnopmplaaW.PrintWords Go.Proofs.YtcjchihnopmplaaW.PrintLast Go.Proofs.YtcjchihnopmplaaW.PrintMore
attribute [local go_sem] max2_int min2_int max_two min_two max_three min_three max_four min_four   -- for this text's walks alone
set_option linter.unusedVariables false
set_option linter.unusedSimpArgs false

def impl_MapLattice.f (k : Nat) (a0 : Int) (a1_0 : Int) (a1_1 : Int) (a1_2 : Int) (a1_3 : Int) (a2_0 : Int) (a2_1 : Int) (a2_2 : Int) : Option (Int × Int × Int × Int) := (impl_frameCode.f a0 a2_0 a2_1 a2_2).bind fun t495 => (if t495 = 0 then ((impl_IsPointMat.f k a0 a1_0 a1_1 a1_2 a1_3).bind fun t496 => (if t496 = true then ((impl_Lattice_basis.f a2_0 a2_1 a2_2).bind fun bt497 => ((impl_Mat_apply.f a1_0 a1_1 a1_2 a1_3 bt497.1 bt497.2.1).bind fun bt503 => ((impl_Mat_apply.f a1_0 a1_1 a1_2 a1_3 bt497.2.2.1 bt497.2.2.2).bind fun bt505 => ((impl_latticeOf.f k (([(⟨bt503.1, bt503.2⟩ : S47), (⟨bt505.1, bt505.2⟩ : S47)] : List (S47)))).bind fun bt510 => (some (bt510.1, bt510.2.1, bt510.2.2, 0)))))) else (some (0, 0, 0, 2)))) else (some (0, 0, 0, t495)))
def impl_MapLattice.T7 : Bool × List (List Nat × List Nat) := (true, [([], []), ([], []), ([0, 1], [0, 1]), ([], []), ([], []), ([3, 4, 2], [3, 4]), ([2, 5], [2, 5]), ([6, 5], [6]), ([7, 7, 0, 1, 2, 3, 4, 5, 6, 7], [7]), ([8, 0, 1, 2, 3, 4, 5, 6, 7, 8], [])])
def impl_MapLattice.B7 : List Nat := [0, 0, 3, 0, 0, 31, 63, 127, 255, 511]
theorem impl_MapLattice.tab7 : rtab .any (opsOf Try.f57 7) = impl_MapLattice.T7 := by kernel_rfl
theorem impl_MapLattice.bits7 : waitsOk impl_MapLattice.T7.2 impl_MapLattice.B7 = true := by kernel_rfl
set_option maxHeartbeats 8000000 in
set_option maxRecDepth 100000 in
theorem impl_MapLattice.calls (k : Nat) (a0 : Int) (a1_0 : Int) (a1_1 : Int) (a1_2 : Int) (a1_3 : Int) (a2_0 : Int) (a2_1 : Int) (a2_2 : Int) (r1 : Int) (r2 : Int) (r3 : Int) (r4 : Int) (w : World) (h : impl_MapLattice.f k a0 a1_0 a1_1 a1_2 a1_3 a2_0 a2_1 a2_2 = some (r1, r2, r3, r4)) :
  Calls Try.prog 57 #[.int .i64 a0, .agg #[.int .i64 a1_0, .int .i64 a1_1, .int .i64 a1_2, .int .i64 a1_3], .agg #[.int .i64 a2_0, .int .i64 a2_1, .int .i64 a2_2]] w fun e w' => e = .returned (.tuple #[.agg #[.int .i64 r1, .int .i64 r2, .int .i64 r3], .int .i64 r4]) ∧ Below w.heap.size w w' := by
 have hu51 := Try.underlying51
 have hu33 := Try.underlying33
 have hu47 := Try.underlying47
 have HB := aM (Below.refl w.heap.size w)
 have H : ((impl_frameCode.f a0 a2_0 a2_1 a2_2).bind fun t495 => (if t495 = 0 then ((impl_IsPointMat.f k a0 a1_0 a1_1 a1_2 a1_3).bind fun t496 => (if t496 = true then ((impl_Lattice_basis.f a2_0 a2_1 a2_2).bind fun bt497 => ((impl_Mat_apply.f a1_0 a1_1 a1_2 a1_3 bt497.1 bt497.2.1).bind fun bt503 => ((impl_Mat_apply.f a1_0 a1_1 a1_2 a1_3 bt497.2.2.1 bt497.2.2.2).bind fun bt505 => ((impl_latticeOf.f k (([(⟨bt503.1, bt503.2⟩ : S47), (⟨bt505.1, bt505.2⟩ : S47)] : List (S47)))).bind fun bt510 => (some (bt510.1, bt510.2.1, bt510.2.2, 0)))))) else (some (0, 0, 0, 2)))) else (some (0, 0, 0, t495)))) = some (r1, r2, r3, r4) := h
 clear h
 obtain ⟨t495, A4, H⟩ := oB H
 try dsimp only at H
 by_cases c5 : t495 = 0
 ·rw [if_pos c5] at H
  have c5b0 : (t495 == 0) = true := beq_iff_eq.mpr c5
  have c5b1 : (t495 != 0) = false := bne_eq_false_iff_eq.mpr c5
  clear c5
  obtain ⟨t496, A6, H⟩ := oB H
  try dsimp only at H
  by_cases c7 : t496 = true
  ·subst c7
   have H1 : ((impl_Lattice_basis.f a2_0 a2_1 a2_2).bind fun bt497 => ((impl_Mat_apply.f a1_0 a1_1 a1_2 a1_3 bt497.1 bt497.2.1).bind fun bt503 => ((impl_Mat_apply.f a1_0 a1_1 a1_2 a1_3 bt497.2.2.1 bt497.2.2.2).bind fun bt505 => ((impl_latticeOf.f k (([(⟨bt503.1, bt503.2⟩ : S47), (⟨bt505.1, bt505.2⟩ : S47)] : List (S47)))).bind fun bt510 => (some (bt510.1, bt510.2.1, bt510.2.2, 0)))))) = some (r1, r2, r3, r4) := by rw [if_pos rfl] at H; exact H
   clear H
   have H := H1
   clear H1
   obtain ⟨⟨t497, t498, t499, t500⟩, A8, H⟩ := oB H
   try dsimp only at H
   obtain ⟨⟨t503, t504⟩, A9, H⟩ := oB H
   try dsimp only at H
   obtain ⟨⟨t505, t506⟩, A10, H⟩ := oB H
   try dsimp only at H
   obtain ⟨y507, hy507⟩ : ∃ y_ : List (S47), y_ = (([(⟨t503, t504⟩ : S47), (⟨t505, t506⟩ : S47)] : List (S47))) := ⟨_, rfl⟩
   replace H : ((impl_latticeOf.f k y507).bind fun bt510 => (some (bt510.1, bt510.2.1, bt510.2.2, 0))) = some (r1, r2, r3, r4) := by first | (rw [hy507]; with_reducible exact H) | (have H2_ := (Option.bind_some _ _).symm.trans H; rw [hy507]; with_reducible exact H2_) | (have H2_ := (Option.bind_some _ _).symm.trans H; with_reducible exact H2_) | with_reducible exact H | (rw [hy507]; exact H) | exact H
   have Ny507 := aM hy507
   clear hy507
   obtain ⟨⟨t510, t511, t512⟩, A11, H⟩ := oB H
   try dsimp only at H
   simp only [Option.some.injEq, Prod.mk.injEq] at H
   obtain ⟨rfl, rfl, rfl, rfl⟩ := H
   go_enter Try.func57, Try.ntmps57
   try go_wp2_with (first | ((with_reducible refine gD (N:=4) rfl ?_); refine bE 4 #[.int .i64 a1_0, .int .i64 a1_1, .int .i64 a1_2, .int .i64 a1_3] 51 ?_; intro gb492 hg w12 hbox hb; have BK492 := aM hbox; have GW492 := bZ hg HB; have GE492 := bZ hg HB; replace HB := bS HB hb; clear hb hbox hg) | ((with_reducible refine gD (N:=5) rfl ?_); refine bE 5 #[.int .i64 a2_0, .int .i64 a2_1, .int .i64 a2_2] 33 ?_; intro gb493 hg w13 hbox hb; have BK493 := aM hbox; have GW493 := bZ hg HB; have GE493 := bZ hg HB; have NB492_493 := nL hg BK492; have NB493_492 := nG hg BK492; replace BK492 := bB BK492 hb; replace HB := bS HB hb; clear hb hbox hg) | ((with_reducible refine gD (N:=6) rfl ?_); refine bE 6 #[.int .i64 0, .int .i64 0, .int .i64 0] 33 ?_; intro gb494 hg w14 hbox hb; have BK494 := aM hbox; have GW494 := bZ hg HB; have GE494 := bZ hg HB; have NB492_494 := nL hg BK492; have NB494_492 := nG hg BK492; have NB493_494 := nL hg BK493; have NB494_493 := nG hg BK493; replace BK492 := bB BK492 hb; replace BK493 := bB BK493 hb; replace HB := bS HB hb; clear hb hbox hg; have hnb15 := NB493_492.out; have hnc15 := NB492_493.out; have hnb16 := NB493_494.out; have hnc16 := NB494_493.out; obtain ⟨hcz17_0, hcz17_1, hcz17_2⟩ := z3 BK493; obtain ⟨hfz17_0, hfz17_1, hfz17_2⟩ := y3 BK493) | ((with_reducible refine gC (f:=80) rfl ?_); refine gM 13 (impl_frameCode.calls a0 a2_0 a2_1 a2_2 t495 _ A4.out) Try.func80 ?_; rintro w18 hb; replace BK492 := bB BK492 hb; replace BK493 := bB BK493 hb; replace BK494 := bB BK494 hb; replace HB := bS HB hb; (try clear hb); have hnb19 := NB492_494.out; have hnc19 := NB494_492.out; obtain ⟨hcz20_0, hcz20_1, hcz20_2, hcz20_3⟩ := z4 BK492; obtain ⟨hfz20_0, hfz20_1, hfz20_2, hfz20_3⟩ := y4 BK492) | ((with_reducible refine gC (f:=60) rfl ?_); refine gM 20 (impl_IsPointMat.calls k a0 a1_0 a1_1 a1_2 a1_3 true _ A6.out) Try.func60 ?_; rintro w21 hb; replace BK492 := bB BK492 hb; replace BK493 := bB BK493 hb; replace BK494 := bB BK494 hb; replace HB := bS HB hb; (try clear hb); obtain ⟨hcz22_0, hcz22_1, hcz22_2⟩ := z3 BK493; obtain ⟨hfz22_0, hfz22_1, hfz22_2⟩ := y3 BK493) | ((with_reducible refine gC (f:=118) rfl ?_); refine gM 25 (impl_Lattice_basis.calls a2_0 a2_1 a2_2 t497 t498 t499 t500 _ A8.out) Try.func118 ?_; rintro w23 hb; replace BK492 := bB BK492 hb; replace BK493 := bB BK493 hb; replace BK494 := bB BK494 hb; replace HB := bS HB hb; (try clear hb)) | ((with_reducible refine gD (N:=9) rfl ?_); refine bE 9 #[.int .i64 0, .int .i64 0] 47 ?_; intro gb501 hg w24 hbox hb; have BK501 := aM hbox; have GW501 := bZ hg HB; have GE501 := bZ hg HB; have NB492_501 := nL hg BK492; have NB501_492 := nG hg BK492; have NB493_501 := nL hg BK493; have NB501_493 := nG hg BK493; have NB494_501 := nL hg BK494; have NB501_494 := nG hg BK494; replace BK492 := bB BK492 hb; replace BK493 := bB BK493 hb; replace BK494 := bB BK494 hb; replace HB := bS HB hb; clear hb hbox hg) | ((with_reducible refine gD (N:=10) rfl ?_); refine bE 10 #[.int .i64 0, .int .i64 0] 47 ?_; intro gb502 hg w25 hbox hb; have BK502 := aM hbox; have GW502 := bZ hg HB; have GE502 := bZ hg HB; have NB492_502 := nL hg BK492; have NB502_492 := nG hg BK492; have NB493_502 := nL hg BK493; have NB502_493 := nG hg BK493; have NB494_502 := nL hg BK494; have NB502_494 := nG hg BK494; have NB501_502 := nL hg BK501; have NB502_501 := nG hg BK501; replace BK492 := bB BK492 hb; replace BK493 := bB BK493 hb; replace BK494 := bB BK494 hb; replace BK501 := bB BK501 hb; replace HB := bS HB hb; clear hb hbox hg; have hnb26 := NB501_492.out; have hnc26 := NB492_501.out; have hnb27 := NB501_493.out; have hnc27 := NB493_501.out; have hnb28 := NB501_494.out; have hnc28 := NB494_501.out; have hnb29 := NB501_502.out; have hnc29 := NB502_501.out; obtain ⟨hcz30_0, hcz30_1⟩ := z2 BK501; obtain ⟨hfz30_0, hfz30_1⟩ := y2 BK501; have hnb31 := NB502_492.out; have hnc31 := NB492_502.out; have hnb32 := NB502_493.out; have hnc32 := NB493_502.out; have hnb33 := NB502_494.out; have hnc33 := NB494_502.out; obtain ⟨hcz34_0, hcz34_1⟩ := z2 BK502; obtain ⟨hfz34_0, hfz34_1⟩ := y2 BK502))
   have n0_ : Aside0 (((((w25.setCell ⟨gb501, 0, none⟩ (.int .i64 t497)).setCell ⟨gb501, 1, none⟩ (.int .i64 t498)).setCell ⟨gb502, 0, none⟩ (.int .i64 t499)).setCell ⟨gb502, 1, none⟩ (.int .i64 t500)).heap[gb492]? = some (.cells #[.int .i64 a1_0, .int .i64 a1_1, .int .i64 a1_2, .int .i64 a1_3] 51 (0, 0))) := ⟨by (repeat (first|(with_reducible first|apply kN|apply kD|apply kA)|refine blk_far ?_ NB492_502.out _|refine blk_far ?_ NB492_501.out _)); exact BK492.out⟩
   have n1_ : Aside0 (((((w25.setCell ⟨gb501, 0, none⟩ (.int .i64 t497)).setCell ⟨gb501, 1, none⟩ (.int .i64 t498)).setCell ⟨gb502, 0, none⟩ (.int .i64 t499)).setCell ⟨gb502, 1, none⟩ (.int .i64 t500)).heap[gb493]? = some (.cells #[.int .i64 a2_0, .int .i64 a2_1, .int .i64 a2_2] 33 (0, 0))) := ⟨by (repeat (first|(with_reducible first|apply kN|apply kD|apply kA)|refine blk_far ?_ NB493_502.out _|refine blk_far ?_ NB493_501.out _)); exact BK493.out⟩
   have n2_ : Aside0 (((((w25.setCell ⟨gb501, 0, none⟩ (.int .i64 t497)).setCell ⟨gb501, 1, none⟩ (.int .i64 t498)).setCell ⟨gb502, 0, none⟩ (.int .i64 t499)).setCell ⟨gb502, 1, none⟩ (.int .i64 t500)).heap[gb494]? = some (.cells #[.int .i64 0, .int .i64 0, .int .i64 0] 33 (0, 0))) := ⟨by (repeat (first|(with_reducible first|apply kN|apply kD|apply kA)|refine blk_far ?_ NB494_502.out _|refine blk_far ?_ NB494_501.out _)); exact BK494.out⟩
   have n3_ : Aside0 (((((w25.setCell ⟨gb501, 0, none⟩ (.int .i64 t497)).setCell ⟨gb501, 1, none⟩ (.int .i64 t498)).setCell ⟨gb502, 0, none⟩ (.int .i64 t499)).setCell ⟨gb502, 1, none⟩ (.int .i64 t500)).heap[gb501]? = some (.cells #[.int .i64 t497, .int .i64 t498] 47 (0, 0))) := ⟨by (repeat (first|(with_reducible first|apply kN|apply kD|apply kA)|refine blk_far ?_ NB501_502.out _)); refine blk_put (cs := #[.int .i64 t497, .int .i64 0]) ?_ 1 _ rfl; (with_reducible repeat (first|apply kN|apply kD|apply kA)); refine blk_put (cs := #[.int .i64 0, .int .i64 0]) ?_ 0 _ rfl; (with_reducible repeat (first|apply kN|apply kD|apply kA)); exact BK501.out⟩
   have n4_ : Aside0 (((((w25.setCell ⟨gb501, 0, none⟩ (.int .i64 t497)).setCell ⟨gb501, 1, none⟩ (.int .i64 t498)).setCell ⟨gb502, 0, none⟩ (.int .i64 t499)).setCell ⟨gb502, 1, none⟩ (.int .i64 t500)).heap[gb502]? = some (.cells #[.int .i64 t499, .int .i64 t500] 47 (0, 0))) := ⟨by (with_reducible repeat (first|apply kN|apply kD|apply kA)); refine blk_put (cs := #[.int .i64 t499, .int .i64 0]) ?_ 1 _ rfl; (with_reducible repeat (first|apply kN|apply kD|apply kA)); refine blk_put (cs := #[.int .i64 0, .int .i64 0]) ?_ 0 _ rfl; (repeat (first|(with_reducible first|apply kN|apply kD|apply kA)|refine blk_far ?_ NB502_501.out _)); exact BK502.out⟩
   have n5_ : Aside0 (Below w.heap.size w ((((w25.setCell ⟨gb501, 0, none⟩ (.int .i64 t497)).setCell ⟨gb501, 1, none⟩ (.int .i64 t498)).setCell ⟨gb502, 0, none⟩ (.int .i64 t499)).setCell ⟨gb502, 1, none⟩ (.int .i64 t500))) := ⟨qB⟩
   (try clear BK492)
   (try clear BK493)
   (try clear BK494)
   (try clear BK501)
   (try clear BK502)
   (try clear HB)
   generalize ((((w25.setCell ⟨gb501, 0, none⟩ (.int .i64 t497)).setCell ⟨gb501, 1, none⟩ (.int .i64 t498)).setCell ⟨gb502, 0, none⟩ (.int .i64 t499)).setCell ⟨gb502, 1, none⟩ (.int .i64 t500)) = w35 at n0_ n1_ n2_ n3_ n4_ n5_ ⊢
   have BK492 := n0_
   have BK493 := n1_
   have BK494 := n2_
   have BK501 := n3_
   have BK502 := n4_
   have HB := n5_
   clear n0_ n1_ n2_ n3_ n4_ n5_
   replace BK492 := aM (blk_drew BK492.out)
   replace BK493 := aM (blk_drew BK493.out)
   replace BK494 := aM (blk_drew BK494.out)
   replace BK501 := aM (blk_drew BK501.out)
   replace BK502 := aM (blk_drew BK502.out)
   replace HB := aM (below_drew1 HB.out)
   refine sT (fun w' => w'.cell? ⟨gb492, 0, none⟩ = some (.int .i64 a1_0) ∧ w'.cell? ⟨gb492, 1, none⟩ = some (.int .i64 a1_1) ∧ w'.cell? ⟨gb492, 2, none⟩ = some (.int .i64 a1_2) ∧ w'.cell? ⟨gb492, 3, none⟩ = some (.int .i64 a1_3) ∧ w'.cell? ⟨gb501, 0, none⟩ = some (.int .i64 t497) ∧ w'.cell? ⟨gb501, 1, none⟩ = some (.int .i64 t498) ∧ w'.cell? ⟨gb502, 0, none⟩ = some (.int .i64 t499) ∧ w'.cell? ⟨gb502, 1, none⟩ = some (.int .i64 t500)) [] ⟨cB BK492, cB BK492, cB BK492, cB BK492, cB BK501, cB BK501, cB BK502, cB BK502⟩ (fun hHeld => ?_); refine with_tabW impl_MapLattice.tab7 impl_MapLattice.bits7 (fun HT_ HW_ => ?_)
   generalize w35.drew = w36 at BK492 BK493 BK494 BK501 BK502 HB hHeld ⊢
   refine tU 0 (some 28) 1 HT_ HW_ hHeld ?_
   refine tU 1 (some 29) 3 HT_ HW_ hHeld ?_
   refine tU 3 (some 31) 11 HT_ HW_ hHeld ?_
   refine tU 4 (some 32) 27 HT_ HW_ hHeld ?_
   refine oU 2 (some 30) 31 HT_ (fun K hK => ?_)
   refine gO Try.func97 #[.agg #[.int .i64 a1_0, .int .i64 a1_1, .int .i64 a1_2, .int .i64 a1_3], .agg #[.int .i64 t497, .int .i64 t498]] ?_
   with_reducible refine (impl_Mat_apply.calls a1_0 a1_1 a1_2 a1_3 t497 t498 t503 t504 _ A9.out).mono ?_
   rintro e w37 ⟨rfl, hb⟩
   refine ⟨_, rfl, ?_⟩
   replace BK492 := bB BK492 hb
   replace BK493 := bB BK493 hb
   replace BK494 := bB BK494 hb
   replace BK501 := bB BK501 hb
   replace BK502 := bB BK502 hb
   replace HB := bS HB hb
   (try clear hb)
   (try clear hb2)
   (try clear hk)
   (try clear hi)
   refine hK.out _ _ ⟨cB BK492, cB BK492, cB BK492, cB BK492, cB BK501, cB BK501, cB BK502, cB BK502⟩ (fun hHeld => ?_)
   clear hK K
   refine nM 30 ?_
   refine oU 5 (some 33) 63 HT_ (fun K hK => ?_)
   refine gO Try.func97 #[.agg #[.int .i64 a1_0, .int .i64 a1_1, .int .i64 a1_2, .int .i64 a1_3], .agg #[.int .i64 t499, .int .i64 t500]] ?_
   with_reducible refine (impl_Mat_apply.calls a1_0 a1_1 a1_2 a1_3 t499 t500 t505 t506 _ A10.out).mono ?_
   rintro e w38 ⟨rfl, hb⟩
   refine ⟨_, rfl, ?_⟩
   replace BK492 := bB BK492 hb
   replace BK493 := bB BK493 hb
   replace BK494 := bB BK494 hb
   replace BK501 := bB BK501 hb
   replace BK502 := bB BK502 hb
   replace HB := bS HB hb
   (try clear hb)
   (try clear hb2)
   (try clear hk)
   (try clear hi)
   refine hK.out _ _ ⟨cB BK492, cB BK492, cB BK492, cB BK492, cB BK501, cB BK501, cB BK502, cB BK502⟩ (fun hHeld => ?_)
   clear hK K
   refine nM 33 ?_
   refine oU 6 (some 34) 127 HT_ (fun K hK => ?_)
   refine Kd.R_lit_step k47 _ 47 ?hg (N := 34) ?hd (xs := ([(⟨t503, t504⟩ : S47), (⟨t505, t506⟩ : S47)] : List (S47))) (inner := [.int .i64 t503, .int .i64 t504, .int .i64 t505, .int .i64 t506]) (ok := fun _ => True) (okp := fun _ => True) ?hr ?hp (fun _ hk => hk) trivial (Below.refl _ _) (Nat.le_refl _) (by simp) ?_; (case hd => rfl); (case hg => rfl); (case hr => first | (go_simp; done) | (go_simp; rfl)); (case hp => exact (Reps.c2 (show Kd.M k47 _ _ _ (⟨t503, t504⟩ : S47) [.int .i64 t503, .int .i64 t504] from (k47_mkM _ _ _ (⟨t503, t504⟩ : S47) )) (Reps.c2 (show Kd.M k47 _ _ _ (⟨t505, t506⟩ : S47) [.int .i64 t505, .int .i64 t506] from (k47_mkM _ _ _ (⟨t505, t506⟩ : S47) )) (Reps.none _ _))))
   intro v508 w39 ho40 hb hg_ hnew_
   clear hg_ hnew_
   (first | rw [← Ny507.out] at ho40 | (simp only [Int.reduceToNat] at ho40; rw [← Ny507.out] at ho40))
   have HO509 := aM (Kd.R_lower (Kd.R_newB (Kd.R_newB ho40 (g := gb501) (o := .cells #[.int .i64 t497, .int .i64 t498] 47 (0, 0)) (bk BK501)) (g := gb502) (o := .cells #[.int .i64 t499, .int .i64 t500] 47 (0, 0)) (bk BK502)) (below_size qB))
   replace BK492 := bB BK492 hb
   replace BK493 := bB BK493 hb
   replace BK494 := bB BK494 hb
   replace BK501 := bB BK501 hb
   replace BK502 := bB BK502 hb
   replace HB := bS HB hb
   clear hb ho40
   obtain ⟨Ao41, co41, eo41⟩ := Kd.R_slice HO509.out
   (first | subst eo41 | (injection eo41 with f1_ f2_ f3_; have f4_ := f1_.symm; have f5_ := f3_.symm; clear f1_ f2_ f3_; subst f4_; subst f5_))
   refine hK.out _ _ ⟨cB BK492, cB BK492, cB BK492, cB BK492, cB BK501, cB BK501, cB BK502, cB BK502⟩ (fun hHeld => ?_)
   clear hK K
   refine nM 34 ?_
   refine oU 7 (some 35) 255 HT_ (fun K hK => ?_)
   refine gO Try.func119 #[.slice Ao41 y507.length co41] ?_
   with_reducible refine (impl_latticeOf.calls k _ _ y507 t510 t511 t512 _ ?side1 ?side2 A11.out).mono ?_
   (case side1 => repeat (first | exact (Kd.R_reads' HO509.out).2.2 | (with_reducible refine Kd.C_alloc ?_ _) | (with_reducible refine Kd.C_drewN ?_ _) | (with_reducible refine Kd.C_drew ?_)))
   (case side2 => exact (Kd.R_reads' HO509.out).2.1)
   rintro e w42 ⟨rfl, hb⟩
   refine ⟨_, rfl, ?_⟩
   have n0_ := aM (Kd.R_below (by (with_reducible repeat (first | apply Kd.R_alloc | apply Kd.R_drewN | apply Kd.R_drew)); exact HO509.out) hb)
   have n1_ := bB BK492 hb
   have n2_ := bB BK493 hb
   have n3_ := bB BK494 hb
   have n4_ := bB BK501 hb
   have n5_ := bB BK502 hb
   have n6_ := bS HB hb
   clear HO509
   clear BK492
   clear BK493
   clear BK494
   clear BK501
   clear BK502
   clear HB
   have HO509 := n0_
   have BK492 := n1_
   have BK493 := n2_
   have BK494 := n3_
   have BK501 := n4_
   have BK502 := n5_
   have HB := n6_
   clear n0_ n1_ n2_ n3_ n4_ n5_ n6_
   (try clear hb)
   (try clear hb2)
   (try clear hk)
   (try clear hi)
   refine hK.out _ _ ⟨cB BK492, cB BK492, cB BK492, cB BK492, cB BK501, cB BK501, cB BK502, cB BK502⟩ (fun hHeld => ?_)
   clear hK K
   refine nM 35 ?_
   refine oU 8 none 511 HT_ (fun K hK => ?_)
   have hs43 : w42.cell? ⟨gb494, 0, none⟩ = some (.int .i64 0) := cB BK494
   have hfs43 := blk_frozen BK494.out 0
   have hns43_0 := NB492_494.out
   have hns43_1 := NB493_494.out
   have hns43_3 := NB501_494.out
   have hns43_4 := NB502_494.out
   have hms43_0 := NB494_492.out
   have hms43_1 := NB494_493.out
   have hms43_3 := NB494_501.out
   have hms43_4 := NB494_502.out
   have hs44 : w42.cell? ⟨gb494, 1, none⟩ = some (.int .i64 0) := cB BK494
   have hfs44 := blk_frozen BK494.out 1
   have hns44_0 := NB492_494.out
   have hns44_1 := NB493_494.out
   have hns44_3 := NB501_494.out
   have hns44_4 := NB502_494.out
   have hms44_0 := NB494_492.out
   have hms44_1 := NB494_493.out
   have hms44_3 := NB494_501.out
   have hms44_4 := NB494_502.out
   have hs45 : w42.cell? ⟨gb494, 2, none⟩ = some (.int .i64 0) := cB BK494
   have hfs45 := blk_frozen BK494.out 2
   have hns45_0 := NB492_494.out
   have hns45_1 := NB493_494.out
   have hns45_3 := NB501_494.out
   have hns45_4 := NB502_494.out
   have hms45_0 := NB494_492.out
   have hms45_1 := NB494_493.out
   have hms45_3 := NB494_501.out
   have hms45_4 := NB494_502.out
   refine skip_ (w1 := ?_) (by rfl) rfl ?_ ?_
   rotate_left
   ·go_simp
    rfl
   refine hK.out _ _ ⟨((cell_far (p := ⟨gb494, _, none⟩) NB492_494.out _).trans (((cell_far (p := ⟨gb494, _, none⟩) NB492_494.out _).trans (((cell_far (p := ⟨gb494, _, none⟩) NB492_494.out _).trans (hHeld.1)))))), ((cell_far (p := ⟨gb494, _, none⟩) NB492_494.out _).trans (((cell_far (p := ⟨gb494, _, none⟩) NB492_494.out _).trans (((cell_far (p := ⟨gb494, _, none⟩) NB492_494.out _).trans (hHeld.2.1)))))), ((cell_far (p := ⟨gb494, _, none⟩) NB492_494.out _).trans (((cell_far (p := ⟨gb494, _, none⟩) NB492_494.out _).trans (((cell_far (p := ⟨gb494, _, none⟩) NB492_494.out _).trans (hHeld.2.2.1)))))), ((cell_far (p := ⟨gb494, _, none⟩) NB492_494.out _).trans (((cell_far (p := ⟨gb494, _, none⟩) NB492_494.out _).trans (((cell_far (p := ⟨gb494, _, none⟩) NB492_494.out _).trans (hHeld.2.2.2.1)))))), ((cell_far (p := ⟨gb494, _, none⟩) NB501_494.out _).trans (((cell_far (p := ⟨gb494, _, none⟩) NB501_494.out _).trans (((cell_far (p := ⟨gb494, _, none⟩) NB501_494.out _).trans (hHeld.2.2.2.2.1)))))), ((cell_far (p := ⟨gb494, _, none⟩) NB501_494.out _).trans (((cell_far (p := ⟨gb494, _, none⟩) NB501_494.out _).trans (((cell_far (p := ⟨gb494, _, none⟩) NB501_494.out _).trans (hHeld.2.2.2.2.2.1)))))), ((cell_far (p := ⟨gb494, _, none⟩) NB502_494.out _).trans (((cell_far (p := ⟨gb494, _, none⟩) NB502_494.out _).trans (((cell_far (p := ⟨gb494, _, none⟩) NB502_494.out _).trans (hHeld.2.2.2.2.2.2.1)))))), ((cell_far (p := ⟨gb494, _, none⟩) NB502_494.out _).trans (((cell_far (p := ⟨gb494, _, none⟩) NB502_494.out _).trans (((cell_far (p := ⟨gb494, _, none⟩) NB502_494.out _).trans (hHeld.2.2.2.2.2.2.2))))))⟩ (fun hHeld => ?_)
   clear hK K
   refine pU 9 (some 7) 1023 HT_ ?_
   refine dN HT_ ?_
   try go_wp2
   refine bodyPost_ret (results_ct rfl _ _ gb494 33 #[.int .i64 t510, .int .i64 t511, .int .i64 t512] (0, 0) _ rfl (by (with_reducible repeat (first|apply kN|apply kD|apply kA)); refine blk_put (cs := #[.int .i64 t510, .int .i64 t511, .int .i64 0]) ?_ 2 _ rfl; (with_reducible repeat (first|apply kN|apply kD|apply kA)); refine blk_put (cs := #[.int .i64 t510, .int .i64 0, .int .i64 0]) ?_ 1 _ rfl; (with_reducible repeat (first|apply kN|apply kD|apply kA)); refine blk_put (cs := #[.int .i64 0, .int .i64 0, .int .i64 0]) ?_ 0 _ rfl; (with_reducible repeat (first|apply kN|apply kD|apply kA)); exact BK494.out) Try.underlying33 rfl (by kernel_rfl)) rfl ?_
   exact ⟨qR, qB⟩
  ·replace c7 := Bool.eq_false_iff.mpr c7
   subst c7
   have H1 : (some (0, 0, 0, 2)) = some (r1, r2, r3, r4) := by rw [if_neg (show ¬ (false = true) by decide)] at H; exact H
   clear H
   have H := H1
   clear H1
   simp only [Option.some.injEq, Prod.mk.injEq] at H
   obtain ⟨rfl, rfl, rfl, rfl⟩ := H
   go_enter Try.func57, Try.ntmps57
   go_wp2_with (first | ((with_reducible refine gD (N:=4) rfl ?_); refine bE 4 #[.int .i64 a1_0, .int .i64 a1_1, .int .i64 a1_2, .int .i64 a1_3] 51 ?_; intro gb492 hg w46 hbox hb; have BK492 := aM hbox; have GW492 := bZ hg HB; have GE492 := bZ hg HB; replace HB := bS HB hb; clear hb hbox hg) | ((with_reducible refine gD (N:=5) rfl ?_); refine bE 5 #[.int .i64 a2_0, .int .i64 a2_1, .int .i64 a2_2] 33 ?_; intro gb493 hg w47 hbox hb; have BK493 := aM hbox; have GW493 := bZ hg HB; have GE493 := bZ hg HB; have NB492_493 := nL hg BK492; have NB493_492 := nG hg BK492; replace BK492 := bB BK492 hb; replace HB := bS HB hb; clear hb hbox hg) | ((with_reducible refine gD (N:=6) rfl ?_); refine bE 6 #[.int .i64 0, .int .i64 0, .int .i64 0] 33 ?_; intro gb494 hg w48 hbox hb; have BK494 := aM hbox; have GW494 := bZ hg HB; have GE494 := bZ hg HB; have NB492_494 := nL hg BK492; have NB494_492 := nG hg BK492; have NB493_494 := nL hg BK493; have NB494_493 := nG hg BK493; replace BK492 := bB BK492 hb; replace BK493 := bB BK493 hb; replace HB := bS HB hb; clear hb hbox hg; have hnb49 := NB493_492.out; have hnc49 := NB492_493.out; have hnb50 := NB493_494.out; have hnc50 := NB494_493.out; obtain ⟨hcz51_0, hcz51_1, hcz51_2⟩ := z3 BK493; obtain ⟨hfz51_0, hfz51_1, hfz51_2⟩ := y3 BK493) | ((with_reducible refine gC (f:=80) rfl ?_); refine gM 13 (impl_frameCode.calls a0 a2_0 a2_1 a2_2 t495 _ A4.out) Try.func80 ?_; rintro w52 hb; replace BK492 := bB BK492 hb; replace BK493 := bB BK493 hb; replace BK494 := bB BK494 hb; replace HB := bS HB hb; (try clear hb); have hnb53 := NB492_494.out; have hnc53 := NB494_492.out; obtain ⟨hcz54_0, hcz54_1, hcz54_2, hcz54_3⟩ := z4 BK492; obtain ⟨hfz54_0, hfz54_1, hfz54_2, hfz54_3⟩ := y4 BK492) | ((with_reducible refine gC (f:=60) rfl ?_); refine gM 20 (impl_IsPointMat.calls k a0 a1_0 a1_1 a1_2 a1_3 false _ A6.out) Try.func60 ?_; rintro w55 hb; replace BK492 := bB BK492 hb; replace BK493 := bB BK493 hb; replace BK494 := bB BK494 hb; replace HB := bS HB hb; (try clear hb); obtain ⟨hcz56_0, hcz56_1, hcz56_2⟩ := z3 BK494; obtain ⟨hfz56_0, hfz56_1, hfz56_2⟩ := y3 BK494))
   refine bodyPost_ret (results_ct rfl _ _ gb494 33 #[.int .i64 0, .int .i64 0, .int .i64 0] (0, 0) _ rfl (by (with_reducible repeat (first|apply kN|apply kD|apply kA)); refine blk_put (cs := #[.int .i64 0, .int .i64 0, .int .i64 0]) ?_ 2 _ rfl; (with_reducible repeat (first|apply kN|apply kD|apply kA)); refine blk_put (cs := #[.int .i64 0, .int .i64 0, .int .i64 0]) ?_ 1 _ rfl; (with_reducible repeat (first|apply kN|apply kD|apply kA)); refine blk_put (cs := #[.int .i64 0, .int .i64 0, .int .i64 0]) ?_ 0 _ rfl; (with_reducible repeat (first|apply kN|apply kD|apply kA)); exact BK494.out) Try.underlying33 rfl (by kernel_rfl)) rfl ?_
   exact ⟨qR, qB⟩
 ·rw [if_neg c5] at H
  have c5b0 : (t495 == 0) = false := beq_eq_false_iff_ne.mpr c5
  have c5b1 : (t495 != 0) = true := bne_iff_ne.mpr c5
  simp only [Option.some.injEq, Prod.mk.injEq] at H
  obtain ⟨rfl, rfl, rfl, rfl⟩ := H
  go_enter Try.func57, Try.ntmps57
  go_wp2_with (first | ((with_reducible refine gD (N:=4) rfl ?_); refine bE 4 #[.int .i64 a1_0, .int .i64 a1_1, .int .i64 a1_2, .int .i64 a1_3] 51 ?_; intro gb492 hg w57 hbox hb; have BK492 := aM hbox; have GW492 := bZ hg HB; have GE492 := bZ hg HB; replace HB := bS HB hb; clear hb hbox hg) | ((with_reducible refine gD (N:=5) rfl ?_); refine bE 5 #[.int .i64 a2_0, .int .i64 a2_1, .int .i64 a2_2] 33 ?_; intro gb493 hg w58 hbox hb; have BK493 := aM hbox; have GW493 := bZ hg HB; have GE493 := bZ hg HB; have NB492_493 := nL hg BK492; have NB493_492 := nG hg BK492; replace BK492 := bB BK492 hb; replace HB := bS HB hb; clear hb hbox hg) | ((with_reducible refine gD (N:=6) rfl ?_); refine bE 6 #[.int .i64 0, .int .i64 0, .int .i64 0] 33 ?_; intro gb494 hg w59 hbox hb; have BK494 := aM hbox; have GW494 := bZ hg HB; have GE494 := bZ hg HB; have NB492_494 := nL hg BK492; have NB494_492 := nG hg BK492; have NB493_494 := nL hg BK493; have NB494_493 := nG hg BK493; replace BK492 := bB BK492 hb; replace BK493 := bB BK493 hb; replace HB := bS HB hb; clear hb hbox hg; have hnb60 := NB493_492.out; have hnc60 := NB492_493.out; have hnb61 := NB493_494.out; have hnc61 := NB494_493.out; obtain ⟨hcz62_0, hcz62_1, hcz62_2⟩ := z3 BK493; obtain ⟨hfz62_0, hfz62_1, hfz62_2⟩ := y3 BK493) | ((with_reducible refine gC (f:=80) rfl ?_); refine gM 13 (impl_frameCode.calls a0 a2_0 a2_1 a2_2 t495 _ A4.out) Try.func80 ?_; rintro w63 hb; replace BK492 := bB BK492 hb; replace BK493 := bB BK493 hb; replace BK494 := bB BK494 hb; replace HB := bS HB hb; (try clear hb); have hnb64 := NB494_492.out; have hnc64 := NB492_494.out; obtain ⟨hcz65_0, hcz65_1, hcz65_2⟩ := z3 BK494; obtain ⟨hfz65_0, hfz65_1, hfz65_2⟩ := y3 BK494))
  refine bodyPost_ret (results_ct rfl _ _ gb494 33 #[.int .i64 0, .int .i64 0, .int .i64 0] (0, 0) _ rfl (by (with_reducible repeat (first|apply kN|apply kD|apply kA)); refine blk_put (cs := #[.int .i64 0, .int .i64 0, .int .i64 0]) ?_ 2 _ rfl; (with_reducible repeat (first|apply kN|apply kD|apply kA)); refine blk_put (cs := #[.int .i64 0, .int .i64 0, .int .i64 0]) ?_ 1 _ rfl; (with_reducible repeat (first|apply kN|apply kD|apply kA)); refine blk_put (cs := #[.int .i64 0, .int .i64 0, .int .i64 0]) ?_ 0 _ rfl; (with_reducible repeat (first|apply kN|apply kD|apply kA)); exact BK494.out) Try.underlying33 rfl (by kernel_rfl)) rfl ?_
  exact ⟨qR, qB⟩

def spec_l02Small.f (a0_0 : Int) (a0_1 : Int) (a0_2 : Int) (a0_3 : Int) : Option (Bool) := (spec_IsVec.f a0_0 a0_1).bind fun t514 => (if t514 = true then ((spec_IsVec.f a0_2 a0_3).bind fun t515 => (some t515)) else (some false))
set_option maxHeartbeats 8000000 in
set_option maxRecDepth 100000 in
theorem spec_l02Small.calls (a0_0 : Int) (a0_1 : Int) (a0_2 : Int) (a0_3 : Int) (r : Bool) (w : World) (h : spec_l02Small.f a0_0 a0_1 a0_2 a0_3 = some r) :
  Calls Try.prog 102 #[.agg #[.int .i64 a0_0, .int .i64 a0_1, .int .i64 a0_2, .int .i64 a0_3]] w fun e w' => e = .returned (.bool r) ∧ Below w.heap.size w w' := by
 have hu51 := Try.underlying51
 have hu47 := Try.underlying47
 have HB := aM (Below.refl w.heap.size w)
 have H : ((spec_IsVec.f a0_0 a0_1).bind fun t514 => (if t514 = true then ((spec_IsVec.f a0_2 a0_3).bind fun t515 => (some t515)) else (some false))) = some r := h
 clear h
 obtain ⟨t514, A2, H⟩ := oB H
 try dsimp only at H
 by_cases c3 : t514 = true
 ·subst c3
  have H1 : ((spec_IsVec.f a0_2 a0_3).bind fun t515 => (some t515)) = some r := by rw [if_pos rfl] at H; exact H
  clear H
  have H := H1
  clear H1
  obtain ⟨t515, A4, H⟩ := oB H
  try dsimp only at H
  obtain rfl := Option.some.inj H
  go_enter Try.func102, Try.ntmps102
  go_wp2_with (first | ((with_reducible refine gD (N:=1) rfl ?_); refine bE 1 #[.int .i64 a0_0, .int .i64 a0_1, .int .i64 a0_2, .int .i64 a0_3] 51 ?_; intro gb513 hg w5 hbox hb; have BK513 := aM hbox; have GW513 := bZ hg HB; have GE513 := bZ hg HB; replace HB := bS HB hb; clear hb hbox hg; obtain ⟨hcz6_0, hcz6_1, hcz6_2, hcz6_3⟩ := z4 BK513; obtain ⟨hfz6_0, hfz6_1, hfz6_2, hfz6_3⟩ := y4 BK513) | ((with_reducible refine gC (f:=98) rfl ?_); refine gM 8 (spec_IsVec.calls a0_0 a0_1 true _ A2.out) Try.func98 ?_; rintro w7 hb; replace BK513 := bB BK513 hb; replace HB := bS HB hb; (try clear hb); obtain ⟨hcz8_0, hcz8_1, hcz8_2, hcz8_3⟩ := z4 BK513; obtain ⟨hfz8_0, hfz8_1, hfz8_2, hfz8_3⟩ := y4 BK513) | (go_at_call 98; (with_reducible refine (spec_IsVec.calls a0_2 a0_3 t515 _ A4.out).mono ?_); rintro e w9 ⟨rfl, hb⟩; replace BK513 := bB BK513 hb; replace HB := bS HB hb; (try clear hb)))
  go_ret
  exact ⟨qR, qB⟩
 ·replace c3 := Bool.eq_false_iff.mpr c3
  subst c3
  have H1 : (some false) = some r := by rw [if_neg (show ¬ (false = true) by decide)] at H; exact H
  clear H
  have H := H1
  clear H1
  obtain rfl := Option.some.inj H
  go_enter Try.func102, Try.ntmps102
  go_wp2_with (first | ((with_reducible refine gD (N:=1) rfl ?_); refine bE 1 #[.int .i64 a0_0, .int .i64 a0_1, .int .i64 a0_2, .int .i64 a0_3] 51 ?_; intro gb513 hg w10 hbox hb; have BK513 := aM hbox; have GW513 := bZ hg HB; have GE513 := bZ hg HB; replace HB := bS HB hb; clear hb hbox hg; obtain ⟨hcz11_0, hcz11_1, hcz11_2, hcz11_3⟩ := z4 BK513; obtain ⟨hfz11_0, hfz11_1, hfz11_2, hfz11_3⟩ := y4 BK513) | ((with_reducible refine gC (f:=98) rfl ?_); refine gM 8 (spec_IsVec.calls a0_0 a0_1 false _ A2.out) Try.func98 ?_; rintro w12 hb; replace BK513 := bB BK513 hb; replace HB := bS HB hb; (try clear hb)))
  go_ret
  exact ⟨qR, qB⟩

def spec_IsMat.f (a0_0 : Int) (a0_1 : Int) (a0_2 : Int) (a0_3 : Int) : Option (Bool) := (spec_l02Small.f a0_0 a0_1 a0_2 a0_3).bind fun t517 => (if t517 = true then ((spec_l02Det.f a0_0 a0_1 a0_2 a0_3).bind fun t518 => (if t518 = 1 then (some true) else ((spec_l02Det.f a0_0 a0_1 a0_2 a0_3).bind fun t519 => (some (t519 == (-1)))))) else (some false))
set_option maxHeartbeats 8000000 in
set_option maxRecDepth 100000 in
theorem spec_IsMat.calls (a0_0 : Int) (a0_1 : Int) (a0_2 : Int) (a0_3 : Int) (r : Bool) (w : World) (h : spec_IsMat.f a0_0 a0_1 a0_2 a0_3 = some r) :
  Calls Try.prog 38 #[.agg #[.int .i64 a0_0, .int .i64 a0_1, .int .i64 a0_2, .int .i64 a0_3]] w fun e w' => e = .returned (.bool r) ∧ Below w.heap.size w w' := by
 have hu51 := Try.underlying51
 have HB := aM (Below.refl w.heap.size w)
 have H : ((spec_l02Small.f a0_0 a0_1 a0_2 a0_3).bind fun t517 => (if t517 = true then ((spec_l02Det.f a0_0 a0_1 a0_2 a0_3).bind fun t518 => (if t518 = 1 then (some true) else ((spec_l02Det.f a0_0 a0_1 a0_2 a0_3).bind fun t519 => (some (t519 == (-1)))))) else (some false))) = some r := h
 clear h
 obtain ⟨t517, A2, H⟩ := oB H
 try dsimp only at H
 by_cases c3 : t517 = true
 ·subst c3
  have H1 : ((spec_l02Det.f a0_0 a0_1 a0_2 a0_3).bind fun t518 => (if t518 = 1 then (some true) else ((spec_l02Det.f a0_0 a0_1 a0_2 a0_3).bind fun t519 => (some (t519 == (-1)))))) = some r := by rw [if_pos rfl] at H; exact H
  clear H
  have H := H1
  clear H1
  obtain ⟨t518, A4, H⟩ := oB H
  try dsimp only at H
  by_cases c5 : t518 = 1
  ·rw [if_pos c5] at H
   have c5b0 : (t518 == 1) = true := beq_iff_eq.mpr c5
   have c5b1 : (t518 != 1) = false := bne_eq_false_iff_eq.mpr c5
   clear c5
   obtain rfl := Option.some.inj H
   go_enter Try.func38, Try.ntmps38
   go_wp2_with (first | ((with_reducible refine gD (N:=1) rfl ?_); refine bE 1 #[.int .i64 a0_0, .int .i64 a0_1, .int .i64 a0_2, .int .i64 a0_3] 51 ?_; intro gb516 hg w6 hbox hb; have BK516 := aM hbox; have GW516 := bZ hg HB; have GE516 := bZ hg HB; replace HB := bS HB hb; clear hb hbox hg; obtain ⟨hcz7_0, hcz7_1, hcz7_2, hcz7_3⟩ := z4 BK516; obtain ⟨hfz7_0, hfz7_1, hfz7_2, hfz7_3⟩ := y4 BK516) | ((with_reducible refine gC (f:=102) rfl ?_); refine gM 4 (spec_l02Small.calls a0_0 a0_1 a0_2 a0_3 true _ A2.out) Try.func102 ?_; rintro w8 hb; replace BK516 := bB BK516 hb; replace HB := bS HB hb; (try clear hb); obtain ⟨hcz9_0, hcz9_1, hcz9_2, hcz9_3⟩ := z4 BK516; obtain ⟨hfz9_0, hfz9_1, hfz9_2, hfz9_3⟩ := y4 BK516) | (go_at_call 103; (with_reducible refine (spec_l02Det.calls a0_0 a0_1 a0_2 a0_3 t518 _ A4.out).mono ?_); rintro e w10 ⟨rfl, hb⟩; replace BK516 := bB BK516 hb; replace HB := bS HB hb; (try clear hb)))
   go_ret
   exact ⟨qR, qB⟩
  ·rw [if_neg c5] at H
   have c5b0 : (t518 == 1) = false := beq_eq_false_iff_ne.mpr c5
   have c5b1 : (t518 != 1) = true := bne_iff_ne.mpr c5
   rw [A4.out] at H
   try dsimp only at H
   obtain rfl := Option.some.inj H
   go_enter Try.func38, Try.ntmps38
   go_wp2_with (first | ((with_reducible refine gD (N:=1) rfl ?_); refine bE 1 #[.int .i64 a0_0, .int .i64 a0_1, .int .i64 a0_2, .int .i64 a0_3] 51 ?_; intro gb516 hg w12 hbox hb; have BK516 := aM hbox; have GW516 := bZ hg HB; have GE516 := bZ hg HB; replace HB := bS HB hb; clear hb hbox hg; obtain ⟨hcz13_0, hcz13_1, hcz13_2, hcz13_3⟩ := z4 BK516; obtain ⟨hfz13_0, hfz13_1, hfz13_2, hfz13_3⟩ := y4 BK516) | ((with_reducible refine gC (f:=102) rfl ?_); refine gM 4 (spec_l02Small.calls a0_0 a0_1 a0_2 a0_3 true _ A2.out) Try.func102 ?_; rintro w14 hb; replace BK516 := bB BK516 hb; replace HB := bS HB hb; (try clear hb); obtain ⟨hcz15_0, hcz15_1, hcz15_2, hcz15_3⟩ := z4 BK516; obtain ⟨hfz15_0, hfz15_1, hfz15_2, hfz15_3⟩ := y4 BK516) | (go_at_call 103; (with_reducible refine (spec_l02Det.calls a0_0 a0_1 a0_2 a0_3 t518 _ A4.out).mono ?_); rintro e w16 ⟨rfl, hb⟩; replace BK516 := bB BK516 hb; replace HB := bS HB hb; (try clear hb); obtain ⟨hcz17_0, hcz17_1, hcz17_2, hcz17_3⟩ := z4 BK516; obtain ⟨hfz17_0, hfz17_1, hfz17_2, hfz17_3⟩ := y4 BK516) | (go_at_call 103; (with_reducible refine (spec_l02Det.calls a0_0 a0_1 a0_2 a0_3 t518 _ A4.out).mono ?_); rintro e w18 ⟨rfl, hb⟩; replace BK516 := bB BK516 hb; replace HB := bS HB hb; (try clear hb)))
   go_ret
   exact ⟨qR, qB⟩
 ·replace c3 := Bool.eq_false_iff.mpr c3
  subst c3
  have H1 : (some false) = some r := by rw [if_neg (show ¬ (false = true) by decide)] at H; exact H
  clear H
  have H := H1
  clear H1
  obtain rfl := Option.some.inj H
  go_enter Try.func38, Try.ntmps38
  go_wp2_with (first | ((with_reducible refine gD (N:=1) rfl ?_); refine bE 1 #[.int .i64 a0_0, .int .i64 a0_1, .int .i64 a0_2, .int .i64 a0_3] 51 ?_; intro gb516 hg w19 hbox hb; have BK516 := aM hbox; have GW516 := bZ hg HB; have GE516 := bZ hg HB; replace HB := bS HB hb; clear hb hbox hg; obtain ⟨hcz20_0, hcz20_1, hcz20_2, hcz20_3⟩ := z4 BK516; obtain ⟨hfz20_0, hfz20_1, hfz20_2, hfz20_3⟩ := y4 BK516) | ((with_reducible refine gC (f:=102) rfl ?_); refine gM 4 (spec_l02Small.calls a0_0 a0_1 a0_2 a0_3 false _ A2.out) Try.func102 ?_; rintro w21 hb; replace BK516 := bB BK516 hb; replace HB := bS HB hb; (try clear hb)))
  go_ret
  exact ⟨qR, qB⟩

end Go.Proofs.Ytcjchihnopmplaa.F

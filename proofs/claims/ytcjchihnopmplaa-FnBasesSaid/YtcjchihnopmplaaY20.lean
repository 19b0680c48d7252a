import Derived.Test.YtcjchihnopmplaaY0
import Derived.Test.YtcjchihnopmplaaY1
import Derived.Test.YtcjchihnopmplaaY7
import Derived.Test.YtcjchihnopmplaaY8
import Derived.Test.YtcjchihnopmplaaY9
import Derived.Test.YtcjchihnopmplaaY14
import Derived.Test.YtcjchihnopmplaaY17
namespace Go.Proofs.Ytcjchihnopmplaa.F
open Go.RowKit Go.Proofs.YtcjchihnopmplaaW.PrintWords Go.Proofs.YtcjchihnopmplaaW.PrintLast Go.Proofs.YtcjchihnopmplaaW.PrintMore
attribute [local go_sem] max2_int min2_int max_two min_two max_three min_three max_four min_four   -- for this text's walks alone
set_option linter.unusedVariables false
set_option linter.unusedSimpArgs false

def impl_ShortestVecs.f (k : Nat) (a0 : Int) (a1_0 : Int) (a1_1 : Int) (a1_2 : Int) : Option ((List (S47)) × Int) := (impl_frameCode.f a0 a1_0 a1_1 a1_2).bind fun t837 => (if t837 = 0 then ((impl_shortestVecs.f k a0 a1_0 a1_1 a1_2).bind fun t838 => (some (t838, 0))) else (some (([] : List (S47)), t837)))
set_option maxHeartbeats 8000000 in
set_option maxRecDepth 100000 in
theorem impl_ShortestVecs.calls (k : Nat) (a0 : Int) (a1_0 : Int) (a1_1 : Int) (a1_2 : Int) (r1 : List (S47)) (r2 : Int) (w : World) (h : impl_ShortestVecs.f k a0 a1_0 a1_1 a1_2 = some (r1, r2)) :
  Calls Try.prog 67 #[.int .i64 a0, .agg #[.int .i64 a1_0, .int .i64 a1_1, .int .i64 a1_2]] w fun e w' => ∃ v0_ : Value, e = .returned (.tuple #[v0_, .int .i64 r2]) ∧ Kd.R k47 47 w' w.heap.size (fun _ => True) v0_ r1 ∧ Below w.heap.size w w' := by
 have hu33 := Try.underlying33
 have HB := aM (Below.refl w.heap.size w)
 have H : ((impl_frameCode.f a0 a1_0 a1_1 a1_2).bind fun t837 => (if t837 = 0 then ((impl_shortestVecs.f k a0 a1_0 a1_1 a1_2).bind fun t838 => (some (t838, 0))) else (some (([] : List (S47)), t837)))) = some (r1, r2) := h
 clear h
 obtain ⟨t837, A3, H⟩ := oB H
 try dsimp only at H
 by_cases c4 : t837 = 0
 ·rw [if_pos c4] at H
  have c4b0 : (t837 == 0) = true := beq_iff_eq.mpr c4
  have c4b1 : (t837 != 0) = false := bne_eq_false_iff_eq.mpr c4
  clear c4
  obtain ⟨t838, A5, H⟩ := oB H
  try dsimp only at H
  simp only [Option.some.injEq, Prod.mk.injEq] at H
  obtain ⟨rfl, rfl⟩ := H
  go_enter Try.func67, Try.ntmps67
  go_wp2_with (first | (refine bE 3 #[.int .i64 a1_0, .int .i64 a1_1, .int .i64 a1_2] 33 ?_; intro gb836 hg w6 hbox hb; have BK836 := aM hbox; have GW836 := bZ hg HB; have GE836 := bZ hg HB; replace HB := bS HB hb; clear hb hbox hg; obtain ⟨hcz7_0, hcz7_1, hcz7_2⟩ := z3 BK836; obtain ⟨hfz7_0, hfz7_1, hfz7_2⟩ := y3 BK836) | (refine gC 80 ?_; refine gM 9 (impl_frameCode.calls a0 a1_0 a1_1 a1_2 t837 _ A3.out) Try.func80 ?_; rintro w8 hb; replace BK836 := bB BK836 hb; replace HB := bS HB hb; (try clear hb); obtain ⟨hcz9_0, hcz9_1, hcz9_2⟩ := z3 BK836; obtain ⟨hfz9_0, hfz9_1, hfz9_2⟩ := y3 BK836) | ((with_reducible refine gate_callee (f := 129) rfl ?_); refine goesL_ (some 15) rfl rfl Try.func129 (by kernel_rfl) rfl #[.int .i64 a0, .agg #[.int .i64 a1_0, .int .i64 a1_1, .int .i64 a1_2]] rfl (by first|rfl|(simp only [List.map_toArray, List.map_cons, List.map_nil]; try rfl)) ?_; (with_reducible refine (impl_shortestVecs.calls k a0 a1_0 a1_1 a1_2 t838 _ A5.out).mono ?_); rintro e w10 ⟨v839, rfl, ho0, hb⟩; refine ⟨_, rfl, ?_⟩; have HO840 := aM (Kd.R_lower ho0 (below_size qB)); replace BK836 := bB BK836 hb; replace HB := bS HB hb; (try clear hb); (try clear ho0)))
  go_ret2
  exact ⟨_, qR, by (with_reducible repeat (first | apply Kd.R_alloc | apply Kd.R_drewN | apply Kd.R_drew)); exact HO840.out, qB⟩
 ·rw [if_neg c4] at H
  have c4b0 : (t837 == 0) = false := beq_eq_false_iff_ne.mpr c4
  have c4b1 : (t837 != 0) = true := bne_iff_ne.mpr c4
  simp only [Option.some.injEq, Prod.mk.injEq] at H
  obtain ⟨rfl, rfl⟩ := H
  go_enter Try.func67, Try.ntmps67
  go_wp2_with (first | (refine bE 3 #[.int .i64 a1_0, .int .i64 a1_1, .int .i64 a1_2] 33 ?_; intro gb836 hg w11 hbox hb; have BK836 := aM hbox; have GW836 := bZ hg HB; have GE836 := bZ hg HB; replace HB := bS HB hb; clear hb hbox hg; obtain ⟨hcz12_0, hcz12_1, hcz12_2⟩ := z3 BK836; obtain ⟨hfz12_0, hfz12_1, hfz12_2⟩ := y3 BK836) | (refine gC 80 ?_; refine gM 9 (impl_frameCode.calls a0 a1_0 a1_1 a1_2 t837 _ A3.out) Try.func80 ?_; rintro w13 hb; replace BK836 := bB BK836 hb; replace HB := bS HB hb; (try clear hb)))
  go_ret2
  exact ⟨_, qR, by first | exact Kd.R_nil _ _ _ _ _ | exact Kd.N_nil _ _ _ _ _ | exact Kd.V_nil _ _ _ _ _ | exact Kd.Q_nil _ _ _ _ _ | exact Kd.S_nil _ _ _ _ _, qB⟩

def spec_ShortestVecs.f (k : Nat) (a0 : Int) (a1_0 : Int) (a1_1 : Int) (a1_2 : Int) : Option ((List (S47)) × Int) := (spec_l04Code.f a0 a1_0 a1_1 a1_2).bind fun t842 => (if t842 = 0 then ((spec_l04Shortest.f k a0 a1_0 a1_1 a1_2).bind fun t843 => (some (t843, 0))) else (some (([] : List (S47)), t842)))
set_option maxHeartbeats 8000000 in
set_option maxRecDepth 100000 in
theorem spec_ShortestVecs.calls (k : Nat) (a0 : Int) (a1_0 : Int) (a1_1 : Int) (a1_2 : Int) (r1 : List (S47)) (r2 : Int) (w : World) (h : spec_ShortestVecs.f k a0 a1_0 a1_1 a1_2 = some (r1, r2)) :
  Calls Try.prog 68 #[.int .i64 a0, .agg #[.int .i64 a1_0, .int .i64 a1_1, .int .i64 a1_2]] w fun e w' => ∃ v0_ : Value, e = .returned (.tuple #[v0_, .int .i64 r2]) ∧ Kd.R k47 47 w' w.heap.size (fun _ => True) v0_ r1 ∧ Below w.heap.size w w' := by
 have hu33 := Try.underlying33
 have HB := aM (Below.refl w.heap.size w)
 have H : ((spec_l04Code.f a0 a1_0 a1_1 a1_2).bind fun t842 => (if t842 = 0 then ((spec_l04Shortest.f k a0 a1_0 a1_1 a1_2).bind fun t843 => (some (t843, 0))) else (some (([] : List (S47)), t842)))) = some (r1, r2) := h
 clear h
 obtain ⟨t842, A3, H⟩ := oB H
 try dsimp only at H
 by_cases c4 : t842 = 0
 ·rw [if_pos c4] at H
  have c4b0 : (t842 == 0) = true := beq_iff_eq.mpr c4
  have c4b1 : (t842 != 0) = false := bne_eq_false_iff_eq.mpr c4
  clear c4
  obtain ⟨t843, A5, H⟩ := oB H
  try dsimp only at H
  simp only [Option.some.injEq, Prod.mk.injEq] at H
  obtain ⟨rfl, rfl⟩ := H
  go_enter Try.func68, Try.ntmps68
  go_wp2_with (first | (refine bE 3 #[.int .i64 a1_0, .int .i64 a1_1, .int .i64 a1_2] 33 ?_; intro gb841 hg w6 hbox hb; have BK841 := aM hbox; have GW841 := bZ hg HB; have GE841 := bZ hg HB; replace HB := bS HB hb; clear hb hbox hg; obtain ⟨hcz7_0, hcz7_1, hcz7_2⟩ := z3 BK841; obtain ⟨hfz7_0, hfz7_1, hfz7_2⟩ := y3 BK841) | (refine gC 78 ?_; refine gM 9 (spec_l04Code.calls a0 a1_0 a1_1 a1_2 t842 _ A3.out) Try.func78 ?_; rintro w8 hb; replace BK841 := bB BK841 hb; replace HB := bS HB hb; (try clear hb); obtain ⟨hcz9_0, hcz9_1, hcz9_2⟩ := z3 BK841; obtain ⟨hfz9_0, hfz9_1, hfz9_2⟩ := y3 BK841) | ((with_reducible refine gate_callee (f := 126) rfl ?_); refine goesL_ (some 15) rfl rfl Try.func126 (by kernel_rfl) rfl #[.int .i64 a0, .agg #[.int .i64 a1_0, .int .i64 a1_1, .int .i64 a1_2]] rfl (by first|rfl|(simp only [List.map_toArray, List.map_cons, List.map_nil]; try rfl)) ?_; (with_reducible refine (spec_l04Shortest.calls k a0 a1_0 a1_1 a1_2 t843 _ A5.out).mono ?_); rintro e w10 ⟨v844, rfl, ho0, hb⟩; refine ⟨_, rfl, ?_⟩; have HO845 := aM (Kd.R_lower ho0 (below_size qB)); replace BK841 := bB BK841 hb; replace HB := bS HB hb; (try clear hb); (try clear ho0)))
  go_ret2
  exact ⟨_, qR, by (with_reducible repeat (first | apply Kd.R_alloc | apply Kd.R_drewN | apply Kd.R_drew)); exact HO845.out, qB⟩
 ·rw [if_neg c4] at H
  have c4b0 : (t842 == 0) = false := beq_eq_false_iff_ne.mpr c4
  have c4b1 : (t842 != 0) = true := bne_iff_ne.mpr c4
  simp only [Option.some.injEq, Prod.mk.injEq] at H
  obtain ⟨rfl, rfl⟩ := H
  go_enter Try.func68, Try.ntmps68
  go_wp2_with (first | (refine bE 3 #[.int .i64 a1_0, .int .i64 a1_1, .int .i64 a1_2] 33 ?_; intro gb841 hg w11 hbox hb; have BK841 := aM hbox; have GW841 := bZ hg HB; have GE841 := bZ hg HB; replace HB := bS HB hb; clear hb hbox hg; obtain ⟨hcz12_0, hcz12_1, hcz12_2⟩ := z3 BK841; obtain ⟨hfz12_0, hfz12_1, hfz12_2⟩ := y3 BK841) | (refine gC 78 ?_; refine gM 9 (spec_l04Code.calls a0 a1_0 a1_1 a1_2 t842 _ A3.out) Try.func78 ?_; rintro w13 hb; replace BK841 := bB BK841 hb; replace HB := bS HB hb; (try clear hb)))
  go_ret2
  exact ⟨_, qR, by first | exact Kd.R_nil _ _ _ _ _ | exact Kd.N_nil _ _ _ _ _ | exact Kd.V_nil _ _ _ _ _ | exact Kd.Q_nil _ _ _ _ _ | exact Kd.S_nil _ _ _ _ _, qB⟩

def impl_LatticeOf.j0 : Nat → Bool → Int → Int → Int → Int → Option (Int × Int × Int × Int)
 | 0, _, _, _, _, _ => none
 | k + 1, x14, x847000, x847001, x848000, x848001 => if x14 = true then (some (0, 0, 0, 1)) else ((impl_det.f x847000 x847001 x848000 x848001).bind fun t851 => (if t851 = 0 then (some (0, 0, 0, 5)) else (if (mx t851 (wrap64 (-t851))) > 64 then (some (0, 0, 0, 3)) else ((impl_latticeOf.f k (([(⟨x847000, x847001⟩ : S47), (⟨x848000, x848001⟩ : S47)] : List (S47)))).bind fun bt855 => (some (bt855.1, bt855.2.1, bt855.2.2, 0))))))
def impl_LatticeOf.f (k : Nat) (a0_0 : Int) (a0_1 : Int) (a1_0 : Int) (a1_1 : Int) : Option (Int × Int × Int × Int) := (impl_IsVec.f a0_0 a0_1).bind fun t849 => (if t849 = true then ((impl_IsVec.f a1_0 a1_1).bind fun t850 => (impl_LatticeOf.j0 k (!t850) a0_0 a0_1 a1_0 a1_1)) else (impl_LatticeOf.j0 k true a0_0 a0_1 a1_0 a1_1))
set_option maxHeartbeats 8000000 in
set_option maxRecDepth 100000 in
theorem impl_LatticeOf.calls (k : Nat) (a0_0 : Int) (a0_1 : Int) (a1_0 : Int) (a1_1 : Int) (r1 : Int) (r2 : Int) (r3 : Int) (r4 : Int) (w : World) (h : impl_LatticeOf.f k a0_0 a0_1 a1_0 a1_1 = some (r1, r2, r3, r4)) :
  Calls Try.prog 69 #[.agg #[.int .i64 a0_0, .int .i64 a0_1], .agg #[.int .i64 a1_0, .int .i64 a1_1]] w fun e w' => e = .returned (.tuple #[.agg #[.int .i64 r1, .int .i64 r2, .int .i64 r3], .int .i64 r4]) ∧ Below w.heap.size w w' := by
 have hu47 := Try.underlying47
 have hu33 := Try.underlying33
 have HB := aM (Below.refl w.heap.size w)
 have H : ((impl_IsVec.f a0_0 a0_1).bind fun t849 => (if t849 = true then ((impl_IsVec.f a1_0 a1_1).bind fun t850 => (impl_LatticeOf.j0 k (!t850) a0_0 a0_1 a1_0 a1_1)) else (impl_LatticeOf.j0 k true a0_0 a0_1 a1_0 a1_1))) = some (r1, r2, r3, r4) := h
 clear h
 have HC3 := aM H
 clear H
 go_enter Try.func69, Try.ntmps69
 go_upto_region 1 with (first | (refine bE 2 #[.int .i64 a0_0, .int .i64 a0_1] 47 ?_; intro gb846 hg w4 hbox hb; have BK846 := aM hbox; have GW846 := bZ hg HB; have GE846 := bZ hg HB; replace HB := bS HB hb; clear hb hbox hg) | (refine bE 3 #[.int .i64 a1_0, .int .i64 a1_1] 47 ?_; intro gb847 hg w5 hbox hb; have BK847 := aM hbox; have GW847 := bZ hg HB; have GE847 := bZ hg HB; have NB846_847 := nL hg BK846; have NB847_846 := nG hg BK846; replace BK846 := bB BK846 hb; replace HB := bS HB hb; clear hb hbox hg) | (refine bE 4 #[.int .i64 0, .int .i64 0, .int .i64 0] 33 ?_; intro gb848 hg w6 hbox hb; have BK848 := aM hbox; have GW848 := bZ hg HB; have GE848 := bZ hg HB; have NB846_848 := nL hg BK846; have NB848_846 := nG hg BK846; have NB847_848 := nL hg BK847; have NB848_847 := nG hg BK847; replace BK846 := bB BK846 hb; replace BK847 := bB BK847 hb; replace HB := bS HB hb; clear hb hbox hg))
 (try simp only [Act.put, List.setIfInBounds_toArray, List.set_cons_zero, List.set_cons_succ])
 go_cut [14] (fun v14 wc => ∃ (kq : Nat) (x14_2 : Bool), v14 = .bool x14_2 ∧ Aside0 (impl_LatticeOf.j0 kq x14_2 a0_0 a0_1 a1_0 a1_1 = some (r1, r2, r3, r4)) ∧ Aside0 (kq ≤ k) ∧ Aside0 (wc.heap[gb846]? = some (.cells #[.int .i64 a0_0, .int .i64 a0_1] 47 (0, 0))) ∧ Aside0 (wc.heap[gb847]? = some (.cells #[.int .i64 a1_0, .int .i64 a1_1] 47 (0, 0))) ∧ Aside0 (wc.heap[gb848]? = some (.cells #[.int .i64 0, .int .i64 0, .int .i64 0] 33 (0, 0))) ∧ Aside0 (Below w.heap.size w wc))
 case first =>
  have H := HC3.out
  clear HC3
  obtain ⟨t849, A7, H⟩ := oB H
  try dsimp only at H
  by_cases c8 : t849 = true
  ·subst c8
   have H1 : ((impl_IsVec.f a1_0 a1_1).bind fun t850 => (impl_LatticeOf.j0 k (!t850) a0_0 a0_1 a1_0 a1_1)) = some (r1, r2, r3, r4) := by rw [if_pos rfl] at H; exact H
   clear H
   have H := H1
   clear H1
   obtain ⟨t850, A9, H⟩ := oB H
   try dsimp only at H
   have H' := aM H
   clear H
   have hnb10 := NB846_847.out
   have hnc10 := NB847_846.out
   have hnb11 := NB846_848.out
   have hnc11 := NB848_846.out
   obtain ⟨hcz12_0, hcz12_1⟩ := z2 BK846
   obtain ⟨hfz12_0, hfz12_1⟩ := y2 BK846
   go_wp2_with (first | (refine gC 87 ?_; refine gM 8 (impl_IsVec.calls a0_0 a0_1 true _ A7.out) Try.func87 ?_; rintro w13 hb; replace BK846 := bB BK846 hb; replace BK847 := bB BK847 hb; replace BK848 := bB BK848 hb; replace HB := bS HB hb; (try clear hb); have hnb14 := NB847_848.out; have hnc14 := NB848_847.out; obtain ⟨hcz15_0, hcz15_1⟩ := z2 BK847; obtain ⟨hfz15_0, hfz15_1⟩ := y2 BK847) | (go_at_call 87; (with_reducible refine (impl_IsVec.calls a1_0 a1_1 t850 _ A9.out).mono ?_); rintro e w16 ⟨rfl, hb⟩; replace BK846 := bB BK846 hb; replace BK847 := bB BK847 hb; replace BK848 := bB BK848 hb; replace HB := bS HB hb; (try clear hb)))
   go_meet
   case rel => exact ⟨_, (!t850), (by first | rfl | (simp; done) | (simp [*]; done)), H', ⟨by first | omega | exact Nat.le_refl _⟩, ⟨bk BK846⟩, ⟨bk BK847⟩, ⟨bk BK848⟩, ⟨qB⟩⟩
  ·replace c8 := Bool.eq_false_iff.mpr c8
   subst c8
   have H1 : (impl_LatticeOf.j0 k true a0_0 a0_1 a1_0 a1_1) = some (r1, r2, r3, r4) := by rw [if_neg (show ¬ (false = true) by decide)] at H; exact H
   clear H
   have H := H1
   clear H1
   have H' := aM H
   clear H
   have hnb17 := NB846_847.out
   have hnc17 := NB847_846.out
   have hnb18 := NB846_848.out
   have hnc18 := NB848_846.out
   obtain ⟨hcz19_0, hcz19_1⟩ := z2 BK846
   obtain ⟨hfz19_0, hfz19_1⟩ := y2 BK846
   go_wp2_with (first | (refine gC 87 ?_; refine gM 8 (impl_IsVec.calls a0_0 a0_1 false _ A7.out) Try.func87 ?_; rintro w20 hb; replace BK846 := bB BK846 hb; replace BK847 := bB BK847 hb; replace BK848 := bB BK848 hb; replace HB := bS HB hb; (try clear hb)))
   go_meet
   case rel => exact ⟨_, (true), (by first | rfl | (simp; done) | (simp [*]; done)), H', ⟨by first | omega | exact Nat.le_refl _⟩, ⟨bk BK846⟩, ⟨bk BK847⟩, ⟨bk BK848⟩, ⟨qB⟩⟩
 case rest =>
  clear HC3
  try clear c1
  try clear p2
  try clear c6
  try clear c8
  try clear c10
  try clear c11
  try clear c14
  try clear c17
  try clear c18
  try clear hcz12_0
  try clear hcz12_1
  try clear hcz15_0
  try clear hcz15_1
  try clear hcz19_0
  try clear hcz19_1
  try clear hfz12_0
  try clear hfz12_1
  try clear hfz15_0
  try clear hfz15_1
  try clear hfz19_0
  try clear hfz19_1
  obtain ⟨kq, x14_2, rfl, HA, HJ2, BK846, BK847, BK848, HB⟩ := hcut
  cases kq with
  | zero => exact absurd HA.out (by simp [impl_LatticeOf.j0])
  | succ kj2 =>
   have H := HA.out
   clear HA
   simp only [impl_LatticeOf.j0] at H
   by_cases c21 : x14_2 = true
   ·subst c21
    have H1 : (some (0, 0, 0, 1)) = some (r1, r2, r3, r4) := by rw [if_pos rfl] at H; exact H
    clear H
    have H := H1
    clear H1
    simp only [Option.some.injEq, Prod.mk.injEq] at H
    obtain ⟨rfl, rfl, rfl, rfl⟩ := H
    have hnb22 := NB848_846.out
    have hnc22 := NB846_848.out
    have hnb23 := NB848_847.out
    have hnc23 := NB847_848.out
    obtain ⟨hcz24_0, hcz24_1, hcz24_2⟩ := z3 BK848
    obtain ⟨hfz24_0, hfz24_1, hfz24_2⟩ := y3 BK848
    go_wp2
    refine bodyPost_ret (results_ct rfl _ _ gb848 33 #[.int .i64 0, .int .i64 0, .int .i64 0] (0, 0) _ rfl (by (with_reducible repeat (first|apply kN|apply kD|apply kA)); refine blk_put (cs := #[.int .i64 0, .int .i64 0, .int .i64 0]) ?_ 2 _ rfl; (with_reducible repeat (first|apply kN|apply kD|apply kA)); refine blk_put (cs := #[.int .i64 0, .int .i64 0, .int .i64 0]) ?_ 1 _ rfl; (with_reducible repeat (first|apply kN|apply kD|apply kA)); refine blk_put (cs := #[.int .i64 0, .int .i64 0, .int .i64 0]) ?_ 0 _ rfl; (with_reducible repeat (first|apply kN|apply kD|apply kA)); exact BK848.out) Try.underlying33 rfl (by kernel_rfl)) rfl ?_
    exact ⟨qR, qB⟩
   ·replace c21 := Bool.eq_false_iff.mpr c21
    subst c21
    have H1 : ((impl_det.f a0_0 a0_1 a1_0 a1_1).bind fun t851 => (if t851 = 0 then (some (0, 0, 0, 5)) else (if (mx t851 (wrap64 (-t851))) > 64 then (some (0, 0, 0, 3)) else ((impl_latticeOf.f kj2 (([(⟨a0_0, a0_1⟩ : S47), (⟨a1_0, a1_1⟩ : S47)] : List (S47)))).bind fun bt855 => (some (bt855.1, bt855.2.1, bt855.2.2, 0)))))) = some (r1, r2, r3, r4) := by rw [if_neg (show ¬ (false = true) by decide)] at H; exact H
    clear H
    have H := H1
    clear H1
    obtain ⟨t851, A25, H⟩ := oB H
    try dsimp only at H
    by_cases c26 : t851 = 0
    ·rw [if_pos c26] at H
     have c26b0 : (t851 == 0) = true := beq_iff_eq.mpr c26
     have c26b1 : (t851 != 0) = false := bne_eq_false_iff_eq.mpr c26
     clear c26
     simp only [Option.some.injEq, Prod.mk.injEq] at H
     obtain ⟨rfl, rfl, rfl, rfl⟩ := H
     have hnb27 := NB846_847.out
     have hnc27 := NB847_846.out
     have hnb28 := NB846_848.out
     have hnc28 := NB848_846.out
     obtain ⟨hcz29_0, hcz29_1⟩ := z2 BK846
     obtain ⟨hfz29_0, hfz29_1⟩ := y2 BK846
     have hnb30 := NB847_848.out
     have hnc30 := NB848_847.out
     obtain ⟨hcz31_0, hcz31_1⟩ := z2 BK847
     obtain ⟨hfz31_0, hfz31_1⟩ := y2 BK847
     go_wp2_with (first | (refine gC 130 ?_; refine gM 18 (impl_det.calls a0_0 a0_1 a1_0 a1_1 t851 _ A25.out) Try.func130 ?_; rintro w32 hb; replace BK846 := bB BK846 hb; replace BK847 := bB BK847 hb; replace BK848 := bB BK848 hb; replace HB := bS HB hb; (try clear hb); obtain ⟨hcz33_0, hcz33_1, hcz33_2⟩ := z3 BK848; obtain ⟨hfz33_0, hfz33_1, hfz33_2⟩ := y3 BK848))
     refine bodyPost_ret (results_ct rfl _ _ gb848 33 #[.int .i64 0, .int .i64 0, .int .i64 0] (0, 0) _ rfl (by (with_reducible repeat (first|apply kN|apply kD|apply kA)); refine blk_put (cs := #[.int .i64 0, .int .i64 0, .int .i64 0]) ?_ 2 _ rfl; (with_reducible repeat (first|apply kN|apply kD|apply kA)); refine blk_put (cs := #[.int .i64 0, .int .i64 0, .int .i64 0]) ?_ 1 _ rfl; (with_reducible repeat (first|apply kN|apply kD|apply kA)); refine blk_put (cs := #[.int .i64 0, .int .i64 0, .int .i64 0]) ?_ 0 _ rfl; (with_reducible repeat (first|apply kN|apply kD|apply kA)); exact BK848.out) Try.underlying33 rfl (by kernel_rfl)) rfl ?_
     exact ⟨qR, qB⟩
    ·rw [if_neg c26] at H
     have c26b0 : (t851 == 0) = false := beq_eq_false_iff_ne.mpr c26
     have c26b1 : (t851 != 0) = true := bne_iff_ne.mpr c26
     obtain ⟨ji34, hji34⟩ : ∃ j_ : Int, (mx t851 (wrap64 (-t851))) = j_ := ⟨_, rfl⟩
     replace H : (if (ji34) > 64 then (some (0, 0, 0, 3)) else ((impl_latticeOf.f kj2 (([(⟨a0_0, a0_1⟩ : S47), (⟨a1_0, a1_1⟩ : S47)] : List (S47)))).bind fun bt855 => (some (bt855.1, bt855.2.1, bt855.2.2, 0)))) = some (r1, r2, r3, r4) := by first | (rw [hji34] at H; exact H) | (simp only [hji34] at H ⊢; exact H)
     (try rw [hji34] at A25)
     have hji34_ : (if t851 < (wrap64 (-t851)) then (wrap64 (-t851)) else t851) = ji34 := hji34
     by_cases c35 : (ji34) > 64
     ·rw [if_pos c35] at H
      have c35b0 : decide (64 < (ji34)) = true := decide_eq_true c35
      clear c35
      simp only [Option.some.injEq, Prod.mk.injEq] at H
      obtain ⟨rfl, rfl, rfl, rfl⟩ := H
      have hnb36 := NB846_847.out
      have hnc36 := NB847_846.out
      have hnb37 := NB846_848.out
      have hnc37 := NB848_846.out
      obtain ⟨hcz38_0, hcz38_1⟩ := z2 BK846
      obtain ⟨hfz38_0, hfz38_1⟩ := y2 BK846
      have hnb39 := NB847_848.out
      have hnc39 := NB848_847.out
      obtain ⟨hcz40_0, hcz40_1⟩ := z2 BK847
      obtain ⟨hfz40_0, hfz40_1⟩ := y2 BK847
      go_wp2_with (first | (refine gC 130 ?_; refine gM 18 (impl_det.calls a0_0 a0_1 a1_0 a1_1 t851 _ A25.out) Try.func130 ?_; rintro w41 hb; replace BK846 := bB BK846 hb; replace BK847 := bB BK847 hb; replace BK848 := bB BK848 hb; replace HB := bS HB hb; (try clear hb); obtain ⟨hcz42_0, hcz42_1, hcz42_2⟩ := z3 BK848; obtain ⟨hfz42_0, hfz42_1, hfz42_2⟩ := y3 BK848))
      refine bodyPost_ret (results_ct rfl _ _ gb848 33 #[.int .i64 0, .int .i64 0, .int .i64 0] (0, 0) _ rfl (by (with_reducible repeat (first|apply kN|apply kD|apply kA)); refine blk_put (cs := #[.int .i64 0, .int .i64 0, .int .i64 0]) ?_ 2 _ rfl; (with_reducible repeat (first|apply kN|apply kD|apply kA)); refine blk_put (cs := #[.int .i64 0, .int .i64 0, .int .i64 0]) ?_ 1 _ rfl; (with_reducible repeat (first|apply kN|apply kD|apply kA)); refine blk_put (cs := #[.int .i64 0, .int .i64 0, .int .i64 0]) ?_ 0 _ rfl; (with_reducible repeat (first|apply kN|apply kD|apply kA)); exact BK848.out) Try.underlying33 rfl (by kernel_rfl)) rfl ?_
      exact ⟨by first | rfl | (simp [errW_none, errW_some] <;> rfl) | (simp only [← hji34]; first | rfl | (simp [errW_none, errW_some] <;> rfl)) | (simp [*, errW_none, errW_some] <;> rfl), qB⟩
     ·rw [if_neg c35] at H
      have c35b0 : decide (64 < (ji34)) = false := decide_eq_false c35
      clear c35
      obtain ⟨y852, hy852⟩ : ∃ y_ : List (S47), y_ = (([(⟨a0_0, a0_1⟩ : S47), (⟨a1_0, a1_1⟩ : S47)] : List (S47))) := ⟨_, rfl⟩
      replace H : ((impl_latticeOf.f kj2 y852).bind fun bt855 => (some (bt855.1, bt855.2.1, bt855.2.2, 0))) = some (r1, r2, r3, r4) := by first | (rw [hy852]; with_reducible exact H) | (have H2_ := (Option.bind_some _ _).symm.trans H; rw [hy852]; with_reducible exact H2_) | (have H2_ := (Option.bind_some _ _).symm.trans H; with_reducible exact H2_) | with_reducible exact H | (rw [hy852]; exact H) | exact H
      have Ny852 := aM hy852
      clear hy852
      obtain ⟨⟨t855, t856, t857⟩, A43, H⟩ := oB H
      try dsimp only at H
      simp only [Option.some.injEq, Prod.mk.injEq] at H
      obtain ⟨rfl, rfl, rfl, rfl⟩ := H
      have hnb44 := NB846_847.out
      have hnc44 := NB847_846.out
      have hnb45 := NB846_848.out
      have hnc45 := NB848_846.out
      obtain ⟨hcz46_0, hcz46_1⟩ := z2 BK846
      obtain ⟨hfz46_0, hfz46_1⟩ := y2 BK846
      have hnb47 := NB847_848.out
      have hnc47 := NB848_847.out
      obtain ⟨hcz48_0, hcz48_1⟩ := z2 BK847
      obtain ⟨hfz48_0, hfz48_1⟩ := y2 BK847
      go_wp2_with (first | (refine gC 130 ?_; refine gM 18 (impl_det.calls a0_0 a0_1 a1_0 a1_1 t851 _ A25.out) Try.func130 ?_; rintro w49 hb; replace BK846 := bB BK846 hb; replace BK847 := bB BK847 hb; replace BK848 := bB BK848 hb; replace HB := bS HB hb; (try clear hb); obtain ⟨hcz50_0, hcz50_1⟩ := z2 BK846; obtain ⟨hfz50_0, hfz50_1⟩ := y2 BK846; obtain ⟨hcz51_0, hcz51_1⟩ := z2 BK847; obtain ⟨hfz51_0, hfz51_1⟩ := y2 BK847) | ((with_reducible refine gate_dst (N := 30) rfl ?_); refine Kd.R_lit k47 _ 47 ?hg (N := 30) ?hd (xs := ([(⟨a0_0, a0_1⟩ : S47), (⟨a1_0, a1_1⟩ : S47)] : List (S47))) (inner := [.int .i64 a0_0, .int .i64 a0_1, .int .i64 a1_0, .int .i64 a1_1]) (ok := fun _ => True) (okp := fun _ => True) ?hr ?hp (fun _ hk => hk) trivial (Below.refl _ _) (Nat.le_refl _) (by simp) ?_; (case hd => rfl); (case hg => rfl); (case hr => first | (go_simp; done) | (go_simp; rfl)); (case hp => exact (Reps.c2 (show Kd.M k47 _ _ _ (⟨a0_0, a0_1⟩ : S47) [.int .i64 a0_0, .int .i64 a0_1] from (k47_mkM _ _ _ (⟨a0_0, a0_1⟩ : S47) )) (Reps.c2 (show Kd.M k47 _ _ _ (⟨a1_0, a1_1⟩ : S47) [.int .i64 a1_0, .int .i64 a1_1] from (k47_mkM _ _ _ (⟨a1_0, a1_1⟩ : S47) )) (Reps.none _ _)))); intro v853 w52 ho53 hb hg_ hnew_; clear hg_ hnew_; (first | rw [← Ny852.out] at ho53 | (simp only [Int.reduceToNat] at ho53; rw [← Ny852.out] at ho53)); have HO854 := aM (Kd.R_lower (Kd.R_newB (Kd.R_newB ho53 (g := gb846) (o := .cells #[.int .i64 a0_0, .int .i64 a0_1] 47 (0, 0)) (bk BK846)) (g := gb847) (o := .cells #[.int .i64 a1_0, .int .i64 a1_1] 47 (0, 0)) (bk BK847)) (below_size qB)); replace BK846 := bB BK846 hb; replace BK847 := bB BK847 hb; replace BK848 := bB BK848 hb; replace HB := bS HB hb; clear hb ho53; obtain ⟨Ao54, co54, eo54⟩ := Kd.R_slice HO854.out; subst eo54) | (refine gC 119 ?_; refine gM 31 (impl_latticeOf.calls kj2 _ _ y852 t855 t856 t857 _ (cD (Kd.R_reads' HO854.out).2.2) (Kd.R_reads' HO854.out).2.1 A43.out) Try.func119 ?_; rintro w55 hb; replace HO854 := aM (Kd.R_below (by (with_reducible repeat (first | apply Kd.R_alloc | apply Kd.R_drewN | apply Kd.R_drew)); exact HO854.out) hb); replace BK846 := bB BK846 hb; replace BK847 := bB BK847 hb; replace BK848 := bB BK848 hb; replace HB := bS HB hb; (try clear hb); obtain ⟨hcz56_0, hcz56_1, hcz56_2⟩ := z3 BK848; obtain ⟨hfz56_0, hfz56_1, hfz56_2⟩ := y3 BK848))
      refine bodyPost_ret (results_ct rfl _ _ gb848 33 #[.int .i64 t855, .int .i64 t856, .int .i64 t857] (0, 0) _ rfl (by (with_reducible repeat (first|apply kN|apply kD|apply kA)); refine blk_put (cs := #[.int .i64 t855, .int .i64 t856, .int .i64 0]) ?_ 2 _ rfl; (with_reducible repeat (first|apply kN|apply kD|apply kA)); refine blk_put (cs := #[.int .i64 t855, .int .i64 0, .int .i64 0]) ?_ 1 _ rfl; (with_reducible repeat (first|apply kN|apply kD|apply kA)); refine blk_put (cs := #[.int .i64 0, .int .i64 0, .int .i64 0]) ?_ 0 _ rfl; (with_reducible repeat (first|apply kN|apply kD|apply kA)); exact BK848.out) Try.underlying33 rfl (by kernel_rfl)) rfl ?_
      exact ⟨by first | rfl | (simp [errW_none, errW_some] <;> rfl) | (simp only [← hji34]; first | rfl | (simp [errW_none, errW_some] <;> rfl)) | (simp [*, errW_none, errW_some] <;> rfl), qB⟩

end Go.Proofs.Ytcjchihnopmplaa.F

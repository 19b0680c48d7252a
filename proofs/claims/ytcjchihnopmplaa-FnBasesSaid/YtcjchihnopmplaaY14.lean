import Derived.Test.YtcjchihnopmplaaY0
import Derived.Test.YtcjchihnopmplaaY1
import Derived.Test.YtcjchihnopmplaaY12
import Derived.Test.YtcjchihnopmplaaY13
namespace Go.Proofs.Ytcjchihnopmplaa.F
open Go.RowKit Go.Proofs.YtcjchihnopmplaaW.PrintWords Go.Proofs.YtcjchihnopmplaaW.PrintLast Go.Proofs.YtcjchihnopmplaaW.PrintMore
attribute [local go_sem] max2_int min2_int max_two min_two max_three min_three max_four min_four   -- for this text's walks alone
set_option linter.unusedVariables false
set_option linter.unusedSimpArgs false

mutual
def impl_shortestVecs.l0 : Nat → Int → List (S47) → Int → List (S47) → Int → Int → Int → Int → Int → Option ((List (S47)))
 | 0, _, _, _, _, _, _, _, _, _ => none
 | k + 1, x0, x5, x6, x11, x12, x13, x729000, x729001, x729002 => if x13 < x12 then (if 0 ≤ x13 then (if x13 < (x11.length : Int) then ((impl_norm.f x0 ((rd_T47 x11 x13).f0) ((rd_T47 x11 x13).f1)).bind fun t737 => (if t737 = 0 then (impl_shortestVecs.j1 k x0 x5 x6 t737 x11 x12 x13 true x729000 x729001 x729002 ((rd_T47 x11 x13).f0) ((rd_T47 x11 x13).f1)) else ((impl_Lattice_has.f x729000 x729001 x729002 ((rd_T47 x11 x13).f0) ((rd_T47 x11 x13).f1)).bind fun t738 => (if t738 = true then (if x6 > 0 then (impl_shortestVecs.j1 k x0 x5 x6 t737 x11 x12 x13 (decide (t737 > x6)) x729000 x729001 x729002 ((rd_T47 x11 x13).f0) ((rd_T47 x11 x13).f1)) else (impl_shortestVecs.j1 k x0 x5 x6 t737 x11 x12 x13 false x729000 x729001 x729002 ((rd_T47 x11 x13).f0) ((rd_T47 x11 x13).f1))) else (impl_shortestVecs.j1 k x0 x5 x6 t737 x11 x12 x13 true x729000 x729001 x729002 ((rd_T47 x11 x13).f0) ((rd_T47 x11 x13).f1)))))) else (none)) else (none)) else (some x5)
def impl_shortestVecs.j1 : Nat → Int → List (S47) → Int → Int → List (S47) → Int → Int → Bool → Int → Int → Int → Int → Int → Option ((List (S47)))
 | 0, _, _, _, _, _, _, _, _, _, _, _, _, _ => none
 | k + 1, x0, x5, x6, x9, x11, x12, x13, x36, x729000, x729001, x729002, x737000, x737001 => if x36 = true then (impl_shortestVecs.l0 k x0 x5 x6 x11 x12 (wrap64 (x13 + 1)) x729000 x729001 x729002) else (if x9 = x6 then (if x5.length < 8796093022208 then (impl_shortestVecs.l0 k x0 (x5 ++ [(⟨x737000, x737001⟩ : S47)]) x6 x11 x12 (wrap64 (x13 + 1)) x729000 x729001 x729002) else (none)) else (if ([] : List (S47)).length < 8796093022208 then (impl_shortestVecs.l0 k x0 (([] : List (S47)) ++ [(⟨x737000, x737001⟩ : S47)]) x9 x11 x12 (wrap64 (x13 + 1)) x729000 x729001 x729002) else (none)))
end
def impl_shortestVecs.f (k : Nat) (a0 : Int) (a1_0 : Int) (a1_1 : Int) (a1_2 : Int) : Option ((List (S47))) := (impl_vecsAround.f k 12).bind fun t732 => (impl_shortestVecs.l0 k a0 (([] : List (S47))) 0 t732 (t732.length : Int) 0 a1_0 a1_1 a1_2)
set_option maxHeartbeats 8000000 in
set_option maxRecDepth 100000 in
theorem impl_shortestVecs.calls (k : Nat) (a0 : Int) (a1_0 : Int) (a1_1 : Int) (a1_2 : Int) (r : List (S47)) (w : World) (h : impl_shortestVecs.f k a0 a1_0 a1_1 a1_2 = some r) :
  Calls Try.prog 129 #[.int .i64 a0, .agg #[.int .i64 a1_0, .int .i64 a1_1, .int .i64 a1_2]] w fun e w' => ∃ v0_ : Value, e = .returned (v0_) ∧ Kd.R k47 47 w' w.heap.size (fun _ => True) v0_ r ∧ Below w.heap.size w w' := by
 have hu33 := Try.underlying33
 have hu47 := Try.underlying47
 have HB := aM (Below.refl w.heap.size w)
 have H : ((impl_vecsAround.f k 12).bind fun t732 => (impl_shortestVecs.l0 k a0 (([] : List (S47))) 0 t732 (t732.length : Int) 0 a1_0 a1_1 a1_2)) = some r := h
 clear h
 obtain ⟨y729, hy729⟩ : ∃ y_ : List (S47), y_ = (([] : List (S47))) := ⟨_, rfl⟩
 replace H : ((impl_vecsAround.f k 12).bind fun t732 => (impl_shortestVecs.l0 k a0 y729 0 t732 (t732.length : Int) 0 a1_0 a1_1 a1_2)) = some r := by first | (rw [hy729]; with_reducible exact H) | (have H2_ := (Option.bind_some _ _).symm.trans H; rw [hy729]; with_reducible exact H2_) | (have H2_ := (Option.bind_some _ _).symm.trans H; with_reducible exact H2_) | with_reducible exact H | (rw [hy729]; exact H) | exact H
 have Ny729 := aM hy729
 clear hy729
 obtain ⟨t732, A3, H⟩ := oB H
 try dsimp only at H
 have H' := aM H
 clear H
 go_enter Try.func129, Try.ntmps129
 go_wp2_with (first | (refine bE 3 #[.int .i64 a1_0, .int .i64 a1_1, .int .i64 a1_2] 33 ?_; intro gb728 hg w4 hbox hb; have BK728 := aM hbox; have GW728 := bZ hg HB; have GE728 := bZ hg HB; replace HB := bS HB hb; clear hb hbox hg) | ((with_reducible refine gate_dst (N := 10) rfl ?_); refine Kd.R_lit k47 _ 47 ?hg (N := 10) ?hd (xs := ([] : List (S47))) (inner := []) (ok := fun _ => True) (okp := fun _ => True) ?hr ?hp (fun _ hk => hk) trivial (Below.refl _ _) (Nat.le_refl _) (by simp) ?_; (case hd => rfl); (case hg => rfl); (case hr => first | (go_simp; done) | (go_simp; rfl)); (case hp => exact (Reps.none _ _)); intro v730 w5 ho6 hb hg_ hnew_; clear hg_ hnew_; (first | rw [← Ny729.out] at ho6 | (simp only [Int.reduceToNat] at ho6; rw [← Ny729.out] at ho6)); have HO731 := aM (Kd.R_lower ho6 (below_size qB)); replace BK728 := bB BK728 hb; replace HB := bS HB hb; clear hb ho6) | ((with_reducible refine gate_callee (f := 74) rfl ?_); refine goesL_ (some 11) rfl rfl Try.func74 (by kernel_rfl) rfl #[.int .i64 12] rfl (by first|rfl|(simp only [List.map_toArray, List.map_cons, List.map_nil]; try rfl)) ?_; (with_reducible refine (impl_vecsAround.calls k 12 t732 _ A3.out).mono ?_); rintro e w7 ⟨v733, rfl, ho0, hb⟩; refine ⟨_, rfl, ?_⟩; have HO734 := aM (Kd.R_lower (Kd.R_new' ho0 (Kd.R_lt (by (with_reducible repeat (first | apply Kd.R_alloc | apply Kd.R_drewN | apply Kd.R_drew)); exact HO731.out))) (below_size qB)); replace HO731 := aM (Kd.R_elder' (by (with_reducible repeat (first | apply Kd.R_alloc | apply Kd.R_drewN | apply Kd.R_drew)); exact HO731.out) (Kd.R_base ho0) hb); replace BK728 := bB BK728 hb; replace HB := bS HB hb; (try clear hb); (try clear ho0); obtain ⟨Ao8, co8, eo8⟩ := Kd.R_slice HO734.out; subst eo8))
 go_loopg [5, 6, 13] k (fun kq v5 v6 v13 w' => ∃ (x5_1 : List (S47)) (x6_1 : Int) (x13_1 : Int), v6 = .int .i64 x6_1 ∧ v13 = .int .i64 x13_1 ∧ Aside0 (impl_shortestVecs.l0 kq a0 x5_1 x6_1 t732 (t732.length : Int) x13_1 a1_0 a1_1 a1_2 = some r) ∧ Aside0 (kq ≤ k) ∧ Aside0 (Kd.R k47 47 w' w.heap.size (fun k_ => some k_ ≠ ((.slice Ao8 t732.length co8) : Value).ownBlock) v5 x5_1) ∧ Aside0 (Kd.R k47 47 w' w.heap.size (fun k_ => some k_ ≠ (v5 : Value).ownBlock) (.slice Ao8 t732.length co8) t732) ∧ Aside0 (w'.heap[gb728]? = some (.cells #[.int .i64 a1_0, .int .i64 a1_1, .int .i64 a1_2] 33 (0, 0))) ∧ Aside0 (Below w.heap.size w w'))
 case atStart => exact ⟨(y729), (0), (0), (by first | rfl | (simp; done) | (simp [*]; done)), (by first | rfl | (simp; done) | (simp [*]; done)), H', ⟨Nat.le_refl _⟩, ⟨by (with_reducible repeat (first | apply Kd.R_alloc | apply Kd.R_drewN | apply Kd.R_drew)); exact Kd.R_mono HO731.out (fun _ hk => hk.2)⟩, ⟨by (with_reducible repeat (first | apply Kd.R_alloc | apply Kd.R_drewN | apply Kd.R_drew)); exact Kd.R_mono HO734.out (fun _ hk => hk.2)⟩, ⟨bk BK728⟩, ⟨qB⟩⟩
 case round =>
  clear H'
  try clear c1
  try clear p2
  try clear c7
  obtain ⟨x5_1, x6_1, x13_1, rfl, rfl, HA, HK1, HO_5, HO_11, BK728, HB⟩ := hrel
  cases gk with
  | zero => exact absurd HA.out (by simp [impl_shortestVecs.l0])
  | succ k1 =>
   have H := HA.out
   clear HA
   simp only [impl_shortestVecs.l0] at H
   by_cases c9 : x13_1 < (t732.length : Int)
   ·rw [if_pos c9] at H
    have c9b0 : decide (x13_1 < (t732.length : Int)) = true := decide_eq_true c9
    clear c9
    by_cases c10 : 0 ≤ x13_1
    ·rw [if_pos c10] at H
     have c10b0 : decide (0 ≤ x13_1) = true := decide_eq_true c10
     clear c10
     by_cases c11 : x13_1 < (t732.length : Int)
     ·rw [if_pos c11] at H
      have c11b0 : decide (x13_1 < (t732.length : Int)) = true := decide_eq_true c11
      clear c11
      obtain ⟨t737, A12, H⟩ := oB H
      try dsimp only at H
      have HC13 := aM H
      clear H
      have p735 : 0 ≤ (x13_1 : Int) := of_decide_eq_true (by first | (with_reducible assumption) | assumption)
      have q735 : x13_1 < (t732.length : Int) := of_decide_eq_true (by first | (with_reducible assumption) | assumption)
      obtain ⟨ad735, e735, hx735_0, hx735_1⟩ := at_T47 (Kd.R_reads' HO_11.out).2.2 x13_1 p735 q735
      cases e735
      replace p735 := eq_true p735
      replace q735 := eq_true q735
      go_upto_region 6 with (first | (refine bE 8 #[.int .i64 0, .int .i64 0] 47 ?_; intro gb736 hg w14 hbox hb; have BK736 := aM hbox; have GW736 := bZ hg HB; have GE736 := bZ hg HB; have NB728_736 := nL hg BK728; have NB736_728 := nG hg BK728; replace HO_5 := aM (Kd.R_below (Kd.R_elderB (by (with_reducible repeat (first | apply Kd.R_alloc | apply Kd.R_drewN | apply Kd.R_drew)); exact HO_5.out) gb736 (Nat.le_of_eq hg.symm)) hb); replace HO_11 := aM (Kd.R_below (Kd.R_elderB (by (with_reducible repeat (first | apply Kd.R_alloc | apply Kd.R_drewN | apply Kd.R_drew)); exact HO_11.out) gb736 (Nat.le_of_eq hg.symm)) hb); replace BK728 := bB BK728 hb; replace HB := bS HB hb; clear hb hbox hg; have hnb15 := NB736_728.out; have hnc15 := NB728_736.out; obtain ⟨hcz16_0, hcz16_1⟩ := z2 BK736; obtain ⟨hfz16_0, hfz16_1⟩ := y2 BK736) | (refine gC 76 ?_; refine gM 19 (impl_norm.calls a0 ((rd_T47 t732 x13_1).f0) ((rd_T47 t732 x13_1).f1) t737 _ A12.out) Try.func76 ?_; rintro w17 hb; replace HO_5 := aM (Kd.R_below (by (with_reducible repeat (first | apply Kd.R_alloc | apply Kd.R_drewN | apply Kd.R_drew)); exact (Kd.R_mono (Kd.R_far (p := ⟨gb736, 1, none⟩) (Kd.R_far (p := ⟨gb736, 0, none⟩) (Kd.R_mono HO_5.out (fun k_ hk => (⟨hk, hk.2⟩ : _ ∧ k_ ≠ gb736))) (fun _ hk => hk.2) (.int .i64 ((rd_T47 t732 x13_1).f0))) (fun _ hk => hk.2) (.int .i64 ((rd_T47 t732 x13_1).f1))) (fun _ h_ => h_.1))) hb); replace HO_11 := aM (Kd.R_below (by (with_reducible repeat (first | apply Kd.R_alloc | apply Kd.R_drewN | apply Kd.R_drew)); exact (Kd.R_mono (Kd.R_far (p := ⟨gb736, 1, none⟩) (Kd.R_far (p := ⟨gb736, 0, none⟩) (Kd.R_mono HO_11.out (fun k_ hk => (⟨hk, hk.2⟩ : _ ∧ k_ ≠ gb736))) (fun _ hk => hk.2) (.int .i64 ((rd_T47 t732 x13_1).f0))) (fun _ hk => hk.2) (.int .i64 ((rd_T47 t732 x13_1).f1))) (fun _ h_ => h_.1))) hb); replace BK728 := bF BK728 hb; replace BK736 := bW (.cells #[.int .i64 ((rd_T47 t732 x13_1).f0), .int .i64 ((rd_T47 t732 x13_1).f1)] 47 (0, 0)) BK736 hb; replace HB := bS HB hb; (try clear hb)))
      (try simp only [Act.put, List.setIfInBounds_toArray, List.set_cons_zero, List.set_cons_succ])
      go_cut [36] (fun v36 wc => ∃ (kq : Nat) (x36_12 : Bool), v36 = .bool x36_12 ∧ Aside0 (impl_shortestVecs.j1 kq a0 x5_1 x6_1 t737 t732 (t732.length : Int) x13_1 x36_12 a1_0 a1_1 a1_2 ((rd_T47 t732 x13_1).f0) ((rd_T47 t732 x13_1).f1) = some r) ∧ Aside0 (kq ≤ k1) ∧ Aside0 (Kd.R k47 47 wc w.heap.size (fun k_ => some k_ ≠ ((.slice (some ad735) t732.length co8) : Value).ownBlock ∧ k_ ≠ gb736) u5 x5_1) ∧ Aside0 (Kd.R k47 47 wc w.heap.size (fun k_ => some k_ ≠ (u5 : Value).ownBlock ∧ k_ ≠ gb736) (.slice (some ad735) t732.length co8) t732) ∧ Aside0 (wc.heap[gb728]? = some (.cells #[.int .i64 a1_0, .int .i64 a1_1, .int .i64 a1_2] 33 (0, 0))) ∧ Aside0 (wc.heap[gb736]? = some (.cells #[.int .i64 ((rd_T47 t732 x13_1).f0), .int .i64 ((rd_T47 t732 x13_1).f1)] 47 (0, 0))) ∧ Aside0 (Below w.heap.size w wc))
      case first =>
       have H := HC13.out
       clear HC13
       by_cases c18 : t737 = 0
       ·rw [if_pos c18] at H
        have c18b0 : (t737 == 0) = true := beq_iff_eq.mpr c18
        have c18b1 : (t737 != 0) = false := bne_eq_false_iff_eq.mpr c18
        clear c18
        (first | rw [c18b0] | (simp only [i64_w, i32_w]; rw [c18b0]) | skip)
        have H' := aM H
        clear H
        go_wp2
        go_meet
        case rel => exact ⟨_, (true), (by first | rfl | (simp; done) | (simp [*]; done)), H', ⟨by have := HK1.out; first | omega | exact Nat.le_refl _⟩, ⟨by (with_reducible repeat (first | apply Kd.R_alloc | apply Kd.R_drewN | apply Kd.R_drew)); exact HO_5.out⟩, ⟨by (with_reducible repeat (first | apply Kd.R_alloc | apply Kd.R_drewN | apply Kd.R_drew)); exact HO_11.out⟩, ⟨bk BK728⟩, ⟨bk BK736⟩, ⟨qB⟩⟩
       ·rw [if_neg c18] at H
        have c18b0 : (t737 == 0) = false := beq_eq_false_iff_ne.mpr c18
        have c18b1 : (t737 != 0) = true := bne_iff_ne.mpr c18
        (first | rw [c18b0] | (simp only [i64_w, i32_w]; rw [c18b0]) | skip)
        obtain ⟨t738, A19, H⟩ := oB H
        try dsimp only at H
        by_cases c20 : t738 = true
        ·subst c20
         have H1 : (if x6_1 > 0 then (impl_shortestVecs.j1 k1 a0 x5_1 x6_1 t737 t732 (t732.length : Int) x13_1 (decide (t737 > x6_1)) a1_0 a1_1 a1_2 ((rd_T47 t732 x13_1).f0) ((rd_T47 t732 x13_1).f1)) else (impl_shortestVecs.j1 k1 a0 x5_1 x6_1 t737 t732 (t732.length : Int) x13_1 false a1_0 a1_1 a1_2 ((rd_T47 t732 x13_1).f0) ((rd_T47 t732 x13_1).f1))) = some r := by rw [if_pos rfl] at H; exact H
         clear H
         have H := H1
         clear H1
         by_cases c21 : x6_1 > 0
         ·rw [if_pos c21] at H
          have c21b0 : decide (0 < x6_1) = true := decide_eq_true c21
          clear c21
          have H' := aM H
          clear H
          have hnb22 := NB728_736.out
          have hnc22 := NB736_728.out
          obtain ⟨hcz23_0, hcz23_1, hcz23_2⟩ := z3 BK728
          obtain ⟨hfz23_0, hfz23_1, hfz23_2⟩ := y3 BK728
          obtain ⟨hcz24_0, hcz24_1⟩ := z2 BK736
          obtain ⟨hfz24_0, hfz24_1⟩ := y2 BK736
          go_wp2_with (first | (go_at_call 136; (with_reducible refine (impl_Lattice_has.calls a1_0 a1_1 a1_2 ((rd_T47 t732 x13_1).f0) ((rd_T47 t732 x13_1).f1) true _ A19.out).mono ?_); rintro e w25 ⟨rfl, hb⟩; replace HO_5 := aM (Kd.R_below (by (with_reducible repeat (first | apply Kd.R_alloc | apply Kd.R_drewN | apply Kd.R_drew)); exact HO_5.out) hb); replace HO_11 := aM (Kd.R_below (by (with_reducible repeat (first | apply Kd.R_alloc | apply Kd.R_drewN | apply Kd.R_drew)); exact HO_11.out) hb); replace BK728 := bB BK728 hb; replace BK736 := bB BK736 hb; replace HB := bS HB hb; (try clear hb)))
          go_meet
          case rel => exact ⟨_, (decide (t737 > x6_1)), (by first | rfl | (simp; done) | (simp [*]; done)), H', ⟨by have := HK1.out; first | omega | exact Nat.le_refl _⟩, ⟨by (with_reducible repeat (first | apply Kd.R_alloc | apply Kd.R_drewN | apply Kd.R_drew)); exact HO_5.out⟩, ⟨by (with_reducible repeat (first | apply Kd.R_alloc | apply Kd.R_drewN | apply Kd.R_drew)); exact HO_11.out⟩, ⟨bk BK728⟩, ⟨bk BK736⟩, ⟨qB⟩⟩
         ·rw [if_neg c21] at H
          have c21b0 : decide (0 < x6_1) = false := decide_eq_false c21
          clear c21
          have H' := aM H
          clear H
          have hnb26 := NB728_736.out
          have hnc26 := NB736_728.out
          obtain ⟨hcz27_0, hcz27_1, hcz27_2⟩ := z3 BK728
          obtain ⟨hfz27_0, hfz27_1, hfz27_2⟩ := y3 BK728
          obtain ⟨hcz28_0, hcz28_1⟩ := z2 BK736
          obtain ⟨hfz28_0, hfz28_1⟩ := y2 BK736
          go_wp2_with (first | (go_at_call 136; (with_reducible refine (impl_Lattice_has.calls a1_0 a1_1 a1_2 ((rd_T47 t732 x13_1).f0) ((rd_T47 t732 x13_1).f1) true _ A19.out).mono ?_); rintro e w29 ⟨rfl, hb⟩; replace HO_5 := aM (Kd.R_below (by (with_reducible repeat (first | apply Kd.R_alloc | apply Kd.R_drewN | apply Kd.R_drew)); exact HO_5.out) hb); replace HO_11 := aM (Kd.R_below (by (with_reducible repeat (first | apply Kd.R_alloc | apply Kd.R_drewN | apply Kd.R_drew)); exact HO_11.out) hb); replace BK728 := bB BK728 hb; replace BK736 := bB BK736 hb; replace HB := bS HB hb; (try clear hb)))
          go_meet
          case rel => exact ⟨_, (false), (by first | rfl | (simp; done) | (simp [*]; done)), H', ⟨by have := HK1.out; first | omega | exact Nat.le_refl _⟩, ⟨by (with_reducible repeat (first | apply Kd.R_alloc | apply Kd.R_drewN | apply Kd.R_drew)); exact HO_5.out⟩, ⟨by (with_reducible repeat (first | apply Kd.R_alloc | apply Kd.R_drewN | apply Kd.R_drew)); exact HO_11.out⟩, ⟨bk BK728⟩, ⟨bk BK736⟩, ⟨qB⟩⟩
        ·replace c20 := Bool.eq_false_iff.mpr c20
         subst c20
         have H1 : (impl_shortestVecs.j1 k1 a0 x5_1 x6_1 t737 t732 (t732.length : Int) x13_1 true a1_0 a1_1 a1_2 ((rd_T47 t732 x13_1).f0) ((rd_T47 t732 x13_1).f1)) = some r := by rw [if_neg (show ¬ (false = true) by decide)] at H; exact H
         clear H
         have H := H1
         clear H1
         have H' := aM H
         clear H
         have hnb30 := NB728_736.out
         have hnc30 := NB736_728.out
         obtain ⟨hcz31_0, hcz31_1, hcz31_2⟩ := z3 BK728
         obtain ⟨hfz31_0, hfz31_1, hfz31_2⟩ := y3 BK728
         obtain ⟨hcz32_0, hcz32_1⟩ := z2 BK736
         obtain ⟨hfz32_0, hfz32_1⟩ := y2 BK736
         go_wp2_with (first | (go_at_call 136; (with_reducible refine (impl_Lattice_has.calls a1_0 a1_1 a1_2 ((rd_T47 t732 x13_1).f0) ((rd_T47 t732 x13_1).f1) false _ A19.out).mono ?_); rintro e w33 ⟨rfl, hb⟩; replace HO_5 := aM (Kd.R_below (by (with_reducible repeat (first | apply Kd.R_alloc | apply Kd.R_drewN | apply Kd.R_drew)); exact HO_5.out) hb); replace HO_11 := aM (Kd.R_below (by (with_reducible repeat (first | apply Kd.R_alloc | apply Kd.R_drewN | apply Kd.R_drew)); exact HO_11.out) hb); replace BK728 := bB BK728 hb; replace BK736 := bB BK736 hb; replace HB := bS HB hb; (try clear hb)))
         go_meet
         case rel => exact ⟨_, (true), (by first | rfl | (simp; done) | (simp [*]; done)), H', ⟨by have := HK1.out; first | omega | exact Nat.le_refl _⟩, ⟨by (with_reducible repeat (first | apply Kd.R_alloc | apply Kd.R_drewN | apply Kd.R_drew)); exact HO_5.out⟩, ⟨by (with_reducible repeat (first | apply Kd.R_alloc | apply Kd.R_drewN | apply Kd.R_drew)); exact HO_11.out⟩, ⟨bk BK728⟩, ⟨bk BK736⟩, ⟨qB⟩⟩
      case rest =>
       clear HC13
       try clear c1
       try clear c2
       try clear p2
       try clear c3
       try clear c7
       try clear p7
       try clear q7
       try clear hx7
       try clear c9
       try clear c9b0
       try clear c10
       try clear c10b0
       try clear c11
       try clear c11b0
       try clear c12
       try clear c15
       try clear c18
       try clear c18b0
       try clear c18b1
       try clear c20
       try clear c21
       try clear c21b0
       try clear c22
       try clear c26
       try clear c30
       try clear hcz16_0
       try clear hcz16_1
       try clear hcz23_0
       try clear hcz23_1
       try clear hcz23_2
       try clear hcz24_0
       try clear hcz24_1
       try clear hcz27_0
       try clear hcz27_1
       try clear hcz27_2
       try clear hcz28_0
       try clear hcz28_1
       try clear hcz31_0
       try clear hcz31_1
       try clear hcz31_2
       try clear hcz32_0
       try clear hcz32_1
       try clear hfz16_0
       try clear hfz16_1
       try clear hfz23_0
       try clear hfz23_1
       try clear hfz23_2
       try clear hfz24_0
       try clear hfz24_1
       try clear hfz27_0
       try clear hfz27_1
       try clear hfz27_2
       try clear hfz28_0
       try clear hfz28_1
       try clear hfz31_0
       try clear hfz31_1
       try clear hfz31_2
       try clear hfz32_0
       try clear hfz32_1
       try clear hx735_0
       try clear hx735_1
       try clear p2
       try clear p735
       try clear q735
       obtain ⟨kq, x36_12, rfl, HA, HJ12, HO_5, HO_11, BK728, BK736, HB⟩ := hcut
       cases kq with
       | zero => exact absurd HA.out (by simp [impl_shortestVecs.j1])
       | succ kj12 =>
        have H := HA.out
        clear HA
        simp only [impl_shortestVecs.j1] at H
        by_cases c34 : x36_12 = true
        ·subst c34
         have H1 : (impl_shortestVecs.l0 kj12 a0 x5_1 x6_1 t732 (t732.length : Int) (wrap64 (x13_1 + 1)) a1_0 a1_1 a1_2) = some r := by rw [if_pos rfl] at H; exact H
         clear H
         have H := H1
         clear H1
         have H' := aM H
         clear H
         go_wp2
         go_roundg kj12
         case measure => have := HK1.out; have := HJ12.out; omega
         case rel => exact ⟨(x5_1), (x6_1), (wrap64 (x13_1 + 1)), (by first | rfl | (simp; done) | (simp [*]; done)), (by first | rfl | (simp; done) | (simp [*]; done)), H', ⟨by have := HK1.out; have := HJ12.out; omega⟩, ⟨by (with_reducible repeat (first | apply Kd.R_alloc | apply Kd.R_drewN | apply Kd.R_drew)); exact Kd.R_mono HO_5.out (fun _ hk => hk.1)⟩, ⟨by (with_reducible repeat (first | apply Kd.R_alloc | apply Kd.R_drewN | apply Kd.R_drew)); exact Kd.R_mono HO_11.out (fun _ hk => hk.1)⟩, ⟨bk BK728⟩, ⟨qB⟩⟩
        ·replace c34 := Bool.eq_false_iff.mpr c34
         subst c34
         have H1 : (if t737 = x6_1 then (if x5_1.length < 8796093022208 then (impl_shortestVecs.l0 kj12 a0 (x5_1 ++ [(⟨((rd_T47 t732 x13_1).f0), ((rd_T47 t732 x13_1).f1)⟩ : S47)]) x6_1 t732 (t732.length : Int) (wrap64 (x13_1 + 1)) a1_0 a1_1 a1_2) else (none)) else (if ([] : List (S47)).length < 8796093022208 then (impl_shortestVecs.l0 kj12 a0 (([] : List (S47)) ++ [(⟨((rd_T47 t732 x13_1).f0), ((rd_T47 t732 x13_1).f1)⟩ : S47)]) t737 t732 (t732.length : Int) (wrap64 (x13_1 + 1)) a1_0 a1_1 a1_2) else (none))) = some r := by rw [if_neg (show ¬ (false = true) by decide)] at H; exact H
         clear H
         have H := H1
         clear H1
         by_cases c35 : t737 = x6_1
         ·rw [if_pos c35] at H
          have c35b0 : (t737 == x6_1) = true := beq_iff_eq.mpr c35
          have c35b1 : (t737 != x6_1) = false := bne_eq_false_iff_eq.mpr c35
          clear c35
          by_cases c36 : x5_1.length < 8796093022208
          ·rw [if_pos c36] at H
           have LMc36 := aM c36
           clear c36
           obtain ⟨y739, hy739⟩ : ∃ y_ : List (S47), y_ = (x5_1 ++ [(⟨((rd_T47 t732 x13_1).f0), ((rd_T47 t732 x13_1).f1)⟩ : S47)]) := ⟨_, rfl⟩
           replace H : (impl_shortestVecs.l0 kj12 a0 y739 x6_1 t732 (t732.length : Int) (wrap64 (x13_1 + 1)) a1_0 a1_1 a1_2) = some r := by first | (rw [hy739]; with_reducible exact H) | (have H2_ := (Option.bind_some _ _).symm.trans H; rw [hy739]; with_reducible exact H2_) | (have H2_ := (Option.bind_some _ _).symm.trans H; with_reducible exact H2_) | with_reducible exact H | (rw [hy739]; exact H) | exact H
           have Ny739 := aM hy739
           clear hy739
           have H' := aM H
           clear H
           have hnb37 := NB736_728.out
           have hnc37 := NB728_736.out
           obtain ⟨hcz38_0, hcz38_1⟩ := z2 BK736
           obtain ⟨hfz38_0, hfz38_1⟩ := y2 BK736
           go_wp2_with (first | ((with_reducible refine gate_builtin (b := .append) (xs := #[.tmp 41, .tmp 43]) rfl ?_); at_builtin; refine Kd.R_append k47 (w0 := w) w.heap.size rfl (.tmp 41) (.tmp 43) 22 47 (.agg #[(.int .i64 0), (.int .i64 0)]) 16 rfl Try.underlying22 info47 rfl (by decide) (by omega) u5 x5_1 (⟨((rd_T47 t732 x13_1).f0), ((rd_T47 t732 x13_1).f1)⟩ : S47) [.int .i64 ((rd_T47 t732 x13_1).f0), .int .i64 ((rd_T47 t732 x13_1).f1)] (fun k_ => some k_ ≠ (.slice (some ad735) t732.length co8 : Value).ownBlock ∧ k_ ≠ gb736) (fun _ => False) rfl rfl ?aP (fun _ hk => hk.elim) ?aF ?aO ?aB ?aS ?aL ?_; (case aP => exact k47_mkM _ _ _ (⟨((rd_T47 t732 x13_1).f0), ((rd_T47 t732 x13_1).f1)⟩ : S47)); (case aB => exact qB); (case aF => exact (fun k_ hk => ⟨Kd.fresh' (Kd.R_lt (by (with_reducible repeat (first | apply Kd.R_alloc | apply Kd.R_drewN | apply Kd.R_drew)); exact HO_11.out)) k_ hk, Kd.freshB (g := gb736) (o := .cells #[.int .i64 ((rd_T47 t732 x13_1).f0), .int .i64 ((rd_T47 t732 x13_1).f1)] 47 (0, 0)) (bk BK736) k_ hk⟩)); (case aO => exact (by (with_reducible repeat (first | apply Kd.R_alloc | apply Kd.R_drewN | apply Kd.R_drew)); exact HO_5.out)); (case aS => exact (below_size qB)); (case aL => have := LMc36.out; omega); intro v740 w39 ho hb hg hat; rw [← Ny739.out] at ho; have HO741 := aM ho; replace HO_11 := aM (Kd.R_after (ok := (fun k_ => k_ ≠ gb736)) (by (with_reducible repeat (first | apply Kd.R_alloc | apply Kd.R_drewN | apply Kd.R_drew)); exact Kd.R_mono HO_11.out (fun _ hk => ⟨hk.2, hk.1⟩)) hg hat); replace BK728 := aM (blk_grown (g := gb728) (o := .cells #[.int .i64 a1_0, .int .i64 a1_1, .int .i64 a1_2] 33 (0, 0)) (bk BK728) hg (Kd.R_ne HO_5.out BK728.out (by decide))); replace BK736 := aM (blk_grown (g := gb736) (o := .cells #[.int .i64 ((rd_T47 t732 x13_1).f0), .int .i64 ((rd_T47 t732 x13_1).f1)] 47 (0, 0)) (bk BK736) hg (Kd.R_away HO_5.out (fun _ hk => hk.2))); replace HB := aM hb; clear HO_5; clear ho hb hg hat))
           go_roundg kj12
           case measure => have := HK1.out; have := HJ12.out; omega
           case rel => exact ⟨(y739), (x6_1), (wrap64 (x13_1 + 1)), (by first | rfl | (simp; done) | (simp [*]; done)), (by first | rfl | (simp; done) | (simp [*]; done)), H', ⟨by have := HK1.out; have := HJ12.out; omega⟩, ⟨by (with_reducible repeat (first | apply Kd.R_alloc | apply Kd.R_drewN | apply Kd.R_drew)); exact Kd.R_mono HO741.out (fun _ hk => hk.1)⟩, ⟨by (with_reducible repeat (first | apply Kd.R_alloc | apply Kd.R_drewN | apply Kd.R_drew)); exact Kd.R_mono HO_11.out (fun _ hk => hk.2)⟩, ⟨bk BK728⟩, ⟨qB⟩⟩
          ·rw [if_neg c36] at H
           exact absurd H (by simp)
         ·rw [if_neg c35] at H
          have c35b0 : (t737 == x6_1) = false := beq_eq_false_iff_ne.mpr c35
          have c35b1 : (t737 != x6_1) = true := bne_iff_ne.mpr c35
          by_cases c40 : ([] : List (S47)).length < 8796093022208
          ·rw [if_pos c40] at H
           have LMc40 := aM c40
           clear c40
           obtain ⟨y742, hy742⟩ : ∃ y_ : List (S47), y_ = (([] : List (S47)) ++ [(⟨((rd_T47 t732 x13_1).f0), ((rd_T47 t732 x13_1).f1)⟩ : S47)]) := ⟨_, rfl⟩
           replace H : (impl_shortestVecs.l0 kj12 a0 y742 t737 t732 (t732.length : Int) (wrap64 (x13_1 + 1)) a1_0 a1_1 a1_2) = some r := by first | (rw [hy742]; with_reducible exact H) | (have H2_ := (Option.bind_some _ _).symm.trans H; rw [hy742]; with_reducible exact H2_) | (have H2_ := (Option.bind_some _ _).symm.trans H; with_reducible exact H2_) | with_reducible exact H | (rw [hy742]; exact H) | exact H
           have Ny742 := aM hy742
           clear hy742
           have H' := aM H
           clear H
           have hnb41 := NB736_728.out
           have hnc41 := NB728_736.out
           obtain ⟨hcz42_0, hcz42_1⟩ := z2 BK736
           obtain ⟨hfz42_0, hfz42_1⟩ := y2 BK736
           go_wp2_with (first | ((with_reducible refine gate_builtin (b := .append) (xs := #[.tmp 41, .tmp 43]) rfl ?_); at_builtin; refine Kd.R_append k47 (w0 := w) w.heap.size rfl (.tmp 41) (.tmp 43) 22 47 (.agg #[(.int .i64 0), (.int .i64 0)]) 16 rfl Try.underlying22 info47 rfl (by decide) (by omega) (.slice none 0 0) ([] : List (S47)) (⟨((rd_T47 t732 x13_1).f0), ((rd_T47 t732 x13_1).f1)⟩ : S47) [.int .i64 ((rd_T47 t732 x13_1).f0), .int .i64 ((rd_T47 t732 x13_1).f1)] (fun k_ => some k_ ≠ (u5 : Value).ownBlock ∧ some k_ ≠ (.slice (some ad735) t732.length co8 : Value).ownBlock ∧ k_ ≠ gb736) (fun _ => False) rfl rfl ?aP (fun _ hk => hk.elim) ?aF ?aO ?aB ?aS ?aL ?_; (case aP => exact k47_mkM _ _ _ (⟨((rd_T47 t732 x13_1).f0), ((rd_T47 t732 x13_1).f1)⟩ : S47)); (case aB => exact qB); (case aF => exact (fun k_ hk => ⟨Kd.fresh' (Kd.R_lt (by (with_reducible repeat (first | apply Kd.R_alloc | apply Kd.R_drewN | apply Kd.R_drew)); exact HO_5.out)) k_ hk, Kd.fresh' (Kd.R_lt (by (with_reducible repeat (first | apply Kd.R_alloc | apply Kd.R_drewN | apply Kd.R_drew)); exact HO_11.out)) k_ hk, Kd.freshB (g := gb736) (o := .cells #[.int .i64 ((rd_T47 t732 x13_1).f0), .int .i64 ((rd_T47 t732 x13_1).f1)] 47 (0, 0)) (bk BK736) k_ hk⟩)); (case aO => exact ((Kd.R_nil _ _ _ _ (fun k_ => some k_ ≠ (u5 : Value).ownBlock ∧ some k_ ≠ (.slice (some ad735) t732.length co8 : Value).ownBlock ∧ k_ ≠ gb736)))); (case aS => exact (below_size qB)); (case aL => have := LMc40.out; omega); intro v743 w43 ho hb hg hat; rw [← Ny742.out] at ho; have HO744 := aM ho; replace HO_5 := aM (Kd.R_after (Kd.R_apart_nil (by (with_reducible repeat (first | apply Kd.R_alloc | apply Kd.R_drewN | apply Kd.R_drew)); exact HO_5.out)) hg hat); replace HO_11 := aM (Kd.R_after (Kd.R_apart_nil (by (with_reducible repeat (first | apply Kd.R_alloc | apply Kd.R_drewN | apply Kd.R_drew)); exact HO_11.out)) hg hat); replace BK728 := aM (blk_grown (g := gb728) (o := .cells #[.int .i64 a1_0, .int .i64 a1_1, .int .i64 a1_2] 33 (0, 0)) (bk BK728) hg (by simp [Value.ownBlock])); replace BK736 := aM (blk_grown (g := gb736) (o := .cells #[.int .i64 ((rd_T47 t732 x13_1).f0), .int .i64 ((rd_T47 t732 x13_1).f1)] 47 (0, 0)) (bk BK736) hg (by simp [Value.ownBlock])); replace HB := aM hb; clear ho hb hg hat))
           go_roundg kj12
           case measure => have := HK1.out; have := HJ12.out; omega
           case rel => exact ⟨(y742), (t737), (wrap64 (x13_1 + 1)), (by first | rfl | (simp; done) | (simp [*]; done)), (by first | rfl | (simp; done) | (simp [*]; done)), H', ⟨by have := HK1.out; have := HJ12.out; omega⟩, ⟨by (with_reducible repeat (first | apply Kd.R_alloc | apply Kd.R_drewN | apply Kd.R_drew)); exact Kd.R_mono HO744.out (fun _ hk => hk.2.1)⟩, ⟨by (with_reducible repeat (first | apply Kd.R_alloc | apply Kd.R_drewN | apply Kd.R_drew)); exact Kd.R_mono HO_11.out (fun _ hk => hk.2)⟩, ⟨bk BK728⟩, ⟨qB⟩⟩
          ·rw [if_neg c40] at H
           exact absurd H (by simp)
     ·rw [if_neg c11] at H
      exact absurd H (by simp)
    ·rw [if_neg c10] at H
     exact absurd H (by simp)
   ·rw [if_neg c9] at H
    have c9b0 : decide (x13_1 < (t732.length : Int)) = false := decide_eq_false c9
    clear c9
    obtain rfl := Option.some.inj H
    go_wp2
    go_ret
    exact ⟨_, qR, by (with_reducible repeat (first | apply Kd.R_alloc | apply Kd.R_drewN | apply Kd.R_drew)); exact Kd.R_mono HO_5.out (fun _ hk => trivial), qB⟩

def impl_det.f (a0_0 : Int) (a0_1 : Int) (a1_0 : Int) (a1_1 : Int) : Option (Int) := some (wrap64 ((wrap64 (a0_0 * a1_1)) - (wrap64 (a0_1 * a1_0))))
set_option maxHeartbeats 8000000 in
set_option maxRecDepth 100000 in
theorem impl_det.calls (a0_0 : Int) (a0_1 : Int) (a1_0 : Int) (a1_1 : Int) (r : Int) (w : World) (h : impl_det.f a0_0 a0_1 a1_0 a1_1 = some r) :
  Calls Try.prog 130 #[.agg #[.int .i64 a0_0, .int .i64 a0_1], .agg #[.int .i64 a1_0, .int .i64 a1_1]] w fun e w' => e = .returned (.int .i64 r) ∧ Below w.heap.size w w' := by
 have hu47 := Try.underlying47
 have HB := aM (Below.refl w.heap.size w)
 have H : (some (wrap64 ((wrap64 (a0_0 * a1_1)) - (wrap64 (a0_1 * a1_0))))) = some r := h
 clear h
 obtain rfl := Option.some.inj H
 go_enter Try.func130, Try.ntmps130
 go_wp2_with (first | (refine bE 2 #[.int .i64 a0_0, .int .i64 a0_1] 47 ?_; intro gb745 hg w3 hbox hb; have BK745 := aM hbox; have GW745 := bZ hg HB; have GE745 := bZ hg HB; replace HB := bS HB hb; clear hb hbox hg) | (refine bE 3 #[.int .i64 a1_0, .int .i64 a1_1] 47 ?_; intro gb746 hg w4 hbox hb; have BK746 := aM hbox; have GW746 := bZ hg HB; have GE746 := bZ hg HB; have NB745_746 := nL hg BK745; have NB746_745 := nG hg BK745; replace BK745 := bB BK745 hb; replace HB := bS HB hb; clear hb hbox hg; have hnb5 := NB745_746.out; have hnc5 := NB746_745.out; obtain ⟨hcz6_0, hcz6_1⟩ := z2 BK745; obtain ⟨hfz6_0, hfz6_1⟩ := y2 BK745; obtain ⟨hcz7_0, hcz7_1⟩ := z2 BK746; obtain ⟨hfz7_0, hfz7_1⟩ := y2 BK746))
 go_ret
 exact ⟨qR, qB⟩

end Go.Proofs.Ytcjchihnopmplaa.F

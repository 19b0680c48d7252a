import Derived.Test.YtcjchihnopmplaaO0
import Derived.Test.YtcjchihnopmplaaO4
import Derived.Test.YtcjchihnopmplaaO6
import Derived.Test.YtcjchihnopmplaaO7
namespace Go.Proofs.Ytcjchihnopmplaa.F
open Go.RowKit Go.Proofs.YtcjchihnopmplaaW.PrintWords Go.Proofs.YtcjchihnopmplaaW.PrintLast Go.Proofs.YtcjchihnopmplaaW.PrintMore
attribute [local go_sem] max2_int min2_int max_two min_two max_three min_three max_four min_four   -- for this text's walks alone
set_option linter.unusedVariables false
set_option linter.unusedSimpArgs false
attribute [local go_sem high] eqA51

def spec_l02Order.l0 : Nat → Int → Int → Int → Int → Int → Int → Int → Int → Int → Option (Int)
 | 0, _, _, _, _, _, _, _, _, _ => none
 | k + 1, x4, x908000, x908001, x908002, x908003, x913000, x913001, x913002, x913003 => if x4 ≤ 6 then ((spec_l02Multiply.f x908000 x908001 x908002 x908003 x913000 x913001 x913002 x913003).bind fun bt913 => ((spec_l02Small.f bt913.1 bt913.2.1 bt913.2.2.1 bt913.2.2.2).bind fun t917 => (if t917 = true then ((spec_l02Unit.f).bind fun bt918 => (if (bt913.1 == bt918.1 && (bt913.2.1 == bt918.2.1 && (bt913.2.2.1 == bt918.2.2.1 && (bt913.2.2.2 == bt918.2.2.2)))) = true then (some x4) else (spec_l02Order.l0 k (wrap64 (x4 + 1)) x908000 x908001 x908002 x908003 bt913.1 bt913.2.1 bt913.2.2.1 bt913.2.2.2))) else (some 0)))) else (some 0)
def spec_l02Order.f (k : Nat) (a0_0 : Int) (a0_1 : Int) (a0_2 : Int) (a0_3 : Int) : Option (Int) := (spec_l02Unit.f).bind fun bt908 => (spec_l02Order.l0 k 1 a0_0 a0_1 a0_2 a0_3 bt908.1 bt908.2.1 bt908.2.2.1 bt908.2.2.2)
set_option maxHeartbeats 8000000 in
set_option maxRecDepth 100000 in
theorem spec_l02Order.calls (k : Nat) (a0_0 : Int) (a0_1 : Int) (a0_2 : Int) (a0_3 : Int) (r : Int) (w : World) (h : spec_l02Order.f k a0_0 a0_1 a0_2 a0_3 = some r) :
  Calls Try.prog 146 #[.agg #[.int .i64 a0_0, .int .i64 a0_1, .int .i64 a0_2, .int .i64 a0_3]] w fun e w' => e = .returned (.int .i64 r) ∧ Below w.heap.size w w' := by
 have hu51 := Try.underlying51
 have HB := aM (Below.refl w.heap.size w)
 have H : ((spec_l02Unit.f).bind fun bt908 => (spec_l02Order.l0 k 1 a0_0 a0_1 a0_2 a0_3 bt908.1 bt908.2.1 bt908.2.2.1 bt908.2.2.2)) = some r := h
 clear h
 replace H := Option.bind_eq_some_iff.mp H
 obtain ⟨⟨t908, t909, t910, t911⟩, A20, H⟩ := H
 try dsimp only at H
 have A2 := aM A20
 clear A20
 have H' := aM H
 clear H
 go_enter Try.func146, Try.ntmps146
 go_wp2_with (first | ((with_reducible refine gate_dst (N := 1) rfl ?_); refine box_event ?hg (N := 1) ?hd (cs := #[.int .i64 a0_0, .int .i64 a0_1, .int .i64 a0_2, .int .i64 a0_3]) (t := 51) ?hr ?_; (case hd => rfl); (case hg => rfl); (case hr => first | (go_simp; done) | (go_simp; rfl)); intro gb907 hg w3 hbox hb; have n0_ := bS HB hb; have n1_ := aM (hbox); have n2_ := bZ hg HB; have n3_ := bZ hg HB; clear HB; have HB := n0_; have BK907 := n1_; have GW907 := n2_; have GE907 := n3_; clear n0_ n1_ n2_ n3_; clear hb hbox hg) | ((with_reducible refine gate_callee (f := 139) rfl ?_); refine goesL_ (some 5) rfl rfl Try.func139 (by kernel_rfl) rfl #[] rfl (by first|rfl|(simp only [List.map_toArray, List.map_cons, List.map_nil]; try rfl)) ?_; (with_reducible refine (spec_l02Unit.calls  t908 t909 t910 t911 _ A2.out).mono ?_); rintro e w4 ⟨rfl, hb⟩; refine ⟨_, rfl, ?_⟩; have n0_ := bB BK907 hb; have n1_ := bS HB hb; clear BK907; clear HB; have BK907 := n0_; have HB := n1_; clear n0_ n1_; (try clear hb)) | ((with_reducible refine gate_dst (N := 3) rfl ?_); refine box_event ?hg (N := 3) ?hd (cs := #[.int .i64 0, .int .i64 0, .int .i64 0, .int .i64 0]) (t := 51) ?hr ?_; (case hd => rfl); (case hg => rfl); (case hr => first | (go_simp; done) | (go_simp; rfl)); intro gb912 hg w5 hbox hb; have n0_ := bB BK907 hb; have n1_ := bS HB hb; have n2_ := aM (hbox); have n3_ := bZ hg HB; have n4_ := bZ hg HB; have n5_ := nL hg BK907; have n6_ := nG hg BK907; clear BK907; clear HB; have BK907 := n0_; have HB := n1_; have BK912 := n2_; have GW912 := n3_; have GE912 := n4_; have NB907_912 := n5_; have NB912_907 := n6_; clear n0_ n1_ n2_ n3_ n4_ n5_ n6_; clear hb hbox hg; have hnb6 := NB912_907.out; have hnc6 := NB907_912.out; obtain ⟨hcz7_0, hcz7_1, hcz7_2, hcz7_3⟩ := z4 BK912; obtain ⟨hfz7_0, hfz7_1, hfz7_2, hfz7_3⟩ := y4 BK912))
 go_loopg [4] k (fun kq v4 w' => ∃ (x4_1 : Int) (x913000_1 : Int) (x913001_1 : Int) (x913002_1 : Int) (x913003_1 : Int), v4 = .int .i64 x4_1 ∧ Aside0 (spec_l02Order.l0 kq x4_1 a0_0 a0_1 a0_2 a0_3 x913000_1 x913001_1 x913002_1 x913003_1 = some r) ∧ Aside0 (kq ≤ k) ∧ Aside0 (w'.heap[gb907]? = some (.cells #[.int .i64 a0_0, .int .i64 a0_1, .int .i64 a0_2, .int .i64 a0_3] 51 (0, 0))) ∧ Aside0 (w'.heap[gb912]? = some (.cells #[.int .i64 x913000_1, .int .i64 x913001_1, .int .i64 x913002_1, .int .i64 x913003_1] 51 (0, 0))) ∧ Aside0 (Below w.heap.size w w'))
 case atStart => exact ⟨(1), (t908), (t909), (t910), (t911), (by first | rfl | (simp; done) | (simp [*]; done)), H', ⟨Nat.le_refl _⟩, ⟨by (repeat (first|(with_reducible first|apply kN|apply kD|apply kA)|refine blk_far ?_ NB907_912.out _)); exact BK907.out⟩, ⟨by (with_reducible repeat (first|apply kN|apply kD|apply kA)); refine blk_put (cs := #[.int .i64 t908, .int .i64 t909, .int .i64 t910, .int .i64 0]) ?_ 3 _ rfl; (with_reducible repeat (first|apply kN|apply kD|apply kA)); refine blk_put (cs := #[.int .i64 t908, .int .i64 t909, .int .i64 0, .int .i64 0]) ?_ 2 _ rfl; (with_reducible repeat (first|apply kN|apply kD|apply kA)); refine blk_put (cs := #[.int .i64 t908, .int .i64 0, .int .i64 0, .int .i64 0]) ?_ 1 _ rfl; (with_reducible repeat (first|apply kN|apply kD|apply kA)); refine blk_put (cs := #[.int .i64 0, .int .i64 0, .int .i64 0, .int .i64 0]) ?_ 0 _ rfl; (with_reducible repeat (first|apply kN|apply kD|apply kA)); exact BK912.out⟩, ⟨by repeat (first | (with_reducible first | exact HB.out | apply bA|apply bN|apply b1 | refine below_set ?_ (Aside0.out (by assumption))) | exact HB.out)⟩⟩
 case round =>
  clear H'
  try clear c1
  try clear p2
  try clear c6
  try clear hcz7_0
  try clear hcz7_1
  try clear hcz7_2
  try clear hcz7_3
  try clear hfz7_0
  try clear hfz7_1
  try clear hfz7_2
  try clear hfz7_3
  obtain ⟨x4_1, x913000_1, x913001_1, x913002_1, x913003_1, rfl, HA, HK1, BK907, BK912, HB⟩ := hrel
  cases gk with
  | zero => exact absurd HA.out (by simp [spec_l02Order.l0])
  | succ k1 =>
   have H := HA.out
   clear HA
   simp only [spec_l02Order.l0] at H
   by_cases c8 : x4_1 ≤ 6
   ·rw [if_pos c8] at H
    have c8b0 : decide (x4_1 ≤ 6) = true := decide_eq_true c8
    clear c8
    replace H := Option.bind_eq_some_iff.mp H
    obtain ⟨⟨t913, t914, t915, t916⟩, A90, H⟩ := H
    try dsimp only at H
    have A9 := aM A90
    clear A90
    replace H := Option.bind_eq_some_iff.mp H
    obtain ⟨t917, A100, H⟩ := H
    try dsimp only at H
    have A10 := aM A100
    clear A100
    by_cases c11 : t917 = true
    ·subst c11
     have H1 : ((spec_l02Unit.f).bind fun bt918 => (if (t913 == bt918.1 && (t914 == bt918.2.1 && (t915 == bt918.2.2.1 && (t916 == bt918.2.2.2)))) = true then (some x4_1) else (spec_l02Order.l0 k1 (wrap64 (x4_1 + 1)) a0_0 a0_1 a0_2 a0_3 t913 t914 t915 t916))) = some r := by rw [if_pos rfl] at H; exact H
     clear H
     have H := H1
     clear H1
     replace H := Option.bind_eq_some_iff.mp H
     obtain ⟨⟨t918, t919, t920, t921⟩, A120, H⟩ := H
     try dsimp only at H
     have A12 := aM A120
     clear A120
     by_cases c13 : (t913 == t918 && (t914 == t919 && (t915 == t920 && (t916 == t921)))) = true
     ·rw [if_pos c13] at H
      have c13b0 : (t913 == t918 && (t914 == t919 && (t915 == t920 && (t916 == t921)))) = true := c13
      (try (have c13b1 : decide (t913 = t918 && (t914 == t919 && (t915 == t920 && (t916 == t921)))) = true := by simpa using c13))
      (try (have c13b2 : (t913 == t918 && (t914 == t919 && (t915 == t920 && (t916 == t921)))) = true := by simpa using c13))
      clear c13
      obtain rfl := Option.some.inj H
      have hnb14 := NB907_912.out
      have hnc14 := NB912_907.out
      obtain ⟨hcz15_0, hcz15_1, hcz15_2, hcz15_3⟩ := z4 BK907
      obtain ⟨hfz15_0, hfz15_1, hfz15_2, hfz15_3⟩ := y4 BK907
      obtain ⟨hcz16_0, hcz16_1, hcz16_2, hcz16_3⟩ := z4 BK912
      obtain ⟨hfz16_0, hfz16_1, hfz16_2, hfz16_3⟩ := y4 BK912
      try go_wp2_with (first | ((with_reducible refine gate_callee (f := 92) rfl ?_); refine goesL_ (some 12) rfl rfl Try.func92 (by kernel_rfl) rfl #[.agg #[.int .i64 a0_0, .int .i64 a0_1, .int .i64 a0_2, .int .i64 a0_3], .agg #[.int .i64 x913000_1, .int .i64 x913001_1, .int .i64 x913002_1, .int .i64 x913003_1]] rfl (by first|rfl|(simp only [List.map_toArray, List.map_cons, List.map_nil]; try rfl)) ?_; (with_reducible refine (spec_l02Multiply.calls a0_0 a0_1 a0_2 a0_3 x913000_1 x913001_1 x913002_1 x913003_1 t913 t914 t915 t916 _ A9.out).mono ?_); rintro e w17 ⟨rfl, hb⟩; refine ⟨_, rfl, ?_⟩; have n0_ := bB BK907 hb; have n1_ := bB BK912 hb; have n2_ := bS HB hb; clear BK907; clear BK912; clear HB; have BK907 := n0_; have BK912 := n1_; have HB := n2_; clear n0_ n1_ n2_; (try clear hb); obtain ⟨hcz18_0, hcz18_1, hcz18_2, hcz18_3⟩ := z4 BK912; obtain ⟨hfz18_0, hfz18_1, hfz18_2, hfz18_3⟩ := y4 BK912) | ((with_reducible refine gate_callee (f := 102) rfl ?_); refine goesL_ (some 14) rfl rfl Try.func102 (by kernel_rfl) rfl #[.agg #[.int .i64 t913, .int .i64 t914, .int .i64 t915, .int .i64 t916]] rfl (by first|rfl|(simp only [List.map_toArray, List.map_cons, List.map_nil]; try rfl)) ?_; (with_reducible refine (spec_l02Small.calls t913 t914 t915 t916 true _ A10.out).mono ?_); rintro e w19 ⟨rfl, hb⟩; refine ⟨_, rfl, ?_⟩; have n0_ := aM (blk_below (g := gb907) (o := .cells #[.int .i64 a0_0, .int .i64 a0_1, .int .i64 a0_2, .int .i64 a0_3] 51 (0, 0)) (by (repeat (first|(with_reducible first|apply kN|apply kD|apply kA)|refine blk_far ?_ NB907_912.out _)); exact BK907.out) hb); have n1_ := aM (blk_below (g := gb912) (o := .cells #[.int .i64 t913, .int .i64 t914, .int .i64 t915, .int .i64 t916] 51 (0, 0)) (by (with_reducible repeat (first|apply kN|apply kD|apply kA)); refine blk_put (cs := #[.int .i64 t913, .int .i64 t914, .int .i64 t915, .int .i64 x913003_1]) ?_ 3 _ rfl; (with_reducible repeat (first|apply kN|apply kD|apply kA)); refine blk_put (cs := #[.int .i64 t913, .int .i64 t914, .int .i64 x913002_1, .int .i64 x913003_1]) ?_ 2 _ rfl; (with_reducible repeat (first|apply kN|apply kD|apply kA)); refine blk_put (cs := #[.int .i64 t913, .int .i64 x913001_1, .int .i64 x913002_1, .int .i64 x913003_1]) ?_ 1 _ rfl; (with_reducible repeat (first|apply kN|apply kD|apply kA)); refine blk_put (cs := #[.int .i64 x913000_1, .int .i64 x913001_1, .int .i64 x913002_1, .int .i64 x913003_1]) ?_ 0 _ rfl; (with_reducible repeat (first|apply kN|apply kD|apply kA)); exact BK912.out) hb); have n2_ := bS HB hb; clear BK907; clear BK912; clear HB; have BK907 := n0_; have BK912 := n1_; have HB := n2_; clear n0_ n1_ n2_; (try clear hb)))
      have n0_ := aM (blk_drew BK907.out)
      have n1_ := aM (blk_drew BK912.out)
      have n2_ := aM (below_drew1 HB.out)
      clear BK907
      clear BK912
      clear HB
      have BK907 := n0_
      have BK912 := n1_
      have HB := n2_
      clear n0_ n1_ n2_
      refine start_ (n := 3) (S := fun w' => w'.cell? ⟨gb912, 0, none⟩ = some (.int .i64 t913) ∧ w'.cell? ⟨gb912, 1, none⟩ = some (.int .i64 t914) ∧ w'.cell? ⟨gb912, 2, none⟩ = some (.int .i64 t915) ∧ w'.cell? ⟨gb912, 3, none⟩ = some (.int .i64 t916)) (ds := []) #[false, false, false] (by kernel_rfl) rfl rfl ⟨(blk_cell BK912.out 0).trans rfl, (blk_cell BK912.out 1).trans rfl, (blk_cell BK912.out 2).trans rfl, (blk_cell BK912.out 3).trans rfl⟩ (fun hHeld => ?_)
      generalize w19.drew = w20 at BK907 BK912 HB hHeld ⊢
      refine take_ (i := 0) (N := some 16) (v := ?_) (a' := ?_) #[true, false, false] rfl rfl (by kernel_rfl) (fun _ _ _ h => h) (Or.inl ⟨by rfl, ?_⟩) hHeld ?_ ?_
      rotate_left
      ·rintro w' ⟨s0, s1, s2, s3⟩
       go_simp
       with_reducible rfl
      rotate_left
      ·simp only [Act.put, List.setIfInBounds_toArray, List.set_cons_zero, List.set_cons_succ, i64_w, i32_w]
       rfl
      refine one_ (i := 1) (N := some 17) #[true, true, false] rfl rfl (by kernel_rfl) (by decide) (fun K hK => ?_)
      refine goes_ Try.func139 (by kernel_rfl) rfl #[] (by rfl) rfl rfl (by first|rfl|(simp only [List.map_toArray, List.map_cons, List.map_nil]; try rfl)) ?_
      with_reducible refine (spec_l02Unit.calls  t918 t919 t920 t921 _ A12.out).mono ?_
      rintro e w21 ⟨rfl, hb⟩
      refine ⟨_, rfl, ?_⟩
      have n0_ := bB BK907 hb
      have n1_ := bB BK912 hb
      have n2_ := bS HB hb
      clear BK907
      clear BK912
      clear HB
      have BK907 := n0_
      have BK912 := n1_
      have HB := n2_
      clear n0_ n1_ n2_
      (try clear hb)
      (try clear hb2)
      (try clear hk)
      (try clear hi)
      refine hK.out _ _ ⟨(blk_cell BK912.out 0).trans rfl, (blk_cell BK912.out 1).trans rfl, (blk_cell BK912.out 2).trans rfl, (blk_cell BK912.out 3).trans rfl⟩ (fun hHeld => ?_)
      clear hK K
      refine norm_ (a' := ?_) ?_ ?_
      rotate_left
      ·show Act.put _ (some 17) _ = _
       simp only [Act.put, List.setIfInBounds_toArray, List.set_cons_zero, List.set_cons_succ, i64_w, i32_w]
       rfl
      refine pure_ (i := 2) (N := some 18) (v := ?_) (a' := ?_) #[true, true, true] rfl rfl (by kernel_rfl) (fun _ _ _ h => h) (Or.inl ⟨by rfl, ?_⟩) ?_ ?_
      rotate_left
      ·intro w'
       go_simp
       with_reducible rfl
      rotate_left
      ·simp only [Act.put, List.setIfInBounds_toArray, List.set_cons_zero, List.set_cons_succ, i64_w, i32_w]
       rfl
      refine done_ (by kernel_rfl) ?_
      try go_wp2
      go_ret
      exact ⟨by first|rfl|(simp [*, errW_none, errW_some] <;> rfl), by repeat (first | (with_reducible first | exact HB.out | apply bA|apply bN|apply b1 | refine below_set ?_ (Aside0.out (by assumption))) | exact HB.out)⟩
     ·rw [if_neg c13] at H
      have c13b0 : (t913 == t918 && (t914 == t919 && (t915 == t920 && (t916 == t921)))) = false := by simpa using c13
      (try (have c13b1 : decide (t913 = t918 && (t914 == t919 && (t915 == t920 && (t916 == t921)))) = false := by simpa using c13))
      (try (have c13b2 : (t913 == t918 && (t914 == t919 && (t915 == t920 && (t916 == t921)))) = false := by simpa using c13))
      (try (have c13b3 : ¬ (t913 = t918 && (t914 == t919 && (t915 == t920 && (t916 == t921)))) := by simpa using c13))
      clear c13
      have H' := aM H
      clear H
      have hnb22 := NB907_912.out
      have hnc22 := NB912_907.out
      obtain ⟨hcz23_0, hcz23_1, hcz23_2, hcz23_3⟩ := z4 BK907
      obtain ⟨hfz23_0, hfz23_1, hfz23_2, hfz23_3⟩ := y4 BK907
      obtain ⟨hcz24_0, hcz24_1, hcz24_2, hcz24_3⟩ := z4 BK912
      obtain ⟨hfz24_0, hfz24_1, hfz24_2, hfz24_3⟩ := y4 BK912
      try go_wp2_with (first | ((with_reducible refine gate_callee (f := 92) rfl ?_); refine goesL_ (some 12) rfl rfl Try.func92 (by kernel_rfl) rfl #[.agg #[.int .i64 a0_0, .int .i64 a0_1, .int .i64 a0_2, .int .i64 a0_3], .agg #[.int .i64 x913000_1, .int .i64 x913001_1, .int .i64 x913002_1, .int .i64 x913003_1]] rfl (by first|rfl|(simp only [List.map_toArray, List.map_cons, List.map_nil]; try rfl)) ?_; (with_reducible refine (spec_l02Multiply.calls a0_0 a0_1 a0_2 a0_3 x913000_1 x913001_1 x913002_1 x913003_1 t913 t914 t915 t916 _ A9.out).mono ?_); rintro e w25 ⟨rfl, hb⟩; refine ⟨_, rfl, ?_⟩; have n0_ := bB BK907 hb; have n1_ := bB BK912 hb; have n2_ := bS HB hb; clear BK907; clear BK912; clear HB; have BK907 := n0_; have BK912 := n1_; have HB := n2_; clear n0_ n1_ n2_; (try clear hb); obtain ⟨hcz26_0, hcz26_1, hcz26_2, hcz26_3⟩ := z4 BK912; obtain ⟨hfz26_0, hfz26_1, hfz26_2, hfz26_3⟩ := y4 BK912) | ((with_reducible refine gate_callee (f := 102) rfl ?_); refine goesL_ (some 14) rfl rfl Try.func102 (by kernel_rfl) rfl #[.agg #[.int .i64 t913, .int .i64 t914, .int .i64 t915, .int .i64 t916]] rfl (by first|rfl|(simp only [List.map_toArray, List.map_cons, List.map_nil]; try rfl)) ?_; (with_reducible refine (spec_l02Small.calls t913 t914 t915 t916 true _ A10.out).mono ?_); rintro e w27 ⟨rfl, hb⟩; refine ⟨_, rfl, ?_⟩; have n0_ := aM (blk_below (g := gb907) (o := .cells #[.int .i64 a0_0, .int .i64 a0_1, .int .i64 a0_2, .int .i64 a0_3] 51 (0, 0)) (by (repeat (first|(with_reducible first|apply kN|apply kD|apply kA)|refine blk_far ?_ NB907_912.out _)); exact BK907.out) hb); have n1_ := aM (blk_below (g := gb912) (o := .cells #[.int .i64 t913, .int .i64 t914, .int .i64 t915, .int .i64 t916] 51 (0, 0)) (by (with_reducible repeat (first|apply kN|apply kD|apply kA)); refine blk_put (cs := #[.int .i64 t913, .int .i64 t914, .int .i64 t915, .int .i64 x913003_1]) ?_ 3 _ rfl; (with_reducible repeat (first|apply kN|apply kD|apply kA)); refine blk_put (cs := #[.int .i64 t913, .int .i64 t914, .int .i64 x913002_1, .int .i64 x913003_1]) ?_ 2 _ rfl; (with_reducible repeat (first|apply kN|apply kD|apply kA)); refine blk_put (cs := #[.int .i64 t913, .int .i64 x913001_1, .int .i64 x913002_1, .int .i64 x913003_1]) ?_ 1 _ rfl; (with_reducible repeat (first|apply kN|apply kD|apply kA)); refine blk_put (cs := #[.int .i64 x913000_1, .int .i64 x913001_1, .int .i64 x913002_1, .int .i64 x913003_1]) ?_ 0 _ rfl; (with_reducible repeat (first|apply kN|apply kD|apply kA)); exact BK912.out) hb); have n2_ := bS HB hb; clear BK907; clear BK912; clear HB; have BK907 := n0_; have BK912 := n1_; have HB := n2_; clear n0_ n1_ n2_; (try clear hb)))
      have n0_ := aM (blk_drew BK907.out)
      have n1_ := aM (blk_drew BK912.out)
      have n2_ := aM (below_drew1 HB.out)
      clear BK907
      clear BK912
      clear HB
      have BK907 := n0_
      have BK912 := n1_
      have HB := n2_
      clear n0_ n1_ n2_
      refine start_ (n := 3) (S := fun w' => w'.cell? ⟨gb912, 0, none⟩ = some (.int .i64 t913) ∧ w'.cell? ⟨gb912, 1, none⟩ = some (.int .i64 t914) ∧ w'.cell? ⟨gb912, 2, none⟩ = some (.int .i64 t915) ∧ w'.cell? ⟨gb912, 3, none⟩ = some (.int .i64 t916)) (ds := []) #[false, false, false] (by kernel_rfl) rfl rfl ⟨(blk_cell BK912.out 0).trans rfl, (blk_cell BK912.out 1).trans rfl, (blk_cell BK912.out 2).trans rfl, (blk_cell BK912.out 3).trans rfl⟩ (fun hHeld => ?_)
      generalize w27.drew = w28 at BK907 BK912 HB hHeld ⊢
      refine take_ (i := 0) (N := some 16) (v := ?_) (a' := ?_) #[true, false, false] rfl rfl (by kernel_rfl) (fun _ _ _ h => h) (Or.inl ⟨by rfl, ?_⟩) hHeld ?_ ?_
      rotate_left
      ·rintro w' ⟨s0, s1, s2, s3⟩
       go_simp
       with_reducible rfl
      rotate_left
      ·simp only [Act.put, List.setIfInBounds_toArray, List.set_cons_zero, List.set_cons_succ, i64_w, i32_w]
       rfl
      refine one_ (i := 1) (N := some 17) #[true, true, false] rfl rfl (by kernel_rfl) (by decide) (fun K hK => ?_)
      refine goes_ Try.func139 (by kernel_rfl) rfl #[] (by rfl) rfl rfl (by first|rfl|(simp only [List.map_toArray, List.map_cons, List.map_nil]; try rfl)) ?_
      with_reducible refine (spec_l02Unit.calls  t918 t919 t920 t921 _ A12.out).mono ?_
      rintro e w29 ⟨rfl, hb⟩
      refine ⟨_, rfl, ?_⟩
      have n0_ := bB BK907 hb
      have n1_ := bB BK912 hb
      have n2_ := bS HB hb
      clear BK907
      clear BK912
      clear HB
      have BK907 := n0_
      have BK912 := n1_
      have HB := n2_
      clear n0_ n1_ n2_
      (try clear hb)
      (try clear hb2)
      (try clear hk)
      (try clear hi)
      refine hK.out _ _ ⟨(blk_cell BK912.out 0).trans rfl, (blk_cell BK912.out 1).trans rfl, (blk_cell BK912.out 2).trans rfl, (blk_cell BK912.out 3).trans rfl⟩ (fun hHeld => ?_)
      clear hK K
      refine norm_ (a' := ?_) ?_ ?_
      rotate_left
      ·show Act.put _ (some 17) _ = _
       simp only [Act.put, List.setIfInBounds_toArray, List.set_cons_zero, List.set_cons_succ, i64_w, i32_w]
       rfl
      refine pure_ (i := 2) (N := some 18) (v := ?_) (a' := ?_) #[true, true, true] rfl rfl (by kernel_rfl) (fun _ _ _ h => h) (Or.inl ⟨by rfl, ?_⟩) ?_ ?_
      rotate_left
      ·intro w'
       go_simp
       with_reducible rfl
      rotate_left
      ·simp only [Act.put, List.setIfInBounds_toArray, List.set_cons_zero, List.set_cons_succ, i64_w, i32_w]
       rfl
      refine done_ (by kernel_rfl) ?_
      try go_wp2
      go_roundg k1
      case measure => have := HK1.out; omega
      case rel => exact ⟨(wrap64 (x4_1 + 1)), (t913), (t914), (t915), (t916), (by first | rfl | (simp; done) | (simp [*]; done)), H', ⟨by have := HK1.out; omega⟩, ⟨by (with_reducible repeat (first|apply kN|apply kD|apply kA)); exact BK907.out⟩, ⟨by (with_reducible repeat (first|apply kN|apply kD|apply kA)); exact BK912.out⟩, ⟨by repeat (first | (with_reducible first | exact HB.out | apply bA|apply bN|apply b1 | refine below_set ?_ (Aside0.out (by assumption))) | exact HB.out)⟩⟩
    ·replace c11 := Bool.eq_false_iff.mpr c11
     subst c11
     have H1 : (some 0) = some r := by rw [if_neg (show ¬ (false = true) by decide)] at H; exact H
     clear H
     have H := H1
     clear H1
     obtain rfl := Option.some.inj H
     have hnb30 := NB907_912.out
     have hnc30 := NB912_907.out
     obtain ⟨hcz31_0, hcz31_1, hcz31_2, hcz31_3⟩ := z4 BK907
     obtain ⟨hfz31_0, hfz31_1, hfz31_2, hfz31_3⟩ := y4 BK907
     obtain ⟨hcz32_0, hcz32_1, hcz32_2, hcz32_3⟩ := z4 BK912
     obtain ⟨hfz32_0, hfz32_1, hfz32_2, hfz32_3⟩ := y4 BK912
     go_wp2_with (first | ((with_reducible refine gate_callee (f := 92) rfl ?_); refine goesL_ (some 12) rfl rfl Try.func92 (by kernel_rfl) rfl #[.agg #[.int .i64 a0_0, .int .i64 a0_1, .int .i64 a0_2, .int .i64 a0_3], .agg #[.int .i64 x913000_1, .int .i64 x913001_1, .int .i64 x913002_1, .int .i64 x913003_1]] rfl (by first|rfl|(simp only [List.map_toArray, List.map_cons, List.map_nil]; try rfl)) ?_; (with_reducible refine (spec_l02Multiply.calls a0_0 a0_1 a0_2 a0_3 x913000_1 x913001_1 x913002_1 x913003_1 t913 t914 t915 t916 _ A9.out).mono ?_); rintro e w33 ⟨rfl, hb⟩; refine ⟨_, rfl, ?_⟩; have n0_ := bB BK907 hb; have n1_ := bB BK912 hb; have n2_ := bS HB hb; clear BK907; clear BK912; clear HB; have BK907 := n0_; have BK912 := n1_; have HB := n2_; clear n0_ n1_ n2_; (try clear hb); obtain ⟨hcz34_0, hcz34_1, hcz34_2, hcz34_3⟩ := z4 BK912; obtain ⟨hfz34_0, hfz34_1, hfz34_2, hfz34_3⟩ := y4 BK912) | ((with_reducible refine gate_callee (f := 102) rfl ?_); refine goesL_ (some 14) rfl rfl Try.func102 (by kernel_rfl) rfl #[.agg #[.int .i64 t913, .int .i64 t914, .int .i64 t915, .int .i64 t916]] rfl (by first|rfl|(simp only [List.map_toArray, List.map_cons, List.map_nil]; try rfl)) ?_; (with_reducible refine (spec_l02Small.calls t913 t914 t915 t916 false _ A10.out).mono ?_); rintro e w35 ⟨rfl, hb⟩; refine ⟨_, rfl, ?_⟩; have n0_ := aM (blk_below (g := gb907) (o := .cells #[.int .i64 a0_0, .int .i64 a0_1, .int .i64 a0_2, .int .i64 a0_3] 51 (0, 0)) (by (repeat (first|(with_reducible first|apply kN|apply kD|apply kA)|refine blk_far ?_ NB907_912.out _)); exact BK907.out) hb); have n1_ := aM (blk_below (g := gb912) (o := .cells #[.int .i64 t913, .int .i64 t914, .int .i64 t915, .int .i64 t916] 51 (0, 0)) (by (with_reducible repeat (first|apply kN|apply kD|apply kA)); refine blk_put (cs := #[.int .i64 t913, .int .i64 t914, .int .i64 t915, .int .i64 x913003_1]) ?_ 3 _ rfl; (with_reducible repeat (first|apply kN|apply kD|apply kA)); refine blk_put (cs := #[.int .i64 t913, .int .i64 t914, .int .i64 x913002_1, .int .i64 x913003_1]) ?_ 2 _ rfl; (with_reducible repeat (first|apply kN|apply kD|apply kA)); refine blk_put (cs := #[.int .i64 t913, .int .i64 x913001_1, .int .i64 x913002_1, .int .i64 x913003_1]) ?_ 1 _ rfl; (with_reducible repeat (first|apply kN|apply kD|apply kA)); refine blk_put (cs := #[.int .i64 x913000_1, .int .i64 x913001_1, .int .i64 x913002_1, .int .i64 x913003_1]) ?_ 0 _ rfl; (with_reducible repeat (first|apply kN|apply kD|apply kA)); exact BK912.out) hb); have n2_ := bS HB hb; clear BK907; clear BK912; clear HB; have BK907 := n0_; have BK912 := n1_; have HB := n2_; clear n0_ n1_ n2_; (try clear hb)))
     go_ret
     exact ⟨by first|rfl|(simp [*, errW_none, errW_some] <;> rfl), by repeat (first | (with_reducible first | exact HB.out | apply bA|apply bN|apply b1 | refine below_set ?_ (Aside0.out (by assumption))) | exact HB.out)⟩
   ·rw [if_neg c8] at H
    have c8b0 : decide (x4_1 ≤ 6) = false := decide_eq_false c8
    clear c8
    obtain rfl := Option.some.inj H
    go_wp2
    go_ret
    exact ⟨by first|rfl|(simp [*, errW_none, errW_some] <;> rfl), by repeat (first | (with_reducible first | exact HB.out | apply bA|apply bN|apply b1 | refine below_set ?_ (Aside0.out (by assumption))) | exact HB.out)⟩

def spec_l02Kind.f (k : Nat) (a0_0 : Int) (a0_1 : Int) (a0_2 : Int) (a0_3 : Int) : Option (Int) := (spec_l02Det.f a0_0 a0_1 a0_2 a0_3).bind fun t923 => (if t923 = 1 then ((spec_l02Order.f k a0_0 a0_1 a0_2 a0_3).bind fun t924 => (some t924)) else ((spec_l02Order.f k a0_0 a0_1 a0_2 a0_3).bind fun t925 => (if t925 = 2 then (some (-2)) else (some 0))))
set_option maxHeartbeats 8000000 in
set_option maxRecDepth 100000 in
theorem spec_l02Kind.calls (k : Nat) (a0_0 : Int) (a0_1 : Int) (a0_2 : Int) (a0_3 : Int) (r : Int) (w : World) (h : spec_l02Kind.f k a0_0 a0_1 a0_2 a0_3 = some r) :
  Calls Try.prog 113 #[.agg #[.int .i64 a0_0, .int .i64 a0_1, .int .i64 a0_2, .int .i64 a0_3]] w fun e w' => e = .returned (.int .i64 r) ∧ Below w.heap.size w w' := by
 have hu51 := Try.underlying51
 have HB := aM (Below.refl w.heap.size w)
 have H : ((spec_l02Det.f a0_0 a0_1 a0_2 a0_3).bind fun t923 => (if t923 = 1 then ((spec_l02Order.f k a0_0 a0_1 a0_2 a0_3).bind fun t924 => (some t924)) else ((spec_l02Order.f k a0_0 a0_1 a0_2 a0_3).bind fun t925 => (if t925 = 2 then (some (-2)) else (some 0))))) = some r := h
 clear h
 replace H := Option.bind_eq_some_iff.mp H
 obtain ⟨t923, A20, H⟩ := H
 try dsimp only at H
 have A2 := aM A20
 clear A20
 by_cases c3 : t923 = 1
 ·rw [if_pos c3] at H
  have c3b0 : (t923 == 1) = true := beq_iff_eq.mpr c3
  have c3b1 : (t923 != 1) = false := bne_eq_false_iff_eq.mpr c3
  clear c3
  replace H := Option.bind_eq_some_iff.mp H
  obtain ⟨t924, A40, H⟩ := H
  try dsimp only at H
  have A4 := aM A40
  clear A40
  obtain rfl := Option.some.inj H
  go_enter Try.func113, Try.ntmps113
  go_wp2_with (first | ((with_reducible refine gate_dst (N := 1) rfl ?_); refine box_event ?hg (N := 1) ?hd (cs := #[.int .i64 a0_0, .int .i64 a0_1, .int .i64 a0_2, .int .i64 a0_3]) (t := 51) ?hr ?_; (case hd => rfl); (case hg => rfl); (case hr => first | (go_simp; done) | (go_simp; rfl)); intro gb922 hg w5 hbox hb; have n0_ := bS HB hb; have n1_ := aM (hbox); have n2_ := bZ hg HB; have n3_ := bZ hg HB; clear HB; have HB := n0_; have BK922 := n1_; have GW922 := n2_; have GE922 := n3_; clear n0_ n1_ n2_ n3_; clear hb hbox hg; obtain ⟨hcz6_0, hcz6_1, hcz6_2, hcz6_3⟩ := z4 BK922; obtain ⟨hfz6_0, hfz6_1, hfz6_2, hfz6_3⟩ := y4 BK922) | ((with_reducible refine gate_callee (f := 103) rfl ?_); refine goesL_ (some 5) rfl rfl Try.func103 (by kernel_rfl) rfl #[.agg #[.int .i64 a0_0, .int .i64 a0_1, .int .i64 a0_2, .int .i64 a0_3]] rfl (by first|rfl|(simp only [List.map_toArray, List.map_cons, List.map_nil]; try rfl)) ?_; (with_reducible refine (spec_l02Det.calls a0_0 a0_1 a0_2 a0_3 t923 _ A2.out).mono ?_); rintro e w7 ⟨rfl, hb⟩; refine ⟨_, rfl, ?_⟩; have n0_ := bB BK922 hb; have n1_ := bS HB hb; clear BK922; clear HB; have BK922 := n0_; have HB := n1_; clear n0_ n1_; (try clear hb); obtain ⟨hcz8_0, hcz8_1, hcz8_2, hcz8_3⟩ := z4 BK922; obtain ⟨hfz8_0, hfz8_1, hfz8_2, hfz8_3⟩ := y4 BK922) | ((with_reducible refine gate_callee (f := 146) rfl ?_); refine goesL_ (some 8) rfl rfl Try.func146 (by kernel_rfl) rfl #[.agg #[.int .i64 a0_0, .int .i64 a0_1, .int .i64 a0_2, .int .i64 a0_3]] rfl (by first|rfl|(simp only [List.map_toArray, List.map_cons, List.map_nil]; try rfl)) ?_; (with_reducible refine (spec_l02Order.calls k a0_0 a0_1 a0_2 a0_3 t924 _ A4.out).mono ?_); rintro e w9 ⟨rfl, hb⟩; refine ⟨_, rfl, ?_⟩; have n0_ := bB BK922 hb; have n1_ := bS HB hb; clear BK922; clear HB; have BK922 := n0_; have HB := n1_; clear n0_ n1_; (try clear hb)))
  go_ret
  exact ⟨by first|rfl|(simp [*, errW_none, errW_some] <;> rfl), by repeat (first | (with_reducible first | exact HB.out | apply bA|apply bN|apply b1 | refine below_set ?_ GE922.out) | exact HB.out)⟩
 ·rw [if_neg c3] at H
  have c3b0 : (t923 == 1) = false := beq_eq_false_iff_ne.mpr c3
  have c3b1 : (t923 != 1) = true := bne_iff_ne.mpr c3
  replace H := Option.bind_eq_some_iff.mp H
  obtain ⟨t925, A100, H⟩ := H
  try dsimp only at H
  have A10 := aM A100
  clear A100
  by_cases c11 : t925 = 2
  ·rw [if_pos c11] at H
   have c11b0 : (t925 == 2) = true := beq_iff_eq.mpr c11
   have c11b1 : (t925 != 2) = false := bne_eq_false_iff_eq.mpr c11
   clear c11
   obtain rfl := Option.some.inj H
   go_enter Try.func113, Try.ntmps113
   go_wp2_with (first | ((with_reducible refine gate_dst (N := 1) rfl ?_); refine box_event ?hg (N := 1) ?hd (cs := #[.int .i64 a0_0, .int .i64 a0_1, .int .i64 a0_2, .int .i64 a0_3]) (t := 51) ?hr ?_; (case hd => rfl); (case hg => rfl); (case hr => first | (go_simp; done) | (go_simp; rfl)); intro gb922 hg w12 hbox hb; have n0_ := bS HB hb; have n1_ := aM (hbox); have n2_ := bZ hg HB; have n3_ := bZ hg HB; clear HB; have HB := n0_; have BK922 := n1_; have GW922 := n2_; have GE922 := n3_; clear n0_ n1_ n2_ n3_; clear hb hbox hg; obtain ⟨hcz13_0, hcz13_1, hcz13_2, hcz13_3⟩ := z4 BK922; obtain ⟨hfz13_0, hfz13_1, hfz13_2, hfz13_3⟩ := y4 BK922) | ((with_reducible refine gate_callee (f := 103) rfl ?_); refine goesL_ (some 5) rfl rfl Try.func103 (by kernel_rfl) rfl #[.agg #[.int .i64 a0_0, .int .i64 a0_1, .int .i64 a0_2, .int .i64 a0_3]] rfl (by first|rfl|(simp only [List.map_toArray, List.map_cons, List.map_nil]; try rfl)) ?_; (with_reducible refine (spec_l02Det.calls a0_0 a0_1 a0_2 a0_3 t923 _ A2.out).mono ?_); rintro e w14 ⟨rfl, hb⟩; refine ⟨_, rfl, ?_⟩; have n0_ := bB BK922 hb; have n1_ := bS HB hb; clear BK922; clear HB; have BK922 := n0_; have HB := n1_; clear n0_ n1_; (try clear hb); obtain ⟨hcz15_0, hcz15_1, hcz15_2, hcz15_3⟩ := z4 BK922; obtain ⟨hfz15_0, hfz15_1, hfz15_2, hfz15_3⟩ := y4 BK922) | ((with_reducible refine gate_callee (f := 146) rfl ?_); refine goesL_ (some 11) rfl rfl Try.func146 (by kernel_rfl) rfl #[.agg #[.int .i64 a0_0, .int .i64 a0_1, .int .i64 a0_2, .int .i64 a0_3]] rfl (by first|rfl|(simp only [List.map_toArray, List.map_cons, List.map_nil]; try rfl)) ?_; (with_reducible refine (spec_l02Order.calls k a0_0 a0_1 a0_2 a0_3 t925 _ A10.out).mono ?_); rintro e w16 ⟨rfl, hb⟩; refine ⟨_, rfl, ?_⟩; have n0_ := bB BK922 hb; have n1_ := bS HB hb; clear BK922; clear HB; have BK922 := n0_; have HB := n1_; clear n0_ n1_; (try clear hb)))
   go_ret
   exact ⟨by first|rfl|(simp [*, errW_none, errW_some] <;> rfl), by repeat (first | (with_reducible first | exact HB.out | apply bA|apply bN|apply b1 | refine below_set ?_ GE922.out) | exact HB.out)⟩
  ·rw [if_neg c11] at H
   have c11b0 : (t925 == 2) = false := beq_eq_false_iff_ne.mpr c11
   have c11b1 : (t925 != 2) = true := bne_iff_ne.mpr c11
   obtain rfl := Option.some.inj H
   go_enter Try.func113, Try.ntmps113
   go_wp2_with (first | ((with_reducible refine gate_dst (N := 1) rfl ?_); refine box_event ?hg (N := 1) ?hd (cs := #[.int .i64 a0_0, .int .i64 a0_1, .int .i64 a0_2, .int .i64 a0_3]) (t := 51) ?hr ?_; (case hd => rfl); (case hg => rfl); (case hr => first | (go_simp; done) | (go_simp; rfl)); intro gb922 hg w17 hbox hb; have n0_ := bS HB hb; have n1_ := aM (hbox); have n2_ := bZ hg HB; have n3_ := bZ hg HB; clear HB; have HB := n0_; have BK922 := n1_; have GW922 := n2_; have GE922 := n3_; clear n0_ n1_ n2_ n3_; clear hb hbox hg; obtain ⟨hcz18_0, hcz18_1, hcz18_2, hcz18_3⟩ := z4 BK922; obtain ⟨hfz18_0, hfz18_1, hfz18_2, hfz18_3⟩ := y4 BK922) | ((with_reducible refine gate_callee (f := 103) rfl ?_); refine goesL_ (some 5) rfl rfl Try.func103 (by kernel_rfl) rfl #[.agg #[.int .i64 a0_0, .int .i64 a0_1, .int .i64 a0_2, .int .i64 a0_3]] rfl (by first|rfl|(simp only [List.map_toArray, List.map_cons, List.map_nil]; try rfl)) ?_; (with_reducible refine (spec_l02Det.calls a0_0 a0_1 a0_2 a0_3 t923 _ A2.out).mono ?_); rintro e w19 ⟨rfl, hb⟩; refine ⟨_, rfl, ?_⟩; have n0_ := bB BK922 hb; have n1_ := bS HB hb; clear BK922; clear HB; have BK922 := n0_; have HB := n1_; clear n0_ n1_; (try clear hb); obtain ⟨hcz20_0, hcz20_1, hcz20_2, hcz20_3⟩ := z4 BK922; obtain ⟨hfz20_0, hfz20_1, hfz20_2, hfz20_3⟩ := y4 BK922) | ((with_reducible refine gate_callee (f := 146) rfl ?_); refine goesL_ (some 11) rfl rfl Try.func146 (by kernel_rfl) rfl #[.agg #[.int .i64 a0_0, .int .i64 a0_1, .int .i64 a0_2, .int .i64 a0_3]] rfl (by first|rfl|(simp only [List.map_toArray, List.map_cons, List.map_nil]; try rfl)) ?_; (with_reducible refine (spec_l02Order.calls k a0_0 a0_1 a0_2 a0_3 t925 _ A10.out).mono ?_); rintro e w21 ⟨rfl, hb⟩; refine ⟨_, rfl, ?_⟩; have n0_ := bB BK922 hb; have n1_ := bS HB hb; clear BK922; clear HB; have BK922 := n0_; have HB := n1_; clear n0_ n1_; (try clear hb)))
   go_ret
   exact ⟨by first|rfl|(simp [*, errW_none, errW_some] <;> rfl), by repeat (first | (with_reducible first | exact HB.out | apply bA|apply bN|apply b1 | refine below_set ?_ GE922.out) | exact HB.out)⟩

def spec_IsMotion.f (k : Nat) (a0_0 : Int) (a0_1 : Int) (a0_2 : Int) (a0_3 : Int) (a0_4 : Int) (a0_5 : Int) : Option (Bool) := (spec_IsMat.f a0_0 a0_1 a0_2 a0_3).bind fun t927 => (if t927 = true then ((spec_l02Kind.f k a0_0 a0_1 a0_2 a0_3).bind fun t928 => (if t928 = 0 then (some false) else ((spec_IsVec.f a0_4 a0_5).bind fun t929 => (some t929)))) else (some false))
set_option maxHeartbeats 8000000 in
set_option maxRecDepth 100000 in
theorem spec_IsMotion.calls (k : Nat) (a0_0 : Int) (a0_1 : Int) (a0_2 : Int) (a0_3 : Int) (a0_4 : Int) (a0_5 : Int) (r : Bool) (w : World) (h : spec_IsMotion.f k a0_0 a0_1 a0_2 a0_3 a0_4 a0_5 = some r) :
  Calls Try.prog 49 #[.agg #[.int .i64 a0_0, .int .i64 a0_1, .int .i64 a0_2, .int .i64 a0_3, .int .i64 a0_4, .int .i64 a0_5]] w fun e w' => e = .returned (.bool r) ∧ Below w.heap.size w w' := by
 have hu64 := Try.underlying64
 have hu51 := Try.underlying51
 have hu47 := Try.underlying47
 have HB := aM (Below.refl w.heap.size w)
 have H : ((spec_IsMat.f a0_0 a0_1 a0_2 a0_3).bind fun t927 => (if t927 = true then ((spec_l02Kind.f k a0_0 a0_1 a0_2 a0_3).bind fun t928 => (if t928 = 0 then (some false) else ((spec_IsVec.f a0_4 a0_5).bind fun t929 => (some t929)))) else (some false))) = some r := h
 clear h
 replace H := Option.bind_eq_some_iff.mp H
 obtain ⟨t927, A20, H⟩ := H
 try dsimp only at H
 have A2 := aM A20
 clear A20
 by_cases c3 : t927 = true
 ·subst c3
  have H1 : ((spec_l02Kind.f k a0_0 a0_1 a0_2 a0_3).bind fun t928 => (if t928 = 0 then (some false) else ((spec_IsVec.f a0_4 a0_5).bind fun t929 => (some t929)))) = some r := by rw [if_pos rfl] at H; exact H
  clear H
  have H := H1
  clear H1
  replace H := Option.bind_eq_some_iff.mp H
  obtain ⟨t928, A40, H⟩ := H
  try dsimp only at H
  have A4 := aM A40
  clear A40
  by_cases c5 : t928 = 0
  ·rw [if_pos c5] at H
   have c5b0 : (t928 == 0) = true := beq_iff_eq.mpr c5
   have c5b1 : (t928 != 0) = false := bne_eq_false_iff_eq.mpr c5
   clear c5
   obtain rfl := Option.some.inj H
   go_enter Try.func49, Try.ntmps49
   go_wp2_with (first | ((with_reducible refine gate_dst (N := 1) rfl ?_); refine box_event ?hg (N := 1) ?hd (cs := #[.int .i64 a0_0, .int .i64 a0_1, .int .i64 a0_2, .int .i64 a0_3, .int .i64 a0_4, .int .i64 a0_5]) (t := 64) ?hr ?_; (case hd => rfl); (case hg => rfl); (case hr => first | (go_simp; done) | (go_simp; rfl)); intro gb926 hg w6 hbox hb; have n0_ := bS HB hb; have n1_ := aM (hbox); have n2_ := bZ hg HB; have n3_ := bZ hg HB; clear HB; have HB := n0_; have BK926 := n1_; have GW926 := n2_; have GE926 := n3_; clear n0_ n1_ n2_ n3_; clear hb hbox hg; obtain ⟨hcz7_0, hcz7_1, hcz7_2, hcz7_3, hcz7_4, hcz7_5⟩ := z6 BK926; obtain ⟨hfz7_0, hfz7_1, hfz7_2, hfz7_3, hfz7_4, hfz7_5⟩ := y6 BK926) | ((with_reducible refine gate_callee (f := 38) rfl ?_); refine goesL_ (some 5) rfl rfl Try.func38 (by kernel_rfl) rfl #[.agg #[.int .i64 a0_0, .int .i64 a0_1, .int .i64 a0_2, .int .i64 a0_3]] rfl (by first|rfl|(simp only [List.map_toArray, List.map_cons, List.map_nil]; try rfl)) ?_; (with_reducible refine (spec_IsMat.calls a0_0 a0_1 a0_2 a0_3 true _ A2.out).mono ?_); rintro e w8 ⟨rfl, hb⟩; refine ⟨_, rfl, ?_⟩; have n0_ := bB BK926 hb; have n1_ := bS HB hb; clear BK926; clear HB; have BK926 := n0_; have HB := n1_; clear n0_ n1_; (try clear hb); obtain ⟨hcz9_0, hcz9_1, hcz9_2, hcz9_3, hcz9_4, hcz9_5⟩ := z6 BK926; obtain ⟨hfz9_0, hfz9_1, hfz9_2, hfz9_3, hfz9_4, hfz9_5⟩ := y6 BK926) | (go_at_call 113; (with_reducible refine (spec_l02Kind.calls k a0_0 a0_1 a0_2 a0_3 t928 _ A4.out).mono ?_); rintro e w10 ⟨rfl, hb⟩; have n0_ := bB BK926 hb; have n1_ := bS HB hb; clear BK926; clear HB; have BK926 := n0_; have HB := n1_; clear n0_ n1_; (try clear hb)))
   go_ret
   exact ⟨by first|rfl|(simp [*, errW_none, errW_some] <;> rfl), by repeat (first | (with_reducible first | exact HB.out | apply bA|apply bN|apply b1 | refine below_set ?_ GE926.out) | exact HB.out)⟩
  ·rw [if_neg c5] at H
   have c5b0 : (t928 == 0) = false := beq_eq_false_iff_ne.mpr c5
   have c5b1 : (t928 != 0) = true := bne_iff_ne.mpr c5
   replace H := Option.bind_eq_some_iff.mp H
   obtain ⟨t929, A110, H⟩ := H
   try dsimp only at H
   have A11 := aM A110
   clear A110
   obtain rfl := Option.some.inj H
   go_enter Try.func49, Try.ntmps49
   go_wp2_with (first | ((with_reducible refine gate_dst (N := 1) rfl ?_); refine box_event ?hg (N := 1) ?hd (cs := #[.int .i64 a0_0, .int .i64 a0_1, .int .i64 a0_2, .int .i64 a0_3, .int .i64 a0_4, .int .i64 a0_5]) (t := 64) ?hr ?_; (case hd => rfl); (case hg => rfl); (case hr => first | (go_simp; done) | (go_simp; rfl)); intro gb926 hg w12 hbox hb; have n0_ := bS HB hb; have n1_ := aM (hbox); have n2_ := bZ hg HB; have n3_ := bZ hg HB; clear HB; have HB := n0_; have BK926 := n1_; have GW926 := n2_; have GE926 := n3_; clear n0_ n1_ n2_ n3_; clear hb hbox hg; obtain ⟨hcz13_0, hcz13_1, hcz13_2, hcz13_3, hcz13_4, hcz13_5⟩ := z6 BK926; obtain ⟨hfz13_0, hfz13_1, hfz13_2, hfz13_3, hfz13_4, hfz13_5⟩ := y6 BK926) | ((with_reducible refine gate_callee (f := 38) rfl ?_); refine goesL_ (some 5) rfl rfl Try.func38 (by kernel_rfl) rfl #[.agg #[.int .i64 a0_0, .int .i64 a0_1, .int .i64 a0_2, .int .i64 a0_3]] rfl (by first|rfl|(simp only [List.map_toArray, List.map_cons, List.map_nil]; try rfl)) ?_; (with_reducible refine (spec_IsMat.calls a0_0 a0_1 a0_2 a0_3 true _ A2.out).mono ?_); rintro e w14 ⟨rfl, hb⟩; refine ⟨_, rfl, ?_⟩; have n0_ := bB BK926 hb; have n1_ := bS HB hb; clear BK926; clear HB; have BK926 := n0_; have HB := n1_; clear n0_ n1_; (try clear hb); obtain ⟨hcz15_0, hcz15_1, hcz15_2, hcz15_3, hcz15_4, hcz15_5⟩ := z6 BK926; obtain ⟨hfz15_0, hfz15_1, hfz15_2, hfz15_3, hfz15_4, hfz15_5⟩ := y6 BK926) | (go_at_call 113; (with_reducible refine (spec_l02Kind.calls k a0_0 a0_1 a0_2 a0_3 t928 _ A4.out).mono ?_); rintro e w16 ⟨rfl, hb⟩; have n0_ := bB BK926 hb; have n1_ := bS HB hb; clear BK926; clear HB; have BK926 := n0_; have HB := n1_; clear n0_ n1_; (try clear hb); obtain ⟨hcz17_0, hcz17_1, hcz17_2, hcz17_3, hcz17_4, hcz17_5⟩ := z6 BK926; obtain ⟨hfz17_0, hfz17_1, hfz17_2, hfz17_3, hfz17_4, hfz17_5⟩ := y6 BK926) | (go_at_call 98; (with_reducible refine (spec_IsVec.calls a0_4 a0_5 t929 _ A11.out).mono ?_); rintro e w18 ⟨rfl, hb⟩; have n0_ := bB BK926 hb; have n1_ := bS HB hb; clear BK926; clear HB; have BK926 := n0_; have HB := n1_; clear n0_ n1_; (try clear hb)))
   go_ret
   exact ⟨by first|rfl|(simp [*, errW_none, errW_some] <;> rfl), by repeat (first | (with_reducible first | exact HB.out | apply bA|apply bN|apply b1 | refine below_set ?_ GE926.out) | exact HB.out)⟩
 ·replace c3 := Bool.eq_false_iff.mpr c3
  subst c3
  have H1 : (some false) = some r := by rw [if_neg (show ¬ (false = true) by decide)] at H; exact H
  clear H
  have H := H1
  clear H1
  obtain rfl := Option.some.inj H
  go_enter Try.func49, Try.ntmps49
  go_wp2_with (first | ((with_reducible refine gate_dst (N := 1) rfl ?_); refine box_event ?hg (N := 1) ?hd (cs := #[.int .i64 a0_0, .int .i64 a0_1, .int .i64 a0_2, .int .i64 a0_3, .int .i64 a0_4, .int .i64 a0_5]) (t := 64) ?hr ?_; (case hd => rfl); (case hg => rfl); (case hr => first | (go_simp; done) | (go_simp; rfl)); intro gb926 hg w19 hbox hb; have n0_ := bS HB hb; have n1_ := aM (hbox); have n2_ := bZ hg HB; have n3_ := bZ hg HB; clear HB; have HB := n0_; have BK926 := n1_; have GW926 := n2_; have GE926 := n3_; clear n0_ n1_ n2_ n3_; clear hb hbox hg; obtain ⟨hcz20_0, hcz20_1, hcz20_2, hcz20_3, hcz20_4, hcz20_5⟩ := z6 BK926; obtain ⟨hfz20_0, hfz20_1, hfz20_2, hfz20_3, hfz20_4, hfz20_5⟩ := y6 BK926) | ((with_reducible refine gate_callee (f := 38) rfl ?_); refine goesL_ (some 5) rfl rfl Try.func38 (by kernel_rfl) rfl #[.agg #[.int .i64 a0_0, .int .i64 a0_1, .int .i64 a0_2, .int .i64 a0_3]] rfl (by first|rfl|(simp only [List.map_toArray, List.map_cons, List.map_nil]; try rfl)) ?_; (with_reducible refine (spec_IsMat.calls a0_0 a0_1 a0_2 a0_3 false _ A2.out).mono ?_); rintro e w21 ⟨rfl, hb⟩; refine ⟨_, rfl, ?_⟩; have n0_ := bB BK926 hb; have n1_ := bS HB hb; clear BK926; clear HB; have BK926 := n0_; have HB := n1_; clear n0_ n1_; (try clear hb)))
  go_ret
  exact ⟨by first|rfl|(simp [*, errW_none, errW_some] <;> rfl), by repeat (first | (with_reducible first | exact HB.out | apply bA|apply bN|apply b1 | refine below_set ?_ GE926.out) | exact HB.out)⟩

end Go.Proofs.Ytcjchihnopmplaa.F

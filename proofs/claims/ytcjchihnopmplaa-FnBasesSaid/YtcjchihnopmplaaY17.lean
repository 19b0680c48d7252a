import Derived.Test.YtcjchihnopmplaaY0
import Derived.Test.YtcjchihnopmplaaY3
import Derived.Test.YtcjchihnopmplaaY16
namespace Go.Proofs.Ytcjchihnopmplaa.F
open Go.RowKit Go.Proofs.YtcjchihnopmplaaW.PrintWords Go.Proofs.YtcjchihnopmplaaW.PrintLast Go.Proofs.YtcjchihnopmplaaW.PrintMore
attribute [local go_sem] max2_int min2_int max_two min_two max_three min_three max_four min_four   -- for this text's walks alone
set_option linter.unusedVariables false
set_option linter.unusedSimpArgs false

mutual
def spec_l04Shortest.l0 : Nat → Int → List (S47) → Int → Int → Int → Int → Int → Option ((List (S47)))
 | 0, _, _, _, _, _, _, _ => none
 | k + 1, x0, x5, x6, x7, x794000, x794001, x794002 => if x7 < (x5.length : Int) then (if 0 ≤ x7 then ((spec_l04Norm.f x0 ((rd_T47 x5 x7).f0) ((rd_T47 x5 x7).f1)).bind fun t798 => (if t798 > 0 then (if t798 < x6 then ((spec_l03Has.f x794000 x794001 x794002 ((rd_T47 x5 x7).f0) ((rd_T47 x5 x7).f1)).bind fun t800 => (if t800 = true then (spec_l04Shortest.l0 k x0 x5 t798 (wrap64 (x7 + 1)) x794000 x794001 x794002) else (spec_l04Shortest.l0 k x0 x5 x6 (wrap64 (x7 + 1)) x794000 x794001 x794002))) else (spec_l04Shortest.l0 k x0 x5 x6 (wrap64 (x7 + 1)) x794000 x794001 x794002)) else (spec_l04Shortest.l0 k x0 x5 x6 (wrap64 (x7 + 1)) x794000 x794001 x794002))) else (none)) else (spec_l04Shortest.l1 k x0 x5 x6 (([] : List (S47))) 0 x794000 x794001 x794002)
def spec_l04Shortest.l1 : Nat → Int → List (S47) → Int → List (S47) → Int → Int → Int → Int → Option ((List (S47)))
 | 0, _, _, _, _, _, _, _, _ => none
 | k + 1, x0, x5, x6, x9, x10, x794000, x794001, x794002 => if x10 < (x5.length : Int) then (if 0 ≤ x10 then ((spec_l04Norm.f x0 ((rd_T47 x5 x10).f0) ((rd_T47 x5 x10).f1)).bind fun t805 => (if t805 = x6 then ((spec_l03Has.f x794000 x794001 x794002 ((rd_T47 x5 x10).f0) ((rd_T47 x5 x10).f1)).bind fun t807 => (if t807 = true then (if x9.length < 8796093022208 then (spec_l04Shortest.l1 k x0 x5 x6 (x9 ++ [(⟨(rd_T47 x5 x10).f0, (rd_T47 x5 x10).f1⟩ : S47)]) (wrap64 (x10 + 1)) x794000 x794001 x794002) else (none)) else (spec_l04Shortest.l1 k x0 x5 x6 x9 (wrap64 (x10 + 1)) x794000 x794001 x794002))) else (spec_l04Shortest.l1 k x0 x5 x6 x9 (wrap64 (x10 + 1)) x794000 x794001 x794002))) else (none)) else (some x9)
end
def spec_l04Shortest.f (k : Nat) (a0 : Int) (a1_0 : Int) (a1_1 : Int) (a1_2 : Int) : Option ((List (S47))) := (spec_l04Near.f k a0 (wrap64 (a1_0 * a1_0)) 128).bind fun t794 => (spec_l04Shortest.l0 k a0 t794 (wrap64 (a1_0 * a1_0)) 0 a1_0 a1_1 a1_2)
def spec_l04Shortest.T7 : Bool × List (List Nat × List Nat) := (true, [([], []), ([0], [0]), ([1], [1]), ([2], [2]), ([2], [2]), ([3, 4, 2], [2, 3, 4]), ([2, 5], [2, 5]), ([6, 2], [6]), ([7], [7]), ([7], [7]), ([7], [7]), ([9, 10, 7], [7, 9, 10]), ([11, 7], [7, 11]), ([8, 12, 7, 7], [7, 8, 12]), ([7, 13], [7, 13])])
def spec_l04Shortest.B7 : List Nat := [0, 1, 3, 7, 7, 31, 63, 127, 255, 255, 255, 1791, 3839, 8191, 16383]
theorem spec_l04Shortest.tab7 : rtab .any (opsOf Try.f126 7) = spec_l04Shortest.T7 := by kernel_rfl
theorem spec_l04Shortest.bits7 : waitsOk spec_l04Shortest.T7.2 spec_l04Shortest.B7 = true := by kernel_rfl
def spec_l04Shortest.T13 : Bool × List (List Nat × List Nat) := (true, [([], []), ([], []), ([], []), ([1, 2], [1, 2]), ([3], [3]), ([0, 4], [0, 4]), ([], []), ([5, 6], [5, 6]), ([7, 5], [7]), ([8], [8]), ([8], [8]), ([8], [8]), ([10, 11, 8], [8, 10, 11]), ([12, 8], [8, 12]), ([9, 13, 8, 8], [8, 9, 13]), ([8, 14], [8, 14])])
def spec_l04Shortest.B13 : List Nat := [0, 0, 0, 6, 14, 31, 0, 127, 255, 511, 511, 511, 3583, 7679, 16383, 32767]
theorem spec_l04Shortest.tab13 : rtab .any (opsOf Try.f126 13) = spec_l04Shortest.T13 := by kernel_rfl
theorem spec_l04Shortest.bits13 : waitsOk spec_l04Shortest.T13.2 spec_l04Shortest.B13 = true := by kernel_rfl
set_option maxHeartbeats 8000000 in
set_option maxRecDepth 100000 in
theorem spec_l04Shortest.calls (k : Nat) (a0 : Int) (a1_0 : Int) (a1_1 : Int) (a1_2 : Int) (r : List (S47)) (w : World) (h : spec_l04Shortest.f k a0 a1_0 a1_1 a1_2 = some r) :
  Calls Try.prog 126 #[.int .i64 a0, .agg #[.int .i64 a1_0, .int .i64 a1_1, .int .i64 a1_2]] w fun e w' => ∃ v0_ : Value, e = .returned (v0_) ∧ Kd.R k47 47 w' w.heap.size (fun _ => True) v0_ r ∧ Below w.heap.size w w' := by
 have hu33 := Try.underlying33
 have hu47 := Try.underlying47
 have HB := aM (Below.refl w.heap.size w)
 have H : ((spec_l04Near.f k a0 (wrap64 (a1_0 * a1_0)) 128).bind fun t794 => (spec_l04Shortest.l0 k a0 t794 (wrap64 (a1_0 * a1_0)) 0 a1_0 a1_1 a1_2)) = some r := h
 clear h
 obtain ⟨t794, A3, H⟩ := oB H
 try dsimp only at H
 have H' := aM H
 clear H
 go_enter Try.func126, Try.ntmps126
 go_wp2_with (first | (refine bE 3 #[.int .i64 a1_0, .int .i64 a1_1, .int .i64 a1_2] 33 ?_; intro gb793 hg w4 hbox hb; have BK793 := aM hbox; have GW793 := bZ hg HB; have GE793 := bZ hg HB; replace HB := bS HB hb; clear hb hbox hg; obtain ⟨hcz5_0, hcz5_1, hcz5_2⟩ := z3 BK793; obtain ⟨hfz5_0, hfz5_1, hfz5_2⟩ := y3 BK793) | ((with_reducible refine gate_callee (f := 71) rfl ?_); refine goesL_ (some 17) rfl rfl Try.func71 (by kernel_rfl) rfl #[.int .i64 a0, .int .i64 (wrap64 (a1_0 * a1_0)), .int .i64 128] rfl (by first|rfl|(simp only [List.map_toArray, List.map_cons, List.map_nil]; try rfl)) ?_; (with_reducible refine (spec_l04Near.calls k a0 (wrap64 (a1_0 * a1_0)) 128 t794 _ A3.out).mono ?_); rintro e w6 ⟨v795, rfl, ho0, hb⟩; refine ⟨_, rfl, ?_⟩; have HO796 := aM (Kd.R_lower ho0 (below_size qB)); replace BK793 := bB BK793 hb; replace HB := bS HB hb; (try clear hb); (try clear ho0); obtain ⟨hcz7_0, hcz7_1, hcz7_2⟩ := z3 BK793; obtain ⟨hfz7_0, hfz7_1, hfz7_2⟩ := y3 BK793))
 go_loopg [6, 7] k (fun kq v6 v7 w' => ∃ (x6_1 : Int) (x7_1 : Int), v6 = .int .i64 x6_1 ∧ v7 = .int .i64 x7_1 ∧ Aside0 (spec_l04Shortest.l0 kq a0 t794 x6_1 x7_1 a1_0 a1_1 a1_2 = some r) ∧ Aside0 (kq ≤ k) ∧ Aside0 (Kd.R k47 47 w' w.heap.size (fun _ => True) v795 t794) ∧ Aside0 (w'.heap[gb793]? = some (.cells #[.int .i64 a1_0, .int .i64 a1_1, .int .i64 a1_2] 33 (0, 0))) ∧ Aside0 (Below w.heap.size w w'))
 case atStart => exact ⟨(wrap64 (a1_0 * a1_0)), (0), (by first | rfl | (simp; done) | (simp [*]; done)), (by first | rfl | (simp; done) | (simp [*]; done)), H', ⟨Nat.le_refl _⟩, ⟨by (with_reducible repeat (first | apply Kd.R_alloc | apply Kd.R_drewN | apply Kd.R_drew)); exact HO796.out⟩, ⟨bk BK793⟩, ⟨qB⟩⟩
 case round =>
  clear H'
  try clear c1
  try clear p2
  try clear p6
  try clear c7
  try clear hcz5_0
  try clear hcz5_1
  try clear hcz5_2
  try clear hcz7_0
  try clear hcz7_1
  try clear hcz7_2
  try clear hfz5_0
  try clear hfz5_1
  try clear hfz5_2
  try clear hfz7_0
  try clear hfz7_1
  try clear hfz7_2
  obtain ⟨x6_1, x7_1, rfl, rfl, HA, HK1, HO_5, BK793, HB⟩ := hrel
  cases gk with
  | zero => exact absurd HA.out (by simp [spec_l04Shortest.l0])
  | succ k1 =>
   have H := HA.out
   clear HA
   simp only [spec_l04Shortest.l0] at H
   by_cases c8 : x7_1 < (t794.length : Int)
   ·rw [if_pos c8] at H
    have c8b0 : decide (x7_1 < (t794.length : Int)) = true := decide_eq_true c8
    clear c8
    by_cases c9 : 0 ≤ x7_1
    ·rw [if_pos c9] at H
     have c9b0 : decide (0 ≤ x7_1) = true := decide_eq_true c9
     clear c9
     obtain ⟨t798, A10, H⟩ := oB H
     try dsimp only at H
     by_cases c11 : t798 > 0
     ·rw [if_pos c11] at H
      have c11b0 : decide (0 < t798) = true := decide_eq_true c11
      clear c11
      by_cases c12 : t798 < x6_1
      ·rw [if_pos c12] at H
       have c12b0 : decide (t798 < x6_1) = true := decide_eq_true c12
       clear c12
       obtain ⟨t800, A13, H⟩ := oB H
       try dsimp only at H
       by_cases c14 : t800 = true
       ·subst c14
        have H1 : (spec_l04Shortest.l0 k1 a0 t794 t798 (wrap64 (x7_1 + 1)) a1_0 a1_1 a1_2) = some r := by rw [if_pos rfl] at H; exact H
        clear H
        have H := H1
        clear H1
        have H' := aM H
        clear H
        obtain ⟨Ao15, co15, eo15⟩ := Kd.R_slice HO_5.out
        subst eo15
        have p797 : 0 ≤ (x7_1 : Int) := of_decide_eq_true (by first | (with_reducible assumption) | assumption)
        have q797 : x7_1 < (t794.length : Int) := of_decide_eq_true (by first | (with_reducible assumption) | assumption)
        obtain ⟨ad797, e797, hx797_0, hx797_1⟩ := at_T47 (Kd.R_reads' HO_5.out).2.2 x7_1 p797 q797
        cases e797
        replace p797 := eq_true p797
        replace q797 := eq_true q797
        try go_wp2_with (first | (refine gC 116 ?_; refine gM 34 (spec_l04Norm.calls a0 ((rd_T47 t794 x7_1).f0) ((rd_T47 t794 x7_1).f1) t798 _ A10.out) Try.func116 ?_; rintro w16 hb; replace HO_5 := aM (Kd.R_below (by (with_reducible repeat (first | apply Kd.R_alloc | apply Kd.R_drewN | apply Kd.R_drew)); exact HO_5.out) hb); replace BK793 := bB BK793 hb; replace HB := bS HB hb; (try clear hb)))
        replace HO_5 := aM (Kd.R_drew HO_5.out)
        replace BK793 := aM (blk_drew BK793.out)
        replace HB := aM (below_drew1 HB.out)
        have p799 : 0 ≤ (x7_1 : Int) := of_decide_eq_true (by first | (with_reducible assumption) | assumption)
        have q799 : x7_1 < (t794.length : Int) := of_decide_eq_true (by first | (with_reducible assumption) | assumption)
        obtain ⟨ad799, e799, hx799_0, hx799_1⟩ := at_T47 (Kd.R_reads' HO_5.out).2.2 x7_1 p799 q799
        obtain rfl : ad797 = ad799 := (by injection e799)
        replace p799 := eq_true p799
        replace q799 := eq_true q799
        refine sT (fun w' => w'.cell? ⟨gb793, 0, none⟩ = some (.int .i64 a1_0) ∧ w'.cell? ⟨gb793, 1, none⟩ = some (.int .i64 a1_1) ∧ w'.cell? ⟨gb793, 2, none⟩ = some (.int .i64 a1_2) ∧ w'.cell? (ad797.add ((x7_1).toNat * 2)) = some (.int .i64 ((rd_T47 t794 x7_1).f0)) ∧ w'.cell? ⟨(ad797.add ((x7_1).toNat * 2)).block, (ad797.add ((x7_1).toNat * 2)).off + 1, none⟩ = some (.int .i64 ((rd_T47 t794 x7_1).f1))) [] ⟨cB BK793, cB BK793, cB BK793, hx799_0, hx799_1⟩ (fun hHeld => ?_); refine with_tabW spec_l04Shortest.tab7 spec_l04Shortest.bits7 (fun HT_ HW_ => ?_)
        generalize w16.drew = w17 at HO_5 BK793 HB hx799_0 hx799_1 hHeld ⊢
        refine pU 0 (some 35) 1 HT_ ?_
        refine pU 1 (some 36) 3 HT_ ?_
        refine pU 2 (some 37) 7 HT_ ?_
        refine pU 3 (some 38) 15 HT_ ?_
        refine pU 4 (some 39) 31 HT_ ?_
        refine pU 5 (some 40) 63 HT_ ?_
        refine pU 6 (some 41) 127 HT_ ?_
        refine pU 7 (some 42) 255 HT_ ?_
        refine pU 9 (some 44) 767 HT_ ?_
        refine pU 10 (some 45) 1791 HT_ ?_
        refine pU 11 (some 46) 3839 HT_ ?_
        refine tU 8 (some 43) 4095 HT_ HW_ hHeld ?_
        refine tU 12 (some 47) 8191 HT_ HW_ hHeld ?_
        refine oU 13 (some 48) 16383 HT_ (fun K hK => ?_)
        refine gO Try.func128 #[.agg #[.int .i64 a1_0, .int .i64 a1_1, .int .i64 a1_2], .agg #[.int .i64 ((rd_T47 t794 x7_1).f0), .int .i64 ((rd_T47 t794 x7_1).f1)]] ?_
        with_reducible refine (spec_l03Has.calls a1_0 a1_1 a1_2 ((rd_T47 t794 x7_1).f0) ((rd_T47 t794 x7_1).f1) true _ A13.out).mono ?_
        rintro e w18 ⟨rfl, hb⟩
        have HS3_ := (hb.cell (World.block_lt_of_cell? _ _ (hHeld.2.2.2.1))).trans (hHeld.2.2.2.1)
        have HS4_ := (hb.cell (World.block_lt_of_cell? _ _ (hHeld.2.2.2.2))).trans (hHeld.2.2.2.2)
        refine ⟨_, rfl, ?_⟩
        have n0_ := aM (Kd.R_below (by (with_reducible repeat (first | apply Kd.R_alloc | apply Kd.R_drewN | apply Kd.R_drew)); exact HO_5.out) hb)
        have n1_ := bB BK793 hb
        have n2_ := bS HB hb
        clear HO_5
        clear BK793
        clear HB
        have HO_5 := n0_
        have BK793 := n1_
        have HB := n2_
        clear n0_ n1_ n2_
        (try clear hb)
        (try clear hb2)
        (try clear hk)
        (try clear hi)
        refine hK.out _ _ ⟨cB BK793, cB BK793, cB BK793, HS3_, HS4_⟩ (fun hHeld => ?_)
        clear hK K
        refine nM 48 ?_
        refine pU 14 (some 49) 32767 HT_ ?_
        refine dN HT_ ?_
        try go_wp2
        go_roundg k1
        case measure => have := HK1.out; omega
        case rel => exact ⟨(t798), (wrap64 (x7_1 + 1)), (by first | rfl | (simp; done) | (simp [*]; done)), (by first | rfl | (simp; done) | (simp [*]; done)), H', ⟨by have := HK1.out; omega⟩, ⟨by (with_reducible repeat (first | apply Kd.R_alloc | apply Kd.R_drewN | apply Kd.R_drew)); exact HO_5.out⟩, ⟨bk BK793⟩, ⟨qB⟩⟩
       ·replace c14 := Bool.eq_false_iff.mpr c14
        subst c14
        have H1 : (spec_l04Shortest.l0 k1 a0 t794 x6_1 (wrap64 (x7_1 + 1)) a1_0 a1_1 a1_2) = some r := by rw [if_neg (show ¬ (false = true) by decide)] at H; exact H
        clear H
        have H := H1
        clear H1
        have H' := aM H
        clear H
        obtain ⟨Ao19, co19, eo19⟩ := Kd.R_slice HO_5.out
        subst eo19
        have p797 : 0 ≤ (x7_1 : Int) := of_decide_eq_true (by first | (with_reducible assumption) | assumption)
        have q797 : x7_1 < (t794.length : Int) := of_decide_eq_true (by first | (with_reducible assumption) | assumption)
        obtain ⟨ad797, e797, hx797_0, hx797_1⟩ := at_T47 (Kd.R_reads' HO_5.out).2.2 x7_1 p797 q797
        cases e797
        replace p797 := eq_true p797
        replace q797 := eq_true q797
        try go_wp2_with (first | (refine gC 116 ?_; refine gM 34 (spec_l04Norm.calls a0 ((rd_T47 t794 x7_1).f0) ((rd_T47 t794 x7_1).f1) t798 _ A10.out) Try.func116 ?_; rintro w20 hb; replace HO_5 := aM (Kd.R_below (by (with_reducible repeat (first | apply Kd.R_alloc | apply Kd.R_drewN | apply Kd.R_drew)); exact HO_5.out) hb); replace BK793 := bB BK793 hb; replace HB := bS HB hb; (try clear hb)))
        replace HO_5 := aM (Kd.R_drew HO_5.out)
        replace BK793 := aM (blk_drew BK793.out)
        replace HB := aM (below_drew1 HB.out)
        have p799 : 0 ≤ (x7_1 : Int) := of_decide_eq_true (by first | (with_reducible assumption) | assumption)
        have q799 : x7_1 < (t794.length : Int) := of_decide_eq_true (by first | (with_reducible assumption) | assumption)
        obtain ⟨ad799, e799, hx799_0, hx799_1⟩ := at_T47 (Kd.R_reads' HO_5.out).2.2 x7_1 p799 q799
        obtain rfl : ad797 = ad799 := (by injection e799)
        replace p799 := eq_true p799
        replace q799 := eq_true q799
        refine sT (fun w' => w'.cell? ⟨gb793, 0, none⟩ = some (.int .i64 a1_0) ∧ w'.cell? ⟨gb793, 1, none⟩ = some (.int .i64 a1_1) ∧ w'.cell? ⟨gb793, 2, none⟩ = some (.int .i64 a1_2) ∧ w'.cell? (ad797.add ((x7_1).toNat * 2)) = some (.int .i64 ((rd_T47 t794 x7_1).f0)) ∧ w'.cell? ⟨(ad797.add ((x7_1).toNat * 2)).block, (ad797.add ((x7_1).toNat * 2)).off + 1, none⟩ = some (.int .i64 ((rd_T47 t794 x7_1).f1))) [] ⟨cB BK793, cB BK793, cB BK793, hx799_0, hx799_1⟩ (fun hHeld => ?_); refine with_tabW spec_l04Shortest.tab7 spec_l04Shortest.bits7 (fun HT_ HW_ => ?_)
        generalize w20.drew = w21 at HO_5 BK793 HB hx799_0 hx799_1 hHeld ⊢
        refine pU 0 (some 35) 1 HT_ ?_
        refine pU 1 (some 36) 3 HT_ ?_
        refine pU 2 (some 37) 7 HT_ ?_
        refine pU 3 (some 38) 15 HT_ ?_
        refine pU 4 (some 39) 31 HT_ ?_
        refine pU 5 (some 40) 63 HT_ ?_
        refine pU 6 (some 41) 127 HT_ ?_
        refine pU 7 (some 42) 255 HT_ ?_
        refine pU 9 (some 44) 767 HT_ ?_
        refine pU 10 (some 45) 1791 HT_ ?_
        refine pU 11 (some 46) 3839 HT_ ?_
        refine tU 8 (some 43) 4095 HT_ HW_ hHeld ?_
        refine tU 12 (some 47) 8191 HT_ HW_ hHeld ?_
        refine oU 13 (some 48) 16383 HT_ (fun K hK => ?_)
        refine gO Try.func128 #[.agg #[.int .i64 a1_0, .int .i64 a1_1, .int .i64 a1_2], .agg #[.int .i64 ((rd_T47 t794 x7_1).f0), .int .i64 ((rd_T47 t794 x7_1).f1)]] ?_
        with_reducible refine (spec_l03Has.calls a1_0 a1_1 a1_2 ((rd_T47 t794 x7_1).f0) ((rd_T47 t794 x7_1).f1) false _ A13.out).mono ?_
        rintro e w22 ⟨rfl, hb⟩
        have HS3_ := (hb.cell (World.block_lt_of_cell? _ _ (hHeld.2.2.2.1))).trans (hHeld.2.2.2.1)
        have HS4_ := (hb.cell (World.block_lt_of_cell? _ _ (hHeld.2.2.2.2))).trans (hHeld.2.2.2.2)
        refine ⟨_, rfl, ?_⟩
        have n0_ := aM (Kd.R_below (by (with_reducible repeat (first | apply Kd.R_alloc | apply Kd.R_drewN | apply Kd.R_drew)); exact HO_5.out) hb)
        have n1_ := bB BK793 hb
        have n2_ := bS HB hb
        clear HO_5
        clear BK793
        clear HB
        have HO_5 := n0_
        have BK793 := n1_
        have HB := n2_
        clear n0_ n1_ n2_
        (try clear hb)
        (try clear hb2)
        (try clear hk)
        (try clear hi)
        refine hK.out _ _ ⟨cB BK793, cB BK793, cB BK793, HS3_, HS4_⟩ (fun hHeld => ?_)
        clear hK K
        refine nM 48 ?_
        refine pU 14 (some 49) 32767 HT_ ?_
        refine dN HT_ ?_
        try go_wp2
        go_roundg k1
        case measure => have := HK1.out; omega
        case rel => exact ⟨(x6_1), (wrap64 (x7_1 + 1)), (by first | rfl | (simp; done) | (simp [*]; done)), (by first | rfl | (simp; done) | (simp [*]; done)), H', ⟨by have := HK1.out; omega⟩, ⟨by (with_reducible repeat (first | apply Kd.R_alloc | apply Kd.R_drewN | apply Kd.R_drew)); exact HO_5.out⟩, ⟨bk BK793⟩, ⟨qB⟩⟩
      ·rw [if_neg c12] at H
       have c12b0 : decide (t798 < x6_1) = false := decide_eq_false c12
       clear c12
       have H' := aM H
       clear H
       obtain ⟨Ao23, co23, eo23⟩ := Kd.R_slice HO_5.out
       subst eo23
       have p797 : 0 ≤ (x7_1 : Int) := of_decide_eq_true (by first | (with_reducible assumption) | assumption)
       have q797 : x7_1 < (t794.length : Int) := of_decide_eq_true (by first | (with_reducible assumption) | assumption)
       obtain ⟨ad797, e797, hx797_0, hx797_1⟩ := at_T47 (Kd.R_reads' HO_5.out).2.2 x7_1 p797 q797
       cases e797
       replace p797 := eq_true p797
       replace q797 := eq_true q797
       try go_wp2_with (first | (refine gC 116 ?_; refine gM 34 (spec_l04Norm.calls a0 ((rd_T47 t794 x7_1).f0) ((rd_T47 t794 x7_1).f1) t798 _ A10.out) Try.func116 ?_; rintro w24 hb; replace HO_5 := aM (Kd.R_below (by (with_reducible repeat (first | apply Kd.R_alloc | apply Kd.R_drewN | apply Kd.R_drew)); exact HO_5.out) hb); replace BK793 := bB BK793 hb; replace HB := bS HB hb; (try clear hb)))
       replace HO_5 := aM (Kd.R_drew HO_5.out)
       replace BK793 := aM (blk_drew BK793.out)
       replace HB := aM (below_drew1 HB.out)
       refine start_ (n := 15) (S := fun w' => True) (ds := []) (bz 15 0) (by kernel_rfl) rfl rfl trivial (fun hHeld => ?_); refine with_tabW spec_l04Shortest.tab7 spec_l04Shortest.bits7 (fun HT_ HW_ => ?_)
       generalize w24.drew = w25 at HO_5 BK793 HB hHeld ⊢
       refine pU 0 (some 35) 1 HT_ ?_
       refine pU 1 (some 36) 3 HT_ ?_
       refine pU 2 (some 37) 7 HT_ ?_
       refine pU 3 (some 38) 15 HT_ ?_
       refine pU 4 (some 39) 31 HT_ ?_
       refine pU 5 (some 40) 63 HT_ ?_
       refine pU 6 (some 41) 127 HT_ ?_
       refine pU 7 (some 42) 255 HT_ ?_
       refine pV 8 (some 43) 511 HT_ ?_
       refine pV 9 (some 44) 1023 HT_ ?_
       refine pV 10 (some 45) 2047 HT_ ?_
       refine pV 11 (some 46) 4095 HT_ ?_
       refine pV 12 (some 47) 8191 HT_ ?_
       refine pV 13 (some 48) 16383 HT_ ?_
       refine pU 14 (some 49) 32767 HT_ ?_
       refine dN HT_ ?_
       try go_wp2
       go_roundg k1
       case measure => have := HK1.out; omega
       case rel => exact ⟨(x6_1), (wrap64 (x7_1 + 1)), (by first | rfl | (simp; done) | (simp [*]; done)), (by first | rfl | (simp; done) | (simp [*]; done)), H', ⟨by have := HK1.out; omega⟩, ⟨by (with_reducible repeat (first | apply Kd.R_alloc | apply Kd.R_drewN | apply Kd.R_drew)); exact HO_5.out⟩, ⟨bk BK793⟩, ⟨qB⟩⟩
     ·rw [if_neg c11] at H
      have c11b0 : decide (0 < t798) = false := decide_eq_false c11
      clear c11
      have H' := aM H
      clear H
      obtain ⟨Ao26, co26, eo26⟩ := Kd.R_slice HO_5.out
      subst eo26
      have p797 : 0 ≤ (x7_1 : Int) := of_decide_eq_true (by first | (with_reducible assumption) | assumption)
      have q797 : x7_1 < (t794.length : Int) := of_decide_eq_true (by first | (with_reducible assumption) | assumption)
      obtain ⟨ad797, e797, hx797_0, hx797_1⟩ := at_T47 (Kd.R_reads' HO_5.out).2.2 x7_1 p797 q797
      cases e797
      replace p797 := eq_true p797
      replace q797 := eq_true q797
      try go_wp2_with (first | (refine gC 116 ?_; refine gM 34 (spec_l04Norm.calls a0 ((rd_T47 t794 x7_1).f0) ((rd_T47 t794 x7_1).f1) t798 _ A10.out) Try.func116 ?_; rintro w27 hb; replace HO_5 := aM (Kd.R_below (by (with_reducible repeat (first | apply Kd.R_alloc | apply Kd.R_drewN | apply Kd.R_drew)); exact HO_5.out) hb); replace BK793 := bB BK793 hb; replace HB := bS HB hb; (try clear hb)))
      replace HO_5 := aM (Kd.R_drew HO_5.out)
      replace BK793 := aM (blk_drew BK793.out)
      replace HB := aM (below_drew1 HB.out)
      refine start_ (n := 15) (S := fun w' => True) (ds := []) (bz 15 0) (by kernel_rfl) rfl rfl trivial (fun hHeld => ?_); refine with_tabW spec_l04Shortest.tab7 spec_l04Shortest.bits7 (fun HT_ HW_ => ?_)
      generalize w27.drew = w28 at HO_5 BK793 HB hHeld ⊢
      refine pU 0 (some 35) 1 HT_ ?_
      refine pU 1 (some 36) 3 HT_ ?_
      refine pU 2 (some 37) 7 HT_ ?_
      refine pV 3 (some 38) 15 HT_ ?_
      refine pV 4 (some 39) 31 HT_ ?_
      refine pV 5 (some 40) 63 HT_ ?_
      refine pU 6 (some 41) 127 HT_ ?_
      refine pU 7 (some 42) 255 HT_ ?_
      refine pV 8 (some 43) 511 HT_ ?_
      refine pV 9 (some 44) 1023 HT_ ?_
      refine pV 10 (some 45) 2047 HT_ ?_
      refine pV 11 (some 46) 4095 HT_ ?_
      refine pV 12 (some 47) 8191 HT_ ?_
      refine pV 13 (some 48) 16383 HT_ ?_
      refine pU 14 (some 49) 32767 HT_ ?_
      refine dN HT_ ?_
      try go_wp2
      go_roundg k1
      case measure => have := HK1.out; omega
      case rel => exact ⟨(x6_1), (wrap64 (x7_1 + 1)), (by first | rfl | (simp; done) | (simp [*]; done)), (by first | rfl | (simp; done) | (simp [*]; done)), H', ⟨by have := HK1.out; omega⟩, ⟨by (with_reducible repeat (first | apply Kd.R_alloc | apply Kd.R_drewN | apply Kd.R_drew)); exact HO_5.out⟩, ⟨bk BK793⟩, ⟨qB⟩⟩
    ·rw [if_neg c9] at H
     exact absurd H (by simp)
   ·rw [if_neg c8] at H
    have c8b0 : decide (x7_1 < (t794.length : Int)) = false := decide_eq_false c8
    clear c8
    obtain ⟨y801, hy801⟩ : ∃ y_ : List (S47), y_ = (([] : List (S47))) := ⟨_, rfl⟩
    replace H : (spec_l04Shortest.l1 k1 a0 t794 x6_1 y801 0 a1_0 a1_1 a1_2) = some r := by first | (rw [hy801]; with_reducible exact H) | (have H2_ := (Option.bind_some _ _).symm.trans H; rw [hy801]; with_reducible exact H2_) | (have H2_ := (Option.bind_some _ _).symm.trans H; with_reducible exact H2_) | with_reducible exact H | (rw [hy801]; exact H) | exact H
    have Ny801 := aM hy801
    clear hy801
    have H' := aM H
    clear H
    obtain ⟨Ao29, co29, eo29⟩ := Kd.R_slice HO_5.out
    subst eo29
    go_wp2_with (first | ((with_reducible refine gate_dst (N := 51) rfl ?_); refine Kd.R_lit k47 _ 47 ?hg (N := 51) ?hd (xs := ([] : List (S47))) (inner := []) (ok := fun _ => True) (okp := fun _ => True) ?hr ?hp (fun _ hk => hk) trivial (Below.refl _ _) (Nat.le_refl _) (by simp) ?_; (case hd => rfl); (case hg => rfl); (case hr => first | (go_simp; done) | (go_simp; rfl)); (case hp => exact (Reps.none _ _)); intro v802 w30 ho31 hb hg_ hnew_; clear hg_ hnew_; (first | rw [← Ny801.out] at ho31 | (simp only [Int.reduceToNat] at ho31; rw [← Ny801.out] at ho31)); have HO803 := aM (Kd.R_lower (Kd.R_new' ho31 (Kd.R_lt (by (with_reducible repeat (first | apply Kd.R_alloc | apply Kd.R_drewN | apply Kd.R_drew)); exact HO_5.out))) (below_size qB)); replace HO_5 := aM (Kd.R_elder' (by (with_reducible repeat (first | apply Kd.R_alloc | apply Kd.R_drewN | apply Kd.R_drew)); exact HO_5.out) (Kd.R_base ho31) hb); replace BK793 := bB BK793 hb; replace HB := bS HB hb; clear hb ho31))
    go_loopg [9, 10] k1 (fun kq v9 v10 w' => ∃ (x9_2 : List (S47)) (x10_2 : Int), v10 = .int .i64 x10_2 ∧ Aside0 (spec_l04Shortest.l1 kq a0 t794 x6_1 x9_2 x10_2 a1_0 a1_1 a1_2 = some r) ∧ Aside0 (kq ≤ k1) ∧ Aside0 (Kd.R k47 47 w' w.heap.size (fun k_ => some k_ ≠ (v9 : Value).ownBlock) (.slice Ao29 t794.length co29) t794) ∧ Aside0 (Kd.R k47 47 w' w.heap.size (fun k_ => some k_ ≠ ((.slice Ao29 t794.length co29) : Value).ownBlock) v9 x9_2) ∧ Aside0 (w'.heap[gb793]? = some (.cells #[.int .i64 a1_0, .int .i64 a1_1, .int .i64 a1_2] 33 (0, 0))) ∧ Aside0 (Below w.heap.size w w'))
    case atStart => exact ⟨(y801), (0), (by first | rfl | (simp; done) | (simp [*]; done)), H', ⟨Nat.le_refl _⟩, ⟨by (with_reducible repeat (first | apply Kd.R_alloc | apply Kd.R_drewN | apply Kd.R_drew)); exact Kd.R_mono HO_5.out (fun _ hk => hk.2)⟩, ⟨by (with_reducible repeat (first | apply Kd.R_alloc | apply Kd.R_drewN | apply Kd.R_drew)); exact Kd.R_mono HO803.out (fun _ hk => hk.2)⟩, ⟨bk BK793⟩, ⟨qB⟩⟩
    case round =>
     clear H'
     try clear c1
     try clear p2
     try clear p6
     try clear p7
     try clear q7
     try clear hx7
     try clear c8
     try clear c8b0
     try clear c9
     try clear c11
     try clear c11b0
     try clear c12
     try clear c12b0
     try clear c14
     try clear hx797_0
     try clear hx797_1
     try clear hx799_0
     try clear hx799_1
     try clear p797
     try clear p799
     try clear q797
     try clear q799
     obtain ⟨x9_2, x10_2, rfl, HA, HK2, HO_5, HO_9, BK793, HB⟩ := hrel
     cases gk with
     | zero => exact absurd HA.out (by simp [spec_l04Shortest.l1])
     | succ k2 =>
      have H := HA.out
      clear HA
      simp only [spec_l04Shortest.l1] at H
      by_cases c32 : x10_2 < (t794.length : Int)
      ·rw [if_pos c32] at H
       have c32b0 : decide (x10_2 < (t794.length : Int)) = true := decide_eq_true c32
       clear c32
       by_cases c33 : 0 ≤ x10_2
       ·rw [if_pos c33] at H
        have c33b0 : decide (0 ≤ x10_2) = true := decide_eq_true c33
        clear c33
        obtain ⟨t805, A34, H⟩ := oB H
        try dsimp only at H
        by_cases c35 : t805 = x6_1
        ·rw [if_pos c35] at H
         have c35b0 : (t805 == x6_1) = true := beq_iff_eq.mpr c35
         have c35b1 : (t805 != x6_1) = false := bne_eq_false_iff_eq.mpr c35
         clear c35
         obtain ⟨t807, A36, H⟩ := oB H
         try dsimp only at H
         by_cases c37 : t807 = true
         ·subst c37
          have H1 : (if x9_2.length < 8796093022208 then (spec_l04Shortest.l1 k2 a0 t794 x6_1 (x9_2 ++ [(⟨(rd_T47 t794 x10_2).f0, (rd_T47 t794 x10_2).f1⟩ : S47)]) (wrap64 (x10_2 + 1)) a1_0 a1_1 a1_2) else (none)) = some r := by rw [if_pos rfl] at H; exact H
          clear H
          have H := H1
          clear H1
          by_cases c38 : x9_2.length < 8796093022208
          ·rw [if_pos c38] at H
           have LMc38 := aM c38
           clear c38
           obtain ⟨y809, hy809⟩ : ∃ y_ : List (S47), y_ = (x9_2 ++ [(⟨(rd_T47 t794 x10_2).f0, (rd_T47 t794 x10_2).f1⟩ : S47)]) := ⟨_, rfl⟩
           replace H : (spec_l04Shortest.l1 k2 a0 t794 x6_1 y809 (wrap64 (x10_2 + 1)) a1_0 a1_1 a1_2) = some r := by first | (rw [hy809]; with_reducible exact H) | (have H2_ := (Option.bind_some _ _).symm.trans H; rw [hy809]; with_reducible exact H2_) | (have H2_ := (Option.bind_some _ _).symm.trans H; with_reducible exact H2_) | with_reducible exact H | (rw [hy809]; exact H) | exact H
           have Ny809 := aM hy809
           clear hy809
           have H' := aM H
           clear H
           try go_wp2
           replace HO_5 := aM (Kd.R_drew HO_5.out)
           replace HO_9 := aM (Kd.R_drew HO_9.out)
           replace BK793 := aM (blk_drew BK793.out)
           replace HB := aM (below_drew1 HB.out)
           have p804 : 0 ≤ (x10_2 : Int) := of_decide_eq_true (by first | (with_reducible assumption) | assumption)
           have q804 : x10_2 < (t794.length : Int) := of_decide_eq_true (by first | (with_reducible assumption) | assumption)
           obtain ⟨ad804, e804, hx804_0, hx804_1⟩ := at_T47 (Kd.R_reads' HO_5.out).2.2 x10_2 p804 q804
           cases e804
           replace p804 := eq_true p804
           replace q804 := eq_true q804
           have p806 : 0 ≤ (x10_2 : Int) := of_decide_eq_true (by first | (with_reducible assumption) | assumption)
           have q806 : x10_2 < (t794.length : Int) := of_decide_eq_true (by first | (with_reducible assumption) | assumption)
           obtain ⟨ad806, e806, hx806_0, hx806_1⟩ := at_T47 (Kd.R_reads' HO_5.out).2.2 x10_2 p806 q806
           obtain rfl : ad804 = ad806 := (by injection e806)
           replace p806 := eq_true p806
           replace q806 := eq_true q806
           refine sT (fun w' => w'.cell? ⟨gb793, 0, none⟩ = some (.int .i64 a1_0) ∧ w'.cell? ⟨gb793, 1, none⟩ = some (.int .i64 a1_1) ∧ w'.cell? ⟨gb793, 2, none⟩ = some (.int .i64 a1_2) ∧ w'.cell? (ad804.add ((x10_2).toNat * 2)) = some (.int .i64 ((rd_T47 t794 x10_2).f0)) ∧ w'.cell? ⟨(ad804.add ((x10_2).toNat * 2)).block, (ad804.add ((x10_2).toNat * 2)).off + 1, none⟩ = some (.int .i64 ((rd_T47 t794 x10_2).f1)) ∧ w'.cell? (ad804.add ((x10_2).toNat * 2)) = some (.int .i64 ((rd_T47 t794 x10_2).f0)) ∧ w'.cell? ⟨(ad804.add ((x10_2).toNat * 2)).block, (ad804.add ((x10_2).toNat * 2)).off + 1, none⟩ = some (.int .i64 ((rd_T47 t794 x10_2).f1))) [] ⟨cB BK793, cB BK793, cB BK793, hx804_0, hx804_1, hx806_0, hx806_1⟩ (fun hHeld => ?_); refine with_tabW spec_l04Shortest.tab13 spec_l04Shortest.bits13 (fun HT_ HW_ => ?_)
           generalize wr.drew = w39 at HO_5 HO_9 BK793 HB hx804_0 hx804_1 hx806_0 hx806_1 hHeld ⊢
           refine pU 0 (some 58) 1 HT_ ?_
           refine pU 1 (some 59) 3 HT_ ?_
           refine pU 2 (some 60) 7 HT_ ?_
           refine pU 3 (some 61) 15 HT_ ?_
           refine pU 6 (some 64) 79 HT_ ?_
           refine tU 4 (some 62) 95 HT_ HW_ hHeld ?_
           refine oU 5 (some 63) 127 HT_ (fun K hK => ?_)
           refine gO Try.func116 #[.int .i64 a0, .agg #[.int .i64 ((rd_T47 t794 x10_2).f0), .int .i64 ((rd_T47 t794 x10_2).f1)]] ?_
           with_reducible refine (spec_l04Norm.calls a0 ((rd_T47 t794 x10_2).f0) ((rd_T47 t794 x10_2).f1) t805 _ A34.out).mono ?_
           rintro e w40 ⟨rfl, hb⟩
           have HS3_ := (hb.cell (World.block_lt_of_cell? _ _ (hHeld.2.2.2.1))).trans (hHeld.2.2.2.1)
           have HS4_ := (hb.cell (World.block_lt_of_cell? _ _ (hHeld.2.2.2.2.1))).trans (hHeld.2.2.2.2.1)
           have HS5_ := (hb.cell (World.block_lt_of_cell? _ _ (hHeld.2.2.2.2.2.1))).trans (hHeld.2.2.2.2.2.1)
           have HS6_ := (hb.cell (World.block_lt_of_cell? _ _ (hHeld.2.2.2.2.2.2))).trans (hHeld.2.2.2.2.2.2)
           refine ⟨_, rfl, ?_⟩
           have n0_ := aM (Kd.R_below (by (with_reducible repeat (first | apply Kd.R_alloc | apply Kd.R_drewN | apply Kd.R_drew)); exact HO_5.out) hb)
           have n1_ := aM (Kd.R_below (by (with_reducible repeat (first | apply Kd.R_alloc | apply Kd.R_drewN | apply Kd.R_drew)); exact HO_9.out) hb)
           have n2_ := bB BK793 hb
           have n3_ := bS HB hb
           clear HO_5
           clear HO_9
           clear BK793
           clear HB
           have HO_5 := n0_
           have HO_9 := n1_
           have BK793 := n2_
           have HB := n3_
           clear n0_ n1_ n2_ n3_
           (try clear hb)
           (try clear hb2)
           (try clear hk)
           (try clear hi)
           refine hK.out _ _ ⟨cB BK793, cB BK793, cB BK793, HS3_, HS4_, HS5_, HS6_⟩ (fun hHeld => ?_)
           clear hK K
           refine nM 63 ?_
           refine pU 7 (some 65) 255 HT_ ?_
           refine pU 8 (some 66) 511 HT_ ?_
           refine pU 10 (some 68) 1535 HT_ ?_
           refine pU 11 (some 69) 3583 HT_ ?_
           refine pU 12 (some 70) 7679 HT_ ?_
           refine tU 9 (some 67) 8191 HT_ HW_ hHeld ?_
           refine tU 13 (some 71) 16383 HT_ HW_ hHeld ?_
           refine oU 14 (some 72) 32767 HT_ (fun K hK => ?_)
           refine gO Try.func128 #[.agg #[.int .i64 a1_0, .int .i64 a1_1, .int .i64 a1_2], .agg #[.int .i64 ((rd_T47 t794 x10_2).f0), .int .i64 ((rd_T47 t794 x10_2).f1)]] ?_
           with_reducible refine (spec_l03Has.calls a1_0 a1_1 a1_2 ((rd_T47 t794 x10_2).f0) ((rd_T47 t794 x10_2).f1) true _ A36.out).mono ?_
           rintro e w41 ⟨rfl, hb⟩
           have HS3_ := (hb.cell (World.block_lt_of_cell? _ _ (hHeld.2.2.2.1))).trans (hHeld.2.2.2.1)
           have HS4_ := (hb.cell (World.block_lt_of_cell? _ _ (hHeld.2.2.2.2.1))).trans (hHeld.2.2.2.2.1)
           have HS5_ := (hb.cell (World.block_lt_of_cell? _ _ (hHeld.2.2.2.2.2.1))).trans (hHeld.2.2.2.2.2.1)
           have HS6_ := (hb.cell (World.block_lt_of_cell? _ _ (hHeld.2.2.2.2.2.2))).trans (hHeld.2.2.2.2.2.2)
           refine ⟨_, rfl, ?_⟩
           have n0_ := aM (Kd.R_below (by (with_reducible repeat (first | apply Kd.R_alloc | apply Kd.R_drewN | apply Kd.R_drew)); exact HO_5.out) hb)
           have n1_ := aM (Kd.R_below (by (with_reducible repeat (first | apply Kd.R_alloc | apply Kd.R_drewN | apply Kd.R_drew)); exact HO_9.out) hb)
           have n2_ := bB BK793 hb
           have n3_ := bS HB hb
           clear HO_5
           clear HO_9
           clear BK793
           clear HB
           have HO_5 := n0_
           have HO_9 := n1_
           have BK793 := n2_
           have HB := n3_
           clear n0_ n1_ n2_ n3_
           (try clear hb)
           (try clear hb2)
           (try clear hk)
           (try clear hi)
           refine hK.out _ _ ⟨cB BK793, cB BK793, cB BK793, HS3_, HS4_, HS5_, HS6_⟩ (fun hHeld => ?_)
           clear hK K
           refine nM 72 ?_
           refine pU 15 (some 73) 65535 HT_ ?_
           refine dN HT_ ?_
           have p808 : 0 ≤ (x10_2 : Int) := of_decide_eq_true (by first | (with_reducible assumption) | assumption)
           have q808 : x10_2 < (t794.length : Int) := of_decide_eq_true (by first | (with_reducible assumption) | assumption)
           obtain ⟨ad808, e808, hx808_0, hx808_1⟩ := at_T47 (Kd.R_reads' HO_5.out).2.2 x10_2 p808 q808
           obtain rfl : ad804 = ad808 := (by injection e808)
           replace p808 := eq_true p808
           replace q808 := eq_true q808
           try go_wp2_with (first | ((with_reducible refine gate_builtin (b := .append) (xs := #[.tmp 74, .tmp 79]) rfl ?_); at_builtin; refine Kd.R_append k47 (w0 := w) w.heap.size rfl (.tmp 74) (.tmp 79) 22 47 (.agg #[(.int .i64 0), (.int .i64 0)]) 16 rfl Try.underlying22 info47 rfl (by decide) (by omega) u9 x9_2 (⟨(rd_T47 t794 x10_2).f0, (rd_T47 t794 x10_2).f1⟩ : S47) [.int .i64 ((rd_T47 t794 x10_2).f0), .int .i64 ((rd_T47 t794 x10_2).f1)] (fun k_ => some k_ ≠ (.slice (some ad804) t794.length co29 : Value).ownBlock) (fun _ => False) rfl rfl ?aP (fun _ hk => hk.elim) ?aF ?aO ?aB ?aS ?aL ?_; (case aP => exact k47_mkM _ _ _ (⟨(rd_T47 t794 x10_2).f0, (rd_T47 t794 x10_2).f1⟩ : S47)); (case aB => exact qB); (case aF => exact (fun k_ hk => Kd.fresh' (Kd.R_lt (by (with_reducible repeat (first | apply Kd.R_alloc | apply Kd.R_drewN | apply Kd.R_drew)); exact HO_5.out)) k_ hk)); (case aO => exact (by (with_reducible repeat (first | apply Kd.R_alloc | apply Kd.R_drewN | apply Kd.R_drew)); exact HO_9.out)); (case aS => exact (below_size qB)); (case aL => have := LMc38.out; omega); intro v810 w42 ho hb hg hat; rw [← Ny809.out] at ho; have HO811 := aM ho; replace HO_5 := aM (Kd.R_after (ok := (fun _ => True)) (by (with_reducible repeat (first | apply Kd.R_alloc | apply Kd.R_drewN | apply Kd.R_drew)); exact Kd.R_mono HO_5.out (fun _ hk => ⟨trivial, hk⟩)) hg hat); replace BK793 := aM (blk_grown (g := gb793) (o := .cells #[.int .i64 a1_0, .int .i64 a1_1, .int .i64 a1_2] 33 (0, 0)) (bk BK793) hg (Kd.R_ne HO_9.out BK793.out (by decide))); replace HB := aM hb; clear HO_9; clear ho hb hg hat))
           go_roundg k2
           case measure => have := HK1.out; have := HK2.out; omega
           case rel => exact ⟨(y809), (wrap64 (x10_2 + 1)), (by first | rfl | (simp; done) | (simp [*]; done)), H', ⟨by have := HK1.out; have := HK2.out; omega⟩, ⟨by (with_reducible repeat (first | apply Kd.R_alloc | apply Kd.R_drewN | apply Kd.R_drew)); exact Kd.R_mono HO_5.out (fun _ hk => hk.2)⟩, ⟨by (with_reducible repeat (first | apply Kd.R_alloc | apply Kd.R_drewN | apply Kd.R_drew)); exact HO811.out⟩, ⟨bk BK793⟩, ⟨qB⟩⟩
          ·rw [if_neg c38] at H
           exact absurd H (by simp)
         ·replace c37 := Bool.eq_false_iff.mpr c37
          subst c37
          have H1 : (spec_l04Shortest.l1 k2 a0 t794 x6_1 x9_2 (wrap64 (x10_2 + 1)) a1_0 a1_1 a1_2) = some r := by rw [if_neg (show ¬ (false = true) by decide)] at H; exact H
          clear H
          have H := H1
          clear H1
          have H' := aM H
          clear H
          try go_wp2
          replace HO_5 := aM (Kd.R_drew HO_5.out)
          replace HO_9 := aM (Kd.R_drew HO_9.out)
          replace BK793 := aM (blk_drew BK793.out)
          replace HB := aM (below_drew1 HB.out)
          have p804 : 0 ≤ (x10_2 : Int) := of_decide_eq_true (by first | (with_reducible assumption) | assumption)
          have q804 : x10_2 < (t794.length : Int) := of_decide_eq_true (by first | (with_reducible assumption) | assumption)
          obtain ⟨ad804, e804, hx804_0, hx804_1⟩ := at_T47 (Kd.R_reads' HO_5.out).2.2 x10_2 p804 q804
          cases e804
          replace p804 := eq_true p804
          replace q804 := eq_true q804
          have p806 : 0 ≤ (x10_2 : Int) := of_decide_eq_true (by first | (with_reducible assumption) | assumption)
          have q806 : x10_2 < (t794.length : Int) := of_decide_eq_true (by first | (with_reducible assumption) | assumption)
          obtain ⟨ad806, e806, hx806_0, hx806_1⟩ := at_T47 (Kd.R_reads' HO_5.out).2.2 x10_2 p806 q806
          obtain rfl : ad804 = ad806 := (by injection e806)
          replace p806 := eq_true p806
          replace q806 := eq_true q806
          refine sT (fun w' => w'.cell? ⟨gb793, 0, none⟩ = some (.int .i64 a1_0) ∧ w'.cell? ⟨gb793, 1, none⟩ = some (.int .i64 a1_1) ∧ w'.cell? ⟨gb793, 2, none⟩ = some (.int .i64 a1_2) ∧ w'.cell? (ad804.add ((x10_2).toNat * 2)) = some (.int .i64 ((rd_T47 t794 x10_2).f0)) ∧ w'.cell? ⟨(ad804.add ((x10_2).toNat * 2)).block, (ad804.add ((x10_2).toNat * 2)).off + 1, none⟩ = some (.int .i64 ((rd_T47 t794 x10_2).f1)) ∧ w'.cell? (ad804.add ((x10_2).toNat * 2)) = some (.int .i64 ((rd_T47 t794 x10_2).f0)) ∧ w'.cell? ⟨(ad804.add ((x10_2).toNat * 2)).block, (ad804.add ((x10_2).toNat * 2)).off + 1, none⟩ = some (.int .i64 ((rd_T47 t794 x10_2).f1))) [] ⟨cB BK793, cB BK793, cB BK793, hx804_0, hx804_1, hx806_0, hx806_1⟩ (fun hHeld => ?_); refine with_tabW spec_l04Shortest.tab13 spec_l04Shortest.bits13 (fun HT_ HW_ => ?_)
          generalize wr.drew = w43 at HO_5 HO_9 BK793 HB hx804_0 hx804_1 hx806_0 hx806_1 hHeld ⊢
          refine pU 0 (some 58) 1 HT_ ?_
          refine pU 1 (some 59) 3 HT_ ?_
          refine pU 2 (some 60) 7 HT_ ?_
          refine pU 3 (some 61) 15 HT_ ?_
          refine pU 6 (some 64) 79 HT_ ?_
          refine tU 4 (some 62) 95 HT_ HW_ hHeld ?_
          refine oU 5 (some 63) 127 HT_ (fun K hK => ?_)
          refine gO Try.func116 #[.int .i64 a0, .agg #[.int .i64 ((rd_T47 t794 x10_2).f0), .int .i64 ((rd_T47 t794 x10_2).f1)]] ?_
          with_reducible refine (spec_l04Norm.calls a0 ((rd_T47 t794 x10_2).f0) ((rd_T47 t794 x10_2).f1) t805 _ A34.out).mono ?_
          rintro e w44 ⟨rfl, hb⟩
          have HS3_ := (hb.cell (World.block_lt_of_cell? _ _ (hHeld.2.2.2.1))).trans (hHeld.2.2.2.1)
          have HS4_ := (hb.cell (World.block_lt_of_cell? _ _ (hHeld.2.2.2.2.1))).trans (hHeld.2.2.2.2.1)
          have HS5_ := (hb.cell (World.block_lt_of_cell? _ _ (hHeld.2.2.2.2.2.1))).trans (hHeld.2.2.2.2.2.1)
          have HS6_ := (hb.cell (World.block_lt_of_cell? _ _ (hHeld.2.2.2.2.2.2))).trans (hHeld.2.2.2.2.2.2)
          refine ⟨_, rfl, ?_⟩
          have n0_ := aM (Kd.R_below (by (with_reducible repeat (first | apply Kd.R_alloc | apply Kd.R_drewN | apply Kd.R_drew)); exact HO_5.out) hb)
          have n1_ := aM (Kd.R_below (by (with_reducible repeat (first | apply Kd.R_alloc | apply Kd.R_drewN | apply Kd.R_drew)); exact HO_9.out) hb)
          have n2_ := bB BK793 hb
          have n3_ := bS HB hb
          clear HO_5
          clear HO_9
          clear BK793
          clear HB
          have HO_5 := n0_
          have HO_9 := n1_
          have BK793 := n2_
          have HB := n3_
          clear n0_ n1_ n2_ n3_
          (try clear hb)
          (try clear hb2)
          (try clear hk)
          (try clear hi)
          refine hK.out _ _ ⟨cB BK793, cB BK793, cB BK793, HS3_, HS4_, HS5_, HS6_⟩ (fun hHeld => ?_)
          clear hK K
          refine nM 63 ?_
          refine pU 7 (some 65) 255 HT_ ?_
          refine pU 8 (some 66) 511 HT_ ?_
          refine pU 10 (some 68) 1535 HT_ ?_
          refine pU 11 (some 69) 3583 HT_ ?_
          refine pU 12 (some 70) 7679 HT_ ?_
          refine tU 9 (some 67) 8191 HT_ HW_ hHeld ?_
          refine tU 13 (some 71) 16383 HT_ HW_ hHeld ?_
          refine oU 14 (some 72) 32767 HT_ (fun K hK => ?_)
          refine gO Try.func128 #[.agg #[.int .i64 a1_0, .int .i64 a1_1, .int .i64 a1_2], .agg #[.int .i64 ((rd_T47 t794 x10_2).f0), .int .i64 ((rd_T47 t794 x10_2).f1)]] ?_
          with_reducible refine (spec_l03Has.calls a1_0 a1_1 a1_2 ((rd_T47 t794 x10_2).f0) ((rd_T47 t794 x10_2).f1) false _ A36.out).mono ?_
          rintro e w45 ⟨rfl, hb⟩
          have HS3_ := (hb.cell (World.block_lt_of_cell? _ _ (hHeld.2.2.2.1))).trans (hHeld.2.2.2.1)
          have HS4_ := (hb.cell (World.block_lt_of_cell? _ _ (hHeld.2.2.2.2.1))).trans (hHeld.2.2.2.2.1)
          have HS5_ := (hb.cell (World.block_lt_of_cell? _ _ (hHeld.2.2.2.2.2.1))).trans (hHeld.2.2.2.2.2.1)
          have HS6_ := (hb.cell (World.block_lt_of_cell? _ _ (hHeld.2.2.2.2.2.2))).trans (hHeld.2.2.2.2.2.2)
          refine ⟨_, rfl, ?_⟩
          have n0_ := aM (Kd.R_below (by (with_reducible repeat (first | apply Kd.R_alloc | apply Kd.R_drewN | apply Kd.R_drew)); exact HO_5.out) hb)
          have n1_ := aM (Kd.R_below (by (with_reducible repeat (first | apply Kd.R_alloc | apply Kd.R_drewN | apply Kd.R_drew)); exact HO_9.out) hb)
          have n2_ := bB BK793 hb
          have n3_ := bS HB hb
          clear HO_5
          clear HO_9
          clear BK793
          clear HB
          have HO_5 := n0_
          have HO_9 := n1_
          have BK793 := n2_
          have HB := n3_
          clear n0_ n1_ n2_ n3_
          (try clear hb)
          (try clear hb2)
          (try clear hk)
          (try clear hi)
          refine hK.out _ _ ⟨cB BK793, cB BK793, cB BK793, HS3_, HS4_, HS5_, HS6_⟩ (fun hHeld => ?_)
          clear hK K
          refine nM 72 ?_
          refine pU 15 (some 73) 65535 HT_ ?_
          refine dN HT_ ?_
          try go_wp2
          go_roundg k2
          case measure => have := HK1.out; have := HK2.out; omega
          case rel => exact ⟨(x9_2), (wrap64 (x10_2 + 1)), (by first | rfl | (simp; done) | (simp [*]; done)), H', ⟨by have := HK1.out; have := HK2.out; omega⟩, ⟨by (with_reducible repeat (first | apply Kd.R_alloc | apply Kd.R_drewN | apply Kd.R_drew)); exact HO_5.out⟩, ⟨by (with_reducible repeat (first | apply Kd.R_alloc | apply Kd.R_drewN | apply Kd.R_drew)); exact HO_9.out⟩, ⟨bk BK793⟩, ⟨qB⟩⟩
        ·rw [if_neg c35] at H
         have c35b0 : (t805 == x6_1) = false := beq_eq_false_iff_ne.mpr c35
         have c35b1 : (t805 != x6_1) = true := bne_iff_ne.mpr c35
         have H' := aM H
         clear H
         try go_wp2
         replace HO_5 := aM (Kd.R_drew HO_5.out)
         replace HO_9 := aM (Kd.R_drew HO_9.out)
         replace BK793 := aM (blk_drew BK793.out)
         replace HB := aM (below_drew1 HB.out)
         have p804 : 0 ≤ (x10_2 : Int) := of_decide_eq_true (by first | (with_reducible assumption) | assumption)
         have q804 : x10_2 < (t794.length : Int) := of_decide_eq_true (by first | (with_reducible assumption) | assumption)
         obtain ⟨ad804, e804, hx804_0, hx804_1⟩ := at_T47 (Kd.R_reads' HO_5.out).2.2 x10_2 p804 q804
         cases e804
         replace p804 := eq_true p804
         replace q804 := eq_true q804
         refine sT (fun w' => w'.cell? (ad804.add ((x10_2).toNat * 2)) = some (.int .i64 ((rd_T47 t794 x10_2).f0)) ∧ w'.cell? ⟨(ad804.add ((x10_2).toNat * 2)).block, (ad804.add ((x10_2).toNat * 2)).off + 1, none⟩ = some (.int .i64 ((rd_T47 t794 x10_2).f1))) [] ⟨hx804_0, hx804_1⟩ (fun hHeld => ?_); refine with_tabW spec_l04Shortest.tab13 spec_l04Shortest.bits13 (fun HT_ HW_ => ?_)
         generalize wr.drew = w46 at HO_5 HO_9 BK793 HB hx804_0 hx804_1 hHeld ⊢
         refine pU 0 (some 58) 1 HT_ ?_
         refine pU 1 (some 59) 3 HT_ ?_
         refine pU 2 (some 60) 7 HT_ ?_
         refine pU 3 (some 61) 15 HT_ ?_
         refine pU 6 (some 64) 79 HT_ ?_
         refine tU 4 (some 62) 95 HT_ HW_ hHeld ?_
         refine oU 5 (some 63) 127 HT_ (fun K hK => ?_)
         refine gO Try.func116 #[.int .i64 a0, .agg #[.int .i64 ((rd_T47 t794 x10_2).f0), .int .i64 ((rd_T47 t794 x10_2).f1)]] ?_
         with_reducible refine (spec_l04Norm.calls a0 ((rd_T47 t794 x10_2).f0) ((rd_T47 t794 x10_2).f1) t805 _ A34.out).mono ?_
         rintro e w47 ⟨rfl, hb⟩
         have HS0_ := (hb.cell (World.block_lt_of_cell? _ _ (hHeld.1))).trans (hHeld.1)
         have HS1_ := (hb.cell (World.block_lt_of_cell? _ _ (hHeld.2))).trans (hHeld.2)
         refine ⟨_, rfl, ?_⟩
         have n0_ := aM (Kd.R_below (by (with_reducible repeat (first | apply Kd.R_alloc | apply Kd.R_drewN | apply Kd.R_drew)); exact HO_5.out) hb)
         have n1_ := aM (Kd.R_below (by (with_reducible repeat (first | apply Kd.R_alloc | apply Kd.R_drewN | apply Kd.R_drew)); exact HO_9.out) hb)
         have n2_ := bB BK793 hb
         have n3_ := bS HB hb
         clear HO_5
         clear HO_9
         clear BK793
         clear HB
         have HO_5 := n0_
         have HO_9 := n1_
         have BK793 := n2_
         have HB := n3_
         clear n0_ n1_ n2_ n3_
         (try clear hb)
         (try clear hb2)
         (try clear hk)
         (try clear hi)
         refine hK.out _ _ ⟨HS0_, HS1_⟩ (fun hHeld => ?_)
         clear hK K
         refine nM 63 ?_
         refine pU 7 (some 65) 255 HT_ ?_
         refine pU 8 (some 66) 511 HT_ ?_
         refine pV 9 (some 67) 1023 HT_ ?_
         refine pV 10 (some 68) 2047 HT_ ?_
         refine pV 11 (some 69) 4095 HT_ ?_
         refine pV 12 (some 70) 8191 HT_ ?_
         refine pV 13 (some 71) 16383 HT_ ?_
         refine pV 14 (some 72) 32767 HT_ ?_
         refine pU 15 (some 73) 65535 HT_ ?_
         refine dN HT_ ?_
         try go_wp2
         go_roundg k2
         case measure => have := HK1.out; have := HK2.out; omega
         case rel => exact ⟨(x9_2), (wrap64 (x10_2 + 1)), (by first | rfl | (simp; done) | (simp [*]; done)), H', ⟨by have := HK1.out; have := HK2.out; omega⟩, ⟨by (with_reducible repeat (first | apply Kd.R_alloc | apply Kd.R_drewN | apply Kd.R_drew)); exact HO_5.out⟩, ⟨by (with_reducible repeat (first | apply Kd.R_alloc | apply Kd.R_drewN | apply Kd.R_drew)); exact HO_9.out⟩, ⟨bk BK793⟩, ⟨qB⟩⟩
       ·rw [if_neg c33] at H
        exact absurd H (by simp)
      ·rw [if_neg c32] at H
       have c32b0 : decide (x10_2 < (t794.length : Int)) = false := decide_eq_false c32
       clear c32
       obtain rfl := Option.some.inj H
       go_wp2
       go_ret
       exact ⟨_, qR, by (with_reducible repeat (first | apply Kd.R_alloc | apply Kd.R_drewN | apply Kd.R_drew)); exact Kd.R_mono HO_9.out (fun _ hk => trivial), qB⟩

end Go.Proofs.Ytcjchihnopmplaa.F

import Derived.Test.YtjjbjaagfjljnaaK0
import Derived.Test.YtjjbjaagfjljnaaK2
import Derived.Test.YtjjbjaagfjljnaaK6
import Derived.Test.YtjjbjaagfjljnaaK10
import Derived.Test.YtjjbjaagfjljnaaK11
import Derived.Test.YtjjbjaagfjljnaaK13
namespace Go.Proofs.Ytjjbjaagfjljnaa.F
open Go.RowKit Go.Proofs.YtjjbjaagfjljnaaW.PrintWords Go.Proofs.YtjjbjaagfjljnaaW.PrintLast Go.Proofs.YtjjbjaagfjljnaaW.PrintMore
attribute [local go_sem] max2_int min2_int max_two min_two max_three min_three max_four min_four   -- for this text's walks alone
set_option linter.unusedVariables false
set_option linter.unusedSimpArgs false
attribute [local go_sem high] eqA25 eqA51

def spec_l05Kind.j0 : Nat → Bool → Int → Int → Int → Int → Int → Int → Option (Int)
 | 0, _, _, _, _, _, _, _ => none
 | k + 1, x3, x1897000, x1897001, x1897002, x1897003, x1897004, x1897005 => if x3 = true then (some 3) else ((spec_l02Det.f x1897000 x1897001 x1897002 x1897003).bind fun t1900 => (if t1900 = (-1) then (some 4) else ((spec_l02Unit.f).bind fun bt1901 => (if (!(x1897000 == bt1901.1) || (!(x1897001 == bt1901.2.1) || (!(x1897002 == bt1901.2.2.1) || (!(x1897003 == bt1901.2.2.2))))) = true then (some 2) else (if (!(x1897004 == 0) || (!(x1897005 == 0))) = true then (some 1) else (some 0))))))
def spec_l05Kind.f (k : Nat) (a0_0 : Int) (a0_1 : Int) (a0_2 : Int) (a0_3 : Int) (a0_4 : Int) (a0_5 : Int) : Option (Int) := (spec_l02Det.f a0_0 a0_1 a0_2 a0_3).bind fun t1897 => (if t1897 = (-1) then ((spec_l05Twice.f a0_0 a0_1 a0_2 a0_3 a0_4 a0_5).bind fun bt1898 => (spec_l05Kind.j0 k (bt1898.1 == 0 && (bt1898.2 == 0)) a0_0 a0_1 a0_2 a0_3 a0_4 a0_5)) else (spec_l05Kind.j0 k false a0_0 a0_1 a0_2 a0_3 a0_4 a0_5))
set_option maxHeartbeats 40000000 in
set_option maxRecDepth 100000 in
theorem spec_l05Kind.calls (k : Nat) (a0_0 : Int) (a0_1 : Int) (a0_2 : Int) (a0_3 : Int) (a0_4 : Int) (a0_5 : Int) (r : Int) (w : World) (h : spec_l05Kind.f k a0_0 a0_1 a0_2 a0_3 a0_4 a0_5 = some r) :
  Calls Try.prog 192 #[.agg #[.int .i64 a0_0, .int .i64 a0_1, .int .i64 a0_2, .int .i64 a0_3, .int .i64 a0_4, .int .i64 a0_5]] w fun e w' => e = .returned (.int .i64 r) ∧ Below w.heap.size w w' := by
 have hu84 := Try.underlying84
 have hu51 := Try.underlying51
 have hu25 := Try.underlying25
 have HB := aM (Below.refl w.heap.size w)
 have H : ((spec_l02Det.f a0_0 a0_1 a0_2 a0_3).bind fun t1897 => (if t1897 = (-1) then ((spec_l05Twice.f a0_0 a0_1 a0_2 a0_3 a0_4 a0_5).bind fun bt1898 => (spec_l05Kind.j0 k (bt1898.1 == 0 && (bt1898.2 == 0)) a0_0 a0_1 a0_2 a0_3 a0_4 a0_5)) else (spec_l05Kind.j0 k false a0_0 a0_1 a0_2 a0_3 a0_4 a0_5))) = some r := h
 clear h
 have HC2 := aM H
 clear H
 go_enter Try.func192, Try.ntmps192
 go_upto_region 1 with (first | ((with_reducible refine gate_dst (N := 1) rfl ?_); refine box_event ?hg (N := 1) ?hd (cs := #[.int .i64 a0_0, .int .i64 a0_1, .int .i64 a0_2, .int .i64 a0_3, .int .i64 a0_4, .int .i64 a0_5]) (t := 84) ?hr ?_; (case hd => rfl); (case hg => rfl); (case hr => first | (go_simp; done) | (go_simp; rfl)); intro gb1896 hg w3 hbox hb; have n0_ := aM (below_step (by repeat (first | (with_reducible first | exact HB.out | apply bA|apply bN|apply b1) | exact HB.out)) hb); have n1_ := aM (hbox); have n2_ := aM ((by rw [hg]; exact (below_size (by repeat (first | (with_reducible first | exact HB.out | apply bA|apply bN|apply b1) | exact HB.out))) : w.heap.size ≤ gb1896)); have n3_ := aM ((by rw [hg]; exact (below_size (by repeat (first | (with_reducible first | exact HB.out | apply bA|apply bN|apply b1) | exact HB.out))) : w.heap.size ≤ gb1896)); clear HB; have HB := n0_; have BK1896 := n1_; have GW1896 := n2_; have GE1896 := n3_; clear n0_ n1_ n2_ n3_; clear hb hbox hg))
 (try simp only [Act.put, List.setIfInBounds_toArray, List.set_cons_zero, List.set_cons_succ])
 go_cut [3] (fun v3 wc => ∃ (kq : Nat) (x3_1 : Bool), v3 = .bool x3_1 ∧ Aside0 (spec_l05Kind.j0 kq x3_1 a0_0 a0_1 a0_2 a0_3 a0_4 a0_5 = some r) ∧ Aside0 (kq ≤ k) ∧ Aside0 (wc.heap[gb1896]? = some (.cells #[.int .i64 a0_0, .int .i64 a0_1, .int .i64 a0_2, .int .i64 a0_3, .int .i64 a0_4, .int .i64 a0_5] 84 (0, 0))) ∧ Aside0 (Below w.heap.size w wc))
 case first =>
  have H := HC2.out
  clear HC2
  replace H := Option.bind_eq_some_iff.mp H
  obtain ⟨t1897, A40, H⟩ := H
  try dsimp only at H
  have A4 := aM A40
  clear A40
  by_cases c5 : t1897 = (-1)
  ·rw [if_pos c5] at H
   have c5b0 : (t1897 == (-1)) = true := beq_iff_eq.mpr c5
   have c5b1 : (t1897 != (-1)) = false := bne_eq_false_iff_eq.mpr c5
   clear c5
   (first | rw [c5b0] | (simp only [i64_w, i32_w]; rw [c5b0]) | skip)
   replace H := Option.bind_eq_some_iff.mp H
   obtain ⟨⟨t1898, t1899⟩, A60, H⟩ := H
   try dsimp only at H
   have A6 := aM A60
   clear A60
   have H' := aM H
   clear H
   have hcz7_0 : w3.cell? ⟨gb1896, 0, none⟩ = some (.int .i64 a0_0) := (blk_cell BK1896.out 0).trans rfl
   have hcz7_1 : w3.cell? ⟨gb1896, 1, none⟩ = some (.int .i64 a0_1) := (blk_cell BK1896.out 1).trans rfl
   have hcz7_2 : w3.cell? ⟨gb1896, 2, none⟩ = some (.int .i64 a0_2) := (blk_cell BK1896.out 2).trans rfl
   have hcz7_3 : w3.cell? ⟨gb1896, 3, none⟩ = some (.int .i64 a0_3) := (blk_cell BK1896.out 3).trans rfl
   have hcz7_4 : w3.cell? ⟨gb1896, 4, none⟩ = some (.int .i64 a0_4) := (blk_cell BK1896.out 4).trans rfl
   have hcz7_5 : w3.cell? ⟨gb1896, 5, none⟩ = some (.int .i64 a0_5) := (blk_cell BK1896.out 5).trans rfl
   have hfz7_0 := blk_frozen BK1896.out 0
   have hfz7_1 := blk_frozen BK1896.out 1
   have hfz7_2 := blk_frozen BK1896.out 2
   have hfz7_3 := blk_frozen BK1896.out 3
   have hfz7_4 := blk_frozen BK1896.out 4
   have hfz7_5 := blk_frozen BK1896.out 5
   go_wp2_with (first | ((with_reducible refine gate_callee (f := 158) rfl ?_); refine goesL_ (some 6) rfl rfl Try.func158 (by kernel_rfl) rfl #[.agg #[.int .i64 a0_0, .int .i64 a0_1, .int .i64 a0_2, .int .i64 a0_3]] rfl (by first|rfl|(simp only [List.map_toArray, List.map_cons, List.map_nil]; try rfl)) ?_; (with_reducible refine (spec_l02Det.calls a0_0 a0_1 a0_2 a0_3 t1897 _ A4.out).mono ?_); rintro e w8 ⟨rfl, hb⟩; refine ⟨_, rfl, ?_⟩; have n0_ := aM (blk_below (g := gb1896) (o := .cells #[.int .i64 a0_0, .int .i64 a0_1, .int .i64 a0_2, .int .i64 a0_3, .int .i64 a0_4, .int .i64 a0_5] 84 (0, 0)) (by (with_reducible repeat (first|apply kN|apply kD|apply kA)); exact BK1896.out) hb); have n1_ := aM (below_step (by repeat (first | (with_reducible first | exact HB.out | apply bA|apply bN|apply b1 | refine below_set ?_ GE1896.out) | exact HB.out)) hb); clear BK1896; clear HB; have BK1896 := n0_; have HB := n1_; clear n0_ n1_; (try clear hb); have hcz9_0 : w8.cell? ⟨gb1896, 0, none⟩ = some (.int .i64 a0_0) := (blk_cell BK1896.out 0).trans rfl; have hcz9_1 : w8.cell? ⟨gb1896, 1, none⟩ = some (.int .i64 a0_1) := (blk_cell BK1896.out 1).trans rfl; have hcz9_2 : w8.cell? ⟨gb1896, 2, none⟩ = some (.int .i64 a0_2) := (blk_cell BK1896.out 2).trans rfl; have hcz9_3 : w8.cell? ⟨gb1896, 3, none⟩ = some (.int .i64 a0_3) := (blk_cell BK1896.out 3).trans rfl; have hcz9_4 : w8.cell? ⟨gb1896, 4, none⟩ = some (.int .i64 a0_4) := (blk_cell BK1896.out 4).trans rfl; have hcz9_5 : w8.cell? ⟨gb1896, 5, none⟩ = some (.int .i64 a0_5) := (blk_cell BK1896.out 5).trans rfl; have hfz9_0 := blk_frozen BK1896.out 0; have hfz9_1 := blk_frozen BK1896.out 1; have hfz9_2 := blk_frozen BK1896.out 2; have hfz9_3 := blk_frozen BK1896.out 3; have hfz9_4 := blk_frozen BK1896.out 4; have hfz9_5 := blk_frozen BK1896.out 5) | (go_at_call 193; (with_reducible refine (spec_l05Twice.calls a0_0 a0_1 a0_2 a0_3 a0_4 a0_5 t1898 t1899 _ A6.out).mono ?_); rintro e w10 ⟨rfl, hb⟩; have n0_ := aM (blk_below (g := gb1896) (o := .cells #[.int .i64 a0_0, .int .i64 a0_1, .int .i64 a0_2, .int .i64 a0_3, .int .i64 a0_4, .int .i64 a0_5] 84 (0, 0)) (by (with_reducible repeat (first|apply kN|apply kD|apply kA)); exact BK1896.out) hb); have n1_ := aM (below_step (by repeat (first | (with_reducible first | exact HB.out | apply bA|apply bN|apply b1 | refine below_set ?_ GE1896.out) | exact HB.out)) hb); clear BK1896; clear HB; have BK1896 := n0_; have HB := n1_; clear n0_ n1_; (try clear hb)))
   go_meet
   case rel => exact ⟨_, ((t1898 == 0 && (t1899 == 0))), (by first | rfl | (simp; done) | (simp [*]; done)), H', ⟨by first | omega | exact Nat.le_refl _⟩, ⟨by (with_reducible repeat (first|apply kN|apply kD|apply kA)); exact BK1896.out⟩, ⟨by repeat (first | (with_reducible first | exact HB.out | apply bA|apply bN|apply b1 | refine below_set ?_ GE1896.out) | exact HB.out)⟩⟩
  ·rw [if_neg c5] at H
   have c5b0 : (t1897 == (-1)) = false := beq_eq_false_iff_ne.mpr c5
   have c5b1 : (t1897 != (-1)) = true := bne_iff_ne.mpr c5
   (first | rw [c5b0] | (simp only [i64_w, i32_w]; rw [c5b0]) | skip)
   have H' := aM H
   clear H
   have hcz11_0 : w3.cell? ⟨gb1896, 0, none⟩ = some (.int .i64 a0_0) := (blk_cell BK1896.out 0).trans rfl
   have hcz11_1 : w3.cell? ⟨gb1896, 1, none⟩ = some (.int .i64 a0_1) := (blk_cell BK1896.out 1).trans rfl
   have hcz11_2 : w3.cell? ⟨gb1896, 2, none⟩ = some (.int .i64 a0_2) := (blk_cell BK1896.out 2).trans rfl
   have hcz11_3 : w3.cell? ⟨gb1896, 3, none⟩ = some (.int .i64 a0_3) := (blk_cell BK1896.out 3).trans rfl
   have hcz11_4 : w3.cell? ⟨gb1896, 4, none⟩ = some (.int .i64 a0_4) := (blk_cell BK1896.out 4).trans rfl
   have hcz11_5 : w3.cell? ⟨gb1896, 5, none⟩ = some (.int .i64 a0_5) := (blk_cell BK1896.out 5).trans rfl
   have hfz11_0 := blk_frozen BK1896.out 0
   have hfz11_1 := blk_frozen BK1896.out 1
   have hfz11_2 := blk_frozen BK1896.out 2
   have hfz11_3 := blk_frozen BK1896.out 3
   have hfz11_4 := blk_frozen BK1896.out 4
   have hfz11_5 := blk_frozen BK1896.out 5
   go_wp2_with (first | ((with_reducible refine gate_callee (f := 158) rfl ?_); refine goesL_ (some 6) rfl rfl Try.func158 (by kernel_rfl) rfl #[.agg #[.int .i64 a0_0, .int .i64 a0_1, .int .i64 a0_2, .int .i64 a0_3]] rfl (by first|rfl|(simp only [List.map_toArray, List.map_cons, List.map_nil]; try rfl)) ?_; (with_reducible refine (spec_l02Det.calls a0_0 a0_1 a0_2 a0_3 t1897 _ A4.out).mono ?_); rintro e w12 ⟨rfl, hb⟩; refine ⟨_, rfl, ?_⟩; have n0_ := aM (blk_below (g := gb1896) (o := .cells #[.int .i64 a0_0, .int .i64 a0_1, .int .i64 a0_2, .int .i64 a0_3, .int .i64 a0_4, .int .i64 a0_5] 84 (0, 0)) (by (with_reducible repeat (first|apply kN|apply kD|apply kA)); exact BK1896.out) hb); have n1_ := aM (below_step (by repeat (first | (with_reducible first | exact HB.out | apply bA|apply bN|apply b1 | refine below_set ?_ GE1896.out) | exact HB.out)) hb); clear BK1896; clear HB; have BK1896 := n0_; have HB := n1_; clear n0_ n1_; (try clear hb)))
   go_meet
   case rel => exact ⟨_, (false), (by first | rfl | (simp; done) | (simp [*]; done)), H', ⟨by first | omega | exact Nat.le_refl _⟩, ⟨by (with_reducible repeat (first|apply kN|apply kD|apply kA)); exact BK1896.out⟩, ⟨by repeat (first | (with_reducible first | exact HB.out | apply bA|apply bN|apply b1 | refine below_set ?_ GE1896.out) | exact HB.out)⟩⟩
 case rest =>
  clear HC2
  try clear c1
  try clear p2
  try clear c5
  try clear c5b0
  try clear c5b1
  try clear hcz11_0
  try clear hcz11_1
  try clear hcz11_2
  try clear hcz11_3
  try clear hcz11_4
  try clear hcz11_5
  try clear hcz7_0
  try clear hcz7_1
  try clear hcz7_2
  try clear hcz7_3
  try clear hcz7_4
  try clear hcz7_5
  try clear hcz9_0
  try clear hcz9_1
  try clear hcz9_2
  try clear hcz9_3
  try clear hcz9_4
  try clear hcz9_5
  try clear hfz11_0
  try clear hfz11_1
  try clear hfz11_2
  try clear hfz11_3
  try clear hfz11_4
  try clear hfz11_5
  try clear hfz7_0
  try clear hfz7_1
  try clear hfz7_2
  try clear hfz7_3
  try clear hfz7_4
  try clear hfz7_5
  try clear hfz9_0
  try clear hfz9_1
  try clear hfz9_2
  try clear hfz9_3
  try clear hfz9_4
  try clear hfz9_5
  obtain ⟨kq, x3_1, rfl, HA, HJ1, BK1896, HB⟩ := hcut
  cases kq with
  | zero => exact absurd HA.out (by simp [spec_l05Kind.j0])
  | succ kj1 =>
   have H := HA.out
   clear HA
   simp only [spec_l05Kind.j0] at H
   by_cases c13 : x3_1 = true
   ·subst c13
    have H1 : (some 3) = some r := by rw [if_pos rfl] at H; exact H
    clear H
    have H := H1
    clear H1
    obtain rfl := Option.some.inj H
    go_wp2
    go_ret
    exact ⟨by first|rfl|(simp [*, errW_none, errW_some] <;> rfl), by repeat (first | (with_reducible first | exact HB.out | apply bA|apply bN|apply b1 | refine below_set ?_ GE1896.out) | exact HB.out)⟩
   ·replace c13 := Bool.eq_false_iff.mpr c13
    subst c13
    have H1 : ((spec_l02Det.f a0_0 a0_1 a0_2 a0_3).bind fun t1900 => (if t1900 = (-1) then (some 4) else ((spec_l02Unit.f).bind fun bt1901 => (if (!(a0_0 == bt1901.1) || (!(a0_1 == bt1901.2.1) || (!(a0_2 == bt1901.2.2.1) || (!(a0_3 == bt1901.2.2.2))))) = true then (some 2) else (if (!(a0_4 == 0) || (!(a0_5 == 0))) = true then (some 1) else (some 0)))))) = some r := by rw [if_neg (show ¬ (false = true) by decide)] at H; exact H
    clear H
    have H := H1
    clear H1
    replace H := Option.bind_eq_some_iff.mp H
    obtain ⟨t1900, A140, H⟩ := H
    try dsimp only at H
    have A14 := aM A140
    clear A140
    by_cases c15 : t1900 = (-1)
    ·rw [if_pos c15] at H
     have c15b0 : (t1900 == (-1)) = true := beq_iff_eq.mpr c15
     have c15b1 : (t1900 != (-1)) = false := bne_eq_false_iff_eq.mpr c15
     clear c15
     obtain rfl := Option.some.inj H
     have hcz16_0 : wc.cell? ⟨gb1896, 0, none⟩ = some (.int .i64 a0_0) := (blk_cell BK1896.out 0).trans rfl
     have hcz16_1 : wc.cell? ⟨gb1896, 1, none⟩ = some (.int .i64 a0_1) := (blk_cell BK1896.out 1).trans rfl
     have hcz16_2 : wc.cell? ⟨gb1896, 2, none⟩ = some (.int .i64 a0_2) := (blk_cell BK1896.out 2).trans rfl
     have hcz16_3 : wc.cell? ⟨gb1896, 3, none⟩ = some (.int .i64 a0_3) := (blk_cell BK1896.out 3).trans rfl
     have hcz16_4 : wc.cell? ⟨gb1896, 4, none⟩ = some (.int .i64 a0_4) := (blk_cell BK1896.out 4).trans rfl
     have hcz16_5 : wc.cell? ⟨gb1896, 5, none⟩ = some (.int .i64 a0_5) := (blk_cell BK1896.out 5).trans rfl
     have hfz16_0 := blk_frozen BK1896.out 0
     have hfz16_1 := blk_frozen BK1896.out 1
     have hfz16_2 := blk_frozen BK1896.out 2
     have hfz16_3 := blk_frozen BK1896.out 3
     have hfz16_4 := blk_frozen BK1896.out 4
     have hfz16_5 := blk_frozen BK1896.out 5
     go_wp2_with (first | ((with_reducible refine gate_callee (f := 158) rfl ?_); refine goesL_ (some 17) rfl rfl Try.func158 (by kernel_rfl) rfl #[.agg #[.int .i64 a0_0, .int .i64 a0_1, .int .i64 a0_2, .int .i64 a0_3]] rfl (by first|rfl|(simp only [List.map_toArray, List.map_cons, List.map_nil]; try rfl)) ?_; (with_reducible refine (spec_l02Det.calls a0_0 a0_1 a0_2 a0_3 t1900 _ A14.out).mono ?_); rintro e w17 ⟨rfl, hb⟩; refine ⟨_, rfl, ?_⟩; have n0_ := aM (blk_below (g := gb1896) (o := .cells #[.int .i64 a0_0, .int .i64 a0_1, .int .i64 a0_2, .int .i64 a0_3, .int .i64 a0_4, .int .i64 a0_5] 84 (0, 0)) (by (with_reducible repeat (first|apply kN|apply kD|apply kA)); exact BK1896.out) hb); have n1_ := aM (below_step (by repeat (first | (with_reducible first | exact HB.out | apply bA|apply bN|apply b1 | refine below_set ?_ GE1896.out) | exact HB.out)) hb); clear BK1896; clear HB; have BK1896 := n0_; have HB := n1_; clear n0_ n1_; (try clear hb)))
     go_ret
     exact ⟨by first|rfl|(simp [*, errW_none, errW_some] <;> rfl), by repeat (first | (with_reducible first | exact HB.out | apply bA|apply bN|apply b1 | refine below_set ?_ GE1896.out) | exact HB.out)⟩
    ·rw [if_neg c15] at H
     have c15b0 : (t1900 == (-1)) = false := beq_eq_false_iff_ne.mpr c15
     have c15b1 : (t1900 != (-1)) = true := bne_iff_ne.mpr c15
     replace H := Option.bind_eq_some_iff.mp H
     obtain ⟨⟨t1901, t1902, t1903, t1904⟩, A180, H⟩ := H
     try dsimp only at H
     have A18 := aM A180
     clear A180
     by_cases c19 : (!(a0_0 == t1901) || (!(a0_1 == t1902) || (!(a0_2 == t1903) || (!(a0_3 == t1904))))) = true
     ·rw [if_pos c19] at H
      have c19b0 : (!(a0_0 == t1901) || (!(a0_1 == t1902) || (!(a0_2 == t1903) || (!(a0_3 == t1904))))) = true := c19
      clear c19
      obtain rfl := Option.some.inj H
      have hcz20_0 : wc.cell? ⟨gb1896, 0, none⟩ = some (.int .i64 a0_0) := (blk_cell BK1896.out 0).trans rfl
      have hcz20_1 : wc.cell? ⟨gb1896, 1, none⟩ = some (.int .i64 a0_1) := (blk_cell BK1896.out 1).trans rfl
      have hcz20_2 : wc.cell? ⟨gb1896, 2, none⟩ = some (.int .i64 a0_2) := (blk_cell BK1896.out 2).trans rfl
      have hcz20_3 : wc.cell? ⟨gb1896, 3, none⟩ = some (.int .i64 a0_3) := (blk_cell BK1896.out 3).trans rfl
      have hcz20_4 : wc.cell? ⟨gb1896, 4, none⟩ = some (.int .i64 a0_4) := (blk_cell BK1896.out 4).trans rfl
      have hcz20_5 : wc.cell? ⟨gb1896, 5, none⟩ = some (.int .i64 a0_5) := (blk_cell BK1896.out 5).trans rfl
      have hfz20_0 := blk_frozen BK1896.out 0
      have hfz20_1 := blk_frozen BK1896.out 1
      have hfz20_2 := blk_frozen BK1896.out 2
      have hfz20_3 := blk_frozen BK1896.out 3
      have hfz20_4 := blk_frozen BK1896.out 4
      have hfz20_5 := blk_frozen BK1896.out 5
      try go_wp2_with (first | ((with_reducible refine gate_callee (f := 158) rfl ?_); refine goesL_ (some 17) rfl rfl Try.func158 (by kernel_rfl) rfl #[.agg #[.int .i64 a0_0, .int .i64 a0_1, .int .i64 a0_2, .int .i64 a0_3]] rfl (by first|rfl|(simp only [List.map_toArray, List.map_cons, List.map_nil]; try rfl)) ?_; (with_reducible refine (spec_l02Det.calls a0_0 a0_1 a0_2 a0_3 t1900 _ A14.out).mono ?_); rintro e w21 ⟨rfl, hb⟩; refine ⟨_, rfl, ?_⟩; have n0_ := aM (blk_below (g := gb1896) (o := .cells #[.int .i64 a0_0, .int .i64 a0_1, .int .i64 a0_2, .int .i64 a0_3, .int .i64 a0_4, .int .i64 a0_5] 84 (0, 0)) (by (with_reducible repeat (first|apply kN|apply kD|apply kA)); exact BK1896.out) hb); have n1_ := aM (below_step (by repeat (first | (with_reducible first | exact HB.out | apply bA|apply bN|apply b1 | refine below_set ?_ GE1896.out) | exact HB.out)) hb); clear BK1896; clear HB; have BK1896 := n0_; have HB := n1_; clear n0_ n1_; (try clear hb)))
      have n0_ := aM (blk_drew BK1896.out)
      have n1_ := aM (below_drew1 HB.out)
      clear BK1896
      clear HB
      have BK1896 := n0_
      have HB := n1_
      clear n0_ n1_
      refine start_ (n := 5) (S := fun w' => w'.cell? ⟨gb1896, 0, none⟩ = some (.int .i64 a0_0) ∧ w'.cell? ⟨gb1896, 1, none⟩ = some (.int .i64 a0_1) ∧ w'.cell? ⟨gb1896, 2, none⟩ = some (.int .i64 a0_2) ∧ w'.cell? ⟨gb1896, 3, none⟩ = some (.int .i64 a0_3) ∧ w'.cell? ⟨gb1896, 4, none⟩ = some (.int .i64 a0_4) ∧ w'.cell? ⟨gb1896, 5, none⟩ = some (.int .i64 a0_5)) (ds := []) #[false, false, false, false, false] (by kernel_rfl) rfl rfl ⟨(blk_cell BK1896.out 0).trans rfl, (blk_cell BK1896.out 1).trans rfl, (blk_cell BK1896.out 2).trans rfl, (blk_cell BK1896.out 3).trans rfl, (blk_cell BK1896.out 4).trans rfl, (blk_cell BK1896.out 5).trans rfl⟩ (fun hHeld => ?_)
      generalize w21.drew = w22 at BK1896 HB hHeld ⊢
      refine pure_ (i := 0) (N := some 20) (v := ?_) (a' := ?_) #[true, false, false, false, false] rfl rfl (by kernel_rfl) (fun _ _ _ h => h) (Or.inl ⟨by rfl, ?_⟩) ?_ ?_
      rotate_left
      ·intro w'
       go_simp
       with_reducible rfl
      rotate_left
      ·simp only [Act.put, List.setIfInBounds_toArray, List.set_cons_zero, List.set_cons_succ, i64_w, i32_w]
       rfl
      refine take_ (i := 1) (N := some 21) (v := ?_) (a' := ?_) #[true, true, false, false, false] rfl rfl (by kernel_rfl) (fun _ _ _ h => h) (Or.inl ⟨by rfl, ?_⟩) hHeld ?_ ?_
      rotate_left
      ·rintro w' ⟨s0, s1, s2, s3, s4, s5⟩
       go_simp
       with_reducible rfl
      rotate_left
      ·simp only [Act.put, List.setIfInBounds_toArray, List.set_cons_zero, List.set_cons_succ, i64_w, i32_w]
       rfl
      refine one_ (i := 2) (N := some 22) #[true, true, true, false, false] rfl rfl (by kernel_rfl) (by decide) (fun K hK => ?_)
      refine goes_ Try.func162 (by kernel_rfl) rfl #[] (by rfl) rfl rfl (by first|rfl|(simp only [List.map_toArray, List.map_cons, List.map_nil]; try rfl)) ?_
      with_reducible refine (spec_l02Unit.calls  t1901 t1902 t1903 t1904 _ A18.out).mono ?_
      rintro e w23 ⟨rfl, hb⟩
      refine ⟨_, rfl, ?_⟩
      have n0_ := aM (blk_below (g := gb1896) (o := .cells #[.int .i64 a0_0, .int .i64 a0_1, .int .i64 a0_2, .int .i64 a0_3, .int .i64 a0_4, .int .i64 a0_5] 84 (0, 0)) (by (with_reducible repeat (first|apply kN|apply kD|apply kA)); exact BK1896.out) hb)
      have n1_ := aM (below_step (by repeat (first | (with_reducible first | exact HB.out | apply bA|apply bN|apply b1 | refine below_set ?_ GE1896.out) | exact HB.out)) hb)
      clear BK1896
      clear HB
      have BK1896 := n0_
      have HB := n1_
      clear n0_ n1_
      (try clear hb)
      (try clear hb2)
      (try clear hk)
      (try clear hi)
      refine hK.out _ _ ⟨(blk_cell BK1896.out 0).trans rfl, (blk_cell BK1896.out 1).trans rfl, (blk_cell BK1896.out 2).trans rfl, (blk_cell BK1896.out 3).trans rfl, (blk_cell BK1896.out 4).trans rfl, (blk_cell BK1896.out 5).trans rfl⟩ (fun hHeld => ?_)
      clear hK K
      refine norm_ (a' := ?_) ?_ ?_
      rotate_left
      ·show Act.put _ (some 22) _ = _
       simp only [Act.put, List.setIfInBounds_toArray, List.set_cons_zero, List.set_cons_succ, i64_w, i32_w]
       rfl
      refine pure_ (i := 3) (N := some 23) (v := ?_) (a' := ?_) #[true, true, true, true, false] rfl rfl (by kernel_rfl) (fun _ _ _ h => h) (Or.inl ⟨by rfl, ?_⟩) ?_ ?_
      rotate_left
      ·intro w'
       go_simp
       with_reducible rfl
      rotate_left
      ·simp only [Act.put, List.setIfInBounds_toArray, List.set_cons_zero, List.set_cons_succ, i64_w, i32_w]
       rfl
      refine pure_ (i := 4) (N := some 19) (v := ?_) (a' := ?_) #[true, true, true, true, true] rfl rfl (by kernel_rfl) (fun _ _ _ h => h) (Or.inl ⟨by rfl, ?_⟩) ?_ ?_
      rotate_left
      ·intro w'
       go_simp
       with_reducible rfl
      rotate_left
      ·simp only [Act.put, List.setIfInBounds_toArray, List.set_cons_zero, List.set_cons_succ, i64_w, i32_w]
       rfl
      refine done_ (by kernel_rfl) ?_
      try go_wp2
      go_ret
      exact ⟨by first|rfl|(simp [*, errW_none, errW_some] <;> rfl), by repeat (first | (with_reducible first | exact HB.out | apply bA|apply bN|apply b1 | refine below_set ?_ GE1896.out) | exact HB.out)⟩
     ·rw [if_neg c19] at H
      have c19b0 : (!(a0_0 == t1901) || (!(a0_1 == t1902) || (!(a0_2 == t1903) || (!(a0_3 == t1904))))) = false := by simpa using c19
      clear c19
      by_cases c24 : (!(a0_4 == 0) || (!(a0_5 == 0))) = true
      ·rw [if_pos c24] at H
       have c24b0 : (!(a0_4 == 0) || (!(a0_5 == 0))) = true := c24
       clear c24
       obtain rfl := Option.some.inj H
       have hcz25_0 : wc.cell? ⟨gb1896, 0, none⟩ = some (.int .i64 a0_0) := (blk_cell BK1896.out 0).trans rfl
       have hcz25_1 : wc.cell? ⟨gb1896, 1, none⟩ = some (.int .i64 a0_1) := (blk_cell BK1896.out 1).trans rfl
       have hcz25_2 : wc.cell? ⟨gb1896, 2, none⟩ = some (.int .i64 a0_2) := (blk_cell BK1896.out 2).trans rfl
       have hcz25_3 : wc.cell? ⟨gb1896, 3, none⟩ = some (.int .i64 a0_3) := (blk_cell BK1896.out 3).trans rfl
       have hcz25_4 : wc.cell? ⟨gb1896, 4, none⟩ = some (.int .i64 a0_4) := (blk_cell BK1896.out 4).trans rfl
       have hcz25_5 : wc.cell? ⟨gb1896, 5, none⟩ = some (.int .i64 a0_5) := (blk_cell BK1896.out 5).trans rfl
       have hfz25_0 := blk_frozen BK1896.out 0
       have hfz25_1 := blk_frozen BK1896.out 1
       have hfz25_2 := blk_frozen BK1896.out 2
       have hfz25_3 := blk_frozen BK1896.out 3
       have hfz25_4 := blk_frozen BK1896.out 4
       have hfz25_5 := blk_frozen BK1896.out 5
       try go_wp2_with (first | ((with_reducible refine gate_callee (f := 158) rfl ?_); refine goesL_ (some 17) rfl rfl Try.func158 (by kernel_rfl) rfl #[.agg #[.int .i64 a0_0, .int .i64 a0_1, .int .i64 a0_2, .int .i64 a0_3]] rfl (by first|rfl|(simp only [List.map_toArray, List.map_cons, List.map_nil]; try rfl)) ?_; (with_reducible refine (spec_l02Det.calls a0_0 a0_1 a0_2 a0_3 t1900 _ A14.out).mono ?_); rintro e w26 ⟨rfl, hb⟩; refine ⟨_, rfl, ?_⟩; have n0_ := aM (blk_below (g := gb1896) (o := .cells #[.int .i64 a0_0, .int .i64 a0_1, .int .i64 a0_2, .int .i64 a0_3, .int .i64 a0_4, .int .i64 a0_5] 84 (0, 0)) (by (with_reducible repeat (first|apply kN|apply kD|apply kA)); exact BK1896.out) hb); have n1_ := aM (below_step (by repeat (first | (with_reducible first | exact HB.out | apply bA|apply bN|apply b1 | refine below_set ?_ GE1896.out) | exact HB.out)) hb); clear BK1896; clear HB; have BK1896 := n0_; have HB := n1_; clear n0_ n1_; (try clear hb)))
       have n0_ := aM (blk_drew BK1896.out)
       have n1_ := aM (below_drew1 HB.out)
       clear BK1896
       clear HB
       have BK1896 := n0_
       have HB := n1_
       clear n0_ n1_
       refine start_ (n := 5) (S := fun w' => w'.cell? ⟨gb1896, 0, none⟩ = some (.int .i64 a0_0) ∧ w'.cell? ⟨gb1896, 1, none⟩ = some (.int .i64 a0_1) ∧ w'.cell? ⟨gb1896, 2, none⟩ = some (.int .i64 a0_2) ∧ w'.cell? ⟨gb1896, 3, none⟩ = some (.int .i64 a0_3) ∧ w'.cell? ⟨gb1896, 4, none⟩ = some (.int .i64 a0_4) ∧ w'.cell? ⟨gb1896, 5, none⟩ = some (.int .i64 a0_5)) (ds := []) #[false, false, false, false, false] (by kernel_rfl) rfl rfl ⟨(blk_cell BK1896.out 0).trans rfl, (blk_cell BK1896.out 1).trans rfl, (blk_cell BK1896.out 2).trans rfl, (blk_cell BK1896.out 3).trans rfl, (blk_cell BK1896.out 4).trans rfl, (blk_cell BK1896.out 5).trans rfl⟩ (fun hHeld => ?_)
       generalize w26.drew = w27 at BK1896 HB hHeld ⊢
       refine pure_ (i := 0) (N := some 20) (v := ?_) (a' := ?_) #[true, false, false, false, false] rfl rfl (by kernel_rfl) (fun _ _ _ h => h) (Or.inl ⟨by rfl, ?_⟩) ?_ ?_
       rotate_left
       ·intro w'
        go_simp
        with_reducible rfl
       rotate_left
       ·simp only [Act.put, List.setIfInBounds_toArray, List.set_cons_zero, List.set_cons_succ, i64_w, i32_w]
        rfl
       refine take_ (i := 1) (N := some 21) (v := ?_) (a' := ?_) #[true, true, false, false, false] rfl rfl (by kernel_rfl) (fun _ _ _ h => h) (Or.inl ⟨by rfl, ?_⟩) hHeld ?_ ?_
       rotate_left
       ·rintro w' ⟨s0, s1, s2, s3, s4, s5⟩
        go_simp
        with_reducible rfl
       rotate_left
       ·simp only [Act.put, List.setIfInBounds_toArray, List.set_cons_zero, List.set_cons_succ, i64_w, i32_w]
        rfl
       refine one_ (i := 2) (N := some 22) #[true, true, true, false, false] rfl rfl (by kernel_rfl) (by decide) (fun K hK => ?_)
       refine goes_ Try.func162 (by kernel_rfl) rfl #[] (by rfl) rfl rfl (by first|rfl|(simp only [List.map_toArray, List.map_cons, List.map_nil]; try rfl)) ?_
       with_reducible refine (spec_l02Unit.calls  t1901 t1902 t1903 t1904 _ A18.out).mono ?_
       rintro e w28 ⟨rfl, hb⟩
       refine ⟨_, rfl, ?_⟩
       have n0_ := aM (blk_below (g := gb1896) (o := .cells #[.int .i64 a0_0, .int .i64 a0_1, .int .i64 a0_2, .int .i64 a0_3, .int .i64 a0_4, .int .i64 a0_5] 84 (0, 0)) (by (with_reducible repeat (first|apply kN|apply kD|apply kA)); exact BK1896.out) hb)
       have n1_ := aM (below_step (by repeat (first | (with_reducible first | exact HB.out | apply bA|apply bN|apply b1 | refine below_set ?_ GE1896.out) | exact HB.out)) hb)
       clear BK1896
       clear HB
       have BK1896 := n0_
       have HB := n1_
       clear n0_ n1_
       (try clear hb)
       (try clear hb2)
       (try clear hk)
       (try clear hi)
       refine hK.out _ _ ⟨(blk_cell BK1896.out 0).trans rfl, (blk_cell BK1896.out 1).trans rfl, (blk_cell BK1896.out 2).trans rfl, (blk_cell BK1896.out 3).trans rfl, (blk_cell BK1896.out 4).trans rfl, (blk_cell BK1896.out 5).trans rfl⟩ (fun hHeld => ?_)
       clear hK K
       refine norm_ (a' := ?_) ?_ ?_
       rotate_left
       ·show Act.put _ (some 22) _ = _
        simp only [Act.put, List.setIfInBounds_toArray, List.set_cons_zero, List.set_cons_succ, i64_w, i32_w]
        rfl
       refine pure_ (i := 3) (N := some 23) (v := ?_) (a' := ?_) #[true, true, true, true, false] rfl rfl (by kernel_rfl) (fun _ _ _ h => h) (Or.inl ⟨by rfl, ?_⟩) ?_ ?_
       rotate_left
       ·intro w'
        go_simp
        with_reducible rfl
       rotate_left
       ·simp only [Act.put, List.setIfInBounds_toArray, List.set_cons_zero, List.set_cons_succ, i64_w, i32_w]
        rfl
       refine pure_ (i := 4) (N := some 19) (v := ?_) (a' := ?_) #[true, true, true, true, true] rfl rfl (by kernel_rfl) (fun _ _ _ h => h) (Or.inl ⟨by rfl, ?_⟩) ?_ ?_
       rotate_left
       ·intro w'
        go_simp
        with_reducible rfl
       rotate_left
       ·simp only [Act.put, List.setIfInBounds_toArray, List.set_cons_zero, List.set_cons_succ, i64_w, i32_w]
        rfl
       refine done_ (by kernel_rfl) ?_
       have hcz29_0 : w28.cell? ⟨gb1896, 0, none⟩ = some (.int .i64 a0_0) := (blk_cell BK1896.out 0).trans rfl
       have hcz29_1 : w28.cell? ⟨gb1896, 1, none⟩ = some (.int .i64 a0_1) := (blk_cell BK1896.out 1).trans rfl
       have hcz29_2 : w28.cell? ⟨gb1896, 2, none⟩ = some (.int .i64 a0_2) := (blk_cell BK1896.out 2).trans rfl
       have hcz29_3 : w28.cell? ⟨gb1896, 3, none⟩ = some (.int .i64 a0_3) := (blk_cell BK1896.out 3).trans rfl
       have hcz29_4 : w28.cell? ⟨gb1896, 4, none⟩ = some (.int .i64 a0_4) := (blk_cell BK1896.out 4).trans rfl
       have hcz29_5 : w28.cell? ⟨gb1896, 5, none⟩ = some (.int .i64 a0_5) := (blk_cell BK1896.out 5).trans rfl
       have hfz29_0 := blk_frozen BK1896.out 0
       have hfz29_1 := blk_frozen BK1896.out 1
       have hfz29_2 := blk_frozen BK1896.out 2
       have hfz29_3 := blk_frozen BK1896.out 3
       have hfz29_4 := blk_frozen BK1896.out 4
       have hfz29_5 := blk_frozen BK1896.out 5
       try go_wp2
       go_ret
       exact ⟨by first|rfl|(simp [*, errW_none, errW_some] <;> rfl), by repeat (first | (with_reducible first | exact HB.out | apply bA|apply bN|apply b1 | refine below_set ?_ GE1896.out) | exact HB.out)⟩
      ·rw [if_neg c24] at H
       have c24b0 : (!(a0_4 == 0) || (!(a0_5 == 0))) = false := by simpa using c24
       clear c24
       obtain rfl := Option.some.inj H
       have hcz30_0 : wc.cell? ⟨gb1896, 0, none⟩ = some (.int .i64 a0_0) := (blk_cell BK1896.out 0).trans rfl
       have hcz30_1 : wc.cell? ⟨gb1896, 1, none⟩ = some (.int .i64 a0_1) := (blk_cell BK1896.out 1).trans rfl
       have hcz30_2 : wc.cell? ⟨gb1896, 2, none⟩ = some (.int .i64 a0_2) := (blk_cell BK1896.out 2).trans rfl
       have hcz30_3 : wc.cell? ⟨gb1896, 3, none⟩ = some (.int .i64 a0_3) := (blk_cell BK1896.out 3).trans rfl
       have hcz30_4 : wc.cell? ⟨gb1896, 4, none⟩ = some (.int .i64 a0_4) := (blk_cell BK1896.out 4).trans rfl
       have hcz30_5 : wc.cell? ⟨gb1896, 5, none⟩ = some (.int .i64 a0_5) := (blk_cell BK1896.out 5).trans rfl
       have hfz30_0 := blk_frozen BK1896.out 0
       have hfz30_1 := blk_frozen BK1896.out 1
       have hfz30_2 := blk_frozen BK1896.out 2
       have hfz30_3 := blk_frozen BK1896.out 3
       have hfz30_4 := blk_frozen BK1896.out 4
       have hfz30_5 := blk_frozen BK1896.out 5
       try go_wp2_with (first | ((with_reducible refine gate_callee (f := 158) rfl ?_); refine goesL_ (some 17) rfl rfl Try.func158 (by kernel_rfl) rfl #[.agg #[.int .i64 a0_0, .int .i64 a0_1, .int .i64 a0_2, .int .i64 a0_3]] rfl (by first|rfl|(simp only [List.map_toArray, List.map_cons, List.map_nil]; try rfl)) ?_; (with_reducible refine (spec_l02Det.calls a0_0 a0_1 a0_2 a0_3 t1900 _ A14.out).mono ?_); rintro e w31 ⟨rfl, hb⟩; refine ⟨_, rfl, ?_⟩; have n0_ := aM (blk_below (g := gb1896) (o := .cells #[.int .i64 a0_0, .int .i64 a0_1, .int .i64 a0_2, .int .i64 a0_3, .int .i64 a0_4, .int .i64 a0_5] 84 (0, 0)) (by (with_reducible repeat (first|apply kN|apply kD|apply kA)); exact BK1896.out) hb); have n1_ := aM (below_step (by repeat (first | (with_reducible first | exact HB.out | apply bA|apply bN|apply b1 | refine below_set ?_ GE1896.out) | exact HB.out)) hb); clear BK1896; clear HB; have BK1896 := n0_; have HB := n1_; clear n0_ n1_; (try clear hb)))
       have n0_ := aM (blk_drew BK1896.out)
       have n1_ := aM (below_drew1 HB.out)
       clear BK1896
       clear HB
       have BK1896 := n0_
       have HB := n1_
       clear n0_ n1_
       refine start_ (n := 5) (S := fun w' => w'.cell? ⟨gb1896, 0, none⟩ = some (.int .i64 a0_0) ∧ w'.cell? ⟨gb1896, 1, none⟩ = some (.int .i64 a0_1) ∧ w'.cell? ⟨gb1896, 2, none⟩ = some (.int .i64 a0_2) ∧ w'.cell? ⟨gb1896, 3, none⟩ = some (.int .i64 a0_3) ∧ w'.cell? ⟨gb1896, 4, none⟩ = some (.int .i64 a0_4) ∧ w'.cell? ⟨gb1896, 5, none⟩ = some (.int .i64 a0_5)) (ds := []) #[false, false, false, false, false] (by kernel_rfl) rfl rfl ⟨(blk_cell BK1896.out 0).trans rfl, (blk_cell BK1896.out 1).trans rfl, (blk_cell BK1896.out 2).trans rfl, (blk_cell BK1896.out 3).trans rfl, (blk_cell BK1896.out 4).trans rfl, (blk_cell BK1896.out 5).trans rfl⟩ (fun hHeld => ?_)
       generalize w31.drew = w32 at BK1896 HB hHeld ⊢
       refine pure_ (i := 0) (N := some 20) (v := ?_) (a' := ?_) #[true, false, false, false, false] rfl rfl (by kernel_rfl) (fun _ _ _ h => h) (Or.inl ⟨by rfl, ?_⟩) ?_ ?_
       rotate_left
       ·intro w'
        go_simp
        with_reducible rfl
       rotate_left
       ·simp only [Act.put, List.setIfInBounds_toArray, List.set_cons_zero, List.set_cons_succ, i64_w, i32_w]
        rfl
       refine take_ (i := 1) (N := some 21) (v := ?_) (a' := ?_) #[true, true, false, false, false] rfl rfl (by kernel_rfl) (fun _ _ _ h => h) (Or.inl ⟨by rfl, ?_⟩) hHeld ?_ ?_
       rotate_left
       ·rintro w' ⟨s0, s1, s2, s3, s4, s5⟩
        go_simp
        with_reducible rfl
       rotate_left
       ·simp only [Act.put, List.setIfInBounds_toArray, List.set_cons_zero, List.set_cons_succ, i64_w, i32_w]
        rfl
       refine one_ (i := 2) (N := some 22) #[true, true, true, false, false] rfl rfl (by kernel_rfl) (by decide) (fun K hK => ?_)
       refine goes_ Try.func162 (by kernel_rfl) rfl #[] (by rfl) rfl rfl (by first|rfl|(simp only [List.map_toArray, List.map_cons, List.map_nil]; try rfl)) ?_
       with_reducible refine (spec_l02Unit.calls  t1901 t1902 t1903 t1904 _ A18.out).mono ?_
       rintro e w33 ⟨rfl, hb⟩
       refine ⟨_, rfl, ?_⟩
       have n0_ := aM (blk_below (g := gb1896) (o := .cells #[.int .i64 a0_0, .int .i64 a0_1, .int .i64 a0_2, .int .i64 a0_3, .int .i64 a0_4, .int .i64 a0_5] 84 (0, 0)) (by (with_reducible repeat (first|apply kN|apply kD|apply kA)); exact BK1896.out) hb)
       have n1_ := aM (below_step (by repeat (first | (with_reducible first | exact HB.out | apply bA|apply bN|apply b1 | refine below_set ?_ GE1896.out) | exact HB.out)) hb)
       clear BK1896
       clear HB
       have BK1896 := n0_
       have HB := n1_
       clear n0_ n1_
       (try clear hb)
       (try clear hb2)
       (try clear hk)
       (try clear hi)
       refine hK.out _ _ ⟨(blk_cell BK1896.out 0).trans rfl, (blk_cell BK1896.out 1).trans rfl, (blk_cell BK1896.out 2).trans rfl, (blk_cell BK1896.out 3).trans rfl, (blk_cell BK1896.out 4).trans rfl, (blk_cell BK1896.out 5).trans rfl⟩ (fun hHeld => ?_)
       clear hK K
       refine norm_ (a' := ?_) ?_ ?_
       rotate_left
       ·show Act.put _ (some 22) _ = _
        simp only [Act.put, List.setIfInBounds_toArray, List.set_cons_zero, List.set_cons_succ, i64_w, i32_w]
        rfl
       refine pure_ (i := 3) (N := some 23) (v := ?_) (a' := ?_) #[true, true, true, true, false] rfl rfl (by kernel_rfl) (fun _ _ _ h => h) (Or.inl ⟨by rfl, ?_⟩) ?_ ?_
       rotate_left
       ·intro w'
        go_simp
        with_reducible rfl
       rotate_left
       ·simp only [Act.put, List.setIfInBounds_toArray, List.set_cons_zero, List.set_cons_succ, i64_w, i32_w]
        rfl
       refine pure_ (i := 4) (N := some 19) (v := ?_) (a' := ?_) #[true, true, true, true, true] rfl rfl (by kernel_rfl) (fun _ _ _ h => h) (Or.inl ⟨by rfl, ?_⟩) ?_ ?_
       rotate_left
       ·intro w'
        go_simp
        with_reducible rfl
       rotate_left
       ·simp only [Act.put, List.setIfInBounds_toArray, List.set_cons_zero, List.set_cons_succ, i64_w, i32_w]
        rfl
       refine done_ (by kernel_rfl) ?_
       have hcz34_0 : w33.cell? ⟨gb1896, 0, none⟩ = some (.int .i64 a0_0) := (blk_cell BK1896.out 0).trans rfl
       have hcz34_1 : w33.cell? ⟨gb1896, 1, none⟩ = some (.int .i64 a0_1) := (blk_cell BK1896.out 1).trans rfl
       have hcz34_2 : w33.cell? ⟨gb1896, 2, none⟩ = some (.int .i64 a0_2) := (blk_cell BK1896.out 2).trans rfl
       have hcz34_3 : w33.cell? ⟨gb1896, 3, none⟩ = some (.int .i64 a0_3) := (blk_cell BK1896.out 3).trans rfl
       have hcz34_4 : w33.cell? ⟨gb1896, 4, none⟩ = some (.int .i64 a0_4) := (blk_cell BK1896.out 4).trans rfl
       have hcz34_5 : w33.cell? ⟨gb1896, 5, none⟩ = some (.int .i64 a0_5) := (blk_cell BK1896.out 5).trans rfl
       have hfz34_0 := blk_frozen BK1896.out 0
       have hfz34_1 := blk_frozen BK1896.out 1
       have hfz34_2 := blk_frozen BK1896.out 2
       have hfz34_3 := blk_frozen BK1896.out 3
       have hfz34_4 := blk_frozen BK1896.out 4
       have hfz34_5 := blk_frozen BK1896.out 5
       try go_wp2
       go_ret
       exact ⟨by first|rfl|(simp [*, errW_none, errW_some] <;> rfl), by repeat (first | (with_reducible first | exact HB.out | apply bA|apply bN|apply b1 | refine below_set ?_ GE1896.out) | exact HB.out)⟩

def spec_KindOfMotion.f (k : Nat) (a0_0 : Int) (a0_1 : Int) (a0_2 : Int) (a0_3 : Int) (a0_4 : Int) (a0_5 : Int) : Option (Int × Int) := (spec_IsMotion.f k a0_0 a0_1 a0_2 a0_3 a0_4 a0_5).bind fun t1906 => (if t1906 = true then ((spec_l05Kind.f k a0_0 a0_1 a0_2 a0_3 a0_4 a0_5).bind fun t1907 => (some (t1907, 0))) else (some (0, 1)))
set_option maxHeartbeats 40000000 in
set_option maxRecDepth 100000 in
theorem spec_KindOfMotion.calls (k : Nat) (a0_0 : Int) (a0_1 : Int) (a0_2 : Int) (a0_3 : Int) (a0_4 : Int) (a0_5 : Int) (r1 : Int) (r2 : Int) (w : World) (h : spec_KindOfMotion.f k a0_0 a0_1 a0_2 a0_3 a0_4 a0_5 = some (r1, r2)) :
  Calls Try.prog 95 #[.agg #[.int .i64 a0_0, .int .i64 a0_1, .int .i64 a0_2, .int .i64 a0_3, .int .i64 a0_4, .int .i64 a0_5]] w fun e w' => e = .returned (.tuple #[.int .i64 r1, .int .i64 r2]) ∧ Below w.heap.size w w' := by
 have hu84 := Try.underlying84
 have HB := aM (Below.refl w.heap.size w)
 have H : ((spec_IsMotion.f k a0_0 a0_1 a0_2 a0_3 a0_4 a0_5).bind fun t1906 => (if t1906 = true then ((spec_l05Kind.f k a0_0 a0_1 a0_2 a0_3 a0_4 a0_5).bind fun t1907 => (some (t1907, 0))) else (some (0, 1)))) = some (r1, r2) := h
 clear h
 replace H := Option.bind_eq_some_iff.mp H
 obtain ⟨t1906, A20, H⟩ := H
 try dsimp only at H
 have A2 := aM A20
 clear A20
 by_cases c3 : t1906 = true
 ·subst c3
  have H1 : ((spec_l05Kind.f k a0_0 a0_1 a0_2 a0_3 a0_4 a0_5).bind fun t1907 => (some (t1907, 0))) = some (r1, r2) := by rw [if_pos rfl] at H; exact H
  clear H
  have H := H1
  clear H1
  replace H := Option.bind_eq_some_iff.mp H
  obtain ⟨t1907, A40, H⟩ := H
  try dsimp only at H
  have A4 := aM A40
  clear A40
  simp only [Option.some.injEq, Prod.mk.injEq] at H
  obtain ⟨rfl, rfl⟩ := H
  go_enter Try.func95, Try.ntmps95
  go_wp2_with (first | ((with_reducible refine gate_dst (N := 1) rfl ?_); refine box_event ?hg (N := 1) ?hd (cs := #[.int .i64 a0_0, .int .i64 a0_1, .int .i64 a0_2, .int .i64 a0_3, .int .i64 a0_4, .int .i64 a0_5]) (t := 84) ?hr ?_; (case hd => rfl); (case hg => rfl); (case hr => first | (go_simp; done) | (go_simp; rfl)); intro gb1905 hg w5 hbox hb; have n0_ := aM (below_step (by repeat (first | (with_reducible first | exact HB.out | apply bA|apply bN|apply b1) | exact HB.out)) hb); have n1_ := aM (hbox); have n2_ := aM ((by rw [hg]; exact (below_size (by repeat (first | (with_reducible first | exact HB.out | apply bA|apply bN|apply b1) | exact HB.out))) : w.heap.size ≤ gb1905)); have n3_ := aM ((by rw [hg]; exact (below_size (by repeat (first | (with_reducible first | exact HB.out | apply bA|apply bN|apply b1) | exact HB.out))) : w.heap.size ≤ gb1905)); clear HB; have HB := n0_; have BK1905 := n1_; have GW1905 := n2_; have GE1905 := n3_; clear n0_ n1_ n2_ n3_; clear hb hbox hg; have hcz6_0 : w5.cell? ⟨gb1905, 0, none⟩ = some (.int .i64 a0_0) := (blk_cell BK1905.out 0).trans rfl; have hcz6_1 : w5.cell? ⟨gb1905, 1, none⟩ = some (.int .i64 a0_1) := (blk_cell BK1905.out 1).trans rfl; have hcz6_2 : w5.cell? ⟨gb1905, 2, none⟩ = some (.int .i64 a0_2) := (blk_cell BK1905.out 2).trans rfl; have hcz6_3 : w5.cell? ⟨gb1905, 3, none⟩ = some (.int .i64 a0_3) := (blk_cell BK1905.out 3).trans rfl; have hcz6_4 : w5.cell? ⟨gb1905, 4, none⟩ = some (.int .i64 a0_4) := (blk_cell BK1905.out 4).trans rfl; have hcz6_5 : w5.cell? ⟨gb1905, 5, none⟩ = some (.int .i64 a0_5) := (blk_cell BK1905.out 5).trans rfl; have hfz6_0 := blk_frozen BK1905.out 0; have hfz6_1 := blk_frozen BK1905.out 1; have hfz6_2 := blk_frozen BK1905.out 2; have hfz6_3 := blk_frozen BK1905.out 3; have hfz6_4 := blk_frozen BK1905.out 4; have hfz6_5 := blk_frozen BK1905.out 5) | ((with_reducible refine gate_callee (f := 92) rfl ?_); refine goesL_ (some 5) rfl rfl Try.func92 (by kernel_rfl) rfl #[.agg #[.int .i64 a0_0, .int .i64 a0_1, .int .i64 a0_2, .int .i64 a0_3, .int .i64 a0_4, .int .i64 a0_5]] rfl (by first|rfl|(simp only [List.map_toArray, List.map_cons, List.map_nil]; try rfl)) ?_; (with_reducible refine (spec_IsMotion.calls k a0_0 a0_1 a0_2 a0_3 a0_4 a0_5 true _ A2.out).mono ?_); rintro e w7 ⟨rfl, hb⟩; refine ⟨_, rfl, ?_⟩; have n0_ := aM (blk_below (g := gb1905) (o := .cells #[.int .i64 a0_0, .int .i64 a0_1, .int .i64 a0_2, .int .i64 a0_3, .int .i64 a0_4, .int .i64 a0_5] 84 (0, 0)) (by (with_reducible repeat (first|apply kN|apply kD|apply kA)); exact BK1905.out) hb); have n1_ := aM (below_step (by repeat (first | (with_reducible first | exact HB.out | apply bA|apply bN|apply b1 | refine below_set ?_ GE1905.out) | exact HB.out)) hb); clear BK1905; clear HB; have BK1905 := n0_; have HB := n1_; clear n0_ n1_; (try clear hb); have hcz8_0 : w7.cell? ⟨gb1905, 0, none⟩ = some (.int .i64 a0_0) := (blk_cell BK1905.out 0).trans rfl; have hcz8_1 : w7.cell? ⟨gb1905, 1, none⟩ = some (.int .i64 a0_1) := (blk_cell BK1905.out 1).trans rfl; have hcz8_2 : w7.cell? ⟨gb1905, 2, none⟩ = some (.int .i64 a0_2) := (blk_cell BK1905.out 2).trans rfl; have hcz8_3 : w7.cell? ⟨gb1905, 3, none⟩ = some (.int .i64 a0_3) := (blk_cell BK1905.out 3).trans rfl; have hcz8_4 : w7.cell? ⟨gb1905, 4, none⟩ = some (.int .i64 a0_4) := (blk_cell BK1905.out 4).trans rfl; have hcz8_5 : w7.cell? ⟨gb1905, 5, none⟩ = some (.int .i64 a0_5) := (blk_cell BK1905.out 5).trans rfl; have hfz8_0 := blk_frozen BK1905.out 0; have hfz8_1 := blk_frozen BK1905.out 1; have hfz8_2 := blk_frozen BK1905.out 2; have hfz8_3 := blk_frozen BK1905.out 3; have hfz8_4 := blk_frozen BK1905.out 4; have hfz8_5 := blk_frozen BK1905.out 5) | ((with_reducible refine gate_callee (f := 192) rfl ?_); refine goesL_ (some 8) rfl rfl Try.func192 (by kernel_rfl) rfl #[.agg #[.int .i64 a0_0, .int .i64 a0_1, .int .i64 a0_2, .int .i64 a0_3, .int .i64 a0_4, .int .i64 a0_5]] rfl (by first|rfl|(simp only [List.map_toArray, List.map_cons, List.map_nil]; try rfl)) ?_; (with_reducible refine (spec_l05Kind.calls k a0_0 a0_1 a0_2 a0_3 a0_4 a0_5 t1907 _ A4.out).mono ?_); rintro e w9 ⟨rfl, hb⟩; refine ⟨_, rfl, ?_⟩; have n0_ := aM (blk_below (g := gb1905) (o := .cells #[.int .i64 a0_0, .int .i64 a0_1, .int .i64 a0_2, .int .i64 a0_3, .int .i64 a0_4, .int .i64 a0_5] 84 (0, 0)) (by (with_reducible repeat (first|apply kN|apply kD|apply kA)); exact BK1905.out) hb); have n1_ := aM (below_step (by repeat (first | (with_reducible first | exact HB.out | apply bA|apply bN|apply b1 | refine below_set ?_ GE1905.out) | exact HB.out)) hb); clear BK1905; clear HB; have BK1905 := n0_; have HB := n1_; clear n0_ n1_; (try clear hb)))
  go_ret2
  exact ⟨by first|rfl|(simp [*, errW_none, errW_some] <;> rfl), by repeat (first | (with_reducible first | exact HB.out | apply bA|apply bN|apply b1 | refine below_set ?_ GE1905.out) | exact HB.out)⟩
 ·replace c3 := Bool.eq_false_iff.mpr c3
  subst c3
  have H1 : (some (0, 1)) = some (r1, r2) := by rw [if_neg (show ¬ (false = true) by decide)] at H; exact H
  clear H
  have H := H1
  clear H1
  simp only [Option.some.injEq, Prod.mk.injEq] at H
  obtain ⟨rfl, rfl⟩ := H
  go_enter Try.func95, Try.ntmps95
  go_wp2_with (first | ((with_reducible refine gate_dst (N := 1) rfl ?_); refine box_event ?hg (N := 1) ?hd (cs := #[.int .i64 a0_0, .int .i64 a0_1, .int .i64 a0_2, .int .i64 a0_3, .int .i64 a0_4, .int .i64 a0_5]) (t := 84) ?hr ?_; (case hd => rfl); (case hg => rfl); (case hr => first | (go_simp; done) | (go_simp; rfl)); intro gb1905 hg w10 hbox hb; have n0_ := aM (below_step (by repeat (first | (with_reducible first | exact HB.out | apply bA|apply bN|apply b1) | exact HB.out)) hb); have n1_ := aM (hbox); have n2_ := aM ((by rw [hg]; exact (below_size (by repeat (first | (with_reducible first | exact HB.out | apply bA|apply bN|apply b1) | exact HB.out))) : w.heap.size ≤ gb1905)); have n3_ := aM ((by rw [hg]; exact (below_size (by repeat (first | (with_reducible first | exact HB.out | apply bA|apply bN|apply b1) | exact HB.out))) : w.heap.size ≤ gb1905)); clear HB; have HB := n0_; have BK1905 := n1_; have GW1905 := n2_; have GE1905 := n3_; clear n0_ n1_ n2_ n3_; clear hb hbox hg; have hcz11_0 : w10.cell? ⟨gb1905, 0, none⟩ = some (.int .i64 a0_0) := (blk_cell BK1905.out 0).trans rfl; have hcz11_1 : w10.cell? ⟨gb1905, 1, none⟩ = some (.int .i64 a0_1) := (blk_cell BK1905.out 1).trans rfl; have hcz11_2 : w10.cell? ⟨gb1905, 2, none⟩ = some (.int .i64 a0_2) := (blk_cell BK1905.out 2).trans rfl; have hcz11_3 : w10.cell? ⟨gb1905, 3, none⟩ = some (.int .i64 a0_3) := (blk_cell BK1905.out 3).trans rfl; have hcz11_4 : w10.cell? ⟨gb1905, 4, none⟩ = some (.int .i64 a0_4) := (blk_cell BK1905.out 4).trans rfl; have hcz11_5 : w10.cell? ⟨gb1905, 5, none⟩ = some (.int .i64 a0_5) := (blk_cell BK1905.out 5).trans rfl; have hfz11_0 := blk_frozen BK1905.out 0; have hfz11_1 := blk_frozen BK1905.out 1; have hfz11_2 := blk_frozen BK1905.out 2; have hfz11_3 := blk_frozen BK1905.out 3; have hfz11_4 := blk_frozen BK1905.out 4; have hfz11_5 := blk_frozen BK1905.out 5) | ((with_reducible refine gate_callee (f := 92) rfl ?_); refine goesL_ (some 5) rfl rfl Try.func92 (by kernel_rfl) rfl #[.agg #[.int .i64 a0_0, .int .i64 a0_1, .int .i64 a0_2, .int .i64 a0_3, .int .i64 a0_4, .int .i64 a0_5]] rfl (by first|rfl|(simp only [List.map_toArray, List.map_cons, List.map_nil]; try rfl)) ?_; (with_reducible refine (spec_IsMotion.calls k a0_0 a0_1 a0_2 a0_3 a0_4 a0_5 false _ A2.out).mono ?_); rintro e w12 ⟨rfl, hb⟩; refine ⟨_, rfl, ?_⟩; have n0_ := aM (blk_below (g := gb1905) (o := .cells #[.int .i64 a0_0, .int .i64 a0_1, .int .i64 a0_2, .int .i64 a0_3, .int .i64 a0_4, .int .i64 a0_5] 84 (0, 0)) (by (with_reducible repeat (first|apply kN|apply kD|apply kA)); exact BK1905.out) hb); have n1_ := aM (below_step (by repeat (first | (with_reducible first | exact HB.out | apply bA|apply bN|apply b1 | refine below_set ?_ GE1905.out) | exact HB.out)) hb); clear BK1905; clear HB; have BK1905 := n0_; have HB := n1_; clear n0_ n1_; (try clear hb)))
  go_ret2
  exact ⟨by first|rfl|(simp [*, errW_none, errW_some] <;> rfl), by repeat (first | (with_reducible first | exact HB.out | apply bA|apply bN|apply b1 | refine below_set ?_ GE1905.out) | exact HB.out)⟩

def impl_OrderOfMotion.f (k : Nat) (a0_0 : Int) (a0_1 : Int) (a0_2 : Int) (a0_3 : Int) (a0_4 : Int) (a0_5 : Int) : Option (Int × Int) := (impl_IsMotion.f k a0_0 a0_1 a0_2 a0_3 a0_4 a0_5).bind fun t1909 => (if t1909 = true then ((impl_Motion_kind.f a0_0 a0_1 a0_2 a0_3 a0_4 a0_5).bind fun t1910 => (if t1910 = 1 then (some (0, 0)) else (if t1910 = 4 then (some (0, 0)) else ((impl_Mat_order.f k a0_0 a0_1 a0_2 a0_3).bind fun t1911 => (some (t1911, 0)))))) else (some (0, 1)))
set_option maxHeartbeats 40000000 in
set_option maxRecDepth 100000 in
theorem impl_OrderOfMotion.calls (k : Nat) (a0_0 : Int) (a0_1 : Int) (a0_2 : Int) (a0_3 : Int) (a0_4 : Int) (a0_5 : Int) (r1 : Int) (r2 : Int) (w : World) (h : impl_OrderOfMotion.f k a0_0 a0_1 a0_2 a0_3 a0_4 a0_5 = some (r1, r2)) :
  Calls Try.prog 96 #[.agg #[.int .i64 a0_0, .int .i64 a0_1, .int .i64 a0_2, .int .i64 a0_3, .int .i64 a0_4, .int .i64 a0_5]] w fun e w' => e = .returned (.tuple #[.int .i64 r1, .int .i64 r2]) ∧ Below w.heap.size w w' := by
 have hu84 := Try.underlying84
 have hu51 := Try.underlying51
 have HB := aM (Below.refl w.heap.size w)
 have H : ((impl_IsMotion.f k a0_0 a0_1 a0_2 a0_3 a0_4 a0_5).bind fun t1909 => (if t1909 = true then ((impl_Motion_kind.f a0_0 a0_1 a0_2 a0_3 a0_4 a0_5).bind fun t1910 => (if t1910 = 1 then (some (0, 0)) else (if t1910 = 4 then (some (0, 0)) else ((impl_Mat_order.f k a0_0 a0_1 a0_2 a0_3).bind fun t1911 => (some (t1911, 0)))))) else (some (0, 1)))) = some (r1, r2) := h
 clear h
 replace H := Option.bind_eq_some_iff.mp H
 obtain ⟨t1909, A20, H⟩ := H
 try dsimp only at H
 have A2 := aM A20
 clear A20
 by_cases c3 : t1909 = true
 ·subst c3
  have H1 : ((impl_Motion_kind.f a0_0 a0_1 a0_2 a0_3 a0_4 a0_5).bind fun t1910 => (if t1910 = 1 then (some (0, 0)) else (if t1910 = 4 then (some (0, 0)) else ((impl_Mat_order.f k a0_0 a0_1 a0_2 a0_3).bind fun t1911 => (some (t1911, 0)))))) = some (r1, r2) := by rw [if_pos rfl] at H; exact H
  clear H
  have H := H1
  clear H1
  replace H := Option.bind_eq_some_iff.mp H
  obtain ⟨t1910, A40, H⟩ := H
  try dsimp only at H
  have A4 := aM A40
  clear A40
  by_cases c5 : t1910 = 1
  ·rw [if_pos c5] at H
   have c5b0 : (t1910 == 1) = true := beq_iff_eq.mpr c5
   have c5b1 : (t1910 != 1) = false := bne_eq_false_iff_eq.mpr c5
   clear c5
   simp only [Option.some.injEq, Prod.mk.injEq] at H
   obtain ⟨rfl, rfl⟩ := H
   go_enter Try.func96, Try.ntmps96
   go_wp2_with (first | ((with_reducible refine gate_dst (N := 1) rfl ?_); refine box_event ?hg (N := 1) ?hd (cs := #[.int .i64 a0_0, .int .i64 a0_1, .int .i64 a0_2, .int .i64 a0_3, .int .i64 a0_4, .int .i64 a0_5]) (t := 84) ?hr ?_; (case hd => rfl); (case hg => rfl); (case hr => first | (go_simp; done) | (go_simp; rfl)); intro gb1908 hg w6 hbox hb; have n0_ := aM (below_step (by repeat (first | (with_reducible first | exact HB.out | apply bA|apply bN|apply b1) | exact HB.out)) hb); have n1_ := aM (hbox); have n2_ := aM ((by rw [hg]; exact (below_size (by repeat (first | (with_reducible first | exact HB.out | apply bA|apply bN|apply b1) | exact HB.out))) : w.heap.size ≤ gb1908)); have n3_ := aM ((by rw [hg]; exact (below_size (by repeat (first | (with_reducible first | exact HB.out | apply bA|apply bN|apply b1) | exact HB.out))) : w.heap.size ≤ gb1908)); clear HB; have HB := n0_; have BK1908 := n1_; have GW1908 := n2_; have GE1908 := n3_; clear n0_ n1_ n2_ n3_; clear hb hbox hg; have hcz7_0 : w6.cell? ⟨gb1908, 0, none⟩ = some (.int .i64 a0_0) := (blk_cell BK1908.out 0).trans rfl; have hcz7_1 : w6.cell? ⟨gb1908, 1, none⟩ = some (.int .i64 a0_1) := (blk_cell BK1908.out 1).trans rfl; have hcz7_2 : w6.cell? ⟨gb1908, 2, none⟩ = some (.int .i64 a0_2) := (blk_cell BK1908.out 2).trans rfl; have hcz7_3 : w6.cell? ⟨gb1908, 3, none⟩ = some (.int .i64 a0_3) := (blk_cell BK1908.out 3).trans rfl; have hcz7_4 : w6.cell? ⟨gb1908, 4, none⟩ = some (.int .i64 a0_4) := (blk_cell BK1908.out 4).trans rfl; have hcz7_5 : w6.cell? ⟨gb1908, 5, none⟩ = some (.int .i64 a0_5) := (blk_cell BK1908.out 5).trans rfl; have hfz7_0 := blk_frozen BK1908.out 0; have hfz7_1 := blk_frozen BK1908.out 1; have hfz7_2 := blk_frozen BK1908.out 2; have hfz7_3 := blk_frozen BK1908.out 3; have hfz7_4 := blk_frozen BK1908.out 4; have hfz7_5 := blk_frozen BK1908.out 5) | ((with_reducible refine gate_callee (f := 91) rfl ?_); refine goesL_ (some 6) rfl rfl Try.func91 (by kernel_rfl) rfl #[.agg #[.int .i64 a0_0, .int .i64 a0_1, .int .i64 a0_2, .int .i64 a0_3, .int .i64 a0_4, .int .i64 a0_5]] rfl (by first|rfl|(simp only [List.map_toArray, List.map_cons, List.map_nil]; try rfl)) ?_; (with_reducible refine (impl_IsMotion.calls k a0_0 a0_1 a0_2 a0_3 a0_4 a0_5 true _ A2.out).mono ?_); rintro e w8 ⟨rfl, hb⟩; refine ⟨_, rfl, ?_⟩; have n0_ := aM (blk_below (g := gb1908) (o := .cells #[.int .i64 a0_0, .int .i64 a0_1, .int .i64 a0_2, .int .i64 a0_3, .int .i64 a0_4, .int .i64 a0_5] 84 (0, 0)) (by (with_reducible repeat (first|apply kN|apply kD|apply kA)); exact BK1908.out) hb); have n1_ := aM (below_step (by repeat (first | (with_reducible first | exact HB.out | apply bA|apply bN|apply b1 | refine below_set ?_ GE1908.out) | exact HB.out)) hb); clear BK1908; clear HB; have BK1908 := n0_; have HB := n1_; clear n0_ n1_; (try clear hb); have hcz9_0 : w8.cell? ⟨gb1908, 0, none⟩ = some (.int .i64 a0_0) := (blk_cell BK1908.out 0).trans rfl; have hcz9_1 : w8.cell? ⟨gb1908, 1, none⟩ = some (.int .i64 a0_1) := (blk_cell BK1908.out 1).trans rfl; have hcz9_2 : w8.cell? ⟨gb1908, 2, none⟩ = some (.int .i64 a0_2) := (blk_cell BK1908.out 2).trans rfl; have hcz9_3 : w8.cell? ⟨gb1908, 3, none⟩ = some (.int .i64 a0_3) := (blk_cell BK1908.out 3).trans rfl; have hcz9_4 : w8.cell? ⟨gb1908, 4, none⟩ = some (.int .i64 a0_4) := (blk_cell BK1908.out 4).trans rfl; have hcz9_5 : w8.cell? ⟨gb1908, 5, none⟩ = some (.int .i64 a0_5) := (blk_cell BK1908.out 5).trans rfl; have hfz9_0 := blk_frozen BK1908.out 0; have hfz9_1 := blk_frozen BK1908.out 1; have hfz9_2 := blk_frozen BK1908.out 2; have hfz9_3 := blk_frozen BK1908.out 3; have hfz9_4 := blk_frozen BK1908.out 4; have hfz9_5 := blk_frozen BK1908.out 5) | ((with_reducible refine gate_callee (f := 191) rfl ?_); refine goesL_ (some 9) rfl rfl Try.func191 (by kernel_rfl) rfl #[.agg #[.int .i64 a0_0, .int .i64 a0_1, .int .i64 a0_2, .int .i64 a0_3, .int .i64 a0_4, .int .i64 a0_5]] rfl (by first|rfl|(simp only [List.map_toArray, List.map_cons, List.map_nil]; try rfl)) ?_; (with_reducible refine (impl_Motion_kind.calls a0_0 a0_1 a0_2 a0_3 a0_4 a0_5 t1910 _ A4.out).mono ?_); rintro e w10 ⟨rfl, hb⟩; refine ⟨_, rfl, ?_⟩; have n0_ := aM (blk_below (g := gb1908) (o := .cells #[.int .i64 a0_0, .int .i64 a0_1, .int .i64 a0_2, .int .i64 a0_3, .int .i64 a0_4, .int .i64 a0_5] 84 (0, 0)) (by (with_reducible repeat (first|apply kN|apply kD|apply kA)); exact BK1908.out) hb); have n1_ := aM (below_step (by repeat (first | (with_reducible first | exact HB.out | apply bA|apply bN|apply b1 | refine below_set ?_ GE1908.out) | exact HB.out)) hb); clear BK1908; clear HB; have BK1908 := n0_; have HB := n1_; clear n0_ n1_; (try clear hb)))
   go_ret2
   exact ⟨by first|rfl|(simp [*, errW_none, errW_some] <;> rfl), by repeat (first | (with_reducible first | exact HB.out | apply bA|apply bN|apply b1 | refine below_set ?_ GE1908.out) | exact HB.out)⟩
  ·rw [if_neg c5] at H
   have c5b0 : (t1910 == 1) = false := beq_eq_false_iff_ne.mpr c5
   have c5b1 : (t1910 != 1) = true := bne_iff_ne.mpr c5
   by_cases c11 : t1910 = 4
   ·rw [if_pos c11] at H
    have c11b0 : (t1910 == 4) = true := beq_iff_eq.mpr c11
    have c11b1 : (t1910 != 4) = false := bne_eq_false_iff_eq.mpr c11
    clear c11
    simp only [Option.some.injEq, Prod.mk.injEq] at H
    obtain ⟨rfl, rfl⟩ := H
    go_enter Try.func96, Try.ntmps96
    go_wp2_with (first | ((with_reducible refine gate_dst (N := 1) rfl ?_); refine box_event ?hg (N := 1) ?hd (cs := #[.int .i64 a0_0, .int .i64 a0_1, .int .i64 a0_2, .int .i64 a0_3, .int .i64 a0_4, .int .i64 a0_5]) (t := 84) ?hr ?_; (case hd => rfl); (case hg => rfl); (case hr => first | (go_simp; done) | (go_simp; rfl)); intro gb1908 hg w12 hbox hb; have n0_ := aM (below_step (by repeat (first | (with_reducible first | exact HB.out | apply bA|apply bN|apply b1) | exact HB.out)) hb); have n1_ := aM (hbox); have n2_ := aM ((by rw [hg]; exact (below_size (by repeat (first | (with_reducible first | exact HB.out | apply bA|apply bN|apply b1) | exact HB.out))) : w.heap.size ≤ gb1908)); have n3_ := aM ((by rw [hg]; exact (below_size (by repeat (first | (with_reducible first | exact HB.out | apply bA|apply bN|apply b1) | exact HB.out))) : w.heap.size ≤ gb1908)); clear HB; have HB := n0_; have BK1908 := n1_; have GW1908 := n2_; have GE1908 := n3_; clear n0_ n1_ n2_ n3_; clear hb hbox hg; have hcz13_0 : w12.cell? ⟨gb1908, 0, none⟩ = some (.int .i64 a0_0) := (blk_cell BK1908.out 0).trans rfl; have hcz13_1 : w12.cell? ⟨gb1908, 1, none⟩ = some (.int .i64 a0_1) := (blk_cell BK1908.out 1).trans rfl; have hcz13_2 : w12.cell? ⟨gb1908, 2, none⟩ = some (.int .i64 a0_2) := (blk_cell BK1908.out 2).trans rfl; have hcz13_3 : w12.cell? ⟨gb1908, 3, none⟩ = some (.int .i64 a0_3) := (blk_cell BK1908.out 3).trans rfl; have hcz13_4 : w12.cell? ⟨gb1908, 4, none⟩ = some (.int .i64 a0_4) := (blk_cell BK1908.out 4).trans rfl; have hcz13_5 : w12.cell? ⟨gb1908, 5, none⟩ = some (.int .i64 a0_5) := (blk_cell BK1908.out 5).trans rfl; have hfz13_0 := blk_frozen BK1908.out 0; have hfz13_1 := blk_frozen BK1908.out 1; have hfz13_2 := blk_frozen BK1908.out 2; have hfz13_3 := blk_frozen BK1908.out 3; have hfz13_4 := blk_frozen BK1908.out 4; have hfz13_5 := blk_frozen BK1908.out 5) | ((with_reducible refine gate_callee (f := 91) rfl ?_); refine goesL_ (some 6) rfl rfl Try.func91 (by kernel_rfl) rfl #[.agg #[.int .i64 a0_0, .int .i64 a0_1, .int .i64 a0_2, .int .i64 a0_3, .int .i64 a0_4, .int .i64 a0_5]] rfl (by first|rfl|(simp only [List.map_toArray, List.map_cons, List.map_nil]; try rfl)) ?_; (with_reducible refine (impl_IsMotion.calls k a0_0 a0_1 a0_2 a0_3 a0_4 a0_5 true _ A2.out).mono ?_); rintro e w14 ⟨rfl, hb⟩; refine ⟨_, rfl, ?_⟩; have n0_ := aM (blk_below (g := gb1908) (o := .cells #[.int .i64 a0_0, .int .i64 a0_1, .int .i64 a0_2, .int .i64 a0_3, .int .i64 a0_4, .int .i64 a0_5] 84 (0, 0)) (by (with_reducible repeat (first|apply kN|apply kD|apply kA)); exact BK1908.out) hb); have n1_ := aM (below_step (by repeat (first | (with_reducible first | exact HB.out | apply bA|apply bN|apply b1 | refine below_set ?_ GE1908.out) | exact HB.out)) hb); clear BK1908; clear HB; have BK1908 := n0_; have HB := n1_; clear n0_ n1_; (try clear hb); have hcz15_0 : w14.cell? ⟨gb1908, 0, none⟩ = some (.int .i64 a0_0) := (blk_cell BK1908.out 0).trans rfl; have hcz15_1 : w14.cell? ⟨gb1908, 1, none⟩ = some (.int .i64 a0_1) := (blk_cell BK1908.out 1).trans rfl; have hcz15_2 : w14.cell? ⟨gb1908, 2, none⟩ = some (.int .i64 a0_2) := (blk_cell BK1908.out 2).trans rfl; have hcz15_3 : w14.cell? ⟨gb1908, 3, none⟩ = some (.int .i64 a0_3) := (blk_cell BK1908.out 3).trans rfl; have hcz15_4 : w14.cell? ⟨gb1908, 4, none⟩ = some (.int .i64 a0_4) := (blk_cell BK1908.out 4).trans rfl; have hcz15_5 : w14.cell? ⟨gb1908, 5, none⟩ = some (.int .i64 a0_5) := (blk_cell BK1908.out 5).trans rfl; have hfz15_0 := blk_frozen BK1908.out 0; have hfz15_1 := blk_frozen BK1908.out 1; have hfz15_2 := blk_frozen BK1908.out 2; have hfz15_3 := blk_frozen BK1908.out 3; have hfz15_4 := blk_frozen BK1908.out 4; have hfz15_5 := blk_frozen BK1908.out 5) | ((with_reducible refine gate_callee (f := 191) rfl ?_); refine goesL_ (some 9) rfl rfl Try.func191 (by kernel_rfl) rfl #[.agg #[.int .i64 a0_0, .int .i64 a0_1, .int .i64 a0_2, .int .i64 a0_3, .int .i64 a0_4, .int .i64 a0_5]] rfl (by first|rfl|(simp only [List.map_toArray, List.map_cons, List.map_nil]; try rfl)) ?_; (with_reducible refine (impl_Motion_kind.calls a0_0 a0_1 a0_2 a0_3 a0_4 a0_5 t1910 _ A4.out).mono ?_); rintro e w16 ⟨rfl, hb⟩; refine ⟨_, rfl, ?_⟩; have n0_ := aM (blk_below (g := gb1908) (o := .cells #[.int .i64 a0_0, .int .i64 a0_1, .int .i64 a0_2, .int .i64 a0_3, .int .i64 a0_4, .int .i64 a0_5] 84 (0, 0)) (by (with_reducible repeat (first|apply kN|apply kD|apply kA)); exact BK1908.out) hb); have n1_ := aM (below_step (by repeat (first | (with_reducible first | exact HB.out | apply bA|apply bN|apply b1 | refine below_set ?_ GE1908.out) | exact HB.out)) hb); clear BK1908; clear HB; have BK1908 := n0_; have HB := n1_; clear n0_ n1_; (try clear hb)))
    go_ret2
    exact ⟨by first|rfl|(simp [*, errW_none, errW_some] <;> rfl), by repeat (first | (with_reducible first | exact HB.out | apply bA|apply bN|apply b1 | refine below_set ?_ GE1908.out) | exact HB.out)⟩
   ·rw [if_neg c11] at H
    have c11b0 : (t1910 == 4) = false := beq_eq_false_iff_ne.mpr c11
    have c11b1 : (t1910 != 4) = true := bne_iff_ne.mpr c11
    replace H := Option.bind_eq_some_iff.mp H
    obtain ⟨t1911, A170, H⟩ := H
    try dsimp only at H
    have A17 := aM A170
    clear A170
    simp only [Option.some.injEq, Prod.mk.injEq] at H
    obtain ⟨rfl, rfl⟩ := H
    go_enter Try.func96, Try.ntmps96
    go_wp2_with (first | ((with_reducible refine gate_dst (N := 1) rfl ?_); refine box_event ?hg (N := 1) ?hd (cs := #[.int .i64 a0_0, .int .i64 a0_1, .int .i64 a0_2, .int .i64 a0_3, .int .i64 a0_4, .int .i64 a0_5]) (t := 84) ?hr ?_; (case hd => rfl); (case hg => rfl); (case hr => first | (go_simp; done) | (go_simp; rfl)); intro gb1908 hg w18 hbox hb; have n0_ := aM (below_step (by repeat (first | (with_reducible first | exact HB.out | apply bA|apply bN|apply b1) | exact HB.out)) hb); have n1_ := aM (hbox); have n2_ := aM ((by rw [hg]; exact (below_size (by repeat (first | (with_reducible first | exact HB.out | apply bA|apply bN|apply b1) | exact HB.out))) : w.heap.size ≤ gb1908)); have n3_ := aM ((by rw [hg]; exact (below_size (by repeat (first | (with_reducible first | exact HB.out | apply bA|apply bN|apply b1) | exact HB.out))) : w.heap.size ≤ gb1908)); clear HB; have HB := n0_; have BK1908 := n1_; have GW1908 := n2_; have GE1908 := n3_; clear n0_ n1_ n2_ n3_; clear hb hbox hg; have hcz19_0 : w18.cell? ⟨gb1908, 0, none⟩ = some (.int .i64 a0_0) := (blk_cell BK1908.out 0).trans rfl; have hcz19_1 : w18.cell? ⟨gb1908, 1, none⟩ = some (.int .i64 a0_1) := (blk_cell BK1908.out 1).trans rfl; have hcz19_2 : w18.cell? ⟨gb1908, 2, none⟩ = some (.int .i64 a0_2) := (blk_cell BK1908.out 2).trans rfl; have hcz19_3 : w18.cell? ⟨gb1908, 3, none⟩ = some (.int .i64 a0_3) := (blk_cell BK1908.out 3).trans rfl; have hcz19_4 : w18.cell? ⟨gb1908, 4, none⟩ = some (.int .i64 a0_4) := (blk_cell BK1908.out 4).trans rfl; have hcz19_5 : w18.cell? ⟨gb1908, 5, none⟩ = some (.int .i64 a0_5) := (blk_cell BK1908.out 5).trans rfl; have hfz19_0 := blk_frozen BK1908.out 0; have hfz19_1 := blk_frozen BK1908.out 1; have hfz19_2 := blk_frozen BK1908.out 2; have hfz19_3 := blk_frozen BK1908.out 3; have hfz19_4 := blk_frozen BK1908.out 4; have hfz19_5 := blk_frozen BK1908.out 5) | ((with_reducible refine gate_callee (f := 91) rfl ?_); refine goesL_ (some 6) rfl rfl Try.func91 (by kernel_rfl) rfl #[.agg #[.int .i64 a0_0, .int .i64 a0_1, .int .i64 a0_2, .int .i64 a0_3, .int .i64 a0_4, .int .i64 a0_5]] rfl (by first|rfl|(simp only [List.map_toArray, List.map_cons, List.map_nil]; try rfl)) ?_; (with_reducible refine (impl_IsMotion.calls k a0_0 a0_1 a0_2 a0_3 a0_4 a0_5 true _ A2.out).mono ?_); rintro e w20 ⟨rfl, hb⟩; refine ⟨_, rfl, ?_⟩; have n0_ := aM (blk_below (g := gb1908) (o := .cells #[.int .i64 a0_0, .int .i64 a0_1, .int .i64 a0_2, .int .i64 a0_3, .int .i64 a0_4, .int .i64 a0_5] 84 (0, 0)) (by (with_reducible repeat (first|apply kN|apply kD|apply kA)); exact BK1908.out) hb); have n1_ := aM (below_step (by repeat (first | (with_reducible first | exact HB.out | apply bA|apply bN|apply b1 | refine below_set ?_ GE1908.out) | exact HB.out)) hb); clear BK1908; clear HB; have BK1908 := n0_; have HB := n1_; clear n0_ n1_; (try clear hb); have hcz21_0 : w20.cell? ⟨gb1908, 0, none⟩ = some (.int .i64 a0_0) := (blk_cell BK1908.out 0).trans rfl; have hcz21_1 : w20.cell? ⟨gb1908, 1, none⟩ = some (.int .i64 a0_1) := (blk_cell BK1908.out 1).trans rfl; have hcz21_2 : w20.cell? ⟨gb1908, 2, none⟩ = some (.int .i64 a0_2) := (blk_cell BK1908.out 2).trans rfl; have hcz21_3 : w20.cell? ⟨gb1908, 3, none⟩ = some (.int .i64 a0_3) := (blk_cell BK1908.out 3).trans rfl; have hcz21_4 : w20.cell? ⟨gb1908, 4, none⟩ = some (.int .i64 a0_4) := (blk_cell BK1908.out 4).trans rfl; have hcz21_5 : w20.cell? ⟨gb1908, 5, none⟩ = some (.int .i64 a0_5) := (blk_cell BK1908.out 5).trans rfl; have hfz21_0 := blk_frozen BK1908.out 0; have hfz21_1 := blk_frozen BK1908.out 1; have hfz21_2 := blk_frozen BK1908.out 2; have hfz21_3 := blk_frozen BK1908.out 3; have hfz21_4 := blk_frozen BK1908.out 4; have hfz21_5 := blk_frozen BK1908.out 5) | ((with_reducible refine gate_callee (f := 191) rfl ?_); refine goesL_ (some 9) rfl rfl Try.func191 (by kernel_rfl) rfl #[.agg #[.int .i64 a0_0, .int .i64 a0_1, .int .i64 a0_2, .int .i64 a0_3, .int .i64 a0_4, .int .i64 a0_5]] rfl (by first|rfl|(simp only [List.map_toArray, List.map_cons, List.map_nil]; try rfl)) ?_; (with_reducible refine (impl_Motion_kind.calls a0_0 a0_1 a0_2 a0_3 a0_4 a0_5 t1910 _ A4.out).mono ?_); rintro e w22 ⟨rfl, hb⟩; refine ⟨_, rfl, ?_⟩; have n0_ := aM (blk_below (g := gb1908) (o := .cells #[.int .i64 a0_0, .int .i64 a0_1, .int .i64 a0_2, .int .i64 a0_3, .int .i64 a0_4, .int .i64 a0_5] 84 (0, 0)) (by (with_reducible repeat (first|apply kN|apply kD|apply kA)); exact BK1908.out) hb); have n1_ := aM (below_step (by repeat (first | (with_reducible first | exact HB.out | apply bA|apply bN|apply b1 | refine below_set ?_ GE1908.out) | exact HB.out)) hb); clear BK1908; clear HB; have BK1908 := n0_; have HB := n1_; clear n0_ n1_; (try clear hb); have hcz23_0 : w22.cell? ⟨gb1908, 0, none⟩ = some (.int .i64 a0_0) := (blk_cell BK1908.out 0).trans rfl; have hcz23_1 : w22.cell? ⟨gb1908, 1, none⟩ = some (.int .i64 a0_1) := (blk_cell BK1908.out 1).trans rfl; have hcz23_2 : w22.cell? ⟨gb1908, 2, none⟩ = some (.int .i64 a0_2) := (blk_cell BK1908.out 2).trans rfl; have hcz23_3 : w22.cell? ⟨gb1908, 3, none⟩ = some (.int .i64 a0_3) := (blk_cell BK1908.out 3).trans rfl; have hcz23_4 : w22.cell? ⟨gb1908, 4, none⟩ = some (.int .i64 a0_4) := (blk_cell BK1908.out 4).trans rfl; have hcz23_5 : w22.cell? ⟨gb1908, 5, none⟩ = some (.int .i64 a0_5) := (blk_cell BK1908.out 5).trans rfl; have hfz23_0 := blk_frozen BK1908.out 0; have hfz23_1 := blk_frozen BK1908.out 1; have hfz23_2 := blk_frozen BK1908.out 2; have hfz23_3 := blk_frozen BK1908.out 3; have hfz23_4 := blk_frozen BK1908.out 4; have hfz23_5 := blk_frozen BK1908.out 5) | ((with_reducible refine gate_callee (f := 159) rfl ?_); refine goesL_ (some 18) rfl rfl Try.func159 (by kernel_rfl) rfl #[.agg #[.int .i64 a0_0, .int .i64 a0_1, .int .i64 a0_2, .int .i64 a0_3]] rfl (by first|rfl|(simp only [List.map_toArray, List.map_cons, List.map_nil]; try rfl)) ?_; (with_reducible refine (impl_Mat_order.calls k a0_0 a0_1 a0_2 a0_3 t1911 _ A17.out).mono ?_); rintro e w24 ⟨rfl, hb⟩; refine ⟨_, rfl, ?_⟩; have n0_ := aM (blk_below (g := gb1908) (o := .cells #[.int .i64 a0_0, .int .i64 a0_1, .int .i64 a0_2, .int .i64 a0_3, .int .i64 a0_4, .int .i64 a0_5] 84 (0, 0)) (by (with_reducible repeat (first|apply kN|apply kD|apply kA)); exact BK1908.out) hb); have n1_ := aM (below_step (by repeat (first | (with_reducible first | exact HB.out | apply bA|apply bN|apply b1 | refine below_set ?_ GE1908.out) | exact HB.out)) hb); clear BK1908; clear HB; have BK1908 := n0_; have HB := n1_; clear n0_ n1_; (try clear hb)))
    go_ret2
    exact ⟨by first|rfl|(simp [*, errW_none, errW_some] <;> rfl), by repeat (first | (with_reducible first | exact HB.out | apply bA|apply bN|apply b1 | refine below_set ?_ GE1908.out) | exact HB.out)⟩
 ·replace c3 := Bool.eq_false_iff.mpr c3
  subst c3
  have H1 : (some (0, 1)) = some (r1, r2) := by rw [if_neg (show ¬ (false = true) by decide)] at H; exact H
  clear H
  have H := H1
  clear H1
  simp only [Option.some.injEq, Prod.mk.injEq] at H
  obtain ⟨rfl, rfl⟩ := H
  go_enter Try.func96, Try.ntmps96
  go_wp2_with (first | ((with_reducible refine gate_dst (N := 1) rfl ?_); refine box_event ?hg (N := 1) ?hd (cs := #[.int .i64 a0_0, .int .i64 a0_1, .int .i64 a0_2, .int .i64 a0_3, .int .i64 a0_4, .int .i64 a0_5]) (t := 84) ?hr ?_; (case hd => rfl); (case hg => rfl); (case hr => first | (go_simp; done) | (go_simp; rfl)); intro gb1908 hg w25 hbox hb; have n0_ := aM (below_step (by repeat (first | (with_reducible first | exact HB.out | apply bA|apply bN|apply b1) | exact HB.out)) hb); have n1_ := aM (hbox); have n2_ := aM ((by rw [hg]; exact (below_size (by repeat (first | (with_reducible first | exact HB.out | apply bA|apply bN|apply b1) | exact HB.out))) : w.heap.size ≤ gb1908)); have n3_ := aM ((by rw [hg]; exact (below_size (by repeat (first | (with_reducible first | exact HB.out | apply bA|apply bN|apply b1) | exact HB.out))) : w.heap.size ≤ gb1908)); clear HB; have HB := n0_; have BK1908 := n1_; have GW1908 := n2_; have GE1908 := n3_; clear n0_ n1_ n2_ n3_; clear hb hbox hg; have hcz26_0 : w25.cell? ⟨gb1908, 0, none⟩ = some (.int .i64 a0_0) := (blk_cell BK1908.out 0).trans rfl; have hcz26_1 : w25.cell? ⟨gb1908, 1, none⟩ = some (.int .i64 a0_1) := (blk_cell BK1908.out 1).trans rfl; have hcz26_2 : w25.cell? ⟨gb1908, 2, none⟩ = some (.int .i64 a0_2) := (blk_cell BK1908.out 2).trans rfl; have hcz26_3 : w25.cell? ⟨gb1908, 3, none⟩ = some (.int .i64 a0_3) := (blk_cell BK1908.out 3).trans rfl; have hcz26_4 : w25.cell? ⟨gb1908, 4, none⟩ = some (.int .i64 a0_4) := (blk_cell BK1908.out 4).trans rfl; have hcz26_5 : w25.cell? ⟨gb1908, 5, none⟩ = some (.int .i64 a0_5) := (blk_cell BK1908.out 5).trans rfl; have hfz26_0 := blk_frozen BK1908.out 0; have hfz26_1 := blk_frozen BK1908.out 1; have hfz26_2 := blk_frozen BK1908.out 2; have hfz26_3 := blk_frozen BK1908.out 3; have hfz26_4 := blk_frozen BK1908.out 4; have hfz26_5 := blk_frozen BK1908.out 5) | ((with_reducible refine gate_callee (f := 91) rfl ?_); refine goesL_ (some 6) rfl rfl Try.func91 (by kernel_rfl) rfl #[.agg #[.int .i64 a0_0, .int .i64 a0_1, .int .i64 a0_2, .int .i64 a0_3, .int .i64 a0_4, .int .i64 a0_5]] rfl (by first|rfl|(simp only [List.map_toArray, List.map_cons, List.map_nil]; try rfl)) ?_; (with_reducible refine (impl_IsMotion.calls k a0_0 a0_1 a0_2 a0_3 a0_4 a0_5 false _ A2.out).mono ?_); rintro e w27 ⟨rfl, hb⟩; refine ⟨_, rfl, ?_⟩; have n0_ := aM (blk_below (g := gb1908) (o := .cells #[.int .i64 a0_0, .int .i64 a0_1, .int .i64 a0_2, .int .i64 a0_3, .int .i64 a0_4, .int .i64 a0_5] 84 (0, 0)) (by (with_reducible repeat (first|apply kN|apply kD|apply kA)); exact BK1908.out) hb); have n1_ := aM (below_step (by repeat (first | (with_reducible first | exact HB.out | apply bA|apply bN|apply b1 | refine below_set ?_ GE1908.out) | exact HB.out)) hb); clear BK1908; clear HB; have BK1908 := n0_; have HB := n1_; clear n0_ n1_; (try clear hb)))
  go_ret2
  exact ⟨by first|rfl|(simp [*, errW_none, errW_some] <;> rfl), by repeat (first | (with_reducible first | exact HB.out | apply bA|apply bN|apply b1 | refine below_set ?_ GE1908.out) | exact HB.out)⟩

def spec_OrderOfMotion.f (k : Nat) (a0_0 : Int) (a0_1 : Int) (a0_2 : Int) (a0_3 : Int) (a0_4 : Int) (a0_5 : Int) : Option (Int × Int) := (spec_IsMotion.f k a0_0 a0_1 a0_2 a0_3 a0_4 a0_5).bind fun t1913 => (if t1913 = true then ((spec_l05Kind.f k a0_0 a0_1 a0_2 a0_3 a0_4 a0_5).bind fun t1914 => (if t1914 = 1 then (some (0, 0)) else (if t1914 = 4 then (some (0, 0)) else ((spec_l02Order.f k a0_0 a0_1 a0_2 a0_3).bind fun t1915 => (some (t1915, 0)))))) else (some (0, 1)))
set_option maxHeartbeats 40000000 in
set_option maxRecDepth 100000 in
theorem spec_OrderOfMotion.calls (k : Nat) (a0_0 : Int) (a0_1 : Int) (a0_2 : Int) (a0_3 : Int) (a0_4 : Int) (a0_5 : Int) (r1 : Int) (r2 : Int) (w : World) (h : spec_OrderOfMotion.f k a0_0 a0_1 a0_2 a0_3 a0_4 a0_5 = some (r1, r2)) :
  Calls Try.prog 97 #[.agg #[.int .i64 a0_0, .int .i64 a0_1, .int .i64 a0_2, .int .i64 a0_3, .int .i64 a0_4, .int .i64 a0_5]] w fun e w' => e = .returned (.tuple #[.int .i64 r1, .int .i64 r2]) ∧ Below w.heap.size w w' := by
 have hu84 := Try.underlying84
 have hu51 := Try.underlying51
 have HB := aM (Below.refl w.heap.size w)
 have H : ((spec_IsMotion.f k a0_0 a0_1 a0_2 a0_3 a0_4 a0_5).bind fun t1913 => (if t1913 = true then ((spec_l05Kind.f k a0_0 a0_1 a0_2 a0_3 a0_4 a0_5).bind fun t1914 => (if t1914 = 1 then (some (0, 0)) else (if t1914 = 4 then (some (0, 0)) else ((spec_l02Order.f k a0_0 a0_1 a0_2 a0_3).bind fun t1915 => (some (t1915, 0)))))) else (some (0, 1)))) = some (r1, r2) := h
 clear h
 replace H := Option.bind_eq_some_iff.mp H
 obtain ⟨t1913, A20, H⟩ := H
 try dsimp only at H
 have A2 := aM A20
 clear A20
 by_cases c3 : t1913 = true
 ·subst c3
  have H1 : ((spec_l05Kind.f k a0_0 a0_1 a0_2 a0_3 a0_4 a0_5).bind fun t1914 => (if t1914 = 1 then (some (0, 0)) else (if t1914 = 4 then (some (0, 0)) else ((spec_l02Order.f k a0_0 a0_1 a0_2 a0_3).bind fun t1915 => (some (t1915, 0)))))) = some (r1, r2) := by rw [if_pos rfl] at H; exact H
  clear H
  have H := H1
  clear H1
  replace H := Option.bind_eq_some_iff.mp H
  obtain ⟨t1914, A40, H⟩ := H
  try dsimp only at H
  have A4 := aM A40
  clear A40
  by_cases c5 : t1914 = 1
  ·rw [if_pos c5] at H
   have c5b0 : (t1914 == 1) = true := beq_iff_eq.mpr c5
   have c5b1 : (t1914 != 1) = false := bne_eq_false_iff_eq.mpr c5
   clear c5
   simp only [Option.some.injEq, Prod.mk.injEq] at H
   obtain ⟨rfl, rfl⟩ := H
   go_enter Try.func97, Try.ntmps97
   go_wp2_with (first | ((with_reducible refine gate_dst (N := 1) rfl ?_); refine box_event ?hg (N := 1) ?hd (cs := #[.int .i64 a0_0, .int .i64 a0_1, .int .i64 a0_2, .int .i64 a0_3, .int .i64 a0_4, .int .i64 a0_5]) (t := 84) ?hr ?_; (case hd => rfl); (case hg => rfl); (case hr => first | (go_simp; done) | (go_simp; rfl)); intro gb1912 hg w6 hbox hb; have n0_ := aM (below_step (by repeat (first | (with_reducible first | exact HB.out | apply bA|apply bN|apply b1) | exact HB.out)) hb); have n1_ := aM (hbox); have n2_ := aM ((by rw [hg]; exact (below_size (by repeat (first | (with_reducible first | exact HB.out | apply bA|apply bN|apply b1) | exact HB.out))) : w.heap.size ≤ gb1912)); have n3_ := aM ((by rw [hg]; exact (below_size (by repeat (first | (with_reducible first | exact HB.out | apply bA|apply bN|apply b1) | exact HB.out))) : w.heap.size ≤ gb1912)); clear HB; have HB := n0_; have BK1912 := n1_; have GW1912 := n2_; have GE1912 := n3_; clear n0_ n1_ n2_ n3_; clear hb hbox hg; have hcz7_0 : w6.cell? ⟨gb1912, 0, none⟩ = some (.int .i64 a0_0) := (blk_cell BK1912.out 0).trans rfl; have hcz7_1 : w6.cell? ⟨gb1912, 1, none⟩ = some (.int .i64 a0_1) := (blk_cell BK1912.out 1).trans rfl; have hcz7_2 : w6.cell? ⟨gb1912, 2, none⟩ = some (.int .i64 a0_2) := (blk_cell BK1912.out 2).trans rfl; have hcz7_3 : w6.cell? ⟨gb1912, 3, none⟩ = some (.int .i64 a0_3) := (blk_cell BK1912.out 3).trans rfl; have hcz7_4 : w6.cell? ⟨gb1912, 4, none⟩ = some (.int .i64 a0_4) := (blk_cell BK1912.out 4).trans rfl; have hcz7_5 : w6.cell? ⟨gb1912, 5, none⟩ = some (.int .i64 a0_5) := (blk_cell BK1912.out 5).trans rfl; have hfz7_0 := blk_frozen BK1912.out 0; have hfz7_1 := blk_frozen BK1912.out 1; have hfz7_2 := blk_frozen BK1912.out 2; have hfz7_3 := blk_frozen BK1912.out 3; have hfz7_4 := blk_frozen BK1912.out 4; have hfz7_5 := blk_frozen BK1912.out 5) | ((with_reducible refine gate_callee (f := 92) rfl ?_); refine goesL_ (some 5) rfl rfl Try.func92 (by kernel_rfl) rfl #[.agg #[.int .i64 a0_0, .int .i64 a0_1, .int .i64 a0_2, .int .i64 a0_3, .int .i64 a0_4, .int .i64 a0_5]] rfl (by first|rfl|(simp only [List.map_toArray, List.map_cons, List.map_nil]; try rfl)) ?_; (with_reducible refine (spec_IsMotion.calls k a0_0 a0_1 a0_2 a0_3 a0_4 a0_5 true _ A2.out).mono ?_); rintro e w8 ⟨rfl, hb⟩; refine ⟨_, rfl, ?_⟩; have n0_ := aM (blk_below (g := gb1912) (o := .cells #[.int .i64 a0_0, .int .i64 a0_1, .int .i64 a0_2, .int .i64 a0_3, .int .i64 a0_4, .int .i64 a0_5] 84 (0, 0)) (by (with_reducible repeat (first|apply kN|apply kD|apply kA)); exact BK1912.out) hb); have n1_ := aM (below_step (by repeat (first | (with_reducible first | exact HB.out | apply bA|apply bN|apply b1 | refine below_set ?_ GE1912.out) | exact HB.out)) hb); clear BK1912; clear HB; have BK1912 := n0_; have HB := n1_; clear n0_ n1_; (try clear hb); have hcz9_0 : w8.cell? ⟨gb1912, 0, none⟩ = some (.int .i64 a0_0) := (blk_cell BK1912.out 0).trans rfl; have hcz9_1 : w8.cell? ⟨gb1912, 1, none⟩ = some (.int .i64 a0_1) := (blk_cell BK1912.out 1).trans rfl; have hcz9_2 : w8.cell? ⟨gb1912, 2, none⟩ = some (.int .i64 a0_2) := (blk_cell BK1912.out 2).trans rfl; have hcz9_3 : w8.cell? ⟨gb1912, 3, none⟩ = some (.int .i64 a0_3) := (blk_cell BK1912.out 3).trans rfl; have hcz9_4 : w8.cell? ⟨gb1912, 4, none⟩ = some (.int .i64 a0_4) := (blk_cell BK1912.out 4).trans rfl; have hcz9_5 : w8.cell? ⟨gb1912, 5, none⟩ = some (.int .i64 a0_5) := (blk_cell BK1912.out 5).trans rfl; have hfz9_0 := blk_frozen BK1912.out 0; have hfz9_1 := blk_frozen BK1912.out 1; have hfz9_2 := blk_frozen BK1912.out 2; have hfz9_3 := blk_frozen BK1912.out 3; have hfz9_4 := blk_frozen BK1912.out 4; have hfz9_5 := blk_frozen BK1912.out 5) | ((with_reducible refine gate_callee (f := 192) rfl ?_); refine goesL_ (some 8) rfl rfl Try.func192 (by kernel_rfl) rfl #[.agg #[.int .i64 a0_0, .int .i64 a0_1, .int .i64 a0_2, .int .i64 a0_3, .int .i64 a0_4, .int .i64 a0_5]] rfl (by first|rfl|(simp only [List.map_toArray, List.map_cons, List.map_nil]; try rfl)) ?_; (with_reducible refine (spec_l05Kind.calls k a0_0 a0_1 a0_2 a0_3 a0_4 a0_5 t1914 _ A4.out).mono ?_); rintro e w10 ⟨rfl, hb⟩; refine ⟨_, rfl, ?_⟩; have n0_ := aM (blk_below (g := gb1912) (o := .cells #[.int .i64 a0_0, .int .i64 a0_1, .int .i64 a0_2, .int .i64 a0_3, .int .i64 a0_4, .int .i64 a0_5] 84 (0, 0)) (by (with_reducible repeat (first|apply kN|apply kD|apply kA)); exact BK1912.out) hb); have n1_ := aM (below_step (by repeat (first | (with_reducible first | exact HB.out | apply bA|apply bN|apply b1 | refine below_set ?_ GE1912.out) | exact HB.out)) hb); clear BK1912; clear HB; have BK1912 := n0_; have HB := n1_; clear n0_ n1_; (try clear hb)))
   go_ret2
   exact ⟨by first|rfl|(simp [*, errW_none, errW_some] <;> rfl), by repeat (first | (with_reducible first | exact HB.out | apply bA|apply bN|apply b1 | refine below_set ?_ GE1912.out) | exact HB.out)⟩
  ·rw [if_neg c5] at H
   have c5b0 : (t1914 == 1) = false := beq_eq_false_iff_ne.mpr c5
   have c5b1 : (t1914 != 1) = true := bne_iff_ne.mpr c5
   by_cases c11 : t1914 = 4
   ·rw [if_pos c11] at H
    have c11b0 : (t1914 == 4) = true := beq_iff_eq.mpr c11
    have c11b1 : (t1914 != 4) = false := bne_eq_false_iff_eq.mpr c11
    clear c11
    simp only [Option.some.injEq, Prod.mk.injEq] at H
    obtain ⟨rfl, rfl⟩ := H
    go_enter Try.func97, Try.ntmps97
    go_wp2_with (first | ((with_reducible refine gate_dst (N := 1) rfl ?_); refine box_event ?hg (N := 1) ?hd (cs := #[.int .i64 a0_0, .int .i64 a0_1, .int .i64 a0_2, .int .i64 a0_3, .int .i64 a0_4, .int .i64 a0_5]) (t := 84) ?hr ?_; (case hd => rfl); (case hg => rfl); (case hr => first | (go_simp; done) | (go_simp; rfl)); intro gb1912 hg w12 hbox hb; have n0_ := aM (below_step (by repeat (first | (with_reducible first | exact HB.out | apply bA|apply bN|apply b1) | exact HB.out)) hb); have n1_ := aM (hbox); have n2_ := aM ((by rw [hg]; exact (below_size (by repeat (first | (with_reducible first | exact HB.out | apply bA|apply bN|apply b1) | exact HB.out))) : w.heap.size ≤ gb1912)); have n3_ := aM ((by rw [hg]; exact (below_size (by repeat (first | (with_reducible first | exact HB.out | apply bA|apply bN|apply b1) | exact HB.out))) : w.heap.size ≤ gb1912)); clear HB; have HB := n0_; have BK1912 := n1_; have GW1912 := n2_; have GE1912 := n3_; clear n0_ n1_ n2_ n3_; clear hb hbox hg; have hcz13_0 : w12.cell? ⟨gb1912, 0, none⟩ = some (.int .i64 a0_0) := (blk_cell BK1912.out 0).trans rfl; have hcz13_1 : w12.cell? ⟨gb1912, 1, none⟩ = some (.int .i64 a0_1) := (blk_cell BK1912.out 1).trans rfl; have hcz13_2 : w12.cell? ⟨gb1912, 2, none⟩ = some (.int .i64 a0_2) := (blk_cell BK1912.out 2).trans rfl; have hcz13_3 : w12.cell? ⟨gb1912, 3, none⟩ = some (.int .i64 a0_3) := (blk_cell BK1912.out 3).trans rfl; have hcz13_4 : w12.cell? ⟨gb1912, 4, none⟩ = some (.int .i64 a0_4) := (blk_cell BK1912.out 4).trans rfl; have hcz13_5 : w12.cell? ⟨gb1912, 5, none⟩ = some (.int .i64 a0_5) := (blk_cell BK1912.out 5).trans rfl; have hfz13_0 := blk_frozen BK1912.out 0; have hfz13_1 := blk_frozen BK1912.out 1; have hfz13_2 := blk_frozen BK1912.out 2; have hfz13_3 := blk_frozen BK1912.out 3; have hfz13_4 := blk_frozen BK1912.out 4; have hfz13_5 := blk_frozen BK1912.out 5) | ((with_reducible refine gate_callee (f := 92) rfl ?_); refine goesL_ (some 5) rfl rfl Try.func92 (by kernel_rfl) rfl #[.agg #[.int .i64 a0_0, .int .i64 a0_1, .int .i64 a0_2, .int .i64 a0_3, .int .i64 a0_4, .int .i64 a0_5]] rfl (by first|rfl|(simp only [List.map_toArray, List.map_cons, List.map_nil]; try rfl)) ?_; (with_reducible refine (spec_IsMotion.calls k a0_0 a0_1 a0_2 a0_3 a0_4 a0_5 true _ A2.out).mono ?_); rintro e w14 ⟨rfl, hb⟩; refine ⟨_, rfl, ?_⟩; have n0_ := aM (blk_below (g := gb1912) (o := .cells #[.int .i64 a0_0, .int .i64 a0_1, .int .i64 a0_2, .int .i64 a0_3, .int .i64 a0_4, .int .i64 a0_5] 84 (0, 0)) (by (with_reducible repeat (first|apply kN|apply kD|apply kA)); exact BK1912.out) hb); have n1_ := aM (below_step (by repeat (first | (with_reducible first | exact HB.out | apply bA|apply bN|apply b1 | refine below_set ?_ GE1912.out) | exact HB.out)) hb); clear BK1912; clear HB; have BK1912 := n0_; have HB := n1_; clear n0_ n1_; (try clear hb); have hcz15_0 : w14.cell? ⟨gb1912, 0, none⟩ = some (.int .i64 a0_0) := (blk_cell BK1912.out 0).trans rfl; have hcz15_1 : w14.cell? ⟨gb1912, 1, none⟩ = some (.int .i64 a0_1) := (blk_cell BK1912.out 1).trans rfl; have hcz15_2 : w14.cell? ⟨gb1912, 2, none⟩ = some (.int .i64 a0_2) := (blk_cell BK1912.out 2).trans rfl; have hcz15_3 : w14.cell? ⟨gb1912, 3, none⟩ = some (.int .i64 a0_3) := (blk_cell BK1912.out 3).trans rfl; have hcz15_4 : w14.cell? ⟨gb1912, 4, none⟩ = some (.int .i64 a0_4) := (blk_cell BK1912.out 4).trans rfl; have hcz15_5 : w14.cell? ⟨gb1912, 5, none⟩ = some (.int .i64 a0_5) := (blk_cell BK1912.out 5).trans rfl; have hfz15_0 := blk_frozen BK1912.out 0; have hfz15_1 := blk_frozen BK1912.out 1; have hfz15_2 := blk_frozen BK1912.out 2; have hfz15_3 := blk_frozen BK1912.out 3; have hfz15_4 := blk_frozen BK1912.out 4; have hfz15_5 := blk_frozen BK1912.out 5) | ((with_reducible refine gate_callee (f := 192) rfl ?_); refine goesL_ (some 8) rfl rfl Try.func192 (by kernel_rfl) rfl #[.agg #[.int .i64 a0_0, .int .i64 a0_1, .int .i64 a0_2, .int .i64 a0_3, .int .i64 a0_4, .int .i64 a0_5]] rfl (by first|rfl|(simp only [List.map_toArray, List.map_cons, List.map_nil]; try rfl)) ?_; (with_reducible refine (spec_l05Kind.calls k a0_0 a0_1 a0_2 a0_3 a0_4 a0_5 t1914 _ A4.out).mono ?_); rintro e w16 ⟨rfl, hb⟩; refine ⟨_, rfl, ?_⟩; have n0_ := aM (blk_below (g := gb1912) (o := .cells #[.int .i64 a0_0, .int .i64 a0_1, .int .i64 a0_2, .int .i64 a0_3, .int .i64 a0_4, .int .i64 a0_5] 84 (0, 0)) (by (with_reducible repeat (first|apply kN|apply kD|apply kA)); exact BK1912.out) hb); have n1_ := aM (below_step (by repeat (first | (with_reducible first | exact HB.out | apply bA|apply bN|apply b1 | refine below_set ?_ GE1912.out) | exact HB.out)) hb); clear BK1912; clear HB; have BK1912 := n0_; have HB := n1_; clear n0_ n1_; (try clear hb)))
    go_ret2
    exact ⟨by first|rfl|(simp [*, errW_none, errW_some] <;> rfl), by repeat (first | (with_reducible first | exact HB.out | apply bA|apply bN|apply b1 | refine below_set ?_ GE1912.out) | exact HB.out)⟩
   ·rw [if_neg c11] at H
    have c11b0 : (t1914 == 4) = false := beq_eq_false_iff_ne.mpr c11
    have c11b1 : (t1914 != 4) = true := bne_iff_ne.mpr c11
    replace H := Option.bind_eq_some_iff.mp H
    obtain ⟨t1915, A170, H⟩ := H
    try dsimp only at H
    have A17 := aM A170
    clear A170
    simp only [Option.some.injEq, Prod.mk.injEq] at H
    obtain ⟨rfl, rfl⟩ := H
    go_enter Try.func97, Try.ntmps97
    go_wp2_with (first | ((with_reducible refine gate_dst (N := 1) rfl ?_); refine box_event ?hg (N := 1) ?hd (cs := #[.int .i64 a0_0, .int .i64 a0_1, .int .i64 a0_2, .int .i64 a0_3, .int .i64 a0_4, .int .i64 a0_5]) (t := 84) ?hr ?_; (case hd => rfl); (case hg => rfl); (case hr => first | (go_simp; done) | (go_simp; rfl)); intro gb1912 hg w18 hbox hb; have n0_ := aM (below_step (by repeat (first | (with_reducible first | exact HB.out | apply bA|apply bN|apply b1) | exact HB.out)) hb); have n1_ := aM (hbox); have n2_ := aM ((by rw [hg]; exact (below_size (by repeat (first | (with_reducible first | exact HB.out | apply bA|apply bN|apply b1) | exact HB.out))) : w.heap.size ≤ gb1912)); have n3_ := aM ((by rw [hg]; exact (below_size (by repeat (first | (with_reducible first | exact HB.out | apply bA|apply bN|apply b1) | exact HB.out))) : w.heap.size ≤ gb1912)); clear HB; have HB := n0_; have BK1912 := n1_; have GW1912 := n2_; have GE1912 := n3_; clear n0_ n1_ n2_ n3_; clear hb hbox hg; have hcz19_0 : w18.cell? ⟨gb1912, 0, none⟩ = some (.int .i64 a0_0) := (blk_cell BK1912.out 0).trans rfl; have hcz19_1 : w18.cell? ⟨gb1912, 1, none⟩ = some (.int .i64 a0_1) := (blk_cell BK1912.out 1).trans rfl; have hcz19_2 : w18.cell? ⟨gb1912, 2, none⟩ = some (.int .i64 a0_2) := (blk_cell BK1912.out 2).trans rfl; have hcz19_3 : w18.cell? ⟨gb1912, 3, none⟩ = some (.int .i64 a0_3) := (blk_cell BK1912.out 3).trans rfl; have hcz19_4 : w18.cell? ⟨gb1912, 4, none⟩ = some (.int .i64 a0_4) := (blk_cell BK1912.out 4).trans rfl; have hcz19_5 : w18.cell? ⟨gb1912, 5, none⟩ = some (.int .i64 a0_5) := (blk_cell BK1912.out 5).trans rfl; have hfz19_0 := blk_frozen BK1912.out 0; have hfz19_1 := blk_frozen BK1912.out 1; have hfz19_2 := blk_frozen BK1912.out 2; have hfz19_3 := blk_frozen BK1912.out 3; have hfz19_4 := blk_frozen BK1912.out 4; have hfz19_5 := blk_frozen BK1912.out 5) | ((with_reducible refine gate_callee (f := 92) rfl ?_); refine goesL_ (some 5) rfl rfl Try.func92 (by kernel_rfl) rfl #[.agg #[.int .i64 a0_0, .int .i64 a0_1, .int .i64 a0_2, .int .i64 a0_3, .int .i64 a0_4, .int .i64 a0_5]] rfl (by first|rfl|(simp only [List.map_toArray, List.map_cons, List.map_nil]; try rfl)) ?_; (with_reducible refine (spec_IsMotion.calls k a0_0 a0_1 a0_2 a0_3 a0_4 a0_5 true _ A2.out).mono ?_); rintro e w20 ⟨rfl, hb⟩; refine ⟨_, rfl, ?_⟩; have n0_ := aM (blk_below (g := gb1912) (o := .cells #[.int .i64 a0_0, .int .i64 a0_1, .int .i64 a0_2, .int .i64 a0_3, .int .i64 a0_4, .int .i64 a0_5] 84 (0, 0)) (by (with_reducible repeat (first|apply kN|apply kD|apply kA)); exact BK1912.out) hb); have n1_ := aM (below_step (by repeat (first | (with_reducible first | exact HB.out | apply bA|apply bN|apply b1 | refine below_set ?_ GE1912.out) | exact HB.out)) hb); clear BK1912; clear HB; have BK1912 := n0_; have HB := n1_; clear n0_ n1_; (try clear hb); have hcz21_0 : w20.cell? ⟨gb1912, 0, none⟩ = some (.int .i64 a0_0) := (blk_cell BK1912.out 0).trans rfl; have hcz21_1 : w20.cell? ⟨gb1912, 1, none⟩ = some (.int .i64 a0_1) := (blk_cell BK1912.out 1).trans rfl; have hcz21_2 : w20.cell? ⟨gb1912, 2, none⟩ = some (.int .i64 a0_2) := (blk_cell BK1912.out 2).trans rfl; have hcz21_3 : w20.cell? ⟨gb1912, 3, none⟩ = some (.int .i64 a0_3) := (blk_cell BK1912.out 3).trans rfl; have hcz21_4 : w20.cell? ⟨gb1912, 4, none⟩ = some (.int .i64 a0_4) := (blk_cell BK1912.out 4).trans rfl; have hcz21_5 : w20.cell? ⟨gb1912, 5, none⟩ = some (.int .i64 a0_5) := (blk_cell BK1912.out 5).trans rfl; have hfz21_0 := blk_frozen BK1912.out 0; have hfz21_1 := blk_frozen BK1912.out 1; have hfz21_2 := blk_frozen BK1912.out 2; have hfz21_3 := blk_frozen BK1912.out 3; have hfz21_4 := blk_frozen BK1912.out 4; have hfz21_5 := blk_frozen BK1912.out 5) | ((with_reducible refine gate_callee (f := 192) rfl ?_); refine goesL_ (some 8) rfl rfl Try.func192 (by kernel_rfl) rfl #[.agg #[.int .i64 a0_0, .int .i64 a0_1, .int .i64 a0_2, .int .i64 a0_3, .int .i64 a0_4, .int .i64 a0_5]] rfl (by first|rfl|(simp only [List.map_toArray, List.map_cons, List.map_nil]; try rfl)) ?_; (with_reducible refine (spec_l05Kind.calls k a0_0 a0_1 a0_2 a0_3 a0_4 a0_5 t1914 _ A4.out).mono ?_); rintro e w22 ⟨rfl, hb⟩; refine ⟨_, rfl, ?_⟩; have n0_ := aM (blk_below (g := gb1912) (o := .cells #[.int .i64 a0_0, .int .i64 a0_1, .int .i64 a0_2, .int .i64 a0_3, .int .i64 a0_4, .int .i64 a0_5] 84 (0, 0)) (by (with_reducible repeat (first|apply kN|apply kD|apply kA)); exact BK1912.out) hb); have n1_ := aM (below_step (by repeat (first | (with_reducible first | exact HB.out | apply bA|apply bN|apply b1 | refine below_set ?_ GE1912.out) | exact HB.out)) hb); clear BK1912; clear HB; have BK1912 := n0_; have HB := n1_; clear n0_ n1_; (try clear hb); have hcz23_0 : w22.cell? ⟨gb1912, 0, none⟩ = some (.int .i64 a0_0) := (blk_cell BK1912.out 0).trans rfl; have hcz23_1 : w22.cell? ⟨gb1912, 1, none⟩ = some (.int .i64 a0_1) := (blk_cell BK1912.out 1).trans rfl; have hcz23_2 : w22.cell? ⟨gb1912, 2, none⟩ = some (.int .i64 a0_2) := (blk_cell BK1912.out 2).trans rfl; have hcz23_3 : w22.cell? ⟨gb1912, 3, none⟩ = some (.int .i64 a0_3) := (blk_cell BK1912.out 3).trans rfl; have hcz23_4 : w22.cell? ⟨gb1912, 4, none⟩ = some (.int .i64 a0_4) := (blk_cell BK1912.out 4).trans rfl; have hcz23_5 : w22.cell? ⟨gb1912, 5, none⟩ = some (.int .i64 a0_5) := (blk_cell BK1912.out 5).trans rfl; have hfz23_0 := blk_frozen BK1912.out 0; have hfz23_1 := blk_frozen BK1912.out 1; have hfz23_2 := blk_frozen BK1912.out 2; have hfz23_3 := blk_frozen BK1912.out 3; have hfz23_4 := blk_frozen BK1912.out 4; have hfz23_5 := blk_frozen BK1912.out 5) | ((with_reducible refine gate_callee (f := 160) rfl ?_); refine goesL_ (some 14) rfl rfl Try.func160 (by kernel_rfl) rfl #[.agg #[.int .i64 a0_0, .int .i64 a0_1, .int .i64 a0_2, .int .i64 a0_3]] rfl (by first|rfl|(simp only [List.map_toArray, List.map_cons, List.map_nil]; try rfl)) ?_; (with_reducible refine (spec_l02Order.calls k a0_0 a0_1 a0_2 a0_3 t1915 _ A17.out).mono ?_); rintro e w24 ⟨rfl, hb⟩; refine ⟨_, rfl, ?_⟩; have n0_ := aM (blk_below (g := gb1912) (o := .cells #[.int .i64 a0_0, .int .i64 a0_1, .int .i64 a0_2, .int .i64 a0_3, .int .i64 a0_4, .int .i64 a0_5] 84 (0, 0)) (by (with_reducible repeat (first|apply kN|apply kD|apply kA)); exact BK1912.out) hb); have n1_ := aM (below_step (by repeat (first | (with_reducible first | exact HB.out | apply bA|apply bN|apply b1 | refine below_set ?_ GE1912.out) | exact HB.out)) hb); clear BK1912; clear HB; have BK1912 := n0_; have HB := n1_; clear n0_ n1_; (try clear hb)))
    go_ret2
    exact ⟨by first|rfl|(simp [*, errW_none, errW_some] <;> rfl), by repeat (first | (with_reducible first | exact HB.out | apply bA|apply bN|apply b1 | refine below_set ?_ GE1912.out) | exact HB.out)⟩
 ·replace c3 := Bool.eq_false_iff.mpr c3
  subst c3
  have H1 : (some (0, 1)) = some (r1, r2) := by rw [if_neg (show ¬ (false = true) by decide)] at H; exact H
  clear H
  have H := H1
  clear H1
  simp only [Option.some.injEq, Prod.mk.injEq] at H
  obtain ⟨rfl, rfl⟩ := H
  go_enter Try.func97, Try.ntmps97
  go_wp2_with (first | ((with_reducible refine gate_dst (N := 1) rfl ?_); refine box_event ?hg (N := 1) ?hd (cs := #[.int .i64 a0_0, .int .i64 a0_1, .int .i64 a0_2, .int .i64 a0_3, .int .i64 a0_4, .int .i64 a0_5]) (t := 84) ?hr ?_; (case hd => rfl); (case hg => rfl); (case hr => first | (go_simp; done) | (go_simp; rfl)); intro gb1912 hg w25 hbox hb; have n0_ := aM (below_step (by repeat (first | (with_reducible first | exact HB.out | apply bA|apply bN|apply b1) | exact HB.out)) hb); have n1_ := aM (hbox); have n2_ := aM ((by rw [hg]; exact (below_size (by repeat (first | (with_reducible first | exact HB.out | apply bA|apply bN|apply b1) | exact HB.out))) : w.heap.size ≤ gb1912)); have n3_ := aM ((by rw [hg]; exact (below_size (by repeat (first | (with_reducible first | exact HB.out | apply bA|apply bN|apply b1) | exact HB.out))) : w.heap.size ≤ gb1912)); clear HB; have HB := n0_; have BK1912 := n1_; have GW1912 := n2_; have GE1912 := n3_; clear n0_ n1_ n2_ n3_; clear hb hbox hg; have hcz26_0 : w25.cell? ⟨gb1912, 0, none⟩ = some (.int .i64 a0_0) := (blk_cell BK1912.out 0).trans rfl; have hcz26_1 : w25.cell? ⟨gb1912, 1, none⟩ = some (.int .i64 a0_1) := (blk_cell BK1912.out 1).trans rfl; have hcz26_2 : w25.cell? ⟨gb1912, 2, none⟩ = some (.int .i64 a0_2) := (blk_cell BK1912.out 2).trans rfl; have hcz26_3 : w25.cell? ⟨gb1912, 3, none⟩ = some (.int .i64 a0_3) := (blk_cell BK1912.out 3).trans rfl; have hcz26_4 : w25.cell? ⟨gb1912, 4, none⟩ = some (.int .i64 a0_4) := (blk_cell BK1912.out 4).trans rfl; have hcz26_5 : w25.cell? ⟨gb1912, 5, none⟩ = some (.int .i64 a0_5) := (blk_cell BK1912.out 5).trans rfl; have hfz26_0 := blk_frozen BK1912.out 0; have hfz26_1 := blk_frozen BK1912.out 1; have hfz26_2 := blk_frozen BK1912.out 2; have hfz26_3 := blk_frozen BK1912.out 3; have hfz26_4 := blk_frozen BK1912.out 4; have hfz26_5 := blk_frozen BK1912.out 5) | ((with_reducible refine gate_callee (f := 92) rfl ?_); refine goesL_ (some 5) rfl rfl Try.func92 (by kernel_rfl) rfl #[.agg #[.int .i64 a0_0, .int .i64 a0_1, .int .i64 a0_2, .int .i64 a0_3, .int .i64 a0_4, .int .i64 a0_5]] rfl (by first|rfl|(simp only [List.map_toArray, List.map_cons, List.map_nil]; try rfl)) ?_; (with_reducible refine (spec_IsMotion.calls k a0_0 a0_1 a0_2 a0_3 a0_4 a0_5 false _ A2.out).mono ?_); rintro e w27 ⟨rfl, hb⟩; refine ⟨_, rfl, ?_⟩; have n0_ := aM (blk_below (g := gb1912) (o := .cells #[.int .i64 a0_0, .int .i64 a0_1, .int .i64 a0_2, .int .i64 a0_3, .int .i64 a0_4, .int .i64 a0_5] 84 (0, 0)) (by (with_reducible repeat (first|apply kN|apply kD|apply kA)); exact BK1912.out) hb); have n1_ := aM (below_step (by repeat (first | (with_reducible first | exact HB.out | apply bA|apply bN|apply b1 | refine below_set ?_ GE1912.out) | exact HB.out)) hb); clear BK1912; clear HB; have BK1912 := n0_; have HB := n1_; clear n0_ n1_; (try clear hb)))
  go_ret2
  exact ⟨by first|rfl|(simp [*, errW_none, errW_some] <;> rfl), by repeat (first | (with_reducible first | exact HB.out | apply bA|apply bN|apply b1 | refine below_set ?_ GE1912.out) | exact HB.out)⟩

end Go.Proofs.Ytjjbjaagfjljnaa.F

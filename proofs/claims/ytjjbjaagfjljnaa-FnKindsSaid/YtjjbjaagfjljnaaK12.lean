import Derived.Test.YtjjbjaagfjljnaaK0
import Derived.Test.YtjjbjaagfjljnaaK1
import Derived.Test.YtjjbjaagfjljnaaK2
import Derived.Test.YtjjbjaagfjljnaaK5
import Derived.Test.YtjjbjaagfjljnaaK10
namespace Go.Proofs.Ytjjbjaagfjljnaa.F
open Go.RowKit Go.Proofs.YtjjbjaagfjljnaaW.PrintWords Go.Proofs.YtjjbjaagfjljnaaW.PrintLast Go.Proofs.YtjjbjaagfjljnaaW.PrintMore
attribute [local go_sem] max2_int min2_int max_two min_two max_three min_three max_four min_four   -- for this text's walks alone
set_option linter.unusedVariables false
set_option linter.unusedSimpArgs false

def spec_DrawKindOfMotion.j0 : Nat → Bool → List Int → Int → Int → Int → Int → Int → Int → Int → Int → Option (Int × Int × Int × Int × Int × Int)
 | 0, _, _, _, _, _, _, _, _, _, _ => none
 | k + 1, x18, x1843000, x1843001, x1843002, x1852000, x1852001, x1852002, x1852003, x1852004, x1852005 => if x18 = true then ((spec_l01Draw.f x1843000 x1843001 x1843002).bind fun bt1856 => ((spec_l02Apply.f x1852000 x1852001 x1852002 x1852003 bt1856.1 bt1856.2.1).bind fun bt1861 => ((spec_l01Scale.f bt1861.1 bt1861.2 (-1)).bind fun bt1863 => ((spec_l01Add.f bt1856.1 bt1856.2.1 bt1863.1 bt1863.2).bind fun bt1865 => (some (x1852000, x1852001, x1852002, x1852003, bt1865.1, bt1865.2)))))) else (some (x1852000, x1852001, x1852002, x1852003, x1852004, x1852005))
def spec_DrawKindOfMotion.f (k : Nat) (l0 : List Int) : Option (Int × Int × Int × Int × Int × Int) := (spec_l01From.f k l0).bind fun bt1839 => ((spec_l05Draw.f k bt1839.1 bt1839.2.1 bt1839.2.2).bind fun bt1843 => ((spec_l01Next.f bt1839.1 bt1843.2.2.2.2.2.2.1 bt1843.2.2.2.2.2.2.2 3).bind fun bt1852 => (if bt1852.1 = 0 then ((spec_l02Det.f bt1843.1 bt1843.2.1 bt1843.2.2.1 bt1843.2.2.2.1).bind fun t1855 => (spec_DrawKindOfMotion.j0 k (t1855 == (-1)) bt1839.1 bt1852.2.1 bt1852.2.2 bt1843.1 bt1843.2.1 bt1843.2.2.1 bt1843.2.2.2.1 bt1843.2.2.2.2.1 bt1843.2.2.2.2.2.1)) else (spec_DrawKindOfMotion.j0 k false bt1839.1 bt1852.2.1 bt1852.2.2 bt1843.1 bt1843.2.1 bt1843.2.2.1 bt1843.2.2.2.1 bt1843.2.2.2.2.1 bt1843.2.2.2.2.2.1))))
def spec_DrawKindOfMotion.T5 : Bool × List (List Nat × List Nat) := (true, [([], []), ([], []), ([1], [1]), ([], []), ([2, 3], [2, 3]), ([4, 4], [4]), ([0, 5, 5], [0, 5]), ([0, 1, 2, 3, 4, 5, 6], []), ([7, 6, 6, 0, 1, 2, 3, 4, 5, 6], [6, 7])])
def spec_DrawKindOfMotion.B5 : List Nat := [0, 0, 2, 0, 14, 30, 63, 127, 255]
theorem spec_DrawKindOfMotion.tab5 : rtab .any (opsOf Try.f93 5) = spec_DrawKindOfMotion.T5 := by kernel_rfl
theorem spec_DrawKindOfMotion.bits5 : waitsOk spec_DrawKindOfMotion.T5.2 spec_DrawKindOfMotion.B5 = true := by kernel_rfl
set_option maxHeartbeats 40000000 in
set_option maxRecDepth 100000 in
theorem spec_DrawKindOfMotion.calls (k : Nat) (A0 : Option Addr) (c0 : Nat) (l0 : List Int) (r1 : Int) (r2 : Int) (r3 : Int) (r4 : Int) (r5 : Int) (r6 : Int) (w : World) (hr0 : Kd.C (Kd.int .u8) w A0 l0.length l0) (hc0 : l0.length ≤ c0) (h : spec_DrawKindOfMotion.f k l0 = some (r1, r2, r3, r4, r5, r6)) :
  Calls Try.prog 93 #[.slice A0 l0.length c0] w fun e w' => e = .returned (.agg #[.int .i64 r1, .int .i64 r2, .int .i64 r3, .int .i64 r4, .int .i64 r5, .int .i64 r6]) ∧ Below w.heap.size w w' := by
 have hu84 := Try.underlying84
 have hu51 := Try.underlying51
 have hu25 := Try.underlying25
 have HR0 := aM hr0
 have HC0 := aM hc0
 clear hr0 hc0
 have HB := aM (Below.refl w.heap.size w)
 have H : ((spec_l01From.f k l0).bind fun bt1839 => ((spec_l05Draw.f k bt1839.1 bt1839.2.1 bt1839.2.2).bind fun bt1843 => ((spec_l01Next.f bt1839.1 bt1843.2.2.2.2.2.2.1 bt1843.2.2.2.2.2.2.2 3).bind fun bt1852 => (if bt1852.1 = 0 then ((spec_l02Det.f bt1843.1 bt1843.2.1 bt1843.2.2.1 bt1843.2.2.2.1).bind fun t1855 => (spec_DrawKindOfMotion.j0 k (t1855 == (-1)) bt1839.1 bt1852.2.1 bt1852.2.2 bt1843.1 bt1843.2.1 bt1843.2.2.1 bt1843.2.2.2.1 bt1843.2.2.2.2.1 bt1843.2.2.2.2.2.1)) else (spec_DrawKindOfMotion.j0 k false bt1839.1 bt1852.2.1 bt1852.2.2 bt1843.1 bt1843.2.1 bt1843.2.2.1 bt1843.2.2.2.1 bt1843.2.2.2.2.1 bt1843.2.2.2.2.2.1))))) = some (r1, r2, r3, r4, r5, r6) := h
 clear h
 replace H := Option.bind_eq_some_iff.mp H
 obtain ⟨⟨t1839, t1840, t1841⟩, A20, H⟩ := H
 try dsimp only at H
 have A2 := aM A20
 clear A20
 replace H := Option.bind_eq_some_iff.mp H
 obtain ⟨⟨t1843, t1844, t1845, t1846, t1847, t1848, t1849, t1850⟩, A30, H⟩ := H
 try dsimp only at H
 have A3 := aM A30
 clear A30
 have HC4 := aM H
 clear H
 go_enter Try.func93, Try.ntmps93
 go_upto_region 3 with (first | ((with_reducible refine gate_dst (N := 2) rfl ?_); refine box_event ?hg (N := 2) ?hd (cs := #[.int .i64 0, .int .i64 0, .int .i64 0, .int .i64 0, .int .i64 0, .int .i64 0]) (t := 84) ?hr ?_; (case hd => rfl); (case hg => rfl); (case hr => first | (go_simp; done) | (go_simp; rfl)); intro gb1838 hg w5 hbox hb; have n0_ := aM (below_step (by repeat (first | (with_reducible first | exact HB.out | apply bA|apply bN|apply b1) | exact HB.out)) hb); have n1_ := aM (hbox); have n2_ := aM ((by rw [hg]; exact (below_size (by repeat (first | (with_reducible first | exact HB.out | apply bA|apply bN|apply b1) | exact HB.out))) : w.heap.size ≤ gb1838)); have n3_ := aM ((by rw [hg]; exact (below_size (by repeat (first | (with_reducible first | exact HB.out | apply bA|apply bN|apply b1) | exact HB.out))) : w.heap.size ≤ gb1838)); clear HB; have HB := n0_; have BK1838 := n1_; have GW1838 := n2_; have GE1838 := n3_; clear n0_ n1_ n2_ n3_; clear hb hbox hg) | ((with_reducible refine gate_callee (f := 122) rfl ?_); refine goesL_ (some 7) rfl rfl Try.func122 (by kernel_rfl) rfl #[.slice A0 l0.length c0] rfl (by first|rfl|(simp only [List.map_toArray, List.map_cons, List.map_nil]; try rfl)) ?_; (with_reducible refine (spec_l01From.calls k _ _ l0 t1839 t1840 t1841 w _ ?side1 ?side2 ?side3 A2.out).mono ?_); (case side1 => repeat (first | (with_reducible first | exact HB.out | apply bA|apply bN|apply b1 | refine below_set ?_ GE1838.out) | exact HB.out)); (case side2 => exact HR0.out); (case side3 => exact HC0.out); rintro e w6 ⟨g1842, rfl, hi, hb, hb2⟩; refine ⟨_, rfl, ?_⟩; have n0_ := aM (blk_below (g := gb1838) (o := .cells #[.int .i64 0, .int .i64 0, .int .i64 0, .int .i64 0, .int .i64 0, .int .i64 0] 84 (0, 0)) (by (with_reducible repeat (first|apply kN|apply kD|apply kA)); exact BK1838.out) hb2); have n1_ := aM (hb); have n2_ := aM (hi); have n3_ := aM (IsS174.ne_blk hi (blk_below (g := gb1838) (o := .cells #[.int .i64 0, .int .i64 0, .int .i64 0, .int .i64 0, .int .i64 0, .int .i64 0] 84 (0, 0)) (by (with_reducible repeat (first|apply kN|apply kD|apply kA)); exact BK1838.out) hb2) (by decide)); have n4_ := aM (Ne.symm (IsS174.ne_blk hi (blk_below (g := gb1838) (o := .cells #[.int .i64 0, .int .i64 0, .int .i64 0, .int .i64 0, .int .i64 0, .int .i64 0] 84 (0, 0)) (by (with_reducible repeat (first|apply kN|apply kD|apply kA)); exact BK1838.out) hb2) (by decide))); clear BK1838; clear HB; have BK1838 := n0_; have HB := n1_; have HI1842 := n2_; have NB1842_1838 := n3_; have NB1838_1842 := n4_; clear n0_ n1_ n2_ n3_ n4_; (try clear hb)) | ((with_reducible refine gate_callee (f := 182) rfl ?_); refine goesL_ (some 9) rfl rfl Try.func182 (by kernel_rfl) rfl #[.pointer (some ⟨g1842, 0, none⟩)] rfl (by first|rfl|(simp only [List.map_toArray, List.map_cons, List.map_nil]; try rfl)) ?_; (with_reducible refine (spec_l05Draw.calls k g1842 t1839 t1840 t1841 t1843 t1844 t1845 t1846 t1847 t1848 t1849 t1850 w _ ?side1 ?side2 A3.out).mono ?_); (case side1 => repeat (first | (with_reducible first | exact HI1842.out | apply sA|apply sN|apply sD|apply s1|apply s2 | refine IsS174.far ?_ NB1842_1838.out _) | exact HI1842.out)); (case side2 => repeat (first | (with_reducible first | exact HB.out | apply bA|apply bN|apply b1 | refine below_set ?_ (IsS174.ge HI1842.out) | refine below_set ?_ GE1838.out) | exact HB.out)); rintro e w7 ⟨rfl, hi, hb, hk⟩; refine ⟨_, rfl, ?_⟩; have n0_ := aM (KeepBut.blk hk (g' := gb1838) (o := .cells #[.int .i64 0, .int .i64 0, .int .i64 0, .int .i64 0, .int .i64 0, .int .i64 0] 84 (0, 0)) (by (with_reducible repeat (first|apply kN|apply kD|apply kA)); exact BK1838.out) NB1838_1842.out (by simp)); have n1_ := aM (hb); have n2_ := aM (hi); clear BK1838; clear HB; clear HI1842; have BK1838 := n0_; have HB := n1_; have HI1842 := n2_; clear n0_ n1_ n2_; (try clear hb)) | ((with_reducible refine gate_dst (N := 4) rfl ?_); refine box_event ?hg (N := 4) ?hd (cs := #[.int .i64 0, .int .i64 0, .int .i64 0, .int .i64 0, .int .i64 0, .int .i64 0]) (t := 84) ?hr ?_; (case hd => rfl); (case hg => rfl); (case hr => first | (go_simp; done) | (go_simp; rfl)); intro gb1851 hg w8 hbox hb; have n0_ := aM (blk_below (g := gb1838) (o := .cells #[.int .i64 0, .int .i64 0, .int .i64 0, .int .i64 0, .int .i64 0, .int .i64 0] 84 (0, 0)) (by (with_reducible repeat (first|apply kN|apply kD|apply kA)); exact BK1838.out) hb); have n1_ := aM (IsS174.below (by repeat (first | (with_reducible first | exact HI1842.out | apply sA|apply sN|apply sD|apply s1|apply s2 | refine IsS174.far ?_ NB1842_1838.out _) | exact HI1842.out)) hb); have n2_ := aM (below_step (by repeat (first | (with_reducible first | exact HB.out | apply bA|apply bN|apply b1 | refine below_set ?_ (IsS174.ge HI1842.out) | refine below_set ?_ GE1838.out) | exact HB.out)) hb); have n3_ := aM (hbox); have n4_ := aM ((by rw [hg]; exact (below_size (by repeat (first | (with_reducible first | exact HB.out | apply bA|apply bN|apply b1 | refine below_set ?_ (IsS174.ge HI1842.out) | refine below_set ?_ GE1838.out) | exact HB.out))) : w.heap.size ≤ gb1851)); have n5_ := aM ((by rw [hg]; exact (below_size (by repeat (first | (with_reducible first | exact HB.out | apply bA|apply bN|apply b1 | refine below_set ?_ (IsS174.ge HI1842.out) | refine below_set ?_ GE1838.out) | exact HB.out))) : w.heap.size ≤ gb1851)); have n6_ := aM ((by rw [hg]; exact Nat.ne_of_lt (blk_lt (g := gb1838) (o := .cells #[.int .i64 0, .int .i64 0, .int .i64 0, .int .i64 0, .int .i64 0, .int .i64 0] 84 (0, 0)) (by (with_reducible repeat (first|apply kN|apply kD|apply kA)); exact BK1838.out)) : gb1838 ≠ gb1851)); have n7_ := aM ((by rw [hg]; exact Nat.ne_of_gt (blk_lt (g := gb1838) (o := .cells #[.int .i64 0, .int .i64 0, .int .i64 0, .int .i64 0, .int .i64 0, .int .i64 0] 84 (0, 0)) (by (with_reducible repeat (first|apply kN|apply kD|apply kA)); exact BK1838.out)) : gb1851 ≠ gb1838)); have n8_ := aM ((by rw [hg]; exact Nat.ne_of_lt (IsS174.lt (show IsS174 w _ g1842 t1839 t1849 t1850 from by repeat (first | (with_reducible first | exact HI1842.out | apply sA|apply sN|apply sD|apply s1|apply s2 | refine IsS174.far ?_ NB1842_1838.out _) | exact HI1842.out))) : g1842 ≠ gb1851)); have n9_ := aM ((by rw [hg]; exact Nat.ne_of_gt (IsS174.lt (show IsS174 w _ g1842 t1839 t1849 t1850 from by repeat (first | (with_reducible first | exact HI1842.out | apply sA|apply sN|apply sD|apply s1|apply s2 | refine IsS174.far ?_ NB1842_1838.out _) | exact HI1842.out))) : gb1851 ≠ g1842)); clear BK1838; clear HI1842; clear HB; have BK1838 := n0_; have HI1842 := n1_; have HB := n2_; have BK1851 := n3_; have GW1851 := n4_; have GE1851 := n5_; have NB1838_1851 := n6_; have NB1851_1838 := n7_; have NB1842_1851 := n8_; have NB1851_1842 := n9_; clear n0_ n1_ n2_ n3_ n4_ n5_ n6_ n7_ n8_ n9_; clear hb hbox hg; have hnb9 := NB1851_1838.out; have hnc9 := NB1838_1851.out; have hnb10 := NB1851_1842.out; have hnc10 := NB1842_1851.out; have hcz11_0 : w8.cell? ⟨gb1851, 0, none⟩ = some (.int .i64 0) := (blk_cell BK1851.out 0).trans rfl; have hcz11_1 : w8.cell? ⟨gb1851, 1, none⟩ = some (.int .i64 0) := (blk_cell BK1851.out 1).trans rfl; have hcz11_2 : w8.cell? ⟨gb1851, 2, none⟩ = some (.int .i64 0) := (blk_cell BK1851.out 2).trans rfl; have hcz11_3 : w8.cell? ⟨gb1851, 3, none⟩ = some (.int .i64 0) := (blk_cell BK1851.out 3).trans rfl; have hcz11_4 : w8.cell? ⟨gb1851, 4, none⟩ = some (.int .i64 0) := (blk_cell BK1851.out 4).trans rfl; have hcz11_5 : w8.cell? ⟨gb1851, 5, none⟩ = some (.int .i64 0) := (blk_cell BK1851.out 5).trans rfl; have hfz11_0 := blk_frozen BK1851.out 0; have hfz11_1 := blk_frozen BK1851.out 1; have hfz11_2 := blk_frozen BK1851.out 2; have hfz11_3 := blk_frozen BK1851.out 3; have hfz11_4 := blk_frozen BK1851.out 4; have hfz11_5 := blk_frozen BK1851.out 5))
 (try simp only [Act.put, List.setIfInBounds_toArray, List.set_cons_zero, List.set_cons_succ])
 go_cut [18] (fun v18 wc => ∃ (kq : Nat) (x18_3 : Bool) (x1843001_3 : Int) (x1843002_3 : Int), v18 = .bool x18_3 ∧ Aside0 (spec_DrawKindOfMotion.j0 kq x18_3 t1839 x1843001_3 x1843002_3 t1843 t1844 t1845 t1846 t1847 t1848 = some (r1, r2, r3, r4, r5, r6)) ∧ Aside0 (kq ≤ k) ∧ Aside0 (wc.heap[gb1838]? = some (.cells #[.int .i64 0, .int .i64 0, .int .i64 0, .int .i64 0, .int .i64 0, .int .i64 0] 84 (0, 0))) ∧ Aside0 (wc.heap[gb1851]? = some (.cells #[.int .i64 t1843, .int .i64 t1844, .int .i64 t1845, .int .i64 t1846, .int .i64 t1847, .int .i64 t1848] 84 (0, 0))) ∧ Aside0 (IsS174 w wc g1842 t1839 x1843001_3 x1843002_3) ∧ Aside0 (Below w.heap.size w wc))
 case first =>
  have H := HC4.out
  clear HC4
  replace H := Option.bind_eq_some_iff.mp H
  obtain ⟨⟨t1852, t1853, t1854⟩, A120, H⟩ := H
  try dsimp only at H
  have A12 := aM A120
  clear A120
  by_cases c13 : t1852 = 0
  ·rw [if_pos c13] at H
   have c13b0 : (t1852 == 0) = true := beq_iff_eq.mpr c13
   have c13b1 : (t1852 != 0) = false := bne_eq_false_iff_eq.mpr c13
   clear c13
   (first | rw [c13b0] | (simp only [i64_w, i32_w]; rw [c13b0]) | skip)
   replace H := Option.bind_eq_some_iff.mp H
   obtain ⟨t1855, A140, H⟩ := H
   try dsimp only at H
   have A14 := aM A140
   clear A140
   have H' := aM H
   clear H
   go_wp2_with (first | ((with_reducible refine gate_callee (f := 123) rfl ?_); refine goesL_ (some 11) rfl rfl Try.func123 (by kernel_rfl) rfl #[.pointer (some ⟨g1842, 0, none⟩), .int .i64 3] rfl (by first|rfl|(simp only [List.map_toArray, List.map_cons, List.map_nil]; try rfl)) ?_; (with_reducible refine (spec_l01Next.calls g1842 t1839 t1849 t1850 3 t1852 t1853 t1854 w _ ?side1 ?side2 A12.out).mono ?_); (case side1 => repeat (first | (with_reducible first | exact HI1842.out | apply sA|apply sN|apply sD|apply s1|apply s2 | refine IsS174.far ?_ NB1842_1838.out _ | refine IsS174.far ?_ NB1842_1851.out _) | exact HI1842.out)); (case side2 => repeat (first | (with_reducible first | exact HB.out | apply bA|apply bN|apply b1 | refine below_set ?_ (IsS174.ge HI1842.out) | refine below_set ?_ (Aside0.out (by assumption))) | exact HB.out)); rintro e w15 ⟨rfl, hi, hb, hk⟩; refine ⟨_, rfl, ?_⟩; have n0_ := aM (KeepBut.blk hk (g' := gb1838) (o := .cells #[.int .i64 0, .int .i64 0, .int .i64 0, .int .i64 0, .int .i64 0, .int .i64 0] 84 (0, 0)) (by (repeat (first|(with_reducible first|apply kN|apply kD|apply kA)|refine blk_far ?_ NB1838_1851.out _)); exact BK1838.out) NB1838_1842.out (by simp)); have n1_ := aM (KeepBut.blk hk (g' := gb1851) (o := .cells #[.int .i64 t1843, .int .i64 t1844, .int .i64 t1845, .int .i64 t1846, .int .i64 t1847, .int .i64 t1848] 84 (0, 0)) (by (with_reducible repeat (first|apply kN|apply kD|apply kA)); refine blk_put (cs := #[.int .i64 t1843, .int .i64 t1844, .int .i64 t1845, .int .i64 t1846, .int .i64 t1847, .int .i64 0]) ?_ 5 _ rfl; (with_reducible repeat (first|apply kN|apply kD|apply kA)); refine blk_put (cs := #[.int .i64 t1843, .int .i64 t1844, .int .i64 t1845, .int .i64 t1846, .int .i64 0, .int .i64 0]) ?_ 4 _ rfl; (with_reducible repeat (first|apply kN|apply kD|apply kA)); refine blk_put (cs := #[.int .i64 t1843, .int .i64 t1844, .int .i64 t1845, .int .i64 0, .int .i64 0, .int .i64 0]) ?_ 3 _ rfl; (with_reducible repeat (first|apply kN|apply kD|apply kA)); refine blk_put (cs := #[.int .i64 t1843, .int .i64 t1844, .int .i64 0, .int .i64 0, .int .i64 0, .int .i64 0]) ?_ 2 _ rfl; (with_reducible repeat (first|apply kN|apply kD|apply kA)); refine blk_put (cs := #[.int .i64 t1843, .int .i64 0, .int .i64 0, .int .i64 0, .int .i64 0, .int .i64 0]) ?_ 1 _ rfl; (with_reducible repeat (first|apply kN|apply kD|apply kA)); refine blk_put (cs := #[.int .i64 0, .int .i64 0, .int .i64 0, .int .i64 0, .int .i64 0, .int .i64 0]) ?_ 0 _ rfl; (with_reducible repeat (first|apply kN|apply kD|apply kA)); exact BK1851.out) NB1851_1842.out (by simp)); have n2_ := aM (hb); have n3_ := aM (hi); clear BK1838; clear BK1851; clear HB; clear HI1842; have BK1838 := n0_; have BK1851 := n1_; have HB := n2_; have HI1842 := n3_; clear n0_ n1_ n2_ n3_; (try clear hb); have hnb16 := NB1851_1838.out; have hnc16 := NB1838_1851.out; have hnb17 := NB1851_1842.out; have hnc17 := NB1842_1851.out; have hcz18_0 : w15.cell? ⟨gb1851, 0, none⟩ = some (.int .i64 t1843) := (blk_cell BK1851.out 0).trans rfl; have hcz18_1 : w15.cell? ⟨gb1851, 1, none⟩ = some (.int .i64 t1844) := (blk_cell BK1851.out 1).trans rfl; have hcz18_2 : w15.cell? ⟨gb1851, 2, none⟩ = some (.int .i64 t1845) := (blk_cell BK1851.out 2).trans rfl; have hcz18_3 : w15.cell? ⟨gb1851, 3, none⟩ = some (.int .i64 t1846) := (blk_cell BK1851.out 3).trans rfl; have hcz18_4 : w15.cell? ⟨gb1851, 4, none⟩ = some (.int .i64 t1847) := (blk_cell BK1851.out 4).trans rfl; have hcz18_5 : w15.cell? ⟨gb1851, 5, none⟩ = some (.int .i64 t1848) := (blk_cell BK1851.out 5).trans rfl; have hfz18_0 := blk_frozen BK1851.out 0; have hfz18_1 := blk_frozen BK1851.out 1; have hfz18_2 := blk_frozen BK1851.out 2; have hfz18_3 := blk_frozen BK1851.out 3; have hfz18_4 := blk_frozen BK1851.out 4; have hfz18_5 := blk_frozen BK1851.out 5) | (go_at_call 158; (with_reducible refine (spec_l02Det.calls t1843 t1844 t1845 t1846 t1855 _ A14.out).mono ?_); rintro e w19 ⟨rfl, hb⟩; have n0_ := aM (blk_below (g := gb1838) (o := .cells #[.int .i64 0, .int .i64 0, .int .i64 0, .int .i64 0, .int .i64 0, .int .i64 0] 84 (0, 0)) (by (with_reducible repeat (first|apply kN|apply kD|apply kA)); exact BK1838.out) hb); have n1_ := aM (IsS174.below (by repeat (first | (with_reducible first | exact HI1842.out | apply sA|apply sN|apply sD|apply s1|apply s2 | refine IsS174.far ?_ NB1842_1838.out _ | refine IsS174.far ?_ NB1842_1851.out _) | exact HI1842.out)) hb); have n2_ := aM (blk_below (g := gb1851) (o := .cells #[.int .i64 t1843, .int .i64 t1844, .int .i64 t1845, .int .i64 t1846, .int .i64 t1847, .int .i64 t1848] 84 (0, 0)) (by (with_reducible repeat (first|apply kN|apply kD|apply kA)); exact BK1851.out) hb); have n3_ := aM (below_step (by repeat (first | (with_reducible first | exact HB.out | apply bA|apply bN|apply b1 | refine below_set ?_ (IsS174.ge HI1842.out) | refine below_set ?_ (Aside0.out (by assumption))) | exact HB.out)) hb); clear BK1838; clear HI1842; clear BK1851; clear HB; have BK1838 := n0_; have HI1842 := n1_; have BK1851 := n2_; have HB := n3_; clear n0_ n1_ n2_ n3_; (try clear hb)))
   go_meet
   case rel => exact ⟨_, ((t1855 == (-1))), (t1853), (t1854), (by first | rfl | (simp; done) | (simp [*]; done)), H', ⟨by first | omega | exact Nat.le_refl _⟩, ⟨by (with_reducible repeat (first|apply kN|apply kD|apply kA)); exact BK1838.out⟩, ⟨by (with_reducible repeat (first|apply kN|apply kD|apply kA)); exact BK1851.out⟩, ⟨by repeat (first | (with_reducible first | exact HI1842.out | apply sA|apply sN|apply sD|apply s1|apply s2 | refine IsS174.far ?_ NB1842_1838.out _ | refine IsS174.far ?_ NB1842_1851.out _) | exact HI1842.out)⟩, ⟨by repeat (first | (with_reducible first | exact HB.out | apply bA|apply bN|apply b1 | refine below_set ?_ (IsS174.ge HI1842.out) | refine below_set ?_ (Aside0.out (by assumption))) | exact HB.out)⟩⟩
  ·rw [if_neg c13] at H
   have c13b0 : (t1852 == 0) = false := beq_eq_false_iff_ne.mpr c13
   have c13b1 : (t1852 != 0) = true := bne_iff_ne.mpr c13
   (first | rw [c13b0] | (simp only [i64_w, i32_w]; rw [c13b0]) | skip)
   have H' := aM H
   clear H
   go_wp2_with (first | ((with_reducible refine gate_callee (f := 123) rfl ?_); refine goesL_ (some 11) rfl rfl Try.func123 (by kernel_rfl) rfl #[.pointer (some ⟨g1842, 0, none⟩), .int .i64 3] rfl (by first|rfl|(simp only [List.map_toArray, List.map_cons, List.map_nil]; try rfl)) ?_; (with_reducible refine (spec_l01Next.calls g1842 t1839 t1849 t1850 3 t1852 t1853 t1854 w _ ?side1 ?side2 A12.out).mono ?_); (case side1 => repeat (first | (with_reducible first | exact HI1842.out | apply sA|apply sN|apply sD|apply s1|apply s2 | refine IsS174.far ?_ NB1842_1838.out _ | refine IsS174.far ?_ NB1842_1851.out _) | exact HI1842.out)); (case side2 => repeat (first | (with_reducible first | exact HB.out | apply bA|apply bN|apply b1 | refine below_set ?_ (IsS174.ge HI1842.out) | refine below_set ?_ (Aside0.out (by assumption))) | exact HB.out)); rintro e w20 ⟨rfl, hi, hb, hk⟩; refine ⟨_, rfl, ?_⟩; have n0_ := aM (KeepBut.blk hk (g' := gb1838) (o := .cells #[.int .i64 0, .int .i64 0, .int .i64 0, .int .i64 0, .int .i64 0, .int .i64 0] 84 (0, 0)) (by (repeat (first|(with_reducible first|apply kN|apply kD|apply kA)|refine blk_far ?_ NB1838_1851.out _)); exact BK1838.out) NB1838_1842.out (by simp)); have n1_ := aM (KeepBut.blk hk (g' := gb1851) (o := .cells #[.int .i64 t1843, .int .i64 t1844, .int .i64 t1845, .int .i64 t1846, .int .i64 t1847, .int .i64 t1848] 84 (0, 0)) (by (with_reducible repeat (first|apply kN|apply kD|apply kA)); refine blk_put (cs := #[.int .i64 t1843, .int .i64 t1844, .int .i64 t1845, .int .i64 t1846, .int .i64 t1847, .int .i64 0]) ?_ 5 _ rfl; (with_reducible repeat (first|apply kN|apply kD|apply kA)); refine blk_put (cs := #[.int .i64 t1843, .int .i64 t1844, .int .i64 t1845, .int .i64 t1846, .int .i64 0, .int .i64 0]) ?_ 4 _ rfl; (with_reducible repeat (first|apply kN|apply kD|apply kA)); refine blk_put (cs := #[.int .i64 t1843, .int .i64 t1844, .int .i64 t1845, .int .i64 0, .int .i64 0, .int .i64 0]) ?_ 3 _ rfl; (with_reducible repeat (first|apply kN|apply kD|apply kA)); refine blk_put (cs := #[.int .i64 t1843, .int .i64 t1844, .int .i64 0, .int .i64 0, .int .i64 0, .int .i64 0]) ?_ 2 _ rfl; (with_reducible repeat (first|apply kN|apply kD|apply kA)); refine blk_put (cs := #[.int .i64 t1843, .int .i64 0, .int .i64 0, .int .i64 0, .int .i64 0, .int .i64 0]) ?_ 1 _ rfl; (with_reducible repeat (first|apply kN|apply kD|apply kA)); refine blk_put (cs := #[.int .i64 0, .int .i64 0, .int .i64 0, .int .i64 0, .int .i64 0, .int .i64 0]) ?_ 0 _ rfl; (with_reducible repeat (first|apply kN|apply kD|apply kA)); exact BK1851.out) NB1851_1842.out (by simp)); have n2_ := aM (hb); have n3_ := aM (hi); clear BK1838; clear BK1851; clear HB; clear HI1842; have BK1838 := n0_; have BK1851 := n1_; have HB := n2_; have HI1842 := n3_; clear n0_ n1_ n2_ n3_; (try clear hb)))
   go_meet
   case rel => exact ⟨_, (false), (t1853), (t1854), (by first | rfl | (simp; done) | (simp [*]; done)), H', ⟨by first | omega | exact Nat.le_refl _⟩, ⟨by (with_reducible repeat (first|apply kN|apply kD|apply kA)); exact BK1838.out⟩, ⟨by (with_reducible repeat (first|apply kN|apply kD|apply kA)); exact BK1851.out⟩, ⟨by repeat (first | (with_reducible first | exact HI1842.out | apply sA|apply sN|apply sD|apply s1|apply s2 | refine IsS174.far ?_ NB1842_1838.out _ | refine IsS174.far ?_ NB1842_1851.out _) | exact HI1842.out)⟩, ⟨by repeat (first | (with_reducible first | exact HB.out | apply bA|apply bN|apply b1 | refine below_set ?_ (IsS174.ge HI1842.out) | refine below_set ?_ (Aside0.out (by assumption))) | exact HB.out)⟩⟩
 case rest =>
  clear HC4
  try clear c1
  try clear p2
  try clear c9
  try clear c10
  try clear c12
  try clear c13
  try clear c13b0
  try clear c13b1
  try clear c16
  try clear c17
  try clear c18
  try clear hcz11_0
  try clear hcz11_1
  try clear hcz11_2
  try clear hcz11_3
  try clear hcz11_4
  try clear hcz11_5
  try clear hcz18_0
  try clear hcz18_1
  try clear hcz18_2
  try clear hcz18_3
  try clear hcz18_4
  try clear hcz18_5
  try clear hfz11_0
  try clear hfz11_1
  try clear hfz11_2
  try clear hfz11_3
  try clear hfz11_4
  try clear hfz11_5
  try clear hfz18_0
  try clear hfz18_1
  try clear hfz18_2
  try clear hfz18_3
  try clear hfz18_4
  try clear hfz18_5
  obtain ⟨kq, x18_3, x1843001_3, x1843002_3, rfl, HA, HJ3, BK1838, BK1851, HI1842, HB⟩ := hcut
  cases kq with
  | zero => exact absurd HA.out (by simp [spec_DrawKindOfMotion.j0])
  | succ kj3 =>
   have H := HA.out
   clear HA
   simp only [spec_DrawKindOfMotion.j0] at H
   by_cases c21 : x18_3 = true
   ·subst c21
    have H1 : ((spec_l01Draw.f t1839 x1843001_3 x1843002_3).bind fun bt1856 => ((spec_l02Apply.f t1843 t1844 t1845 t1846 bt1856.1 bt1856.2.1).bind fun bt1861 => ((spec_l01Scale.f bt1861.1 bt1861.2 (-1)).bind fun bt1863 => ((spec_l01Add.f bt1856.1 bt1856.2.1 bt1863.1 bt1863.2).bind fun bt1865 => (some (t1843, t1844, t1845, t1846, bt1865.1, bt1865.2)))))) = some (r1, r2, r3, r4, r5, r6) := by rw [if_pos rfl] at H; exact H
    clear H
    have H := H1
    clear H1
    replace H := Option.bind_eq_some_iff.mp H
    obtain ⟨⟨t1856, t1857, t1858, t1859⟩, A220, H⟩ := H
    try dsimp only at H
    have A22 := aM A220
    clear A220
    replace H := Option.bind_eq_some_iff.mp H
    obtain ⟨⟨t1861, t1862⟩, A230, H⟩ := H
    try dsimp only at H
    have A23 := aM A230
    clear A230
    replace H := Option.bind_eq_some_iff.mp H
    obtain ⟨⟨t1863, t1864⟩, A240, H⟩ := H
    try dsimp only at H
    have A24 := aM A240
    clear A240
    replace H := Option.bind_eq_some_iff.mp H
    obtain ⟨⟨t1865, t1866⟩, A250, H⟩ := H
    try dsimp only at H
    have A25 := aM A250
    clear A250
    simp only [Option.some.injEq, Prod.mk.injEq] at H
    obtain ⟨rfl, rfl, rfl, rfl, rfl, rfl⟩ := H
    try go_wp2_with (first | ((with_reducible refine gate_callee (f := 124) rfl ?_); refine goesL_ (some 20) rfl rfl Try.func124 (by kernel_rfl) rfl #[.pointer (some ⟨g1842, 0, none⟩)] rfl (by first|rfl|(simp only [List.map_toArray, List.map_cons, List.map_nil]; try rfl)) ?_; (with_reducible refine (spec_l01Draw.calls g1842 t1839 x1843001_3 x1843002_3 t1856 t1857 t1858 t1859 w _ ?side1 ?side2 A22.out).mono ?_); (case side1 => repeat (first | (with_reducible first | exact HI1842.out | apply sA|apply sN|apply sD|apply s1|apply s2 | refine IsS174.far ?_ NB1842_1838.out _ | refine IsS174.far ?_ NB1842_1851.out _) | exact HI1842.out)); (case side2 => repeat (first | (with_reducible first | exact HB.out | apply bA|apply bN|apply b1 | refine below_set ?_ (IsS174.ge HI1842.out) | refine below_set ?_ (Aside0.out (by assumption))) | exact HB.out)); rintro e w26 ⟨rfl, hi, hb, hk⟩; refine ⟨_, rfl, ?_⟩; have n0_ := aM (KeepBut.blk hk (g' := gb1838) (o := .cells #[.int .i64 0, .int .i64 0, .int .i64 0, .int .i64 0, .int .i64 0, .int .i64 0] 84 (0, 0)) (by (with_reducible repeat (first|apply kN|apply kD|apply kA)); exact BK1838.out) NB1838_1842.out (by simp)); have n1_ := aM (KeepBut.blk hk (g' := gb1851) (o := .cells #[.int .i64 t1843, .int .i64 t1844, .int .i64 t1845, .int .i64 t1846, .int .i64 t1847, .int .i64 t1848] 84 (0, 0)) (by (with_reducible repeat (first|apply kN|apply kD|apply kA)); exact BK1851.out) NB1851_1842.out (by simp)); have n2_ := aM (hb); have n3_ := aM (hi); clear BK1838; clear BK1851; clear HB; clear HI1842; have BK1838 := n0_; have BK1851 := n1_; have HB := n2_; have HI1842 := n3_; clear n0_ n1_ n2_ n3_; (try clear hb)) | ((with_reducible refine gate_dst (N := 5) rfl ?_); refine box_event ?hg (N := 5) ?hd (cs := #[.int .i64 0, .int .i64 0]) (t := 25) ?hr ?_; (case hd => rfl); (case hg => rfl); (case hr => first | (go_simp; done) | (go_simp; rfl)); intro gb1860 hg w27 hbox hb; have n0_ := aM (blk_below (g := gb1838) (o := .cells #[.int .i64 0, .int .i64 0, .int .i64 0, .int .i64 0, .int .i64 0, .int .i64 0] 84 (0, 0)) (by (with_reducible repeat (first|apply kN|apply kD|apply kA)); exact BK1838.out) hb); have n1_ := aM (blk_below (g := gb1851) (o := .cells #[.int .i64 t1843, .int .i64 t1844, .int .i64 t1845, .int .i64 t1846, .int .i64 t1847, .int .i64 t1848] 84 (0, 0)) (by (with_reducible repeat (first|apply kN|apply kD|apply kA)); exact BK1851.out) hb); have n2_ := aM (IsS174.below (by repeat (first | (with_reducible first | exact HI1842.out | apply sA|apply sN|apply sD|apply s1|apply s2 | refine IsS174.far ?_ NB1842_1838.out _ | refine IsS174.far ?_ NB1842_1851.out _) | exact HI1842.out)) hb); have n3_ := aM (below_step (by repeat (first | (with_reducible first | exact HB.out | apply bA|apply bN|apply b1 | refine below_set ?_ (IsS174.ge HI1842.out) | refine below_set ?_ (Aside0.out (by assumption))) | exact HB.out)) hb); have n4_ := aM (hbox); have n5_ := aM ((by rw [hg]; exact (below_size (by repeat (first | (with_reducible first | exact HB.out | apply bA|apply bN|apply b1 | refine below_set ?_ (IsS174.ge HI1842.out) | refine below_set ?_ (Aside0.out (by assumption))) | exact HB.out))) : w.heap.size ≤ gb1860)); have n6_ := aM ((by rw [hg]; exact (below_size (by repeat (first | (with_reducible first | exact HB.out | apply bA|apply bN|apply b1 | refine below_set ?_ (IsS174.ge HI1842.out) | refine below_set ?_ (Aside0.out (by assumption))) | exact HB.out))) : w.heap.size ≤ gb1860)); have n7_ := aM ((by rw [hg]; exact Nat.ne_of_lt (blk_lt (g := gb1838) (o := .cells #[.int .i64 0, .int .i64 0, .int .i64 0, .int .i64 0, .int .i64 0, .int .i64 0] 84 (0, 0)) (by (with_reducible repeat (first|apply kN|apply kD|apply kA)); exact BK1838.out)) : gb1838 ≠ gb1860)); have n8_ := aM ((by rw [hg]; exact Nat.ne_of_gt (blk_lt (g := gb1838) (o := .cells #[.int .i64 0, .int .i64 0, .int .i64 0, .int .i64 0, .int .i64 0, .int .i64 0] 84 (0, 0)) (by (with_reducible repeat (first|apply kN|apply kD|apply kA)); exact BK1838.out)) : gb1860 ≠ gb1838)); have n9_ := aM ((by rw [hg]; exact Nat.ne_of_lt (blk_lt (g := gb1851) (o := .cells #[.int .i64 t1843, .int .i64 t1844, .int .i64 t1845, .int .i64 t1846, .int .i64 t1847, .int .i64 t1848] 84 (0, 0)) (by (with_reducible repeat (first|apply kN|apply kD|apply kA)); exact BK1851.out)) : gb1851 ≠ gb1860)); have n10_ := aM ((by rw [hg]; exact Nat.ne_of_gt (blk_lt (g := gb1851) (o := .cells #[.int .i64 t1843, .int .i64 t1844, .int .i64 t1845, .int .i64 t1846, .int .i64 t1847, .int .i64 t1848] 84 (0, 0)) (by (with_reducible repeat (first|apply kN|apply kD|apply kA)); exact BK1851.out)) : gb1860 ≠ gb1851)); have n11_ := aM ((by rw [hg]; exact Nat.ne_of_lt (IsS174.lt (show IsS174 w _ g1842 t1839 t1858 t1859 from by repeat (first | (with_reducible first | exact HI1842.out | apply sA|apply sN|apply sD|apply s1|apply s2 | refine IsS174.far ?_ NB1842_1838.out _ | refine IsS174.far ?_ NB1842_1851.out _) | exact HI1842.out))) : g1842 ≠ gb1860)); have n12_ := aM ((by rw [hg]; exact Nat.ne_of_gt (IsS174.lt (show IsS174 w _ g1842 t1839 t1858 t1859 from by repeat (first | (with_reducible first | exact HI1842.out | apply sA|apply sN|apply sD|apply s1|apply s2 | refine IsS174.far ?_ NB1842_1838.out _ | refine IsS174.far ?_ NB1842_1851.out _) | exact HI1842.out))) : gb1860 ≠ g1842)); clear BK1838; clear BK1851; clear HI1842; clear HB; have BK1838 := n0_; have BK1851 := n1_; have HI1842 := n2_; have HB := n3_; have BK1860 := n4_; have GW1860 := n5_; have GE1860 := n6_; have NB1838_1860 := n7_; have NB1860_1838 := n8_; have NB1851_1860 := n9_; have NB1860_1851 := n10_; have NB1842_1860 := n11_; have NB1860_1842 := n12_; clear n0_ n1_ n2_ n3_ n4_ n5_ n6_ n7_ n8_ n9_ n10_ n11_ n12_; clear hb hbox hg; have hnb28 := NB1860_1838.out; have hnc28 := NB1838_1860.out; have hnb29 := NB1860_1851.out; have hnc29 := NB1851_1860.out; have hnb30 := NB1860_1842.out; have hnc30 := NB1842_1860.out; have hcz31_0 : w27.cell? ⟨gb1860, 0, none⟩ = some (.int .i64 0) := (blk_cell BK1860.out 0).trans rfl; have hcz31_1 : w27.cell? ⟨gb1860, 1, none⟩ = some (.int .i64 0) := (blk_cell BK1860.out 1).trans rfl; have hfz31_0 := blk_frozen BK1860.out 0; have hfz31_1 := blk_frozen BK1860.out 1))
    have n0_ : Aside0 (((w27.setCell ⟨gb1860, 0, none⟩ (.int .i64 t1856)).setCell ⟨gb1860, 1, none⟩ (.int .i64 t1857)).heap[gb1838]? = some (.cells #[.int .i64 0, .int .i64 0, .int .i64 0, .int .i64 0, .int .i64 0, .int .i64 0] 84 (0, 0))) := ⟨by (repeat (first|(with_reducible first|apply kN|apply kD|apply kA)|refine blk_far ?_ NB1838_1860.out _)); exact BK1838.out⟩
    have n1_ : Aside0 (((w27.setCell ⟨gb1860, 0, none⟩ (.int .i64 t1856)).setCell ⟨gb1860, 1, none⟩ (.int .i64 t1857)).heap[gb1851]? = some (.cells #[.int .i64 t1843, .int .i64 t1844, .int .i64 t1845, .int .i64 t1846, .int .i64 t1847, .int .i64 t1848] 84 (0, 0))) := ⟨by (repeat (first|(with_reducible first|apply kN|apply kD|apply kA)|refine blk_far ?_ NB1851_1860.out _)); exact BK1851.out⟩
    have n2_ : Aside0 (((w27.setCell ⟨gb1860, 0, none⟩ (.int .i64 t1856)).setCell ⟨gb1860, 1, none⟩ (.int .i64 t1857)).heap[gb1860]? = some (.cells #[.int .i64 t1856, .int .i64 t1857] 25 (0, 0))) := ⟨by (with_reducible repeat (first|apply kN|apply kD|apply kA)); refine blk_put (cs := #[.int .i64 t1856, .int .i64 0]) ?_ 1 _ rfl; (with_reducible repeat (first|apply kN|apply kD|apply kA)); refine blk_put (cs := #[.int .i64 0, .int .i64 0]) ?_ 0 _ rfl; (with_reducible repeat (first|apply kN|apply kD|apply kA)); exact BK1860.out⟩
    have n3_ : Aside0 (IsS174 w ((w27.setCell ⟨gb1860, 0, none⟩ (.int .i64 t1856)).setCell ⟨gb1860, 1, none⟩ (.int .i64 t1857)) g1842 t1839 t1858 t1859) := ⟨by repeat (first | (with_reducible first | exact HI1842.out | apply sA|apply sN|apply sD|apply s1|apply s2 | refine IsS174.far ?_ NB1842_1838.out _ | refine IsS174.far ?_ NB1842_1851.out _ | refine IsS174.far ?_ NB1842_1860.out _) | exact HI1842.out)⟩
    have n4_ : Aside0 (Below w.heap.size w ((w27.setCell ⟨gb1860, 0, none⟩ (.int .i64 t1856)).setCell ⟨gb1860, 1, none⟩ (.int .i64 t1857))) := ⟨by repeat (first | (with_reducible first | exact HB.out | apply bA|apply bN|apply b1 | refine below_set ?_ (IsS174.ge HI1842.out) | refine below_set ?_ (Aside0.out (by assumption))) | exact HB.out)⟩
    (try clear BK1838)
    (try clear BK1851)
    (try clear BK1860)
    (try clear HI1842)
    (try clear HB)
    generalize ((w27.setCell ⟨gb1860, 0, none⟩ (.int .i64 t1856)).setCell ⟨gb1860, 1, none⟩ (.int .i64 t1857)) = w32 at n0_ n1_ n2_ n3_ n4_ ⊢
    have BK1838 := n0_
    have BK1851 := n1_
    have BK1860 := n2_
    have HI1842 := n3_
    have HB := n4_
    clear n0_ n1_ n2_ n3_ n4_
    have n0_ := aM (blk_drew BK1838.out)
    have n1_ := aM (blk_drew BK1851.out)
    have n2_ := aM (blk_drew BK1860.out)
    have n3_ := aM (IsS174.drew HI1842.out)
    have n4_ := aM (below_drew1 HB.out)
    clear BK1838
    clear BK1851
    clear BK1860
    clear HI1842
    clear HB
    have BK1838 := n0_
    have BK1851 := n1_
    have BK1860 := n2_
    have HI1842 := n3_
    have HB := n4_
    clear n0_ n1_ n2_ n3_ n4_
    refine start_ (n := 9) (S := fun w' => w'.cell? ⟨gb1860, 0, none⟩ = some (.int .i64 t1856) ∧ w'.cell? ⟨gb1860, 1, none⟩ = some (.int .i64 t1857) ∧ w'.cell? ⟨gb1851, 0, none⟩ = some (.int .i64 t1843) ∧ w'.cell? ⟨gb1851, 1, none⟩ = some (.int .i64 t1844) ∧ w'.cell? ⟨gb1851, 2, none⟩ = some (.int .i64 t1845) ∧ w'.cell? ⟨gb1851, 3, none⟩ = some (.int .i64 t1846) ∧ w'.cell? ⟨gb1851, 4, none⟩ = some (.int .i64 t1847) ∧ w'.cell? ⟨gb1851, 5, none⟩ = some (.int .i64 t1848)) (ds := [8]) #[false, false, false, false, false, false, false, false, false] (by kernel_rfl) rfl rfl ⟨(blk_cell BK1860.out 0).trans rfl, (blk_cell BK1860.out 1).trans rfl, (blk_cell BK1851.out 0).trans rfl, (blk_cell BK1851.out 1).trans rfl, (blk_cell BK1851.out 2).trans rfl, (blk_cell BK1851.out 3).trans rfl, (blk_cell BK1851.out 4).trans rfl, (blk_cell BK1851.out 5).trans rfl⟩ (fun hHeld => ?_); refine with_tabW spec_DrawKindOfMotion.tab5 spec_DrawKindOfMotion.bits5 (fun HT_ HW_ => ?_)
    generalize w32.drew = w33 at BK1838 BK1851 BK1860 HI1842 HB hHeld ⊢
    refine pure_ (i := 1) (N := some 22) (v := ?_) (a' := ?_) #[false, true, false, false, false, false, false, false, false] rfl rfl (any_of HT_.out (by kernel_rfl)) (fun _ _ _ h => h) (Or.inl ⟨by rfl, ?_⟩) ?_ ?_
    rotate_left
    ·intro w'
     go_simp
     with_reducible rfl
    rotate_left
    ·simp only [Act.put, List.setIfInBounds_toArray, List.set_cons_zero, List.set_cons_succ, i64_w, i32_w]
     rfl
    refine take_ (i := 0) (N := some 21) (v := ?_) (a' := ?_) #[true, true, false, false, false, false, false, false, false] rfl rfl (take_ofW HT_.out HW_.out (by kernel_rfl)) (fun _ _ _ h => h) (Or.inl ⟨by rfl, ?_⟩) hHeld ?_ ?_
    rotate_left
    ·rintro w' ⟨s0, s1, s2, s3, s4, s5, s6, s7⟩
     go_simp
     with_reducible rfl
    rotate_left
    ·simp only [Act.put, List.setIfInBounds_toArray, List.set_cons_zero, List.set_cons_succ, i64_w, i32_w]
     rfl
    refine take_ (i := 2) (N := some 23) (v := ?_) (a' := ?_) #[true, true, true, false, false, false, false, false, false] rfl rfl (take_ofW HT_.out HW_.out (by kernel_rfl)) (fun _ _ _ h => h) (Or.inl ⟨by rfl, ?_⟩) hHeld ?_ ?_
    rotate_left
    ·rintro w' ⟨s0, s1, s2, s3, s4, s5, s6, s7⟩
     go_simp
     with_reducible rfl
    rotate_left
    ·simp only [Act.put, List.setIfInBounds_toArray, List.set_cons_zero, List.set_cons_succ, i64_w, i32_w]
     rfl
    refine take_ (i := 3) (N := some 24) (v := ?_) (a' := ?_) #[true, true, true, true, false, false, false, false, false] rfl rfl (take_ofW HT_.out HW_.out (by kernel_rfl)) (fun _ _ _ h => h) (Or.inl ⟨by rfl, ?_⟩) hHeld ?_ ?_
    rotate_left
    ·rintro w' ⟨s0, s1, s2, s3, s4, s5, s6, s7⟩
     go_simp
     with_reducible rfl
    rotate_left
    ·simp only [Act.put, List.setIfInBounds_toArray, List.set_cons_zero, List.set_cons_succ, i64_w, i32_w]
     rfl
    refine one_ (i := 4) (N := some 25) #[true, true, true, true, true, false, false, false, false] rfl rfl (one_of HT_.out (by kernel_rfl)) (by decide) (fun K hK => ?_)
    refine goes_ Try.func155 (by kernel_rfl) rfl #[.agg #[.int .i64 t1843, .int .i64 t1844, .int .i64 t1845, .int .i64 t1846], .agg #[.int .i64 t1856, .int .i64 t1857]] (by rfl) rfl rfl (by first|rfl|(simp only [List.map_toArray, List.map_cons, List.map_nil]; try rfl)) ?_
    with_reducible refine (spec_l02Apply.calls t1843 t1844 t1845 t1846 t1856 t1857 t1861 t1862 _ A23.out).mono ?_
    rintro e w34 ⟨rfl, hb⟩
    refine ⟨_, rfl, ?_⟩
    have n0_ := aM (blk_below (g := gb1838) (o := .cells #[.int .i64 0, .int .i64 0, .int .i64 0, .int .i64 0, .int .i64 0, .int .i64 0] 84 (0, 0)) (by (with_reducible repeat (first|apply kN|apply kD|apply kA)); exact BK1838.out) hb)
    have n1_ := aM (blk_below (g := gb1851) (o := .cells #[.int .i64 t1843, .int .i64 t1844, .int .i64 t1845, .int .i64 t1846, .int .i64 t1847, .int .i64 t1848] 84 (0, 0)) (by (with_reducible repeat (first|apply kN|apply kD|apply kA)); exact BK1851.out) hb)
    have n2_ := aM (IsS174.below (by repeat (first | (with_reducible first | exact HI1842.out | apply sA|apply sN|apply sD|apply s1|apply s2 | refine IsS174.far ?_ NB1842_1838.out _ | refine IsS174.far ?_ NB1842_1851.out _ | refine IsS174.far ?_ NB1842_1860.out _) | exact HI1842.out)) hb)
    have n3_ := aM (blk_below (g := gb1860) (o := .cells #[.int .i64 t1856, .int .i64 t1857] 25 (0, 0)) (by (with_reducible repeat (first|apply kN|apply kD|apply kA)); exact BK1860.out) hb)
    have n4_ := aM (below_step (by repeat (first | (with_reducible first | exact HB.out | apply bA|apply bN|apply b1 | refine below_set ?_ (IsS174.ge HI1842.out) | refine below_set ?_ (Aside0.out (by assumption))) | exact HB.out)) hb)
    clear BK1838
    clear BK1851
    clear HI1842
    clear BK1860
    clear HB
    have BK1838 := n0_
    have BK1851 := n1_
    have HI1842 := n2_
    have BK1860 := n3_
    have HB := n4_
    clear n0_ n1_ n2_ n3_ n4_
    (try clear hb)
    (try clear hb2)
    (try clear hk)
    (try clear hi)
    refine hK.out _ _ ⟨(blk_cell BK1860.out 0).trans rfl, (blk_cell BK1860.out 1).trans rfl, (blk_cell BK1851.out 0).trans rfl, (blk_cell BK1851.out 1).trans rfl, (blk_cell BK1851.out 2).trans rfl, (blk_cell BK1851.out 3).trans rfl, (blk_cell BK1851.out 4).trans rfl, (blk_cell BK1851.out 5).trans rfl⟩ (fun hHeld => ?_)
    clear hK K
    refine norm_ (a' := ?_) ?_ ?_
    rotate_left
    ·show Act.put _ (some 25) _ = _
     simp only [Act.put, List.setIfInBounds_toArray, List.set_cons_zero, List.set_cons_succ, i64_w, i32_w]
     rfl
    refine one_ (i := 5) (N := some 26) #[true, true, true, true, true, true, false, false, false] rfl rfl (one_of HT_.out (by kernel_rfl)) (by decide) (fun K hK => ?_)
    refine goes_ Try.func136 (by kernel_rfl) rfl #[.agg #[.int .i64 t1861, .int .i64 t1862], .int .i64 (-1)] (by rfl) rfl rfl (by first|rfl|(simp only [List.map_toArray, List.map_cons, List.map_nil]; try rfl)) ?_
    with_reducible refine (spec_l01Scale.calls t1861 t1862 (-1) t1863 t1864 _ A24.out).mono ?_
    rintro e w35 ⟨rfl, hb⟩
    refine ⟨_, rfl, ?_⟩
    have n0_ := aM (blk_below (g := gb1838) (o := .cells #[.int .i64 0, .int .i64 0, .int .i64 0, .int .i64 0, .int .i64 0, .int .i64 0] 84 (0, 0)) (by (with_reducible repeat (first|apply kN|apply kD|apply kA)); exact BK1838.out) hb)
    have n1_ := aM (blk_below (g := gb1851) (o := .cells #[.int .i64 t1843, .int .i64 t1844, .int .i64 t1845, .int .i64 t1846, .int .i64 t1847, .int .i64 t1848] 84 (0, 0)) (by (with_reducible repeat (first|apply kN|apply kD|apply kA)); exact BK1851.out) hb)
    have n2_ := aM (IsS174.below (by repeat (first | (with_reducible first | exact HI1842.out | apply sA|apply sN|apply sD|apply s1|apply s2 | refine IsS174.far ?_ NB1842_1838.out _ | refine IsS174.far ?_ NB1842_1851.out _ | refine IsS174.far ?_ NB1842_1860.out _) | exact HI1842.out)) hb)
    have n3_ := aM (blk_below (g := gb1860) (o := .cells #[.int .i64 t1856, .int .i64 t1857] 25 (0, 0)) (by (with_reducible repeat (first|apply kN|apply kD|apply kA)); exact BK1860.out) hb)
    have n4_ := aM (below_step (by repeat (first | (with_reducible first | exact HB.out | apply bA|apply bN|apply b1 | refine below_set ?_ (IsS174.ge HI1842.out) | refine below_set ?_ (Aside0.out (by assumption))) | exact HB.out)) hb)
    clear BK1838
    clear BK1851
    clear HI1842
    clear BK1860
    clear HB
    have BK1838 := n0_
    have BK1851 := n1_
    have HI1842 := n2_
    have BK1860 := n3_
    have HB := n4_
    clear n0_ n1_ n2_ n3_ n4_
    (try clear hb)
    (try clear hb2)
    (try clear hk)
    (try clear hi)
    refine hK.out _ _ ⟨(blk_cell BK1860.out 0).trans rfl, (blk_cell BK1860.out 1).trans rfl, (blk_cell BK1851.out 0).trans rfl, (blk_cell BK1851.out 1).trans rfl, (blk_cell BK1851.out 2).trans rfl, (blk_cell BK1851.out 3).trans rfl, (blk_cell BK1851.out 4).trans rfl, (blk_cell BK1851.out 5).trans rfl⟩ (fun hHeld => ?_)
    clear hK K
    refine norm_ (a' := ?_) ?_ ?_
    rotate_left
    ·show Act.put _ (some 26) _ = _
     simp only [Act.put, List.setIfInBounds_toArray, List.set_cons_zero, List.set_cons_succ, i64_w, i32_w]
     rfl
    refine one_ (i := 6) (N := some 27) #[true, true, true, true, true, true, true, false, false] rfl rfl (one_of HT_.out (by kernel_rfl)) (by decide) (fun K hK => ?_)
    refine goes_ Try.func135 (by kernel_rfl) rfl #[.agg #[.int .i64 t1856, .int .i64 t1857], .agg #[.int .i64 t1863, .int .i64 t1864]] (by rfl) rfl rfl (by first|rfl|(simp only [List.map_toArray, List.map_cons, List.map_nil]; try rfl)) ?_
    with_reducible refine (spec_l01Add.calls t1856 t1857 t1863 t1864 t1865 t1866 _ A25.out).mono ?_
    rintro e w36 ⟨rfl, hb⟩
    refine ⟨_, rfl, ?_⟩
    have n0_ := aM (blk_below (g := gb1838) (o := .cells #[.int .i64 0, .int .i64 0, .int .i64 0, .int .i64 0, .int .i64 0, .int .i64 0] 84 (0, 0)) (by (with_reducible repeat (first|apply kN|apply kD|apply kA)); exact BK1838.out) hb)
    have n1_ := aM (blk_below (g := gb1851) (o := .cells #[.int .i64 t1843, .int .i64 t1844, .int .i64 t1845, .int .i64 t1846, .int .i64 t1847, .int .i64 t1848] 84 (0, 0)) (by (with_reducible repeat (first|apply kN|apply kD|apply kA)); exact BK1851.out) hb)
    have n2_ := aM (IsS174.below (by repeat (first | (with_reducible first | exact HI1842.out | apply sA|apply sN|apply sD|apply s1|apply s2 | refine IsS174.far ?_ NB1842_1838.out _ | refine IsS174.far ?_ NB1842_1851.out _ | refine IsS174.far ?_ NB1842_1860.out _) | exact HI1842.out)) hb)
    have n3_ := aM (blk_below (g := gb1860) (o := .cells #[.int .i64 t1856, .int .i64 t1857] 25 (0, 0)) (by (with_reducible repeat (first|apply kN|apply kD|apply kA)); exact BK1860.out) hb)
    have n4_ := aM (below_step (by repeat (first | (with_reducible first | exact HB.out | apply bA|apply bN|apply b1 | refine below_set ?_ (IsS174.ge HI1842.out) | refine below_set ?_ (Aside0.out (by assumption))) | exact HB.out)) hb)
    clear BK1838
    clear BK1851
    clear HI1842
    clear BK1860
    clear HB
    have BK1838 := n0_
    have BK1851 := n1_
    have HI1842 := n2_
    have BK1860 := n3_
    have HB := n4_
    clear n0_ n1_ n2_ n3_ n4_
    (try clear hb)
    (try clear hb2)
    (try clear hk)
    (try clear hi)
    refine hK.out _ _ ⟨(blk_cell BK1860.out 0).trans rfl, (blk_cell BK1860.out 1).trans rfl, (blk_cell BK1851.out 0).trans rfl, (blk_cell BK1851.out 1).trans rfl, (blk_cell BK1851.out 2).trans rfl, (blk_cell BK1851.out 3).trans rfl, (blk_cell BK1851.out 4).trans rfl, (blk_cell BK1851.out 5).trans rfl⟩ (fun hHeld => ?_)
    clear hK K
    refine norm_ (a' := ?_) ?_ ?_
    rotate_left
    ·show Act.put _ (some 27) _ = _
     simp only [Act.put, List.setIfInBounds_toArray, List.set_cons_zero, List.set_cons_succ, i64_w, i32_w]
     rfl
    refine pure_ (i := 7) (N := some 28) (v := ?_) (a' := ?_) #[true, true, true, true, true, true, true, true, false] rfl rfl (any_of HT_.out (by kernel_rfl)) (fun _ _ _ h => h) (Or.inl ⟨by rfl, ?_⟩) ?_ ?_
    rotate_left
    ·intro w'
     go_simp
     with_reducible rfl
    rotate_left
    ·simp only [Act.put, List.setIfInBounds_toArray, List.set_cons_zero, List.set_cons_succ, i64_w, i32_w]
     rfl
    refine last_ (i := 8) (N := none) #[true, true, true, true, true, true, true, true, true] rfl rfl (one_of HT_.out (by kernel_rfl)) (by decide) (fun K hK => ?_)
    have hs37 : w36.cell? ⟨gb1851, 4, none⟩ = some (.int .i64 t1847) := (blk_cell BK1851.out 4).trans rfl
    have hfs37 := blk_frozen BK1851.out 4
    have hns37_0 := NB1838_1851.out
    have hns37_2 := NB1860_1851.out
    have hms37_0 := NB1851_1838.out
    have hms37_2 := NB1851_1860.out
    have hs38 : w36.cell? ⟨gb1851, 5, none⟩ = some (.int .i64 t1848) := (blk_cell BK1851.out 5).trans rfl
    have hfs38 := blk_frozen BK1851.out 5
    have hns38_0 := NB1838_1851.out
    have hns38_2 := NB1860_1851.out
    have hms38_0 := NB1851_1838.out
    have hms38_2 := NB1851_1860.out
    refine skip_ (w1 := ?_) (by rfl) rfl ?_ ?_
    rotate_left
    ·go_simp
     rfl
    refine hK.out _ _ ?_
    clear hK K
    refine done_ (done_of HT_.out (by kernel_rfl)) ?_
    have hnb39 := NB1851_1838.out
    have hnc39 := NB1838_1851.out
    have hnb40 := NB1851_1842.out
    have hnc40 := NB1842_1851.out
    have hcz41_0 : w36.cell? ⟨gb1851, 0, none⟩ = some (.int .i64 t1843) := (blk_cell BK1851.out 0).trans rfl
    have hcz41_1 : w36.cell? ⟨gb1851, 1, none⟩ = some (.int .i64 t1844) := (blk_cell BK1851.out 1).trans rfl
    have hcz41_2 : w36.cell? ⟨gb1851, 2, none⟩ = some (.int .i64 t1845) := (blk_cell BK1851.out 2).trans rfl
    have hcz41_3 : w36.cell? ⟨gb1851, 3, none⟩ = some (.int .i64 t1846) := (blk_cell BK1851.out 3).trans rfl
    have hcz41_4 : w36.cell? ⟨gb1851, 4, none⟩ = some (.int .i64 t1847) := (blk_cell BK1851.out 4).trans rfl
    have hcz41_5 : w36.cell? ⟨gb1851, 5, none⟩ = some (.int .i64 t1848) := (blk_cell BK1851.out 5).trans rfl
    have hfz41_0 := blk_frozen BK1851.out 0
    have hfz41_1 := blk_frozen BK1851.out 1
    have hfz41_2 := blk_frozen BK1851.out 2
    have hfz41_3 := blk_frozen BK1851.out 3
    have hfz41_4 := blk_frozen BK1851.out 4
    have hfz41_5 := blk_frozen BK1851.out 5
    have hnb42 := NB1838_1842.out
    have hnc42 := NB1842_1838.out
    have hcz43_0 : w36.cell? ⟨gb1838, 0, none⟩ = some (.int .i64 0) := (blk_cell BK1838.out 0).trans rfl
    have hcz43_1 : w36.cell? ⟨gb1838, 1, none⟩ = some (.int .i64 0) := (blk_cell BK1838.out 1).trans rfl
    have hcz43_2 : w36.cell? ⟨gb1838, 2, none⟩ = some (.int .i64 0) := (blk_cell BK1838.out 2).trans rfl
    have hcz43_3 : w36.cell? ⟨gb1838, 3, none⟩ = some (.int .i64 0) := (blk_cell BK1838.out 3).trans rfl
    have hcz43_4 : w36.cell? ⟨gb1838, 4, none⟩ = some (.int .i64 0) := (blk_cell BK1838.out 4).trans rfl
    have hcz43_5 : w36.cell? ⟨gb1838, 5, none⟩ = some (.int .i64 0) := (blk_cell BK1838.out 5).trans rfl
    have hfz43_0 := blk_frozen BK1838.out 0
    have hfz43_1 := blk_frozen BK1838.out 1
    have hfz43_2 := blk_frozen BK1838.out 2
    have hfz43_3 := blk_frozen BK1838.out 3
    have hfz43_4 := blk_frozen BK1838.out 4
    have hfz43_5 := blk_frozen BK1838.out 5
    try go_wp2
    refine bodyPost_ret (results_cell_row rfl _ _ gb1838 84 #[.int .i64 t1843, .int .i64 t1844, .int .i64 t1845, .int .i64 t1846, .int .i64 t1865, .int .i64 t1866] (0, 0) _ rfl (by (with_reducible repeat (first|apply kN|apply kD|apply kA)); refine blk_put (cs := #[.int .i64 t1843, .int .i64 t1844, .int .i64 t1845, .int .i64 t1846, .int .i64 t1865, .int .i64 0]) ?_ 5 _ rfl; (with_reducible repeat (first|apply kN|apply kD|apply kA)); refine blk_put (cs := #[.int .i64 t1843, .int .i64 t1844, .int .i64 t1845, .int .i64 t1846, .int .i64 0, .int .i64 0]) ?_ 4 _ rfl; (with_reducible repeat (first|apply kN|apply kD|apply kA)); refine blk_put (cs := #[.int .i64 t1843, .int .i64 t1844, .int .i64 t1845, .int .i64 0, .int .i64 0, .int .i64 0]) ?_ 3 _ rfl; (with_reducible repeat (first|apply kN|apply kD|apply kA)); refine blk_put (cs := #[.int .i64 t1843, .int .i64 t1844, .int .i64 0, .int .i64 0, .int .i64 0, .int .i64 0]) ?_ 2 _ rfl; (with_reducible repeat (first|apply kN|apply kD|apply kA)); refine blk_put (cs := #[.int .i64 t1843, .int .i64 0, .int .i64 0, .int .i64 0, .int .i64 0, .int .i64 0]) ?_ 1 _ rfl; (with_reducible repeat (first|apply kN|apply kD|apply kA)); refine blk_put (cs := #[.int .i64 0, .int .i64 0, .int .i64 0, .int .i64 0, .int .i64 0, .int .i64 0]) ?_ 0 _ rfl; (repeat (first|(with_reducible first|apply kN|apply kD|apply kA)|refine blk_far ?_ NB1838_1851.out _)); exact BK1838.out) Try.underlying84 rfl (by kernel_rfl)) rfl ?_
    exact ⟨by first|rfl|(simp [*, errW_none, errW_some] <;> rfl), by repeat (first | (with_reducible first | exact HB.out | apply bA|apply bN|apply b1 | refine below_set ?_ (IsS174.ge HI1842.out) | refine below_set ?_ (Aside0.out (by assumption))) | exact HB.out)⟩
   ·replace c21 := Bool.eq_false_iff.mpr c21
    subst c21
    have H1 : (some (t1843, t1844, t1845, t1846, t1847, t1848)) = some (r1, r2, r3, r4, r5, r6) := by rw [if_neg (show ¬ (false = true) by decide)] at H; exact H
    clear H
    have H := H1
    clear H1
    simp only [Option.some.injEq, Prod.mk.injEq] at H
    obtain ⟨rfl, rfl, rfl, rfl, rfl, rfl⟩ := H
    have hnb44 := NB1851_1838.out
    have hnc44 := NB1838_1851.out
    have hnb45 := NB1851_1842.out
    have hnc45 := NB1842_1851.out
    have hcz46_0 : wc.cell? ⟨gb1851, 0, none⟩ = some (.int .i64 t1843) := (blk_cell BK1851.out 0).trans rfl
    have hcz46_1 : wc.cell? ⟨gb1851, 1, none⟩ = some (.int .i64 t1844) := (blk_cell BK1851.out 1).trans rfl
    have hcz46_2 : wc.cell? ⟨gb1851, 2, none⟩ = some (.int .i64 t1845) := (blk_cell BK1851.out 2).trans rfl
    have hcz46_3 : wc.cell? ⟨gb1851, 3, none⟩ = some (.int .i64 t1846) := (blk_cell BK1851.out 3).trans rfl
    have hcz46_4 : wc.cell? ⟨gb1851, 4, none⟩ = some (.int .i64 t1847) := (blk_cell BK1851.out 4).trans rfl
    have hcz46_5 : wc.cell? ⟨gb1851, 5, none⟩ = some (.int .i64 t1848) := (blk_cell BK1851.out 5).trans rfl
    have hfz46_0 := blk_frozen BK1851.out 0
    have hfz46_1 := blk_frozen BK1851.out 1
    have hfz46_2 := blk_frozen BK1851.out 2
    have hfz46_3 := blk_frozen BK1851.out 3
    have hfz46_4 := blk_frozen BK1851.out 4
    have hfz46_5 := blk_frozen BK1851.out 5
    have hnb47 := NB1838_1842.out
    have hnc47 := NB1842_1838.out
    have hcz48_0 : wc.cell? ⟨gb1838, 0, none⟩ = some (.int .i64 0) := (blk_cell BK1838.out 0).trans rfl
    have hcz48_1 : wc.cell? ⟨gb1838, 1, none⟩ = some (.int .i64 0) := (blk_cell BK1838.out 1).trans rfl
    have hcz48_2 : wc.cell? ⟨gb1838, 2, none⟩ = some (.int .i64 0) := (blk_cell BK1838.out 2).trans rfl
    have hcz48_3 : wc.cell? ⟨gb1838, 3, none⟩ = some (.int .i64 0) := (blk_cell BK1838.out 3).trans rfl
    have hcz48_4 : wc.cell? ⟨gb1838, 4, none⟩ = some (.int .i64 0) := (blk_cell BK1838.out 4).trans rfl
    have hcz48_5 : wc.cell? ⟨gb1838, 5, none⟩ = some (.int .i64 0) := (blk_cell BK1838.out 5).trans rfl
    have hfz48_0 := blk_frozen BK1838.out 0
    have hfz48_1 := blk_frozen BK1838.out 1
    have hfz48_2 := blk_frozen BK1838.out 2
    have hfz48_3 := blk_frozen BK1838.out 3
    have hfz48_4 := blk_frozen BK1838.out 4
    have hfz48_5 := blk_frozen BK1838.out 5
    go_wp2
    refine bodyPost_ret (results_cell_row rfl _ _ gb1838 84 #[.int .i64 t1843, .int .i64 t1844, .int .i64 t1845, .int .i64 t1846, .int .i64 t1847, .int .i64 t1848] (0, 0) _ rfl (by (with_reducible repeat (first|apply kN|apply kD|apply kA)); refine blk_put (cs := #[.int .i64 t1843, .int .i64 t1844, .int .i64 t1845, .int .i64 t1846, .int .i64 t1847, .int .i64 0]) ?_ 5 _ rfl; (with_reducible repeat (first|apply kN|apply kD|apply kA)); refine blk_put (cs := #[.int .i64 t1843, .int .i64 t1844, .int .i64 t1845, .int .i64 t1846, .int .i64 0, .int .i64 0]) ?_ 4 _ rfl; (with_reducible repeat (first|apply kN|apply kD|apply kA)); refine blk_put (cs := #[.int .i64 t1843, .int .i64 t1844, .int .i64 t1845, .int .i64 0, .int .i64 0, .int .i64 0]) ?_ 3 _ rfl; (with_reducible repeat (first|apply kN|apply kD|apply kA)); refine blk_put (cs := #[.int .i64 t1843, .int .i64 t1844, .int .i64 0, .int .i64 0, .int .i64 0, .int .i64 0]) ?_ 2 _ rfl; (with_reducible repeat (first|apply kN|apply kD|apply kA)); refine blk_put (cs := #[.int .i64 t1843, .int .i64 0, .int .i64 0, .int .i64 0, .int .i64 0, .int .i64 0]) ?_ 1 _ rfl; (with_reducible repeat (first|apply kN|apply kD|apply kA)); refine blk_put (cs := #[.int .i64 0, .int .i64 0, .int .i64 0, .int .i64 0, .int .i64 0, .int .i64 0]) ?_ 0 _ rfl; (with_reducible repeat (first|apply kN|apply kD|apply kA)); exact BK1838.out) Try.underlying84 rfl (by kernel_rfl)) rfl ?_
    exact ⟨by first|rfl|(simp [*, errW_none, errW_some] <;> rfl), by repeat (first | (with_reducible first | exact HB.out | apply bA|apply bN|apply b1 | refine below_set ?_ (IsS174.ge HI1842.out) | refine below_set ?_ (Aside0.out (by assumption))) | exact HB.out)⟩

end Go.Proofs.Ytjjbjaagfjljnaa.F

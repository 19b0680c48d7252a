import Derived.Test.YtiknfddggcbblaaDoorC0
import Derived.Test.YtiknfddggcbblaaDoorC2
import Derived.Test.YtiknfddggcbblaaDoorC5
import Derived.Test.YtiknfddggcbblaaDoorC6
import Derived.Test.YtiknfddggcbblaaDoorC7
import Derived.Test.YtiknfddggcbblaaDoorC8
import Derived.Test.YtiknfddggcbblaaDoorC9
namespace Go.Proofs.YtiknfddggcbblaaDoor.F
open Go.RowKit Go.Proofs.YtiknfddggcbblaaDoorW.PrintWords Go.Proofs.YtiknfddggcbblaaDoorW.PrintLast Go.Proofs.YtiknfddggcbblaaDoorW.PrintMore
attribute [local go_sem] max2_int min2_int max_two min_two max_three min_three max_four min_four   -- for this text's walks alone
set_option linter.unusedVariables false
set_option linter.unusedSimpArgs false
attribute [local go_sem high] eqA31 eqA38

mutual
def laws_FnCells.j0 : Nat → List (S31) → Int → Bool → Int → Int → Int → Option (Bool)
 | 0, _, _, _, _, _, _ => none
 | k + 1, x4, x5, x101, x580000, x580001, x580002 => if x101 = true then (some false) else (if x5 = 0 then (laws_FnCells.l0 k x4 0 x580000 x580001 x580002) else (some true))
def laws_FnCells.l0 : Nat → List (S31) → Int → Int → Int → Int → Option (Bool)
 | 0, _, _, _, _, _ => none
 | k + 1, x4, x16, x580000, x580001, x580002 => if x16 < (x4.length : Int) then (if 0 ≤ x16 then ((impl_ReduceVec.f x580000 x580001 x580002 ((rd_T31 x4 x16).f0) ((rd_T31 x4 x16).f1)).bind fun bt610 => (if bt610.2.2 = 0 then (laws_FnCells.j2 k x4 x16 (!(bt610.1 == ((rd_T31 x4 x16).f0)) || (!(bt610.2.1 == ((rd_T31 x4 x16).f1)))) x580000 x580001 x580002) else (laws_FnCells.j2 k x4 x16 true x580000 x580001 x580002))) else (none)) else (some ((x4.length : Int) == (wrap64 (x580000 * x580002))))
def laws_FnCells.j2 : Nat → List (S31) → Int → Bool → Int → Int → Int → Option (Bool)
 | 0, _, _, _, _, _, _ => none
 | k + 1, x4, x16, x128, x580000, x580001, x580002 => if x128 = true then (some false) else (if x16 > 0 then (if 0 ≤ (wrap64 (x16 - 1)) then (if (wrap64 (x16 - 1)) < (x4.length : Int) then (if 0 ≤ x16 then (if x16 < (x4.length : Int) then ((impl_CompareVecs.f k ((rd_T31 x4 (wrap64 (x16 - 1))).f0) ((rd_T31 x4 (wrap64 (x16 - 1))).f1) ((rd_T31 x4 x16).f0) ((rd_T31 x4 x16).f1)).bind fun bt617 => (if bt617.2 = 0 then (if bt617.1 = (-1) then (laws_FnCells.l0 k x4 (wrap64 (x16 + 1)) x580000 x580001 x580002) else (some false)) else (some false))) else (none)) else (none)) else (none)) else (none)) else (laws_FnCells.l0 k x4 (wrap64 (x16 + 1)) x580000 x580001 x580002))
end
def laws_FnCells.f (k : Nat) (l0 : List Int) : Option (Bool) := (laws_big.f l0).bind fun t575 => (if t575 = true then (some true) else ((spec_DrawCellsOf.f k l0).bind fun bt576 => ((impl_CellsOf.f k bt576.1 bt576.2.1 bt576.2.2).bind fun bt580 => ((spec_CellsOf.f k bt576.1 bt576.2.1 bt576.2.2).bind fun bt584 => ((impl_LatticeText.f k bt576.1 bt576.2.1 bt576.2.2).bind fun t588 => ((impl_ReadLattice.f k t588).bind fun bt589 => ((spec_DrawReadLattice.f k l0).bind fun t594 => ((impl_ReadLattice.f k t594).bind fun bt595 => ((spec_ReadLattice.f k t594).bind fun bt600 => (if bt580.2 = bt584.2 then ((laws_likeVecs9.f k bt580.1 bt584.1).bind fun t605 => (if t605 = true then ((spec_LatticeText.f k bt576.1 bt576.2.1 bt576.2.2).bind fun t606 => (if t588.toList = t606.toList then (if (bt589.2.2.2 != (t588.toList != ([] : List UInt8))) = true then (laws_FnCells.j0 k bt580.1 bt580.2 true bt576.1 bt576.2.1 bt576.2.2) else (if bt589.2.2.2 = true then (if (!(bt589.1 == bt576.1) || (!(bt589.2.1 == bt576.2.1) || (!(bt589.2.2.1 == bt576.2.2)))) = true then (laws_FnCells.j0 k bt580.1 bt580.2 true bt576.1 bt576.2.1 bt576.2.2) else (if (!(bt595.1 == bt600.1) || (!(bt595.2.1 == bt600.2.1) || (!(bt595.2.2.1 == bt600.2.2.1)))) = true then (laws_FnCells.j0 k bt580.1 bt580.2 true bt576.1 bt576.2.1 bt576.2.2) else (if (bt595.2.2.2 != bt600.2.2.2) = true then (laws_FnCells.j0 k bt580.1 bt580.2 true bt576.1 bt576.2.1 bt576.2.2) else (if bt595.2.2.2 = true then ((impl_LatticeText.f k bt595.1 bt595.2.1 bt595.2.2.1).bind fun t607 => (laws_FnCells.j0 k bt580.1 bt580.2 (t607.toList != t594.toList) bt576.1 bt576.2.1 bt576.2.2)) else (laws_FnCells.j0 k bt580.1 bt580.2 false bt576.1 bt576.2.1 bt576.2.2))))) else (if (!(bt595.1 == bt600.1) || (!(bt595.2.1 == bt600.2.1) || (!(bt595.2.2.1 == bt600.2.2.1)))) = true then (laws_FnCells.j0 k bt580.1 bt580.2 true bt576.1 bt576.2.1 bt576.2.2) else (if (bt595.2.2.2 != bt600.2.2.2) = true then (laws_FnCells.j0 k bt580.1 bt580.2 true bt576.1 bt576.2.1 bt576.2.2) else (if bt595.2.2.2 = true then ((impl_LatticeText.f k bt595.1 bt595.2.1 bt595.2.2.1).bind fun t608 => (laws_FnCells.j0 k bt580.1 bt580.2 (t608.toList != t594.toList) bt576.1 bt576.2.1 bt576.2.2)) else (laws_FnCells.j0 k bt580.1 bt580.2 false bt576.1 bt576.2.1 bt576.2.2)))))) else (laws_FnCells.j0 k bt580.1 bt580.2 true bt576.1 bt576.2.1 bt576.2.2))) else (laws_FnCells.j0 k bt580.1 bt580.2 true bt576.1 bt576.2.1 bt576.2.2))) else (laws_FnCells.j0 k bt580.1 bt580.2 true bt576.1 bt576.2.1 bt576.2.2)))))))))))
def laws_FnCells.T18 : Bool × List (List Nat × List Nat) := (true, [([], []), ([], []), ([], []), ([1, 2], [1, 2]), ([3], [3]), ([0, 4], [0, 4]), ([5], [5]), ([6], [6]), ([6], [6]), ([], []), ([9, 7, 5, 0, 1, 2, 3, 4, 5, 6, 7, 9], [7, 9]), ([8, 10, 0, 1, 2, 3, 4, 5, 6, 7, 8, 9, 10], [8])])
def laws_FnCells.B18 : List Nat := [0, 0, 0, 6, 14, 31, 63, 127, 127, 0, 767, 2047]
theorem laws_FnCells.tab18 : rtab .any (opsOf Tryd.f5 18) = laws_FnCells.T18 := by kernel_rfl
theorem laws_FnCells.bits18 : waitsOk laws_FnCells.T18.2 laws_FnCells.B18 = true := by kernel_rfl
def laws_FnCells.T19 : Bool × List (List Nat × List Nat) := (true, [([], []), ([0], [0]), ([1], [1]), ([2], [2]), ([2], [2]), ([2], [2]), ([4, 5, 2], [2, 4, 5]), ([6, 2], [2, 6]), ([3, 7, 2], [2, 3, 7]), ([2, 8], [2, 8])])
def laws_FnCells.B19 : List Nat := [0, 1, 3, 7, 7, 7, 55, 119, 255, 511]
theorem laws_FnCells.tab19 : rtab .any (opsOf Tryd.f5 19) = laws_FnCells.T19 := by kernel_rfl
theorem laws_FnCells.bits19 : waitsOk laws_FnCells.T19.2 laws_FnCells.B19 = true := by kernel_rfl
def laws_FnCells.T22 : Bool × List (List Nat × List Nat) := (true, [([], []), ([], []), ([1], [1]), ([0, 2], [0, 2]), ([3], [3]), ([], []), ([], []), ([5, 6], [5, 6]), ([7], [7]), ([4, 8], [4, 8]), ([9], [9]), ([10], [10]), ([10], [10]), ([11, 9, 0, 1, 2, 3, 4, 5, 6, 7, 8, 9, 10, 11], [11]), ([12, 13, 0, 1, 2, 3, 4, 5, 6, 7, 8, 9, 10, 11, 12, 13], [12])])
def laws_FnCells.B22 : List Nat := [0, 0, 2, 7, 15, 0, 0, 96, 224, 511, 1023, 2047, 2047, 4095, 16383]
theorem laws_FnCells.tab22 : rtab .any (opsOf Tryd.f5 22) = laws_FnCells.T22 := by kernel_rfl
theorem laws_FnCells.bits22 : waitsOk laws_FnCells.T22.2 laws_FnCells.B22 = true := by kernel_rfl
set_option maxHeartbeats 8000000 in
set_option maxRecDepth 100000 in
theorem laws_FnCells.calls (k : Nat) (A0 : Option Addr) (c0 : Nat) (l0 : List Int) (w : World) (TRw : TR w) (hr0 : Kd.C (Kd.int .u8) w A0 l0.length l0) (hc0 : l0.length ≤ c0) (h : laws_FnCells.f k l0 = some true) :
  Calls Tryd.prog 5 #[.slice A0 l0.length c0] w fun e w' => e = .returned (.bool true) ∧ Below w.heap.size w w' := by
 have hu38 := Tryd.underlying38
 have hu31 := Tryd.underlying31
 have HR0 := aM hr0
 have HC0 := aM hc0
 clear hr0 hc0
 have HB := aM (Below.refl w.heap.size w)
 have H : ((laws_big.f l0).bind fun t575 => (if t575 = true then (some true) else ((spec_DrawCellsOf.f k l0).bind fun bt576 => ((impl_CellsOf.f k bt576.1 bt576.2.1 bt576.2.2).bind fun bt580 => ((spec_CellsOf.f k bt576.1 bt576.2.1 bt576.2.2).bind fun bt584 => ((impl_LatticeText.f k bt576.1 bt576.2.1 bt576.2.2).bind fun t588 => ((impl_ReadLattice.f k t588).bind fun bt589 => ((spec_DrawReadLattice.f k l0).bind fun t594 => ((impl_ReadLattice.f k t594).bind fun bt595 => ((spec_ReadLattice.f k t594).bind fun bt600 => (if bt580.2 = bt584.2 then ((laws_likeVecs9.f k bt580.1 bt584.1).bind fun t605 => (if t605 = true then ((spec_LatticeText.f k bt576.1 bt576.2.1 bt576.2.2).bind fun t606 => (if t588.toList = t606.toList then (if (bt589.2.2.2 != (t588.toList != ([] : List UInt8))) = true then (laws_FnCells.j0 k bt580.1 bt580.2 true bt576.1 bt576.2.1 bt576.2.2) else (if bt589.2.2.2 = true then (if (!(bt589.1 == bt576.1) || (!(bt589.2.1 == bt576.2.1) || (!(bt589.2.2.1 == bt576.2.2)))) = true then (laws_FnCells.j0 k bt580.1 bt580.2 true bt576.1 bt576.2.1 bt576.2.2) else (if (!(bt595.1 == bt600.1) || (!(bt595.2.1 == bt600.2.1) || (!(bt595.2.2.1 == bt600.2.2.1)))) = true then (laws_FnCells.j0 k bt580.1 bt580.2 true bt576.1 bt576.2.1 bt576.2.2) else (if (bt595.2.2.2 != bt600.2.2.2) = true then (laws_FnCells.j0 k bt580.1 bt580.2 true bt576.1 bt576.2.1 bt576.2.2) else (if bt595.2.2.2 = true then ((impl_LatticeText.f k bt595.1 bt595.2.1 bt595.2.2.1).bind fun t607 => (laws_FnCells.j0 k bt580.1 bt580.2 (t607.toList != t594.toList) bt576.1 bt576.2.1 bt576.2.2)) else (laws_FnCells.j0 k bt580.1 bt580.2 false bt576.1 bt576.2.1 bt576.2.2))))) else (if (!(bt595.1 == bt600.1) || (!(bt595.2.1 == bt600.2.1) || (!(bt595.2.2.1 == bt600.2.2.1)))) = true then (laws_FnCells.j0 k bt580.1 bt580.2 true bt576.1 bt576.2.1 bt576.2.2) else (if (bt595.2.2.2 != bt600.2.2.2) = true then (laws_FnCells.j0 k bt580.1 bt580.2 true bt576.1 bt576.2.1 bt576.2.2) else (if bt595.2.2.2 = true then ((impl_LatticeText.f k bt595.1 bt595.2.1 bt595.2.2.1).bind fun t608 => (laws_FnCells.j0 k bt580.1 bt580.2 (t608.toList != t594.toList) bt576.1 bt576.2.1 bt576.2.2)) else (laws_FnCells.j0 k bt580.1 bt580.2 false bt576.1 bt576.2.1 bt576.2.2)))))) else (laws_FnCells.j0 k bt580.1 bt580.2 true bt576.1 bt576.2.1 bt576.2.2))) else (laws_FnCells.j0 k bt580.1 bt580.2 true bt576.1 bt576.2.1 bt576.2.2))) else (laws_FnCells.j0 k bt580.1 bt580.2 true bt576.1 bt576.2.1 bt576.2.2)))))))))))) = some true := h
 clear h
 replace H := Option.bind_eq_some_iff.mp H
 obtain ⟨t575, A20, H⟩ := H
 try dsimp only at H
 have A2 := aM A20
 clear A20
 by_cases c3 : t575 = true
 ·subst c3
  have H1 : (some true) = some true := rfl
  clear H
  have H := H1
  clear H1
  clear H
  go_enter Tryd.func5, Tryd.ntmps5
  go_wp2_with (first | ((with_reducible refine gate_callee (f := 14) rfl ?_); refine goesL_ (some 22) rfl rfl Tryd.func14 (by kernel_rfl) rfl #[.slice A0 l0.length c0] rfl (by first|rfl|(simp only [List.map_toArray, List.map_cons, List.map_nil]; try rfl)) ?_; (with_reducible refine (laws_big.calls _ _ l0 true _ ?side1 ?side2 A2.out).mono ?_); (case side1 => repeat (first | exact HR0.out | (with_reducible refine Kd.C_alloc ?_ _) | (with_reducible refine Kd.C_drewN ?_ _) | (with_reducible refine Kd.C_drew ?_))); (case side2 => exact HC0.out); rintro e w' ⟨rfl, ⟨nd, rfl⟩⟩; refine ⟨_, rfl, ?_⟩))
  go_ret
  exact ⟨by first|rfl|(simp [*, errW_none, errW_some] <;> rfl), by repeat (first | (with_reducible first | exact HB.out | apply bA|apply bN|apply b1) | exact HB.out)⟩
 ·replace c3 := Bool.eq_false_iff.mpr c3
  subst c3
  have H1 : ((spec_DrawCellsOf.f k l0).bind fun bt576 => ((impl_CellsOf.f k bt576.1 bt576.2.1 bt576.2.2).bind fun bt580 => ((spec_CellsOf.f k bt576.1 bt576.2.1 bt576.2.2).bind fun bt584 => ((impl_LatticeText.f k bt576.1 bt576.2.1 bt576.2.2).bind fun t588 => ((impl_ReadLattice.f k t588).bind fun bt589 => ((spec_DrawReadLattice.f k l0).bind fun t594 => ((impl_ReadLattice.f k t594).bind fun bt595 => ((spec_ReadLattice.f k t594).bind fun bt600 => (if bt580.2 = bt584.2 then ((laws_likeVecs9.f k bt580.1 bt584.1).bind fun t605 => (if t605 = true then ((spec_LatticeText.f k bt576.1 bt576.2.1 bt576.2.2).bind fun t606 => (if t588.toList = t606.toList then (if (bt589.2.2.2 != (t588.toList != ([] : List UInt8))) = true then (laws_FnCells.j0 k bt580.1 bt580.2 true bt576.1 bt576.2.1 bt576.2.2) else (if bt589.2.2.2 = true then (if (!(bt589.1 == bt576.1) || (!(bt589.2.1 == bt576.2.1) || (!(bt589.2.2.1 == bt576.2.2)))) = true then (laws_FnCells.j0 k bt580.1 bt580.2 true bt576.1 bt576.2.1 bt576.2.2) else (if (!(bt595.1 == bt600.1) || (!(bt595.2.1 == bt600.2.1) || (!(bt595.2.2.1 == bt600.2.2.1)))) = true then (laws_FnCells.j0 k bt580.1 bt580.2 true bt576.1 bt576.2.1 bt576.2.2) else (if (bt595.2.2.2 != bt600.2.2.2) = true then (laws_FnCells.j0 k bt580.1 bt580.2 true bt576.1 bt576.2.1 bt576.2.2) else (if bt595.2.2.2 = true then ((impl_LatticeText.f k bt595.1 bt595.2.1 bt595.2.2.1).bind fun t607 => (laws_FnCells.j0 k bt580.1 bt580.2 (t607.toList != t594.toList) bt576.1 bt576.2.1 bt576.2.2)) else (laws_FnCells.j0 k bt580.1 bt580.2 false bt576.1 bt576.2.1 bt576.2.2))))) else (if (!(bt595.1 == bt600.1) || (!(bt595.2.1 == bt600.2.1) || (!(bt595.2.2.1 == bt600.2.2.1)))) = true then (laws_FnCells.j0 k bt580.1 bt580.2 true bt576.1 bt576.2.1 bt576.2.2) else (if (bt595.2.2.2 != bt600.2.2.2) = true then (laws_FnCells.j0 k bt580.1 bt580.2 true bt576.1 bt576.2.1 bt576.2.2) else (if bt595.2.2.2 = true then ((impl_LatticeText.f k bt595.1 bt595.2.1 bt595.2.2.1).bind fun t608 => (laws_FnCells.j0 k bt580.1 bt580.2 (t608.toList != t594.toList) bt576.1 bt576.2.1 bt576.2.2)) else (laws_FnCells.j0 k bt580.1 bt580.2 false bt576.1 bt576.2.1 bt576.2.2)))))) else (laws_FnCells.j0 k bt580.1 bt580.2 true bt576.1 bt576.2.1 bt576.2.2))) else (laws_FnCells.j0 k bt580.1 bt580.2 true bt576.1 bt576.2.1 bt576.2.2))) else (laws_FnCells.j0 k bt580.1 bt580.2 true bt576.1 bt576.2.1 bt576.2.2)))))))))) = some true := by rw [if_neg (show ¬ (false = true) by decide)] at H; exact H
  clear H
  have H := H1
  clear H1
  replace H := Option.bind_eq_some_iff.mp H
  obtain ⟨⟨t576, t577, t578⟩, A40, H⟩ := H
  try dsimp only at H
  have A4 := aM A40
  clear A40
  replace H := Option.bind_eq_some_iff.mp H
  obtain ⟨⟨t580, t583⟩, A50, H⟩ := H
  try dsimp only at H
  have A5 := aM A50
  clear A50
  replace H := Option.bind_eq_some_iff.mp H
  obtain ⟨⟨t584, t587⟩, A60, H⟩ := H
  try dsimp only at H
  have A6 := aM A60
  clear A60
  replace H := Option.bind_eq_some_iff.mp H
  obtain ⟨t588, A70, H⟩ := H
  try dsimp only at H
  have A7 := aM A70
  clear A70
  replace H := Option.bind_eq_some_iff.mp H
  obtain ⟨⟨t589, t590, t591, t592⟩, A80, H⟩ := H
  try dsimp only at H
  have A8 := aM A80
  clear A80
  replace H := Option.bind_eq_some_iff.mp H
  obtain ⟨t594, A90, H⟩ := H
  try dsimp only at H
  have A9 := aM A90
  clear A90
  replace H := Option.bind_eq_some_iff.mp H
  obtain ⟨⟨t595, t596, t597, t598⟩, A100, H⟩ := H
  try dsimp only at H
  have A10 := aM A100
  clear A100
  replace H := Option.bind_eq_some_iff.mp H
  obtain ⟨⟨t600, t601, t602, t603⟩, A110, H⟩ := H
  try dsimp only at H
  have A11 := aM A110
  clear A110
  have HC12 := aM H
  clear H
  go_enter Tryd.func5, Tryd.ntmps5
  go_upto_region 11 with (first | ((with_reducible refine gate_callee (f := 14) rfl ?_); refine goesL_ (some 22) rfl rfl Tryd.func14 (by kernel_rfl) rfl #[.slice A0 l0.length c0] rfl (by first|rfl|(simp only [List.map_toArray, List.map_cons, List.map_nil]; try rfl)) ?_; (with_reducible refine (laws_big.calls _ _ l0 false _ ?side1 ?side2 A2.out).mono ?_); (case side1 => repeat (first | exact HR0.out | (with_reducible refine Kd.C_alloc ?_ _) | (with_reducible refine Kd.C_drewN ?_ _) | (with_reducible refine Kd.C_drew ?_))); (case side2 => exact HC0.out); rintro e w' ⟨rfl, ⟨nd, rfl⟩⟩; refine ⟨_, rfl, ?_⟩) | ((with_reducible refine gate_callee (f := 21) rfl ?_); refine goesL_ (some 24) rfl rfl Tryd.func21 (by kernel_rfl) rfl #[.slice A0 l0.length c0] rfl (by first|rfl|(simp only [List.map_toArray, List.map_cons, List.map_nil]; try rfl)) ?_; (with_reducible refine (spec_DrawCellsOf.calls k _ _ l0 t576 t577 t578 _ ?side1 ?side2 A4.out).mono ?_); (case side1 => repeat (first | exact HR0.out | (with_reducible refine Kd.C_alloc ?_ _) | (with_reducible refine Kd.C_drewN ?_ _) | (with_reducible refine Kd.C_drew ?_))); (case side2 => exact HC0.out); rintro e w13 ⟨rfl, hb⟩; refine ⟨_, rfl, ?_⟩; have n0_ := bS HB hb; clear HB; have HB := n0_; clear n0_; (try clear hb)) | ((with_reducible refine gate_dst (N := 3) rfl ?_); refine box_event ?hg (N := 3) ?hd (cs := #[.int .i64 0, .int .i64 0, .int .i64 0]) (t := 38) ?hr ?_; (case hd => rfl); (case hg => rfl); (case hr => first | (go_simp; done) | (go_simp; rfl)); intro gb579 hg w14 hbox hb; have n0_ := bS HB hb; have n1_ := aM (hbox); have n2_ := bZ hg HB; have n3_ := bZ hg HB; clear HB; have HB := n0_; have BK579 := n1_; have GW579 := n2_; have GE579 := n3_; clear n0_ n1_ n2_ n3_; clear hb hbox hg; obtain ⟨hcz15_0, hcz15_1, hcz15_2⟩ := z3 BK579; obtain ⟨hfz15_0, hfz15_1, hfz15_2⟩ := y3 BK579) | ((with_reducible refine gate_callee (f := 22) rfl ?_); refine goesL_ (some 27) rfl rfl Tryd.func22 (by kernel_rfl) rfl #[.agg #[.int .i64 t576, .int .i64 t577, .int .i64 t578]] rfl (by first|rfl|(simp only [List.map_toArray, List.map_cons, List.map_nil]; try rfl)) ?_; (with_reducible refine (impl_CellsOf.calls k t576 t577 t578 t580 t583 _ A5.out).mono ?_); rintro e w16 ⟨v581, rfl, ho0, hb⟩; refine ⟨_, rfl, ?_⟩; have n0_ := aM (Kd.R_lower ho0 (below_size (by repeat (first | (with_reducible first | exact HB.out | apply bA|apply bN|apply b1 | refine below_set ?_ GE579.out) | exact HB.out)))); have n1_ := aM (blk_below (g := gb579) (o := .cells #[.int .i64 t576, .int .i64 t577, .int .i64 t578] 38 (0, 0)) (by (with_reducible repeat (first|apply kN|apply kD|apply kA)); refine blk_put (cs := #[.int .i64 t576, .int .i64 t577, .int .i64 0]) ?_ 2 _ rfl; (with_reducible repeat (first|apply kN|apply kD|apply kA)); refine blk_put (cs := #[.int .i64 t576, .int .i64 0, .int .i64 0]) ?_ 1 _ rfl; (with_reducible repeat (first|apply kN|apply kD|apply kA)); refine blk_put (cs := #[.int .i64 0, .int .i64 0, .int .i64 0]) ?_ 0 _ rfl; (with_reducible repeat (first|apply kN|apply kD|apply kA)); exact BK579.out) hb); have n2_ := bS HB hb; clear BK579; clear HB; have HO582 := n0_; have BK579 := n1_; have HB := n2_; clear n0_ n1_ n2_; (try clear hb); (try clear ho0); obtain ⟨hcz17_0, hcz17_1, hcz17_2⟩ := z3 BK579; obtain ⟨hfz17_0, hfz17_1, hfz17_2⟩ := y3 BK579) | ((with_reducible refine gate_callee (f := 23) rfl ?_); refine goesL_ (some 32) rfl rfl Tryd.func23 (by kernel_rfl) rfl #[.agg #[.int .i64 t576, .int .i64 t577, .int .i64 t578]] rfl (by first|rfl|(simp only [List.map_toArray, List.map_cons, List.map_nil]; try rfl)) ?_; (with_reducible refine (spec_CellsOf.calls k t576 t577 t578 t584 t587 _ A6.out).mono ?_); rintro e w18 ⟨v585, rfl, ho0, hb⟩; refine ⟨_, rfl, ?_⟩; have n0_ := aM (Kd.R_elder' (by (with_reducible repeat (first | apply Kd.R_alloc | apply Kd.R_drewN | apply Kd.R_drew)); exact HO582.out) (Kd.R_base ho0) hb); have n1_ := aM (Kd.R_lower (Kd.R_new' ho0 (Kd.R_lt (by (with_reducible repeat (first | apply Kd.R_alloc | apply Kd.R_drewN | apply Kd.R_drew)); exact HO582.out))) (below_size (by repeat (first | (with_reducible first | exact HB.out | apply bA|apply bN|apply b1 | refine below_set ?_ GE579.out) | exact HB.out)))); have n2_ := bB BK579 hb; have n3_ := bS HB hb; clear HO582; clear BK579; clear HB; have HO582 := n0_; have HO586 := n1_; have BK579 := n2_; have HB := n3_; clear n0_ n1_ n2_ n3_; (try clear hb); (try clear ho0); obtain ⟨hcz19_0, hcz19_1, hcz19_2⟩ := z3 BK579; obtain ⟨hfz19_0, hfz19_1, hfz19_2⟩ := y3 BK579) | ((with_reducible refine gate_callee (f := 24) rfl ?_); refine goesL_ (some 36) rfl rfl Tryd.func24 (by kernel_rfl) rfl #[.agg #[.int .i64 t576, .int .i64 t577, .int .i64 t578]] rfl (by first|rfl|(simp only [List.map_toArray, List.map_cons, List.map_nil]; try rfl)) ?_; (with_reducible refine (impl_LatticeText.calls k t576 t577 t578 t588 _ (TB_below TRw.tb (by repeat (first | (with_reducible first | exact HB.out | apply bA|apply bN|apply b1 | refine below_set ?_ GE579.out) | exact HB.out))) A7.out).mono ?_); rintro e w20 ⟨rfl, hb⟩; refine ⟨_, rfl, ?_⟩; have n0_ := aM (Kd.R_below (by (with_reducible repeat (first | apply Kd.R_alloc | apply Kd.R_drewN | apply Kd.R_drew)); exact HO582.out) hb); have n1_ := aM (Kd.R_below (by (with_reducible repeat (first | apply Kd.R_alloc | apply Kd.R_drewN | apply Kd.R_drew)); exact HO586.out) hb); have n2_ := bB BK579 hb; have n3_ := bS HB hb; clear HO582; clear HO586; clear BK579; clear HB; have HO582 := n0_; have HO586 := n1_; have BK579 := n2_; have HB := n3_; clear n0_ n1_ n2_ n3_; (try clear hb)) | ((with_reducible refine gate_callee (f := 25) rfl ?_); refine goesL_ (some 39) rfl rfl Tryd.func25 (by kernel_rfl) rfl #[.string t588] rfl (by first|rfl|(simp only [List.map_toArray, List.map_cons, List.map_nil]; try rfl)) ?_; (with_reducible refine (impl_ReadLattice.calls k t588 t589 t590 t591 t592 _ (TR_below TRw (by repeat (first | (with_reducible first | exact HB.out | apply bA|apply bN|apply b1 | refine below_set ?_ GE579.out) | exact HB.out))) A8.out).mono ?_); rintro e w21 ⟨rfl, hb⟩; refine ⟨_, rfl, ?_⟩; have n0_ := aM (Kd.R_below (by (with_reducible repeat (first | apply Kd.R_alloc | apply Kd.R_drewN | apply Kd.R_drew)); exact HO582.out) hb); have n1_ := aM (Kd.R_below (by (with_reducible repeat (first | apply Kd.R_alloc | apply Kd.R_drewN | apply Kd.R_drew)); exact HO586.out) hb); have n2_ := bB BK579 hb; have n3_ := bS HB hb; clear HO582; clear HO586; clear BK579; clear HB; have HO582 := n0_; have HO586 := n1_; have BK579 := n2_; have HB := n3_; clear n0_ n1_ n2_ n3_; (try clear hb)) | ((with_reducible refine gate_dst (N := 9) rfl ?_); refine box_event ?hg (N := 9) ?hd (cs := #[.int .i64 0, .int .i64 0, .int .i64 0]) (t := 38) ?hr ?_; (case hd => rfl); (case hg => rfl); (case hr => first | (go_simp; done) | (go_simp; rfl)); intro gb593 hg w22 hbox hb; have n0_ := aM (Kd.R_below (by (with_reducible repeat (first | apply Kd.R_alloc | apply Kd.R_drewN | apply Kd.R_drew)); exact HO582.out) hb); have n1_ := aM (Kd.R_below (by (with_reducible repeat (first | apply Kd.R_alloc | apply Kd.R_drewN | apply Kd.R_drew)); exact HO586.out) hb); have n2_ := bB BK579 hb; have n3_ := bS HB hb; have n4_ := aM (hbox); have n5_ := bZ hg HB; have n6_ := bZ hg HB; have n7_ := nL hg BK579; have n8_ := nG hg BK579; clear HO582; clear HO586; clear BK579; clear HB; have HO582 := n0_; have HO586 := n1_; have BK579 := n2_; have HB := n3_; have BK593 := n4_; have GW593 := n5_; have GE593 := n6_; have NB579_593 := n7_; have NB593_579 := n8_; clear n0_ n1_ n2_ n3_ n4_ n5_ n6_ n7_ n8_; clear hb hbox hg; have hnb23 := NB593_579.out; have hnc23 := NB579_593.out; obtain ⟨hcz24_0, hcz24_1, hcz24_2⟩ := z3 BK593; obtain ⟨hfz24_0, hfz24_1, hfz24_2⟩ := y3 BK593) | ((with_reducible refine gate_callee (f := 26) rfl ?_); refine goesL_ (some 43) rfl rfl Tryd.func26 (by kernel_rfl) rfl #[.slice A0 l0.length c0] rfl (by first|rfl|(simp only [List.map_toArray, List.map_cons, List.map_nil]; try rfl)) ?_; (with_reducible refine (spec_DrawReadLattice.calls k _ _ l0 t594 _ ?side1 ?side2 A9.out).mono ?_); (case side1 => exact Kd.C_below HR0.out (by repeat (first | (with_reducible first | exact HB.out | apply bA|apply bN|apply b1 | refine below_set ?_ (Aside0.out (by assumption))) | exact HB.out))); (case side2 => exact HC0.out); rintro e w25 ⟨rfl, hb⟩; refine ⟨_, rfl, ?_⟩; have n0_ := aM (Kd.R_below (by (with_reducible repeat (first | apply Kd.R_alloc | apply Kd.R_drewN | apply Kd.R_drew)); exact (Kd.R_mono (Kd.R_far (p := ⟨gb593, 2, none⟩) (Kd.R_far (p := ⟨gb593, 1, none⟩) (Kd.R_far (p := ⟨gb593, 0, none⟩) (Kd.R_types HO582.out BK593.out (by decide)) (fun _ hk => hk.2) (.int .i64 t589)) (fun _ hk => hk.2) (.int .i64 t590)) (fun _ hk => hk.2) (.int .i64 t591)) (fun _ h_ => h_.1))) hb); have n1_ := aM (Kd.R_below (by (with_reducible repeat (first | apply Kd.R_alloc | apply Kd.R_drewN | apply Kd.R_drew)); exact (Kd.R_mono (Kd.R_far (p := ⟨gb593, 2, none⟩) (Kd.R_far (p := ⟨gb593, 1, none⟩) (Kd.R_far (p := ⟨gb593, 0, none⟩) (Kd.R_types HO586.out BK593.out (by decide)) (fun _ hk => hk.2) (.int .i64 t589)) (fun _ hk => hk.2) (.int .i64 t590)) (fun _ hk => hk.2) (.int .i64 t591)) (fun _ h_ => h_.1))) hb); have n2_ := aM (blk_below (g := gb579) (o := .cells #[.int .i64 t576, .int .i64 t577, .int .i64 t578] 38 (0, 0)) (by (repeat (first|(with_reducible first|apply kN|apply kD|apply kA)|refine blk_far ?_ NB579_593.out _)); exact BK579.out) hb); have n3_ := aM (blk_below (g := gb593) (o := .cells #[.int .i64 t589, .int .i64 t590, .int .i64 t591] 38 (0, 0)) (by (with_reducible repeat (first|apply kN|apply kD|apply kA)); refine blk_put (cs := #[.int .i64 t589, .int .i64 t590, .int .i64 0]) ?_ 2 _ rfl; (with_reducible repeat (first|apply kN|apply kD|apply kA)); refine blk_put (cs := #[.int .i64 t589, .int .i64 0, .int .i64 0]) ?_ 1 _ rfl; (with_reducible repeat (first|apply kN|apply kD|apply kA)); refine blk_put (cs := #[.int .i64 0, .int .i64 0, .int .i64 0]) ?_ 0 _ rfl; (with_reducible repeat (first|apply kN|apply kD|apply kA)); exact BK593.out) hb); have n4_ := bS HB hb; clear HO582; clear HO586; clear BK579; clear BK593; clear HB; have HO582 := n0_; have HO586 := n1_; have BK579 := n2_; have BK593 := n3_; have HB := n4_; clear n0_ n1_ n2_ n3_ n4_; (try clear hb)) | ((with_reducible refine gate_callee (f := 25) rfl ?_); refine goesL_ (some 46) rfl rfl Tryd.func25 (by kernel_rfl) rfl #[.string t594] rfl (by first|rfl|(simp only [List.map_toArray, List.map_cons, List.map_nil]; try rfl)) ?_; (with_reducible refine (impl_ReadLattice.calls k t594 t595 t596 t597 t598 _ (TR_below TRw (by repeat (first | (with_reducible first | exact HB.out | apply bA|apply bN|apply b1 | refine below_set ?_ (Aside0.out (by assumption))) | exact HB.out))) A10.out).mono ?_); rintro e w26 ⟨rfl, hb⟩; refine ⟨_, rfl, ?_⟩; have n0_ := aM (Kd.R_below (by (with_reducible repeat (first | apply Kd.R_alloc | apply Kd.R_drewN | apply Kd.R_drew)); exact HO582.out) hb); have n1_ := aM (Kd.R_below (by (with_reducible repeat (first | apply Kd.R_alloc | apply Kd.R_drewN | apply Kd.R_drew)); exact HO586.out) hb); have n2_ := bB BK579 hb; have n3_ := bB BK593 hb; have n4_ := bS HB hb; clear HO582; clear HO586; clear BK579; clear BK593; clear HB; have HO582 := n0_; have HO586 := n1_; have BK579 := n2_; have BK593 := n3_; have HB := n4_; clear n0_ n1_ n2_ n3_ n4_; (try clear hb)) | ((with_reducible refine gate_dst (N := 12) rfl ?_); refine box_event ?hg (N := 12) ?hd (cs := #[.int .i64 0, .int .i64 0, .int .i64 0]) (t := 38) ?hr ?_; (case hd => rfl); (case hg => rfl); (case hr => first | (go_simp; done) | (go_simp; rfl)); intro gb599 hg w27 hbox hb; have n0_ := aM (Kd.R_below (by (with_reducible repeat (first | apply Kd.R_alloc | apply Kd.R_drewN | apply Kd.R_drew)); exact HO582.out) hb); have n1_ := aM (Kd.R_below (by (with_reducible repeat (first | apply Kd.R_alloc | apply Kd.R_drewN | apply Kd.R_drew)); exact HO586.out) hb); have n2_ := bB BK579 hb; have n3_ := bB BK593 hb; have n4_ := bS HB hb; have n5_ := aM (hbox); have n6_ := bZ hg HB; have n7_ := bZ hg HB; have n8_ := nL hg BK579; have n9_ := nG hg BK579; have n10_ := nL hg BK593; have n11_ := nG hg BK593; clear HO582; clear HO586; clear BK579; clear BK593; clear HB; have HO582 := n0_; have HO586 := n1_; have BK579 := n2_; have BK593 := n3_; have HB := n4_; have BK599 := n5_; have GW599 := n6_; have GE599 := n7_; have NB579_599 := n8_; have NB599_579 := n9_; have NB593_599 := n10_; have NB599_593 := n11_; clear n0_ n1_ n2_ n3_ n4_ n5_ n6_ n7_ n8_ n9_ n10_ n11_; clear hb hbox hg; have hnb28 := NB599_579.out; have hnc28 := NB579_599.out; have hnb29 := NB599_593.out; have hnc29 := NB593_599.out; obtain ⟨hcz30_0, hcz30_1, hcz30_2⟩ := z3 BK599; obtain ⟨hfz30_0, hfz30_1, hfz30_2⟩ := y3 BK599) | ((with_reducible refine gate_callee (f := 27) rfl ?_); refine goesL_ (some 51) rfl rfl Tryd.func27 (by kernel_rfl) rfl #[.string t594] rfl (by first|rfl|(simp only [List.map_toArray, List.map_cons, List.map_nil]; try rfl)) ?_; (with_reducible refine (spec_ReadLattice.calls k t594 t600 t601 t602 t603 _ A11.out).mono ?_); rintro e w31 ⟨rfl, hb⟩; refine ⟨_, rfl, ?_⟩; have n0_ := aM (Kd.R_below (by (with_reducible repeat (first | apply Kd.R_alloc | apply Kd.R_drewN | apply Kd.R_drew)); exact (Kd.R_mono (Kd.R_far (p := ⟨gb599, 2, none⟩) (Kd.R_far (p := ⟨gb599, 1, none⟩) (Kd.R_far (p := ⟨gb599, 0, none⟩) (Kd.R_types HO582.out BK599.out (by decide)) (fun _ hk => hk.2) (.int .i64 t595)) (fun _ hk => hk.2) (.int .i64 t596)) (fun _ hk => hk.2) (.int .i64 t597)) (fun _ h_ => h_.1))) hb); have n1_ := aM (Kd.R_below (by (with_reducible repeat (first | apply Kd.R_alloc | apply Kd.R_drewN | apply Kd.R_drew)); exact (Kd.R_mono (Kd.R_far (p := ⟨gb599, 2, none⟩) (Kd.R_far (p := ⟨gb599, 1, none⟩) (Kd.R_far (p := ⟨gb599, 0, none⟩) (Kd.R_types HO586.out BK599.out (by decide)) (fun _ hk => hk.2) (.int .i64 t595)) (fun _ hk => hk.2) (.int .i64 t596)) (fun _ hk => hk.2) (.int .i64 t597)) (fun _ h_ => h_.1))) hb); have n2_ := aM (blk_below (g := gb579) (o := .cells #[.int .i64 t576, .int .i64 t577, .int .i64 t578] 38 (0, 0)) (by (repeat (first|(with_reducible first|apply kN|apply kD|apply kA)|refine blk_far ?_ NB579_599.out _)); exact BK579.out) hb); have n3_ := aM (blk_below (g := gb593) (o := .cells #[.int .i64 t589, .int .i64 t590, .int .i64 t591] 38 (0, 0)) (by (repeat (first|(with_reducible first|apply kN|apply kD|apply kA)|refine blk_far ?_ NB593_599.out _)); exact BK593.out) hb); have n4_ := aM (blk_below (g := gb599) (o := .cells #[.int .i64 t595, .int .i64 t596, .int .i64 t597] 38 (0, 0)) (by (with_reducible repeat (first|apply kN|apply kD|apply kA)); refine blk_put (cs := #[.int .i64 t595, .int .i64 t596, .int .i64 0]) ?_ 2 _ rfl; (with_reducible repeat (first|apply kN|apply kD|apply kA)); refine blk_put (cs := #[.int .i64 t595, .int .i64 0, .int .i64 0]) ?_ 1 _ rfl; (with_reducible repeat (first|apply kN|apply kD|apply kA)); refine blk_put (cs := #[.int .i64 0, .int .i64 0, .int .i64 0]) ?_ 0 _ rfl; (with_reducible repeat (first|apply kN|apply kD|apply kA)); exact BK599.out) hb); have n5_ := bS HB hb; clear HO582; clear HO586; clear BK579; clear BK593; clear BK599; clear HB; have HO582 := n0_; have HO586 := n1_; have BK579 := n2_; have BK593 := n3_; have BK599 := n4_; have HB := n5_; clear n0_ n1_ n2_ n3_ n4_ n5_; (try clear hb)) | ((with_reducible refine gate_dst (N := 14) rfl ?_); refine box_event ?hg (N := 14) ?hd (cs := #[.int .i64 0, .int .i64 0, .int .i64 0]) (t := 38) ?hr ?_; (case hd => rfl); (case hg => rfl); (case hr => first | (go_simp; done) | (go_simp; rfl)); intro gb604 hg w32 hbox hb; have n0_ := aM (Kd.R_below (by (with_reducible repeat (first | apply Kd.R_alloc | apply Kd.R_drewN | apply Kd.R_drew)); exact HO582.out) hb); have n1_ := aM (Kd.R_below (by (with_reducible repeat (first | apply Kd.R_alloc | apply Kd.R_drewN | apply Kd.R_drew)); exact HO586.out) hb); have n2_ := bB BK579 hb; have n3_ := bB BK593 hb; have n4_ := bB BK599 hb; have n5_ := bS HB hb; have n6_ := aM (hbox); have n7_ := bZ hg HB; have n8_ := bZ hg HB; have n9_ := nL hg BK579; have n10_ := nG hg BK579; have n11_ := nL hg BK593; have n12_ := nG hg BK593; have n13_ := nL hg BK599; have n14_ := nG hg BK599; clear HO582; clear HO586; clear BK579; clear BK593; clear BK599; clear HB; have HO582 := n0_; have HO586 := n1_; have BK579 := n2_; have BK593 := n3_; have BK599 := n4_; have HB := n5_; have BK604 := n6_; have GW604 := n7_; have GE604 := n8_; have NB579_604 := n9_; have NB604_579 := n10_; have NB593_604 := n11_; have NB604_593 := n12_; have NB599_604 := n13_; have NB604_599 := n14_; clear n0_ n1_ n2_ n3_ n4_ n5_ n6_ n7_ n8_ n9_ n10_ n11_ n12_ n13_ n14_; clear hb hbox hg; have hnb33 := NB604_579.out; have hnc33 := NB579_604.out; have hnb34 := NB604_593.out; have hnc34 := NB593_604.out; have hnb35 := NB604_599.out; have hnc35 := NB599_604.out; obtain ⟨hcz36_0, hcz36_1, hcz36_2⟩ := z3 BK604; obtain ⟨hfz36_0, hfz36_1, hfz36_2⟩ := y3 BK604))
  (try simp only [Act.put, List.setIfInBounds_toArray, List.set_cons_zero, List.set_cons_succ])
  go_cut [101] (fun v101 wc => ∃ (kq : Nat) (x101_11 : Bool), v101 = .bool x101_11 ∧ Aside0 (laws_FnCells.j0 kq t580 t583 x101_11 t576 t577 t578 = some true) ∧ Aside0 (kq ≤ k) ∧ Aside0 (Kd.R k31 31 wc w.heap.size (fun _ => True) v581 t580) ∧ Aside0 (wc.heap[gb579]? = some (.cells #[.int .i64 t576, .int .i64 t577, .int .i64 t578] 38 (0, 0))) ∧ Aside0 (wc.heap[gb593]? = some (.cells #[.int .i64 t589, .int .i64 t590, .int .i64 t591] 38 (0, 0))) ∧ Aside0 (wc.heap[gb599]? = some (.cells #[.int .i64 t595, .int .i64 t596, .int .i64 t597] 38 (0, 0))) ∧ Aside0 (wc.heap[gb604]? = some (.cells #[.int .i64 t600, .int .i64 t601, .int .i64 t602] 38 (0, 0))) ∧ Aside0 (Below w.heap.size w wc))
  case first =>
   have H := HC12.out
   clear HC12
   by_cases c37 : t583 = t587
   ·rw [if_pos c37] at H
    have c37b0 : (t583 == t587) = true := beq_iff_eq.mpr c37
    have c37b1 : (t583 != t587) = false := bne_eq_false_iff_eq.mpr c37
    clear c37
    (first | rw [c37b0] | (simp only [i64_w, i32_w]; rw [c37b0]) | skip)
    replace H := Option.bind_eq_some_iff.mp H
    obtain ⟨t605, A380, H⟩ := H
    try dsimp only at H
    have A38 := aM A380
    clear A380
    by_cases c39 : t605 = true
    ·subst c39
     have H1 : ((spec_LatticeText.f k t576 t577 t578).bind fun t606 => (if t588.toList = t606.toList then (if (t592 != (t588.toList != ([] : List UInt8))) = true then (laws_FnCells.j0 k t580 t583 true t576 t577 t578) else (if t592 = true then (if (!(t589 == t576) || (!(t590 == t577) || (!(t591 == t578)))) = true then (laws_FnCells.j0 k t580 t583 true t576 t577 t578) else (if (!(t595 == t600) || (!(t596 == t601) || (!(t597 == t602)))) = true then (laws_FnCells.j0 k t580 t583 true t576 t577 t578) else (if (t598 != t603) = true then (laws_FnCells.j0 k t580 t583 true t576 t577 t578) else (if t598 = true then ((impl_LatticeText.f k t595 t596 t597).bind fun t607 => (laws_FnCells.j0 k t580 t583 (t607.toList != t594.toList) t576 t577 t578)) else (laws_FnCells.j0 k t580 t583 false t576 t577 t578))))) else (if (!(t595 == t600) || (!(t596 == t601) || (!(t597 == t602)))) = true then (laws_FnCells.j0 k t580 t583 true t576 t577 t578) else (if (t598 != t603) = true then (laws_FnCells.j0 k t580 t583 true t576 t577 t578) else (if t598 = true then ((impl_LatticeText.f k t595 t596 t597).bind fun t608 => (laws_FnCells.j0 k t580 t583 (t608.toList != t594.toList) t576 t577 t578)) else (laws_FnCells.j0 k t580 t583 false t576 t577 t578)))))) else (laws_FnCells.j0 k t580 t583 true t576 t577 t578))) = some true := by rw [if_pos rfl] at H; exact H
     clear H
     have H := H1
     clear H1
     replace H := Option.bind_eq_some_iff.mp H
     obtain ⟨t606, A400, H⟩ := H
     try dsimp only at H
     have A40 := aM A400
     clear A400
     by_cases c41 : t588.toList = t606.toList
     ·rw [if_pos c41] at H
      have c41b0 : (t588.toList == t606.toList) = true := beq_iff_eq.mpr c41
      have c41b1 : (t588.toList != t606.toList) = false := bne_eq_false_iff_eq.mpr c41
      clear c41
      by_cases c42 : (t592 != (t588.toList != ([] : List UInt8))) = true
      ·rw [if_pos c42] at H
       exact absurd H (by cases k <;> simp [laws_FnCells.j0])
      ·rw [if_neg c42] at H
       have c42b0 : (t592 != (t588.toList != ([] : List UInt8))) = false := by simpa using c42
       (try (have c42b1 : decide (t592 = (t588.toList != ([] : List UInt8))) = true := by simpa using c42))
       (try (have c42b2 : (t592 == (t588.toList != ([] : List UInt8))) = true := by simpa using c42))
       clear c42
       by_cases c50 : t592 = true
       ·subst c50
        have cE0 : t588.toList.isEmpty = false := by generalize t588.toList = z_ at c42b0; cases z_ with | nil => exact absurd c42b0 (by decide) | cons _ _ => rfl
        have cE1 : (t588.toList == ([] : List UInt8)) = false := by generalize t588.toList = z_ at c42b0; cases z_ with | nil => exact absurd c42b0 (by decide) | cons _ _ => rfl
        have cE2 : (t588.toList = ([] : List UInt8)) = False := eq_false (beq_eq_false_iff_ne.mp cE1)
        have H1 : (if (!(t589 == t576) || (!(t590 == t577) || (!(t591 == t578)))) = true then (laws_FnCells.j0 k t580 t583 true t576 t577 t578) else (if (!(t595 == t600) || (!(t596 == t601) || (!(t597 == t602)))) = true then (laws_FnCells.j0 k t580 t583 true t576 t577 t578) else (if (t598 != t603) = true then (laws_FnCells.j0 k t580 t583 true t576 t577 t578) else (if t598 = true then ((impl_LatticeText.f k t595 t596 t597).bind fun t607 => (laws_FnCells.j0 k t580 t583 (t607.toList != t594.toList) t576 t577 t578)) else (laws_FnCells.j0 k t580 t583 false t576 t577 t578))))) = some true := by rw [if_pos rfl] at H; exact H
        clear H
        have H := H1
        clear H1
        by_cases c51 : (!(t589 == t576) || (!(t590 == t577) || (!(t591 == t578)))) = true
        ·rw [if_pos c51] at H
         exact absurd H (by cases k <;> simp [laws_FnCells.j0])
        ·rw [if_neg c51] at H
         have c51b0 : (!(t589 == t576) || (!(t590 == t577) || (!(t591 == t578)))) = false := by simpa using c51
         clear c51
         by_cases c63 : (!(t595 == t600) || (!(t596 == t601) || (!(t597 == t602)))) = true
         ·rw [if_pos c63] at H
          exact absurd H (by cases k <;> simp [laws_FnCells.j0])
         ·rw [if_neg c63] at H
          have c63b0 : (!(t595 == t600) || (!(t596 == t601) || (!(t597 == t602)))) = false := by simpa using c63
          clear c63
          by_cases c78 : (t598 != t603) = true
          ·rw [if_pos c78] at H
           exact absurd H (by cases k <;> simp [laws_FnCells.j0])
          ·rw [if_neg c78] at H
           have c78b0 : (t598 != t603) = false := by simpa using c78
           (try (have c78b1 : decide (t598 = t603) = true := by simpa using c78))
           (try (have c78b2 : (t598 == t603) = true := by simpa using c78))
           clear c78
           by_cases c93 : t598 = true
           ·subst c93
            have H1 : ((impl_LatticeText.f k t595 t596 t597).bind fun t607 => (laws_FnCells.j0 k t580 t583 (t607.toList != t594.toList) t576 t577 t578)) = some true := by rw [if_pos rfl] at H; exact H
            clear H
            have H := H1
            clear H1
            replace H := Option.bind_eq_some_iff.mp H
            obtain ⟨t607, A940, H⟩ := H
            try dsimp only at H
            have A94 := aM A940
            clear A940
            have H' := aM H
            clear H
            obtain ⟨Ao95, co95, eo95⟩ := Kd.R_slice HO582.out
            subst eo95
            obtain ⟨Ao96, co96, eo96⟩ := Kd.R_slice HO586.out
            subst eo96
            go_wp2_with (first | (go_at_call 28; (with_reducible refine (laws_likeVecs9.calls k _ _ t580 _ _ t584 true _ ?side1 ?side2 ?side3 ?side4 A38.out).mono ?_); (case side1 => refine (Kd.R_reads' (e := 31) (base := w.heap.size) (ok := fun k_ => (True ∧ some k_ ≠ (.slice Ao96 t584.length co96 : Value).ownBlock)) (n := t580.length) (c := co95) ?_).2.2; exact (by (with_reducible repeat (first | apply Kd.R_alloc | apply Kd.R_drewN | apply Kd.R_drew)); exact (Kd.R_mono (Kd.R_far (p := ⟨gb604, 2, none⟩) (Kd.R_far (p := ⟨gb604, 1, none⟩) (Kd.R_far (p := ⟨gb604, 0, none⟩) (Kd.R_types HO582.out BK604.out (by decide)) (fun _ hk => hk.2) (.int .i64 t600)) (fun _ hk => hk.2) (.int .i64 t601)) (fun _ hk => hk.2) (.int .i64 t602)) (fun _ h_ => h_.1)))); (case side2 => exact (Kd.R_reads' HO582.out).2.1); (case side3 => refine (Kd.R_reads' (e := 31) (base := w.heap.size) (ok := fun k_ => (True ∧ some k_ ≠ (.slice Ao95 t580.length co95 : Value).ownBlock)) (n := t584.length) (c := co96) ?_).2.2; exact (by (with_reducible repeat (first | apply Kd.R_alloc | apply Kd.R_drewN | apply Kd.R_drew)); exact (Kd.R_mono (Kd.R_far (p := ⟨gb604, 2, none⟩) (Kd.R_far (p := ⟨gb604, 1, none⟩) (Kd.R_far (p := ⟨gb604, 0, none⟩) (Kd.R_types HO586.out BK604.out (by decide)) (fun _ hk => hk.2) (.int .i64 t600)) (fun _ hk => hk.2) (.int .i64 t601)) (fun _ hk => hk.2) (.int .i64 t602)) (fun _ h_ => h_.1)))); (case side4 => exact (Kd.R_reads' HO586.out).2.1); rintro e w' ⟨rfl, ⟨nd, rfl⟩⟩; have hnb97 := NB579_593.out; have hnc97 := NB593_579.out; have hnb98 := NB579_599.out; have hnc98 := NB599_579.out; have hnb99 := NB579_604.out; have hnc99 := NB604_579.out; obtain ⟨hcz100_0, hcz100_1, hcz100_2⟩ := z3 BK579; obtain ⟨hfz100_0, hfz100_1, hfz100_2⟩ := y3 BK579) | (go_at_call 29; (with_reducible refine (spec_LatticeText.calls k t576 t577 t578 t606 _ A40.out).mono ?_); rintro e w101 ⟨rfl, hb⟩; have n0_ := aM (Kd.R_below (by (with_reducible repeat (first | apply Kd.R_alloc | apply Kd.R_drewN | apply Kd.R_drew)); exact (Kd.R_mono (Kd.R_far (p := ⟨gb604, 2, none⟩) (Kd.R_far (p := ⟨gb604, 1, none⟩) (Kd.R_far (p := ⟨gb604, 0, none⟩) (Kd.R_types HO582.out BK604.out (by decide)) (fun _ hk => hk.2) (.int .i64 t600)) (fun _ hk => hk.2) (.int .i64 t601)) (fun _ hk => hk.2) (.int .i64 t602)) (fun _ h_ => h_.1))) hb); have n1_ := aM (Kd.R_below (by (with_reducible repeat (first | apply Kd.R_alloc | apply Kd.R_drewN | apply Kd.R_drew)); exact (Kd.R_mono (Kd.R_far (p := ⟨gb604, 2, none⟩) (Kd.R_far (p := ⟨gb604, 1, none⟩) (Kd.R_far (p := ⟨gb604, 0, none⟩) (Kd.R_types HO586.out BK604.out (by decide)) (fun _ hk => hk.2) (.int .i64 t600)) (fun _ hk => hk.2) (.int .i64 t601)) (fun _ hk => hk.2) (.int .i64 t602)) (fun _ h_ => h_.1))) hb); have n2_ := aM (blk_below (g := gb579) (o := .cells #[.int .i64 t576, .int .i64 t577, .int .i64 t578] 38 (0, 0)) (by (repeat (first|(with_reducible first|apply kN|apply kD|apply kA)|refine blk_far ?_ NB579_604.out _)); exact BK579.out) hb); have n3_ := aM (blk_below (g := gb593) (o := .cells #[.int .i64 t589, .int .i64 t590, .int .i64 t591] 38 (0, 0)) (by (repeat (first|(with_reducible first|apply kN|apply kD|apply kA)|refine blk_far ?_ NB593_604.out _)); exact BK593.out) hb); have n4_ := aM (blk_below (g := gb599) (o := .cells #[.int .i64 t595, .int .i64 t596, .int .i64 t597] 38 (0, 0)) (by (repeat (first|(with_reducible first|apply kN|apply kD|apply kA)|refine blk_far ?_ NB599_604.out _)); exact BK599.out) hb); have n5_ := aM (blk_below (g := gb604) (o := .cells #[.int .i64 t600, .int .i64 t601, .int .i64 t602] 38 (0, 0)) (by (with_reducible repeat (first|apply kN|apply kD|apply kA)); refine blk_put (cs := #[.int .i64 t600, .int .i64 t601, .int .i64 0]) ?_ 2 _ rfl; (with_reducible repeat (first|apply kN|apply kD|apply kA)); refine blk_put (cs := #[.int .i64 t600, .int .i64 0, .int .i64 0]) ?_ 1 _ rfl; (with_reducible repeat (first|apply kN|apply kD|apply kA)); refine blk_put (cs := #[.int .i64 0, .int .i64 0, .int .i64 0]) ?_ 0 _ rfl; (with_reducible repeat (first|apply kN|apply kD|apply kA)); exact BK604.out) hb); have n6_ := bS HB hb; clear HO582; clear HO586; clear BK579; clear BK593; clear BK599; clear BK604; clear HB; have HO582 := n0_; have HO586 := n1_; have BK579 := n2_; have BK593 := n3_; have BK599 := n4_; have BK604 := n5_; have HB := n6_; clear n0_ n1_ n2_ n3_ n4_ n5_ n6_; (try clear hb); have hnb102 := NB593_599.out; have hnc102 := NB599_593.out; have hnb103 := NB593_604.out; have hnc103 := NB604_593.out; obtain ⟨hcz104_0, hcz104_1, hcz104_2⟩ := z3 BK593; obtain ⟨hfz104_0, hfz104_1, hfz104_2⟩ := y3 BK593; obtain ⟨hcz105_0, hcz105_1, hcz105_2⟩ := z3 BK579; obtain ⟨hfz105_0, hfz105_1, hfz105_2⟩ := y3 BK579; have hnb106 := NB599_604.out; have hnc106 := NB604_599.out; obtain ⟨hcz107_0, hcz107_1, hcz107_2⟩ := z3 BK599; obtain ⟨hfz107_0, hfz107_1, hfz107_2⟩ := y3 BK599; obtain ⟨hcz108_0, hcz108_1, hcz108_2⟩ := z3 BK604; obtain ⟨hfz108_0, hfz108_1, hfz108_2⟩ := y3 BK604) | (go_at_call 24; (with_reducible refine (impl_LatticeText.calls k t595 t596 t597 t607 _ (TB_below TRw.tb (by repeat (first | (with_reducible first | exact HB.out | apply bA|apply bN|apply b1 | refine below_set ?_ (Aside0.out (by assumption))) | exact HB.out))) A94.out).mono ?_); rintro e w109 ⟨rfl, hb⟩; have n0_ := aM (Kd.R_below (by (with_reducible repeat (first | apply Kd.R_alloc | apply Kd.R_drewN | apply Kd.R_drew)); exact HO582.out) hb); have n1_ := aM (Kd.R_below (by (with_reducible repeat (first | apply Kd.R_alloc | apply Kd.R_drewN | apply Kd.R_drew)); exact HO586.out) hb); have n2_ := bB BK579 hb; have n3_ := bB BK593 hb; have n4_ := bB BK599 hb; have n5_ := bB BK604 hb; have n6_ := bS HB hb; clear HO582; clear HO586; clear BK579; clear BK593; clear BK599; clear BK604; clear HB; have HO582 := n0_; have HO586 := n1_; have BK579 := n2_; have BK593 := n3_; have BK599 := n4_; have BK604 := n5_; have HB := n6_; clear n0_ n1_ n2_ n3_ n4_ n5_ n6_; (try clear hb)))
            go_meet
            case rel => exact ⟨_, ((t607.toList != t594.toList)), (by first | rfl | (simp; done) | (simp [*]; done)), H', ⟨by first | omega | exact Nat.le_refl _⟩, ⟨by (with_reducible repeat (first | apply Kd.R_alloc | apply Kd.R_drewN | apply Kd.R_drew)); exact Kd.R_mono HO582.out (fun _ hk => trivial)⟩, ⟨by (with_reducible repeat (first|apply kN|apply kD|apply kA)); exact BK579.out⟩, ⟨by (with_reducible repeat (first|apply kN|apply kD|apply kA)); exact BK593.out⟩, ⟨by (with_reducible repeat (first|apply kN|apply kD|apply kA)); exact BK599.out⟩, ⟨by (with_reducible repeat (first|apply kN|apply kD|apply kA)); exact BK604.out⟩, ⟨by repeat (first | (with_reducible first | exact HB.out | apply bA|apply bN|apply b1 | refine below_set ?_ (Aside0.out (by assumption))) | exact HB.out)⟩⟩
           ·replace c93 := Bool.eq_false_iff.mpr c93
            subst c93
            have H1 : (laws_FnCells.j0 k t580 t583 false t576 t577 t578) = some true := by rw [if_neg (show ¬ (false = true) by decide)] at H; exact H
            clear H
            have H := H1
            clear H1
            have H' := aM H
            clear H
            obtain ⟨Ao110, co110, eo110⟩ := Kd.R_slice HO582.out
            subst eo110
            obtain ⟨Ao111, co111, eo111⟩ := Kd.R_slice HO586.out
            subst eo111
            go_wp2_with (first | (go_at_call 28; (with_reducible refine (laws_likeVecs9.calls k _ _ t580 _ _ t584 true _ ?side1 ?side2 ?side3 ?side4 A38.out).mono ?_); (case side1 => refine (Kd.R_reads' (e := 31) (base := w.heap.size) (ok := fun k_ => (True ∧ some k_ ≠ (.slice Ao111 t584.length co111 : Value).ownBlock)) (n := t580.length) (c := co110) ?_).2.2; exact (by (with_reducible repeat (first | apply Kd.R_alloc | apply Kd.R_drewN | apply Kd.R_drew)); exact (Kd.R_mono (Kd.R_far (p := ⟨gb604, 2, none⟩) (Kd.R_far (p := ⟨gb604, 1, none⟩) (Kd.R_far (p := ⟨gb604, 0, none⟩) (Kd.R_types HO582.out BK604.out (by decide)) (fun _ hk => hk.2) (.int .i64 t600)) (fun _ hk => hk.2) (.int .i64 t601)) (fun _ hk => hk.2) (.int .i64 t602)) (fun _ h_ => h_.1)))); (case side2 => exact (Kd.R_reads' HO582.out).2.1); (case side3 => refine (Kd.R_reads' (e := 31) (base := w.heap.size) (ok := fun k_ => (True ∧ some k_ ≠ (.slice Ao110 t580.length co110 : Value).ownBlock)) (n := t584.length) (c := co111) ?_).2.2; exact (by (with_reducible repeat (first | apply Kd.R_alloc | apply Kd.R_drewN | apply Kd.R_drew)); exact (Kd.R_mono (Kd.R_far (p := ⟨gb604, 2, none⟩) (Kd.R_far (p := ⟨gb604, 1, none⟩) (Kd.R_far (p := ⟨gb604, 0, none⟩) (Kd.R_types HO586.out BK604.out (by decide)) (fun _ hk => hk.2) (.int .i64 t600)) (fun _ hk => hk.2) (.int .i64 t601)) (fun _ hk => hk.2) (.int .i64 t602)) (fun _ h_ => h_.1)))); (case side4 => exact (Kd.R_reads' HO586.out).2.1); rintro e w' ⟨rfl, ⟨nd, rfl⟩⟩; have hnb112 := NB579_593.out; have hnc112 := NB593_579.out; have hnb113 := NB579_599.out; have hnc113 := NB599_579.out; have hnb114 := NB579_604.out; have hnc114 := NB604_579.out; obtain ⟨hcz115_0, hcz115_1, hcz115_2⟩ := z3 BK579; obtain ⟨hfz115_0, hfz115_1, hfz115_2⟩ := y3 BK579) | (go_at_call 29; (with_reducible refine (spec_LatticeText.calls k t576 t577 t578 t606 _ A40.out).mono ?_); rintro e w116 ⟨rfl, hb⟩; have n0_ := aM (Kd.R_below (by (with_reducible repeat (first | apply Kd.R_alloc | apply Kd.R_drewN | apply Kd.R_drew)); exact (Kd.R_mono (Kd.R_far (p := ⟨gb604, 2, none⟩) (Kd.R_far (p := ⟨gb604, 1, none⟩) (Kd.R_far (p := ⟨gb604, 0, none⟩) (Kd.R_types HO582.out BK604.out (by decide)) (fun _ hk => hk.2) (.int .i64 t600)) (fun _ hk => hk.2) (.int .i64 t601)) (fun _ hk => hk.2) (.int .i64 t602)) (fun _ h_ => h_.1))) hb); have n1_ := aM (Kd.R_below (by (with_reducible repeat (first | apply Kd.R_alloc | apply Kd.R_drewN | apply Kd.R_drew)); exact (Kd.R_mono (Kd.R_far (p := ⟨gb604, 2, none⟩) (Kd.R_far (p := ⟨gb604, 1, none⟩) (Kd.R_far (p := ⟨gb604, 0, none⟩) (Kd.R_types HO586.out BK604.out (by decide)) (fun _ hk => hk.2) (.int .i64 t600)) (fun _ hk => hk.2) (.int .i64 t601)) (fun _ hk => hk.2) (.int .i64 t602)) (fun _ h_ => h_.1))) hb); have n2_ := aM (blk_below (g := gb579) (o := .cells #[.int .i64 t576, .int .i64 t577, .int .i64 t578] 38 (0, 0)) (by (repeat (first|(with_reducible first|apply kN|apply kD|apply kA)|refine blk_far ?_ NB579_604.out _)); exact BK579.out) hb); have n3_ := aM (blk_below (g := gb593) (o := .cells #[.int .i64 t589, .int .i64 t590, .int .i64 t591] 38 (0, 0)) (by (repeat (first|(with_reducible first|apply kN|apply kD|apply kA)|refine blk_far ?_ NB593_604.out _)); exact BK593.out) hb); have n4_ := aM (blk_below (g := gb599) (o := .cells #[.int .i64 t595, .int .i64 t596, .int .i64 t597] 38 (0, 0)) (by (repeat (first|(with_reducible first|apply kN|apply kD|apply kA)|refine blk_far ?_ NB599_604.out _)); exact BK599.out) hb); have n5_ := aM (blk_below (g := gb604) (o := .cells #[.int .i64 t600, .int .i64 t601, .int .i64 t602] 38 (0, 0)) (by (with_reducible repeat (first|apply kN|apply kD|apply kA)); refine blk_put (cs := #[.int .i64 t600, .int .i64 t601, .int .i64 0]) ?_ 2 _ rfl; (with_reducible repeat (first|apply kN|apply kD|apply kA)); refine blk_put (cs := #[.int .i64 t600, .int .i64 0, .int .i64 0]) ?_ 1 _ rfl; (with_reducible repeat (first|apply kN|apply kD|apply kA)); refine blk_put (cs := #[.int .i64 0, .int .i64 0, .int .i64 0]) ?_ 0 _ rfl; (with_reducible repeat (first|apply kN|apply kD|apply kA)); exact BK604.out) hb); have n6_ := bS HB hb; clear HO582; clear HO586; clear BK579; clear BK593; clear BK599; clear BK604; clear HB; have HO582 := n0_; have HO586 := n1_; have BK579 := n2_; have BK593 := n3_; have BK599 := n4_; have BK604 := n5_; have HB := n6_; clear n0_ n1_ n2_ n3_ n4_ n5_ n6_; (try clear hb); have hnb117 := NB593_599.out; have hnc117 := NB599_593.out; have hnb118 := NB593_604.out; have hnc118 := NB604_593.out; obtain ⟨hcz119_0, hcz119_1, hcz119_2⟩ := z3 BK593; obtain ⟨hfz119_0, hfz119_1, hfz119_2⟩ := y3 BK593; obtain ⟨hcz120_0, hcz120_1, hcz120_2⟩ := z3 BK579; obtain ⟨hfz120_0, hfz120_1, hfz120_2⟩ := y3 BK579; have hnb121 := NB599_604.out; have hnc121 := NB604_599.out; obtain ⟨hcz122_0, hcz122_1, hcz122_2⟩ := z3 BK599; obtain ⟨hfz122_0, hfz122_1, hfz122_2⟩ := y3 BK599; obtain ⟨hcz123_0, hcz123_1, hcz123_2⟩ := z3 BK604; obtain ⟨hfz123_0, hfz123_1, hfz123_2⟩ := y3 BK604))
            go_meet
            case rel => exact ⟨_, (false), (by first | rfl | (simp; done) | (simp [*]; done)), H', ⟨by first | omega | exact Nat.le_refl _⟩, ⟨by (with_reducible repeat (first | apply Kd.R_alloc | apply Kd.R_drewN | apply Kd.R_drew)); exact Kd.R_mono HO582.out (fun _ hk => trivial)⟩, ⟨by (with_reducible repeat (first|apply kN|apply kD|apply kA)); exact BK579.out⟩, ⟨by (with_reducible repeat (first|apply kN|apply kD|apply kA)); exact BK593.out⟩, ⟨by (with_reducible repeat (first|apply kN|apply kD|apply kA)); exact BK599.out⟩, ⟨by (with_reducible repeat (first|apply kN|apply kD|apply kA)); exact BK604.out⟩, ⟨by repeat (first | (with_reducible first | exact HB.out | apply bA|apply bN|apply b1 | refine below_set ?_ (Aside0.out (by assumption))) | exact HB.out)⟩⟩
       ·replace c50 := Bool.eq_false_iff.mpr c50
        subst c50
        have cE2 : t588.toList = ([] : List UInt8) := by generalize t588.toList = z_ at c42b0; cases z_ with | nil => rfl | cons _ _ => exact absurd c42b0 (fun h_ => by cases h_)
        have cE3 : t606.toList = ([] : List UInt8) := ((beq_iff_eq.mp c41b0).symm.trans cE2)
        have cE4 : t606.toList.isEmpty = true := by rw [cE3]; rfl
        have cE0 : t588.toList.isEmpty = true := by rw [cE2]; rfl
        have cE1 : (t588.toList == ([] : List UInt8)) = true := by rw [cE2]; rfl
        have H1 : (if (!(t595 == t600) || (!(t596 == t601) || (!(t597 == t602)))) = true then (laws_FnCells.j0 k t580 t583 true t576 t577 t578) else (if (t598 != t603) = true then (laws_FnCells.j0 k t580 t583 true t576 t577 t578) else (if t598 = true then ((impl_LatticeText.f k t595 t596 t597).bind fun t608 => (laws_FnCells.j0 k t580 t583 (t608.toList != t594.toList) t576 t577 t578)) else (laws_FnCells.j0 k t580 t583 false t576 t577 t578)))) = some true := by rw [if_neg (show ¬ (false = true) by decide)] at H; exact H
        clear H
        have H := H1
        clear H1
        by_cases c124 : (!(t595 == t600) || (!(t596 == t601) || (!(t597 == t602)))) = true
        ·rw [if_pos c124] at H
         exact absurd H (by cases k <;> simp [laws_FnCells.j0])
        ·rw [if_neg c124] at H
         have c124b0 : (!(t595 == t600) || (!(t596 == t601) || (!(t597 == t602)))) = false := by simpa using c124
         clear c124
         by_cases c137 : (t598 != t603) = true
         ·rw [if_pos c137] at H
          exact absurd H (by cases k <;> simp [laws_FnCells.j0])
         ·rw [if_neg c137] at H
          have c137b0 : (t598 != t603) = false := by simpa using c137
          (try (have c137b1 : decide (t598 = t603) = true := by simpa using c137))
          (try (have c137b2 : (t598 == t603) = true := by simpa using c137))
          clear c137
          by_cases c150 : t598 = true
          ·subst c150
           have H1 : ((impl_LatticeText.f k t595 t596 t597).bind fun t608 => (laws_FnCells.j0 k t580 t583 (t608.toList != t594.toList) t576 t577 t578)) = some true := by rw [if_pos rfl] at H; exact H
           clear H
           have H := H1
           clear H1
           replace H := Option.bind_eq_some_iff.mp H
           obtain ⟨t608, A1510, H⟩ := H
           try dsimp only at H
           have A151 := aM A1510
           clear A1510
           have H' := aM H
           clear H
           obtain ⟨Ao152, co152, eo152⟩ := Kd.R_slice HO582.out
           subst eo152
           obtain ⟨Ao153, co153, eo153⟩ := Kd.R_slice HO586.out
           subst eo153
           go_wp2_with (first | (go_at_call 28; (with_reducible refine (laws_likeVecs9.calls k _ _ t580 _ _ t584 true _ ?side1 ?side2 ?side3 ?side4 A38.out).mono ?_); (case side1 => refine (Kd.R_reads' (e := 31) (base := w.heap.size) (ok := fun k_ => (True ∧ some k_ ≠ (.slice Ao153 t584.length co153 : Value).ownBlock)) (n := t580.length) (c := co152) ?_).2.2; exact (by (with_reducible repeat (first | apply Kd.R_alloc | apply Kd.R_drewN | apply Kd.R_drew)); exact (Kd.R_mono (Kd.R_far (p := ⟨gb604, 2, none⟩) (Kd.R_far (p := ⟨gb604, 1, none⟩) (Kd.R_far (p := ⟨gb604, 0, none⟩) (Kd.R_types HO582.out BK604.out (by decide)) (fun _ hk => hk.2) (.int .i64 t600)) (fun _ hk => hk.2) (.int .i64 t601)) (fun _ hk => hk.2) (.int .i64 t602)) (fun _ h_ => h_.1)))); (case side2 => exact (Kd.R_reads' HO582.out).2.1); (case side3 => refine (Kd.R_reads' (e := 31) (base := w.heap.size) (ok := fun k_ => (True ∧ some k_ ≠ (.slice Ao152 t580.length co152 : Value).ownBlock)) (n := t584.length) (c := co153) ?_).2.2; exact (by (with_reducible repeat (first | apply Kd.R_alloc | apply Kd.R_drewN | apply Kd.R_drew)); exact (Kd.R_mono (Kd.R_far (p := ⟨gb604, 2, none⟩) (Kd.R_far (p := ⟨gb604, 1, none⟩) (Kd.R_far (p := ⟨gb604, 0, none⟩) (Kd.R_types HO586.out BK604.out (by decide)) (fun _ hk => hk.2) (.int .i64 t600)) (fun _ hk => hk.2) (.int .i64 t601)) (fun _ hk => hk.2) (.int .i64 t602)) (fun _ h_ => h_.1)))); (case side4 => exact (Kd.R_reads' HO586.out).2.1); rintro e w' ⟨rfl, ⟨nd, rfl⟩⟩; have hnb154 := NB579_593.out; have hnc154 := NB593_579.out; have hnb155 := NB579_599.out; have hnc155 := NB599_579.out; have hnb156 := NB579_604.out; have hnc156 := NB604_579.out; obtain ⟨hcz157_0, hcz157_1, hcz157_2⟩ := z3 BK579; obtain ⟨hfz157_0, hfz157_1, hfz157_2⟩ := y3 BK579) | (go_at_call 29; (with_reducible refine (spec_LatticeText.calls k t576 t577 t578 t606 _ A40.out).mono ?_); rintro e w158 ⟨rfl, hb⟩; have n0_ := aM (Kd.R_below (by (with_reducible repeat (first | apply Kd.R_alloc | apply Kd.R_drewN | apply Kd.R_drew)); exact (Kd.R_mono (Kd.R_far (p := ⟨gb604, 2, none⟩) (Kd.R_far (p := ⟨gb604, 1, none⟩) (Kd.R_far (p := ⟨gb604, 0, none⟩) (Kd.R_types HO582.out BK604.out (by decide)) (fun _ hk => hk.2) (.int .i64 t600)) (fun _ hk => hk.2) (.int .i64 t601)) (fun _ hk => hk.2) (.int .i64 t602)) (fun _ h_ => h_.1))) hb); have n1_ := aM (Kd.R_below (by (with_reducible repeat (first | apply Kd.R_alloc | apply Kd.R_drewN | apply Kd.R_drew)); exact (Kd.R_mono (Kd.R_far (p := ⟨gb604, 2, none⟩) (Kd.R_far (p := ⟨gb604, 1, none⟩) (Kd.R_far (p := ⟨gb604, 0, none⟩) (Kd.R_types HO586.out BK604.out (by decide)) (fun _ hk => hk.2) (.int .i64 t600)) (fun _ hk => hk.2) (.int .i64 t601)) (fun _ hk => hk.2) (.int .i64 t602)) (fun _ h_ => h_.1))) hb); have n2_ := aM (blk_below (g := gb579) (o := .cells #[.int .i64 t576, .int .i64 t577, .int .i64 t578] 38 (0, 0)) (by (repeat (first|(with_reducible first|apply kN|apply kD|apply kA)|refine blk_far ?_ NB579_604.out _)); exact BK579.out) hb); have n3_ := aM (blk_below (g := gb593) (o := .cells #[.int .i64 t589, .int .i64 t590, .int .i64 t591] 38 (0, 0)) (by (repeat (first|(with_reducible first|apply kN|apply kD|apply kA)|refine blk_far ?_ NB593_604.out _)); exact BK593.out) hb); have n4_ := aM (blk_below (g := gb599) (o := .cells #[.int .i64 t595, .int .i64 t596, .int .i64 t597] 38 (0, 0)) (by (repeat (first|(with_reducible first|apply kN|apply kD|apply kA)|refine blk_far ?_ NB599_604.out _)); exact BK599.out) hb); have n5_ := aM (blk_below (g := gb604) (o := .cells #[.int .i64 t600, .int .i64 t601, .int .i64 t602] 38 (0, 0)) (by (with_reducible repeat (first|apply kN|apply kD|apply kA)); refine blk_put (cs := #[.int .i64 t600, .int .i64 t601, .int .i64 0]) ?_ 2 _ rfl; (with_reducible repeat (first|apply kN|apply kD|apply kA)); refine blk_put (cs := #[.int .i64 t600, .int .i64 0, .int .i64 0]) ?_ 1 _ rfl; (with_reducible repeat (first|apply kN|apply kD|apply kA)); refine blk_put (cs := #[.int .i64 0, .int .i64 0, .int .i64 0]) ?_ 0 _ rfl; (with_reducible repeat (first|apply kN|apply kD|apply kA)); exact BK604.out) hb); have n6_ := bS HB hb; clear HO582; clear HO586; clear BK579; clear BK593; clear BK599; clear BK604; clear HB; have HO582 := n0_; have HO586 := n1_; have BK579 := n2_; have BK593 := n3_; have BK599 := n4_; have BK604 := n5_; have HB := n6_; clear n0_ n1_ n2_ n3_ n4_ n5_ n6_; (try clear hb); have hnb159 := NB599_593.out; have hnc159 := NB593_599.out; have hnb160 := NB599_604.out; have hnc160 := NB604_599.out; obtain ⟨hcz161_0, hcz161_1, hcz161_2⟩ := z3 BK599; obtain ⟨hfz161_0, hfz161_1, hfz161_2⟩ := y3 BK599; have hnb162 := NB604_593.out; have hnc162 := NB593_604.out; obtain ⟨hcz163_0, hcz163_1, hcz163_2⟩ := z3 BK604; obtain ⟨hfz163_0, hfz163_1, hfz163_2⟩ := y3 BK604) | (go_at_call 24; (with_reducible refine (impl_LatticeText.calls k t595 t596 t597 t608 _ (TB_below TRw.tb (by repeat (first | (with_reducible first | exact HB.out | apply bA|apply bN|apply b1 | refine below_set ?_ (Aside0.out (by assumption))) | exact HB.out))) A151.out).mono ?_); rintro e w164 ⟨rfl, hb⟩; have n0_ := aM (Kd.R_below (by (with_reducible repeat (first | apply Kd.R_alloc | apply Kd.R_drewN | apply Kd.R_drew)); exact HO582.out) hb); have n1_ := aM (Kd.R_below (by (with_reducible repeat (first | apply Kd.R_alloc | apply Kd.R_drewN | apply Kd.R_drew)); exact HO586.out) hb); have n2_ := bB BK579 hb; have n3_ := bB BK593 hb; have n4_ := bB BK599 hb; have n5_ := bB BK604 hb; have n6_ := bS HB hb; clear HO582; clear HO586; clear BK579; clear BK593; clear BK599; clear BK604; clear HB; have HO582 := n0_; have HO586 := n1_; have BK579 := n2_; have BK593 := n3_; have BK599 := n4_; have BK604 := n5_; have HB := n6_; clear n0_ n1_ n2_ n3_ n4_ n5_ n6_; (try clear hb)))
           go_meet
           case rel => exact ⟨_, ((t608.toList != t594.toList)), (by first | rfl | (simp; done) | (simp [*]; done)), H', ⟨by first | omega | exact Nat.le_refl _⟩, ⟨by (with_reducible repeat (first | apply Kd.R_alloc | apply Kd.R_drewN | apply Kd.R_drew)); exact Kd.R_mono HO582.out (fun _ hk => trivial)⟩, ⟨by (with_reducible repeat (first|apply kN|apply kD|apply kA)); exact BK579.out⟩, ⟨by (with_reducible repeat (first|apply kN|apply kD|apply kA)); exact BK593.out⟩, ⟨by (with_reducible repeat (first|apply kN|apply kD|apply kA)); exact BK599.out⟩, ⟨by (with_reducible repeat (first|apply kN|apply kD|apply kA)); exact BK604.out⟩, ⟨by repeat (first | (with_reducible first | exact HB.out | apply bA|apply bN|apply b1 | refine below_set ?_ (Aside0.out (by assumption))) | exact HB.out)⟩⟩
          ·replace c150 := Bool.eq_false_iff.mpr c150
           subst c150
           have H1 : (laws_FnCells.j0 k t580 t583 false t576 t577 t578) = some true := by rw [if_neg (show ¬ (false = true) by decide)] at H; exact H
           clear H
           have H := H1
           clear H1
           have H' := aM H
           clear H
           obtain ⟨Ao165, co165, eo165⟩ := Kd.R_slice HO582.out
           subst eo165
           obtain ⟨Ao166, co166, eo166⟩ := Kd.R_slice HO586.out
           subst eo166
           go_wp2_with (first | (go_at_call 28; (with_reducible refine (laws_likeVecs9.calls k _ _ t580 _ _ t584 true _ ?side1 ?side2 ?side3 ?side4 A38.out).mono ?_); (case side1 => refine (Kd.R_reads' (e := 31) (base := w.heap.size) (ok := fun k_ => (True ∧ some k_ ≠ (.slice Ao166 t584.length co166 : Value).ownBlock)) (n := t580.length) (c := co165) ?_).2.2; exact (by (with_reducible repeat (first | apply Kd.R_alloc | apply Kd.R_drewN | apply Kd.R_drew)); exact (Kd.R_mono (Kd.R_far (p := ⟨gb604, 2, none⟩) (Kd.R_far (p := ⟨gb604, 1, none⟩) (Kd.R_far (p := ⟨gb604, 0, none⟩) (Kd.R_types HO582.out BK604.out (by decide)) (fun _ hk => hk.2) (.int .i64 t600)) (fun _ hk => hk.2) (.int .i64 t601)) (fun _ hk => hk.2) (.int .i64 t602)) (fun _ h_ => h_.1)))); (case side2 => exact (Kd.R_reads' HO582.out).2.1); (case side3 => refine (Kd.R_reads' (e := 31) (base := w.heap.size) (ok := fun k_ => (True ∧ some k_ ≠ (.slice Ao165 t580.length co165 : Value).ownBlock)) (n := t584.length) (c := co166) ?_).2.2; exact (by (with_reducible repeat (first | apply Kd.R_alloc | apply Kd.R_drewN | apply Kd.R_drew)); exact (Kd.R_mono (Kd.R_far (p := ⟨gb604, 2, none⟩) (Kd.R_far (p := ⟨gb604, 1, none⟩) (Kd.R_far (p := ⟨gb604, 0, none⟩) (Kd.R_types HO586.out BK604.out (by decide)) (fun _ hk => hk.2) (.int .i64 t600)) (fun _ hk => hk.2) (.int .i64 t601)) (fun _ hk => hk.2) (.int .i64 t602)) (fun _ h_ => h_.1)))); (case side4 => exact (Kd.R_reads' HO586.out).2.1); rintro e w' ⟨rfl, ⟨nd, rfl⟩⟩; have hnb167 := NB579_593.out; have hnc167 := NB593_579.out; have hnb168 := NB579_599.out; have hnc168 := NB599_579.out; have hnb169 := NB579_604.out; have hnc169 := NB604_579.out; obtain ⟨hcz170_0, hcz170_1, hcz170_2⟩ := z3 BK579; obtain ⟨hfz170_0, hfz170_1, hfz170_2⟩ := y3 BK579) | (go_at_call 29; (with_reducible refine (spec_LatticeText.calls k t576 t577 t578 t606 _ A40.out).mono ?_); rintro e w171 ⟨rfl, hb⟩; have n0_ := aM (Kd.R_below (by (with_reducible repeat (first | apply Kd.R_alloc | apply Kd.R_drewN | apply Kd.R_drew)); exact (Kd.R_mono (Kd.R_far (p := ⟨gb604, 2, none⟩) (Kd.R_far (p := ⟨gb604, 1, none⟩) (Kd.R_far (p := ⟨gb604, 0, none⟩) (Kd.R_types HO582.out BK604.out (by decide)) (fun _ hk => hk.2) (.int .i64 t600)) (fun _ hk => hk.2) (.int .i64 t601)) (fun _ hk => hk.2) (.int .i64 t602)) (fun _ h_ => h_.1))) hb); have n1_ := aM (Kd.R_below (by (with_reducible repeat (first | apply Kd.R_alloc | apply Kd.R_drewN | apply Kd.R_drew)); exact (Kd.R_mono (Kd.R_far (p := ⟨gb604, 2, none⟩) (Kd.R_far (p := ⟨gb604, 1, none⟩) (Kd.R_far (p := ⟨gb604, 0, none⟩) (Kd.R_types HO586.out BK604.out (by decide)) (fun _ hk => hk.2) (.int .i64 t600)) (fun _ hk => hk.2) (.int .i64 t601)) (fun _ hk => hk.2) (.int .i64 t602)) (fun _ h_ => h_.1))) hb); have n2_ := aM (blk_below (g := gb579) (o := .cells #[.int .i64 t576, .int .i64 t577, .int .i64 t578] 38 (0, 0)) (by (repeat (first|(with_reducible first|apply kN|apply kD|apply kA)|refine blk_far ?_ NB579_604.out _)); exact BK579.out) hb); have n3_ := aM (blk_below (g := gb593) (o := .cells #[.int .i64 t589, .int .i64 t590, .int .i64 t591] 38 (0, 0)) (by (repeat (first|(with_reducible first|apply kN|apply kD|apply kA)|refine blk_far ?_ NB593_604.out _)); exact BK593.out) hb); have n4_ := aM (blk_below (g := gb599) (o := .cells #[.int .i64 t595, .int .i64 t596, .int .i64 t597] 38 (0, 0)) (by (repeat (first|(with_reducible first|apply kN|apply kD|apply kA)|refine blk_far ?_ NB599_604.out _)); exact BK599.out) hb); have n5_ := aM (blk_below (g := gb604) (o := .cells #[.int .i64 t600, .int .i64 t601, .int .i64 t602] 38 (0, 0)) (by (with_reducible repeat (first|apply kN|apply kD|apply kA)); refine blk_put (cs := #[.int .i64 t600, .int .i64 t601, .int .i64 0]) ?_ 2 _ rfl; (with_reducible repeat (first|apply kN|apply kD|apply kA)); refine blk_put (cs := #[.int .i64 t600, .int .i64 0, .int .i64 0]) ?_ 1 _ rfl; (with_reducible repeat (first|apply kN|apply kD|apply kA)); refine blk_put (cs := #[.int .i64 0, .int .i64 0, .int .i64 0]) ?_ 0 _ rfl; (with_reducible repeat (first|apply kN|apply kD|apply kA)); exact BK604.out) hb); have n6_ := bS HB hb; clear HO582; clear HO586; clear BK579; clear BK593; clear BK599; clear BK604; clear HB; have HO582 := n0_; have HO586 := n1_; have BK579 := n2_; have BK593 := n3_; have BK599 := n4_; have BK604 := n5_; have HB := n6_; clear n0_ n1_ n2_ n3_ n4_ n5_ n6_; (try clear hb); have hnb172 := NB599_593.out; have hnc172 := NB593_599.out; have hnb173 := NB599_604.out; have hnc173 := NB604_599.out; obtain ⟨hcz174_0, hcz174_1, hcz174_2⟩ := z3 BK599; obtain ⟨hfz174_0, hfz174_1, hfz174_2⟩ := y3 BK599; have hnb175 := NB604_593.out; have hnc175 := NB593_604.out; obtain ⟨hcz176_0, hcz176_1, hcz176_2⟩ := z3 BK604; obtain ⟨hfz176_0, hfz176_1, hfz176_2⟩ := y3 BK604))
           go_meet
           case rel => exact ⟨_, (false), (by first | rfl | (simp; done) | (simp [*]; done)), H', ⟨by first | omega | exact Nat.le_refl _⟩, ⟨by (with_reducible repeat (first | apply Kd.R_alloc | apply Kd.R_drewN | apply Kd.R_drew)); exact Kd.R_mono HO582.out (fun _ hk => trivial)⟩, ⟨by (with_reducible repeat (first|apply kN|apply kD|apply kA)); exact BK579.out⟩, ⟨by (with_reducible repeat (first|apply kN|apply kD|apply kA)); exact BK593.out⟩, ⟨by (with_reducible repeat (first|apply kN|apply kD|apply kA)); exact BK599.out⟩, ⟨by (with_reducible repeat (first|apply kN|apply kD|apply kA)); exact BK604.out⟩, ⟨by repeat (first | (with_reducible first | exact HB.out | apply bA|apply bN|apply b1 | refine below_set ?_ (Aside0.out (by assumption))) | exact HB.out)⟩⟩
     ·rw [if_neg c41] at H
      exact absurd H (by cases k <;> simp [laws_FnCells.j0])
    ·replace c39 := Bool.eq_false_iff.mpr c39
     subst c39
     have H1 : (laws_FnCells.j0 k t580 t583 true t576 t577 t578) = some true := by rw [if_neg (show ¬ (false = true) by decide)] at H; exact H
     clear H
     have H := H1
     clear H1
     have H' := aM H
     clear H
     obtain ⟨Ao184, co184, eo184⟩ := Kd.R_slice HO582.out
     subst eo184
     obtain ⟨Ao185, co185, eo185⟩ := Kd.R_slice HO586.out
     subst eo185
     go_wp2_with (first | (go_at_call 28; (with_reducible refine (laws_likeVecs9.calls k _ _ t580 _ _ t584 false _ ?side1 ?side2 ?side3 ?side4 A38.out).mono ?_); (case side1 => refine (Kd.R_reads' (e := 31) (base := w.heap.size) (ok := fun k_ => (True ∧ some k_ ≠ (.slice Ao185 t584.length co185 : Value).ownBlock)) (n := t580.length) (c := co184) ?_).2.2; exact (by (with_reducible repeat (first | apply Kd.R_alloc | apply Kd.R_drewN | apply Kd.R_drew)); exact (Kd.R_mono (Kd.R_far (p := ⟨gb604, 2, none⟩) (Kd.R_far (p := ⟨gb604, 1, none⟩) (Kd.R_far (p := ⟨gb604, 0, none⟩) (Kd.R_types HO582.out BK604.out (by decide)) (fun _ hk => hk.2) (.int .i64 t600)) (fun _ hk => hk.2) (.int .i64 t601)) (fun _ hk => hk.2) (.int .i64 t602)) (fun _ h_ => h_.1)))); (case side2 => exact (Kd.R_reads' HO582.out).2.1); (case side3 => refine (Kd.R_reads' (e := 31) (base := w.heap.size) (ok := fun k_ => (True ∧ some k_ ≠ (.slice Ao184 t580.length co184 : Value).ownBlock)) (n := t584.length) (c := co185) ?_).2.2; exact (by (with_reducible repeat (first | apply Kd.R_alloc | apply Kd.R_drewN | apply Kd.R_drew)); exact (Kd.R_mono (Kd.R_far (p := ⟨gb604, 2, none⟩) (Kd.R_far (p := ⟨gb604, 1, none⟩) (Kd.R_far (p := ⟨gb604, 0, none⟩) (Kd.R_types HO586.out BK604.out (by decide)) (fun _ hk => hk.2) (.int .i64 t600)) (fun _ hk => hk.2) (.int .i64 t601)) (fun _ hk => hk.2) (.int .i64 t602)) (fun _ h_ => h_.1)))); (case side4 => exact (Kd.R_reads' HO586.out).2.1); rintro e w' ⟨rfl, ⟨nd, rfl⟩⟩))
     go_meet
     case rel => exact ⟨_, (true), (by first | rfl | (simp; done) | (simp [*]; done)), H', ⟨by first | omega | exact Nat.le_refl _⟩, ⟨by (with_reducible repeat (first | apply Kd.R_alloc | apply Kd.R_drewN | apply Kd.R_drew)); exact Kd.R_mono (Kd.R_far (p := ⟨gb604, 2, none⟩) (Kd.R_far (p := ⟨gb604, 1, none⟩) (Kd.R_far (p := ⟨gb604, 0, none⟩) (Kd.R_types HO582.out BK604.out (by decide)) (fun _ hk => hk.2) (.int .i64 t600)) (fun _ hk => hk.2) (.int .i64 t601)) (fun _ hk => hk.2) (.int .i64 t602)) (fun _ hk => trivial)⟩, ⟨by (repeat (first|(with_reducible first|apply kN|apply kD|apply kA)|refine blk_far ?_ NB579_604.out _)); exact BK579.out⟩, ⟨by (repeat (first|(with_reducible first|apply kN|apply kD|apply kA)|refine blk_far ?_ NB593_604.out _)); exact BK593.out⟩, ⟨by (repeat (first|(with_reducible first|apply kN|apply kD|apply kA)|refine blk_far ?_ NB599_604.out _)); exact BK599.out⟩, ⟨by (with_reducible repeat (first|apply kN|apply kD|apply kA)); refine blk_put (cs := #[.int .i64 t600, .int .i64 t601, .int .i64 0]) ?_ 2 _ rfl; (with_reducible repeat (first|apply kN|apply kD|apply kA)); refine blk_put (cs := #[.int .i64 t600, .int .i64 0, .int .i64 0]) ?_ 1 _ rfl; (with_reducible repeat (first|apply kN|apply kD|apply kA)); refine blk_put (cs := #[.int .i64 0, .int .i64 0, .int .i64 0]) ?_ 0 _ rfl; (with_reducible repeat (first|apply kN|apply kD|apply kA)); exact BK604.out⟩, ⟨by repeat (first | (with_reducible first | exact HB.out | apply bA|apply bN|apply b1 | refine below_set ?_ (Aside0.out (by assumption))) | exact HB.out)⟩⟩
   ·rw [if_neg c37] at H
    exact absurd H (by cases k <;> simp [laws_FnCells.j0])
  case rest =>
   clear HC12
   try clear c1
   try clear c2
   try clear p2
   try clear c3
   try clear c4
   try clear c5
   try clear c6
   try clear c7
   try clear c8
   try clear c9
   try clear c10
   try clear c11
   try clear c12
   try clear c13
   try clear c14
   try clear c15
   try clear c16
   try clear c17
   try clear c18
   try clear c21
   try clear c22
   try clear c23
   try clear c24
   try clear c25
   try clear c26
   try clear c27
   try clear c28
   try clear c29
   try clear c33
   try clear c34
   try clear c35
   try clear c37
   try clear c37b0
   try clear c37b1
   try clear c39
   try clear c41
   try clear c41b0
   try clear c41b1
   try clear c42
   try clear c42b0
   try clear c42b1
   try clear c42b2
   try clear c45
   try clear c46
   try clear c47
   try clear c50
   try clear c51
   try clear c51b0
   try clear c54
   try clear c55
   try clear c56
   try clear c59
   try clear c60
   try clear c63
   try clear c63b0
   try clear c66
   try clear c67
   try clear c68
   try clear c71
   try clear c72
   try clear c75
   try clear c78
   try clear c78b0
   try clear c78b1
   try clear c78b2
   try clear c81
   try clear c82
   try clear c83
   try clear c86
   try clear c87
   try clear c90
   try clear c93
   try clear c97
   try clear c98
   try clear c99
   try clear c102
   try clear c103
   try clear c106
   try clear c112
   try clear c113
   try clear c114
   try clear c117
   try clear c118
   try clear c121
   try clear c124
   try clear c124b0
   try clear c127
   try clear c128
   try clear c129
   try clear c132
   try clear c133
   try clear c135
   try clear c137
   try clear c137b0
   try clear c137b1
   try clear c137b2
   try clear c140
   try clear c141
   try clear c142
   try clear c145
   try clear c146
   try clear c148
   try clear c150
   try clear c154
   try clear c155
   try clear c156
   try clear c159
   try clear c160
   try clear c162
   try clear c167
   try clear c168
   try clear c169
   try clear c172
   try clear c173
   try clear c175
   try clear c179
   try clear c180
   try clear c181
   try clear hcz100_0
   try clear hcz100_1
   try clear hcz100_2
   try clear hcz104_0
   try clear hcz104_1
   try clear hcz104_2
   try clear hcz105_0
   try clear hcz105_1
   try clear hcz105_2
   try clear hcz107_0
   try clear hcz107_1
   try clear hcz107_2
   try clear hcz108_0
   try clear hcz108_1
   try clear hcz108_2
   try clear hcz115_0
   try clear hcz115_1
   try clear hcz115_2
   try clear hcz119_0
   try clear hcz119_1
   try clear hcz119_2
   try clear hcz120_0
   try clear hcz120_1
   try clear hcz120_2
   try clear hcz122_0
   try clear hcz122_1
   try clear hcz122_2
   try clear hcz123_0
   try clear hcz123_1
   try clear hcz123_2
   try clear hcz130_0
   try clear hcz130_1
   try clear hcz130_2
   try clear hcz134_0
   try clear hcz134_1
   try clear hcz134_2
   try clear hcz136_0
   try clear hcz136_1
   try clear hcz136_2
   try clear hcz143_0
   try clear hcz143_1
   try clear hcz143_2
   try clear hcz147_0
   try clear hcz147_1
   try clear hcz147_2
   try clear hcz149_0
   try clear hcz149_1
   try clear hcz149_2
   try clear hcz157_0
   try clear hcz157_1
   try clear hcz157_2
   try clear hcz15_0
   try clear hcz15_1
   try clear hcz15_2
   try clear hcz161_0
   try clear hcz161_1
   try clear hcz161_2
   try clear hcz163_0
   try clear hcz163_1
   try clear hcz163_2
   try clear hcz170_0
   try clear hcz170_1
   try clear hcz170_2
   try clear hcz174_0
   try clear hcz174_1
   try clear hcz174_2
   try clear hcz176_0
   try clear hcz176_1
   try clear hcz176_2
   try clear hcz17_0
   try clear hcz17_1
   try clear hcz17_2
   try clear hcz182_0
   try clear hcz182_1
   try clear hcz182_2
   try clear hcz19_0
   try clear hcz19_1
   try clear hcz19_2
   try clear hcz24_0
   try clear hcz24_1
   try clear hcz24_2
   try clear hcz30_0
   try clear hcz30_1
   try clear hcz30_2
   try clear hcz36_0
   try clear hcz36_1
   try clear hcz36_2
   try clear hcz48_0
   try clear hcz48_1
   try clear hcz48_2
   try clear hcz57_0
   try clear hcz57_1
   try clear hcz57_2
   try clear hcz61_0
   try clear hcz61_1
   try clear hcz61_2
   try clear hcz62_0
   try clear hcz62_1
   try clear hcz62_2
   try clear hcz69_0
   try clear hcz69_1
   try clear hcz69_2
   try clear hcz73_0
   try clear hcz73_1
   try clear hcz73_2
   try clear hcz74_0
   try clear hcz74_1
   try clear hcz74_2
   try clear hcz76_0
   try clear hcz76_1
   try clear hcz76_2
   try clear hcz77_0
   try clear hcz77_1
   try clear hcz77_2
   try clear hcz84_0
   try clear hcz84_1
   try clear hcz84_2
   try clear hcz88_0
   try clear hcz88_1
   try clear hcz88_2
   try clear hcz89_0
   try clear hcz89_1
   try clear hcz89_2
   try clear hcz91_0
   try clear hcz91_1
   try clear hcz91_2
   try clear hcz92_0
   try clear hcz92_1
   try clear hcz92_2
   try clear hfz100_0
   try clear hfz100_1
   try clear hfz100_2
   try clear hfz104_0
   try clear hfz104_1
   try clear hfz104_2
   try clear hfz105_0
   try clear hfz105_1
   try clear hfz105_2
   try clear hfz107_0
   try clear hfz107_1
   try clear hfz107_2
   try clear hfz108_0
   try clear hfz108_1
   try clear hfz108_2
   try clear hfz115_0
   try clear hfz115_1
   try clear hfz115_2
   try clear hfz119_0
   try clear hfz119_1
   try clear hfz119_2
   try clear hfz120_0
   try clear hfz120_1
   try clear hfz120_2
   try clear hfz122_0
   try clear hfz122_1
   try clear hfz122_2
   try clear hfz123_0
   try clear hfz123_1
   try clear hfz123_2
   try clear hfz130_0
   try clear hfz130_1
   try clear hfz130_2
   try clear hfz134_0
   try clear hfz134_1
   try clear hfz134_2
   try clear hfz136_0
   try clear hfz136_1
   try clear hfz136_2
   try clear hfz143_0
   try clear hfz143_1
   try clear hfz143_2
   try clear hfz147_0
   try clear hfz147_1
   try clear hfz147_2
   try clear hfz149_0
   try clear hfz149_1
   try clear hfz149_2
   try clear hfz157_0
   try clear hfz157_1
   try clear hfz157_2
   try clear hfz15_0
   try clear hfz15_1
   try clear hfz15_2
   try clear hfz161_0
   try clear hfz161_1
   try clear hfz161_2
   try clear hfz163_0
   try clear hfz163_1
   try clear hfz163_2
   try clear hfz170_0
   try clear hfz170_1
   try clear hfz170_2
   try clear hfz174_0
   try clear hfz174_1
   try clear hfz174_2
   try clear hfz176_0
   try clear hfz176_1
   try clear hfz176_2
   try clear hfz17_0
   try clear hfz17_1
   try clear hfz17_2
   try clear hfz182_0
   try clear hfz182_1
   try clear hfz182_2
   try clear hfz19_0
   try clear hfz19_1
   try clear hfz19_2
   try clear hfz24_0
   try clear hfz24_1
   try clear hfz24_2
   try clear hfz30_0
   try clear hfz30_1
   try clear hfz30_2
   try clear hfz36_0
   try clear hfz36_1
   try clear hfz36_2
   try clear hfz48_0
   try clear hfz48_1
   try clear hfz48_2
   try clear hfz57_0
   try clear hfz57_1
   try clear hfz57_2
   try clear hfz61_0
   try clear hfz61_1
   try clear hfz61_2
   try clear hfz62_0
   try clear hfz62_1
   try clear hfz62_2
   try clear hfz69_0
   try clear hfz69_1
   try clear hfz69_2
   try clear hfz73_0
   try clear hfz73_1
   try clear hfz73_2
   try clear hfz74_0
   try clear hfz74_1
   try clear hfz74_2
   try clear hfz76_0
   try clear hfz76_1
   try clear hfz76_2
   try clear hfz77_0
   try clear hfz77_1
   try clear hfz77_2
   try clear hfz84_0
   try clear hfz84_1
   try clear hfz84_2
   try clear hfz88_0
   try clear hfz88_1
   try clear hfz88_2
   try clear hfz89_0
   try clear hfz89_1
   try clear hfz89_2
   try clear hfz91_0
   try clear hfz91_1
   try clear hfz91_2
   try clear hfz92_0
   try clear hfz92_1
   try clear hfz92_2
   obtain ⟨kq, x101_11, rfl, HA, HJ11, HO_4, BK579, BK593, BK599, BK604, HB⟩ := hcut
   cases kq with
   | zero => exact absurd HA.out (by simp [laws_FnCells.j0])
   | succ kj11 =>
    have H := HA.out
    clear HA
    simp only [laws_FnCells.j0] at H
    by_cases c186 : x101_11 = true
    ·subst c186
     have H1 : (some false) = some true := by rw [if_pos rfl] at H; exact H
     clear H
     have H := H1
     clear H1
     exact absurd (Option.some.inj H) (by decide)
    ·replace c186 := Bool.eq_false_iff.mpr c186
     subst c186
     have H1 : (if t583 = 0 then (laws_FnCells.l0 kj11 t580 0 t576 t577 t578) else (some true)) = some true := by rw [if_neg (show ¬ (false = true) by decide)] at H; exact H
     clear H
     have H := H1
     clear H1
     by_cases c187 : t583 = 0
     ·rw [if_pos c187] at H
      have c187b0 : (t583 == 0) = true := beq_iff_eq.mpr c187
      have c187b1 : (t583 != 0) = false := bne_eq_false_iff_eq.mpr c187
      clear c187
      have H' := aM H
      clear H
      go_wp2
      go_loopg [16] kj11 (fun kq v16 w' => ∃ (x16_2 : Int), v16 = .int .i64 x16_2 ∧ Aside0 (laws_FnCells.l0 kq t580 x16_2 t576 t577 t578 = some true) ∧ Aside0 (kq ≤ kj11) ∧ Aside0 (Kd.R k31 31 w' w.heap.size (fun _ => True) v581 t580) ∧ Aside0 (w'.heap[gb579]? = some (.cells #[.int .i64 t576, .int .i64 t577, .int .i64 t578] 38 (0, 0))) ∧ Aside0 (w'.heap[gb593]? = some (.cells #[.int .i64 t589, .int .i64 t590, .int .i64 t591] 38 (0, 0))) ∧ Aside0 (w'.heap[gb599]? = some (.cells #[.int .i64 t595, .int .i64 t596, .int .i64 t597] 38 (0, 0))) ∧ Aside0 (w'.heap[gb604]? = some (.cells #[.int .i64 t600, .int .i64 t601, .int .i64 t602] 38 (0, 0))) ∧ Aside0 (Below w.heap.size w w'))
      case atStart => exact ⟨(0), (by first | rfl | (simp; done) | (simp [*]; done)), H', ⟨Nat.le_refl _⟩, ⟨by (with_reducible repeat (first | apply Kd.R_alloc | apply Kd.R_drewN | apply Kd.R_drew)); exact HO_4.out⟩, ⟨by (with_reducible repeat (first|apply kN|apply kD|apply kA)); exact BK579.out⟩, ⟨by (with_reducible repeat (first|apply kN|apply kD|apply kA)); exact BK593.out⟩, ⟨by (with_reducible repeat (first|apply kN|apply kD|apply kA)); exact BK599.out⟩, ⟨by (with_reducible repeat (first|apply kN|apply kD|apply kA)); exact BK604.out⟩, ⟨by repeat (first | (with_reducible first | exact HB.out | apply bA|apply bN|apply b1 | refine below_set ?_ (Aside0.out (by assumption))) | exact HB.out)⟩⟩
      case round =>
       clear H'
       try clear c1
       try clear c2
       try clear p2
       try clear c3
       try clear c4
       try clear c5
       try clear c6
       try clear c7
       try clear c8
       try clear c9
       try clear c10
       try clear c11
       try clear c12
       try clear c13
       try clear c14
       try clear c15
       try clear c16
       try clear c17
       try clear c18
       try clear c21
       try clear c22
       try clear c23
       try clear c24
       try clear c25
       try clear c26
       try clear c27
       try clear c28
       try clear c29
       try clear c33
       try clear c34
       try clear c35
       try clear c37
       try clear c37b0
       try clear c37b1
       try clear c39
       try clear c41
       try clear c41b0
       try clear c41b1
       try clear c42
       try clear c42b0
       try clear c42b1
       try clear c42b2
       try clear c45
       try clear c46
       try clear c47
       try clear c50
       try clear c51
       try clear c51b0
       try clear c54
       try clear c55
       try clear c56
       try clear c59
       try clear c60
       try clear c63
       try clear c63b0
       try clear c66
       try clear c67
       try clear c68
       try clear c71
       try clear c72
       try clear c75
       try clear c78
       try clear c78b0
       try clear c78b1
       try clear c78b2
       try clear c81
       try clear c82
       try clear c83
       try clear c86
       try clear c87
       try clear c90
       try clear c93
       try clear c97
       try clear c98
       try clear c99
       try clear c102
       try clear c103
       try clear c106
       try clear c112
       try clear c113
       try clear c114
       try clear c117
       try clear c118
       try clear c121
       try clear c124
       try clear c124b0
       try clear c127
       try clear c128
       try clear c129
       try clear c132
       try clear c133
       try clear c135
       try clear c137
       try clear c137b0
       try clear c137b1
       try clear c137b2
       try clear c140
       try clear c141
       try clear c142
       try clear c145
       try clear c146
       try clear c148
       try clear c150
       try clear c154
       try clear c155
       try clear c156
       try clear c159
       try clear c160
       try clear c162
       try clear c167
       try clear c168
       try clear c169
       try clear c172
       try clear c173
       try clear c175
       try clear c179
       try clear c180
       try clear c181
       try clear c186
       try clear c187
       try clear c187b0
       try clear c187b1
       try clear hcz100_0
       try clear hcz100_1
       try clear hcz100_2
       try clear hcz104_0
       try clear hcz104_1
       try clear hcz104_2
       try clear hcz105_0
       try clear hcz105_1
       try clear hcz105_2
       try clear hcz107_0
       try clear hcz107_1
       try clear hcz107_2
       try clear hcz108_0
       try clear hcz108_1
       try clear hcz108_2
       try clear hcz115_0
       try clear hcz115_1
       try clear hcz115_2
       try clear hcz119_0
       try clear hcz119_1
       try clear hcz119_2
       try clear hcz120_0
       try clear hcz120_1
       try clear hcz120_2
       try clear hcz122_0
       try clear hcz122_1
       try clear hcz122_2
       try clear hcz123_0
       try clear hcz123_1
       try clear hcz123_2
       try clear hcz130_0
       try clear hcz130_1
       try clear hcz130_2
       try clear hcz134_0
       try clear hcz134_1
       try clear hcz134_2
       try clear hcz136_0
       try clear hcz136_1
       try clear hcz136_2
       try clear hcz143_0
       try clear hcz143_1
       try clear hcz143_2
       try clear hcz147_0
       try clear hcz147_1
       try clear hcz147_2
       try clear hcz149_0
       try clear hcz149_1
       try clear hcz149_2
       try clear hcz157_0
       try clear hcz157_1
       try clear hcz157_2
       try clear hcz15_0
       try clear hcz15_1
       try clear hcz15_2
       try clear hcz161_0
       try clear hcz161_1
       try clear hcz161_2
       try clear hcz163_0
       try clear hcz163_1
       try clear hcz163_2
       try clear hcz170_0
       try clear hcz170_1
       try clear hcz170_2
       try clear hcz174_0
       try clear hcz174_1
       try clear hcz174_2
       try clear hcz176_0
       try clear hcz176_1
       try clear hcz176_2
       try clear hcz17_0
       try clear hcz17_1
       try clear hcz17_2
       try clear hcz182_0
       try clear hcz182_1
       try clear hcz182_2
       try clear hcz19_0
       try clear hcz19_1
       try clear hcz19_2
       try clear hcz24_0
       try clear hcz24_1
       try clear hcz24_2
       try clear hcz30_0
       try clear hcz30_1
       try clear hcz30_2
       try clear hcz36_0
       try clear hcz36_1
       try clear hcz36_2
       try clear hcz48_0
       try clear hcz48_1
       try clear hcz48_2
       try clear hcz57_0
       try clear hcz57_1
       try clear hcz57_2
       try clear hcz61_0
       try clear hcz61_1
       try clear hcz61_2
       try clear hcz62_0
       try clear hcz62_1
       try clear hcz62_2
       try clear hcz69_0
       try clear hcz69_1
       try clear hcz69_2
       try clear hcz73_0
       try clear hcz73_1
       try clear hcz73_2
       try clear hcz74_0
       try clear hcz74_1
       try clear hcz74_2
       try clear hcz76_0
       try clear hcz76_1
       try clear hcz76_2
       try clear hcz77_0
       try clear hcz77_1
       try clear hcz77_2
       try clear hcz84_0
       try clear hcz84_1
       try clear hcz84_2
       try clear hcz88_0
       try clear hcz88_1
       try clear hcz88_2
       try clear hcz89_0
       try clear hcz89_1
       try clear hcz89_2
       try clear hcz91_0
       try clear hcz91_1
       try clear hcz91_2
       try clear hcz92_0
       try clear hcz92_1
       try clear hcz92_2
       try clear hfz100_0
       try clear hfz100_1
       try clear hfz100_2
       try clear hfz104_0
       try clear hfz104_1
       try clear hfz104_2
       try clear hfz105_0
       try clear hfz105_1
       try clear hfz105_2
       try clear hfz107_0
       try clear hfz107_1
       try clear hfz107_2
       try clear hfz108_0
       try clear hfz108_1
       try clear hfz108_2
       try clear hfz115_0
       try clear hfz115_1
       try clear hfz115_2
       try clear hfz119_0
       try clear hfz119_1
       try clear hfz119_2
       try clear hfz120_0
       try clear hfz120_1
       try clear hfz120_2
       try clear hfz122_0
       try clear hfz122_1
       try clear hfz122_2
       try clear hfz123_0
       try clear hfz123_1
       try clear hfz123_2
       try clear hfz130_0
       try clear hfz130_1
       try clear hfz130_2
       try clear hfz134_0
       try clear hfz134_1
       try clear hfz134_2
       try clear hfz136_0
       try clear hfz136_1
       try clear hfz136_2
       try clear hfz143_0
       try clear hfz143_1
       try clear hfz143_2
       try clear hfz147_0
       try clear hfz147_1
       try clear hfz147_2
       try clear hfz149_0
       try clear hfz149_1
       try clear hfz149_2
       try clear hfz157_0
       try clear hfz157_1
       try clear hfz157_2
       try clear hfz15_0
       try clear hfz15_1
       try clear hfz15_2
       try clear hfz161_0
       try clear hfz161_1
       try clear hfz161_2
       try clear hfz163_0
       try clear hfz163_1
       try clear hfz163_2
       try clear hfz170_0
       try clear hfz170_1
       try clear hfz170_2
       try clear hfz174_0
       try clear hfz174_1
       try clear hfz174_2
       try clear hfz176_0
       try clear hfz176_1
       try clear hfz176_2
       try clear hfz17_0
       try clear hfz17_1
       try clear hfz17_2
       try clear hfz182_0
       try clear hfz182_1
       try clear hfz182_2
       try clear hfz19_0
       try clear hfz19_1
       try clear hfz19_2
       try clear hfz24_0
       try clear hfz24_1
       try clear hfz24_2
       try clear hfz30_0
       try clear hfz30_1
       try clear hfz30_2
       try clear hfz36_0
       try clear hfz36_1
       try clear hfz36_2
       try clear hfz48_0
       try clear hfz48_1
       try clear hfz48_2
       try clear hfz57_0
       try clear hfz57_1
       try clear hfz57_2
       try clear hfz61_0
       try clear hfz61_1
       try clear hfz61_2
       try clear hfz62_0
       try clear hfz62_1
       try clear hfz62_2
       try clear hfz69_0
       try clear hfz69_1
       try clear hfz69_2
       try clear hfz73_0
       try clear hfz73_1
       try clear hfz73_2
       try clear hfz74_0
       try clear hfz74_1
       try clear hfz74_2
       try clear hfz76_0
       try clear hfz76_1
       try clear hfz76_2
       try clear hfz77_0
       try clear hfz77_1
       try clear hfz77_2
       try clear hfz84_0
       try clear hfz84_1
       try clear hfz84_2
       try clear hfz88_0
       try clear hfz88_1
       try clear hfz88_2
       try clear hfz89_0
       try clear hfz89_1
       try clear hfz89_2
       try clear hfz91_0
       try clear hfz91_1
       try clear hfz91_2
       try clear hfz92_0
       try clear hfz92_1
       try clear hfz92_2
       try clear p2
       obtain ⟨x16_2, rfl, HA, HK2, HO_4, BK579, BK593, BK599, BK604, HB⟩ := hrel
       cases gk with
       | zero => exact absurd HA.out (by simp [laws_FnCells.l0])
       | succ k2 =>
        have H := HA.out
        clear HA
        simp only [laws_FnCells.l0] at H
        by_cases c188 : x16_2 < (t580.length : Int)
        ·rw [if_pos c188] at H
         have c188b0 : decide (x16_2 < (t580.length : Int)) = true := decide_eq_true c188
         clear c188
         by_cases c189 : 0 ≤ x16_2
         ·rw [if_pos c189] at H
          have c189b0 : decide (0 ≤ x16_2) = true := decide_eq_true c189
          clear c189
          replace H := Option.bind_eq_some_iff.mp H
          obtain ⟨⟨t610, t611, t612⟩, A1900, H⟩ := H
          try dsimp only at H
          have A190 := aM A1900
          clear A1900
          have HC191 := aM H
          clear H
          obtain ⟨Ao192, co192, eo192⟩ := Kd.R_slice HO_4.out
          subst eo192
          try go_wp2
          have n0_ := aM (Kd.R_drew HO_4.out)
          have n1_ := aM (blk_drew BK579.out)
          have n2_ := aM (blk_drew BK593.out)
          have n3_ := aM (blk_drew BK599.out)
          have n4_ := aM (blk_drew BK604.out)
          have n5_ := aM (below_drew1 HB.out)
          clear HO_4
          clear BK579
          clear BK593
          clear BK599
          clear BK604
          clear HB
          have HO_4 := n0_
          have BK579 := n1_
          have BK593 := n2_
          have BK599 := n3_
          have BK604 := n4_
          have HB := n5_
          clear n0_ n1_ n2_ n3_ n4_ n5_
          have p609 : 0 ≤ (x16_2 : Int) := of_decide_eq_true (by first | (with_reducible assumption) | assumption)
          have q609 : x16_2 < (t580.length : Int) := of_decide_eq_true (by first | (with_reducible assumption) | assumption)
          obtain ⟨ad609, e609, hx609_0, hx609_1⟩ := at_T31 (Kd.R_reads' HO_4.out).2.2 x16_2 p609 q609
          cases e609
          replace p609 := eq_true p609
          replace q609 := eq_true q609
          refine start_ (n := 12) (S := fun w' => w'.cell? ⟨gb579, 0, none⟩ = some (.int .i64 t576) ∧ w'.cell? ⟨gb579, 1, none⟩ = some (.int .i64 t577) ∧ w'.cell? ⟨gb579, 2, none⟩ = some (.int .i64 t578) ∧ w'.cell? (ad609.add ((x16_2).toNat * 2)) = some (.int .i64 ((rd_T31 t580 x16_2).f0)) ∧ w'.cell? ⟨(ad609.add ((x16_2).toNat * 2)).block, (ad609.add ((x16_2).toNat * 2)).off + 1, none⟩ = some (.int .i64 ((rd_T31 t580 x16_2).f1))) (ds := []) #[false, false, false, false, false, false, false, false, false, false, false, false] (by kernel_rfl) rfl rfl ⟨(blk_cell BK579.out 0).trans rfl, (blk_cell BK579.out 1).trans rfl, (blk_cell BK579.out 2).trans rfl, hx609_0, hx609_1⟩ (fun hHeld => ?_); refine with_tabW laws_FnCells.tab18 laws_FnCells.bits18 (fun HT_ HW_ => ?_)
          generalize wr.drew = w193 at HO_4 BK579 BK593 BK599 BK604 HB hx609_0 hx609_1 hHeld ⊢
          refine pure_ (i := 1) (N := some 112) (v := ?_) (a' := ?_) #[false, true, false, false, false, false, false, false, false, false, false, false] rfl rfl (any_of HT_.out (by kernel_rfl)) (fun _ _ _ h => h) (Or.inl ⟨by rfl, ?_⟩) ?_ ?_
          rotate_left
          ·intro w'
           go_simp
           with_reducible rfl
          rotate_left
          ·simp only [Act.put, List.setIfInBounds_toArray, List.set_cons_zero, List.set_cons_succ, i64_w, i32_w]
           rfl
          refine pure_ (i := 2) (N := some 113) (v := ?_) (a' := ?_) #[false, true, true, false, false, false, false, false, false, false, false, false] rfl rfl (any_of HT_.out (by kernel_rfl)) (fun _ _ _ h => h) (Or.inl ⟨by rfl, ?_⟩) ?_ ?_
          rotate_left
          ·intro w'
           go_simp
           with_reducible rfl
          rotate_left
          ·simp only [Act.put, List.setIfInBounds_toArray, List.set_cons_zero, List.set_cons_succ, i64_w, i32_w]
           rfl
          refine pure_ (i := 3) (N := some 114) (v := ?_) (a' := ?_) #[false, true, true, true, false, false, false, false, false, false, false, false] rfl rfl (any_of HT_.out (by kernel_rfl)) (fun _ _ _ h => h) (Or.inl ⟨by rfl, ?_⟩) ?_ ?_
          rotate_left
          ·intro w'
           go_simp
           with_reducible rfl
          rotate_left
          ·simp only [Act.put, List.setIfInBounds_toArray, List.set_cons_zero, List.set_cons_succ, i64_w, i32_w]
           rfl
          refine take_ (i := 0) (N := some 111) (v := ?_) (a' := ?_) #[true, true, true, true, false, false, false, false, false, false, false, false] rfl rfl (take_ofW HT_.out HW_.out (by kernel_rfl)) (fun _ _ _ h => h) (Or.inl ⟨by rfl, ?_⟩) hHeld ?_ ?_
          rotate_left
          ·rintro w' ⟨s0, s1, s2, s3, s4⟩
           go_simp
           with_reducible rfl
          rotate_left
          ·simp only [Act.put, List.setIfInBounds_toArray, List.set_cons_zero, List.set_cons_succ, i64_w, i32_w]
           rfl
          refine take_ (i := 4) (N := some 115) (v := ?_) (a' := ?_) #[true, true, true, true, true, false, false, false, false, false, false, false] rfl rfl (take_ofW HT_.out HW_.out (by kernel_rfl)) (fun _ _ _ h => h) (Or.inl ⟨by rfl, ?_⟩) hHeld ?_ ?_
          rotate_left
          ·rintro w' ⟨s0, s1, s2, s3, s4⟩
           go_simp
           with_reducible rfl
          rotate_left
          ·simp only [Act.put, List.setIfInBounds_toArray, List.set_cons_zero, List.set_cons_succ, i64_w, i32_w]
           rfl
          refine join_ (σ := Nat) 2 #[true, true, true, true, true, true, true, true, true, true, false, false] (fun s_ => [(116, .tuple #[.agg #[.int .i64 t610, .int .i64 t611], .int .i64 t612]), (17, .pointer (some ⟨s_, 0, none⟩)), (110, .tuple #[.agg #[.int .i64 t610, .int .i64 t611], .int .i64 t612]), (117, .agg #[.int .i64 t610, .int .i64 t611]), (118, .int .i64 t612)]) (fun s_ w' => (w'.cell? ⟨gb579, 0, none⟩ = some (.int .i64 t576) ∧ w'.cell? ⟨gb579, 1, none⟩ = some (.int .i64 t577) ∧ w'.cell? ⟨gb579, 2, none⟩ = some (.int .i64 t578) ∧ w'.cell? (ad609.add ((x16_2).toNat * 2)) = some (.int .i64 ((rd_T31 t580 x16_2).f0)) ∧ w'.cell? ⟨(ad609.add ((x16_2).toNat * 2)).block, (ad609.add ((x16_2).toNat * 2)).off + 1, none⟩ = some (.int .i64 ((rd_T31 t580 x16_2).f1))) ∧ (Kd.R k31 31 w' w.heap.size (fun k_ => k_ ≠ s_) (.slice (some ad609) t580.length co192) t580) ∧ (w'.heap[gb579]? = some (.cells #[.int .i64 t576, .int .i64 t577, .int .i64 t578] 38 (0, 0))) ∧ (w'.heap[gb593]? = some (.cells #[.int .i64 t589, .int .i64 t590, .int .i64 t591] 38 (0, 0))) ∧ (w'.heap[gb599]? = some (.cells #[.int .i64 t595, .int .i64 t596, .int .i64 t597] 38 (0, 0))) ∧ (w'.heap[gb604]? = some (.cells #[.int .i64 t600, .int .i64 t601, .int .i64 t602] 38 (0, 0))) ∧ (w'.heap[s_]? = some (.cells #[.int .i64 0, .int .i64 0] 31 (0, 0))) ∧ (w.heap.size ≤ s_) ∧ (w.heap.size ≤ s_) ∧ (gb579 ≠ s_) ∧ (s_ ≠ gb579) ∧ (gb593 ≠ s_) ∧ (s_ ≠ gb593) ∧ (gb599 ≠ s_) ∧ (s_ ≠ gb599) ∧ (gb604 ≠ s_) ∧ (s_ ≠ gb604) ∧ (Below w.heap.size w w')) ?_ ?_
          rotate_left
          ·intro hCont
           refine two_ (i := 5) (j := 9) (Ni := some 116) (Nj := some 17) #[true, true, true, true, true, true, false, false, false, false, false, false] #[true, true, true, true, true, false, false, false, false, true, false, false] rfl rfl rfl rfl (two_of HT_.out (by kernel_rfl)) (by decide) (by decide) (fun K hK => ?_) (fun K hK => ?_)
           ·skip
            refine goes_ Tryd.func30 (by kernel_rfl) rfl #[.agg #[.int .i64 t576, .int .i64 t577, .int .i64 t578], .agg #[.int .i64 ((rd_T31 t580 x16_2).f0), .int .i64 ((rd_T31 t580 x16_2).f1)]] (by rfl) rfl rfl (by first|rfl|(simp only [List.map_toArray, List.map_cons, List.map_nil]; try rfl)) ?_
            with_reducible refine (impl_ReduceVec.calls t576 t577 t578 ((rd_T31 t580 x16_2).f0) ((rd_T31 t580 x16_2).f1) t610 t611 t612 _ A190.out).mono ?_
            rintro e w194 ⟨rfl, hb⟩
            have HS3_ := (hb.cell (World.block_lt_of_cell? _ _ (hHeld.2.2.2.1))).trans (hHeld.2.2.2.1)
            have HS4_ := (hb.cell (World.block_lt_of_cell? _ _ (hHeld.2.2.2.2))).trans (hHeld.2.2.2.2)
            refine ⟨_, rfl, ?_⟩
            have n0_ := aM (Kd.R_below (by (with_reducible repeat (first | apply Kd.R_alloc | apply Kd.R_drewN | apply Kd.R_drew)); exact HO_4.out) hb)
            have n1_ := bB BK579 hb
            have n2_ := bB BK593 hb
            have n3_ := bB BK599 hb
            have n4_ := bB BK604 hb
            have n5_ := bS HB hb
            clear HO_4
            clear BK579
            clear BK593
            clear BK599
            clear BK604
            clear HB
            have HO_4 := n0_
            have BK579 := n1_
            have BK593 := n2_
            have BK599 := n3_
            have BK604 := n4_
            have HB := n5_
            clear n0_ n1_ n2_ n3_ n4_ n5_
            (try clear hb)
            (try clear hb2)
            (try clear hk)
            (try clear hi)
            refine hK.out _ _ ⟨(blk_cell BK579.out 0).trans rfl, (blk_cell BK579.out 1).trans rfl, (blk_cell BK579.out 2).trans rfl, HS3_, HS4_⟩ (fun hHeld => ?_)
            clear hK K
            refine norm_ (a' := ?_) ?_ ?_
            rotate_left
            ·show Act.put _ (some 116) _ = _
             simp only [Act.put, List.setIfInBounds_toArray, List.set_cons_zero, List.set_cons_succ, i64_w, i32_w]
             rfl
            refine pure_ (i := 6) (N := some 110) (v := ?_) (a' := ?_) #[true, true, true, true, true, true, true, false, false, false, false, false] rfl rfl (any_of HT_.out (by kernel_rfl)) (fun _ _ _ h => h) (Or.inl ⟨by rfl, ?_⟩) ?_ ?_
            rotate_left
            ·intro w'
             go_simp
             with_reducible rfl
            rotate_left
            ·simp only [Act.put, List.setIfInBounds_toArray, List.set_cons_zero, List.set_cons_succ, i64_w, i32_w]
             rfl
            refine pure_ (i := 7) (N := some 117) (v := ?_) (a' := ?_) #[true, true, true, true, true, true, true, true, false, false, false, false] rfl rfl (any_of HT_.out (by kernel_rfl)) (fun _ _ _ h => h) (Or.inl ⟨by rfl, ?_⟩) ?_ ?_
            rotate_left
            ·intro w'
             go_simp
             with_reducible rfl
            rotate_left
            ·simp only [Act.put, List.setIfInBounds_toArray, List.set_cons_zero, List.set_cons_succ, i64_w, i32_w]
             rfl
            refine pure_ (i := 8) (N := some 118) (v := ?_) (a' := ?_) #[true, true, true, true, true, true, true, true, true, false, false, false] rfl rfl (any_of HT_.out (by kernel_rfl)) (fun _ _ _ h => h) (Or.inl ⟨by rfl, ?_⟩) ?_ ?_
            rotate_left
            ·intro w'
             go_simp
             with_reducible rfl
            rotate_left
            ·simp only [Act.put, List.setIfInBounds_toArray, List.set_cons_zero, List.set_cons_succ, i64_w, i32_w]
             rfl
            refine one_ (i := 9) (N := some 17) #[true, true, true, true, true, true, true, true, true, true, false, false] rfl rfl (one_of HT_.out (by kernel_rfl)) (by decide) (fun K hK => ?_)
            refine box_step ?hg (N := 17) ?hd (cs := #[.int .i64 0, .int .i64 0]) (t := 31) ?hr ?_; (case hd => rfl); (case hg => rfl); (case hr => first | (go_simp; done) | (go_simp; rfl))
            intro gb613 hg w195 hbox hb
            have HS3_ := (hb.cell (World.block_lt_of_cell? _ _ (hHeld.2.2.2.1))).trans (hHeld.2.2.2.1)
            have HS4_ := (hb.cell (World.block_lt_of_cell? _ _ (hHeld.2.2.2.2))).trans (hHeld.2.2.2.2)
            have n0_ := aM (Kd.R_below (Kd.R_elderB (by (with_reducible repeat (first | apply Kd.R_alloc | apply Kd.R_drewN | apply Kd.R_drew)); exact HO_4.out) gb613 (Nat.le_of_eq hg.symm)) hb)
            have n1_ := bB BK579 hb
            have n2_ := bB BK593 hb
            have n3_ := bB BK599 hb
            have n4_ := bB BK604 hb
            have n5_ := bS HB hb
            have n6_ := aM (hbox)
            have n7_ := bZ hg HB
            have n8_ := bZ hg HB
            have n9_ := nL hg BK579
            have n10_ := nG hg BK579
            have n11_ := nL hg BK593
            have n12_ := nG hg BK593
            have n13_ := nL hg BK599
            have n14_ := nG hg BK599
            have n15_ := nL hg BK604
            have n16_ := nG hg BK604
            clear HO_4
            clear BK579
            clear BK593
            clear BK599
            clear BK604
            clear HB
            have HO_4 := n0_
            have BK579 := n1_
            have BK593 := n2_
            have BK599 := n3_
            have BK604 := n4_
            have HB := n5_
            have BK613 := n6_
            have GW613 := n7_
            have GE613 := n8_
            have NB579_613 := n9_
            have NB613_579 := n10_
            have NB593_613 := n11_
            have NB613_593 := n12_
            have NB599_613 := n13_
            have NB613_599 := n14_
            have NB604_613 := n15_
            have NB613_604 := n16_
            clear n0_ n1_ n2_ n3_ n4_ n5_ n6_ n7_ n8_ n9_ n10_ n11_ n12_ n13_ n14_ n15_ n16_
            clear hb hbox hg
            refine hK.out _ _ ⟨(blk_cell BK579.out 0).trans rfl, (blk_cell BK579.out 1).trans rfl, (blk_cell BK579.out 2).trans rfl, HS3_, HS4_⟩ (fun hHeld => ?_)
            clear hK K
            refine norm_ (a' := ?_) ?_ ?_
            rotate_left
            ·show Act.put _ (some 17) _ = _
             simp only [Act.put, List.setIfInBounds_toArray, List.set_cons_zero, List.set_cons_succ, i64_w, i32_w]
             rfl
            exact norm_ (by simp only [putAll, Act.put, List.setIfInBounds_toArray, List.set_cons_zero, List.set_cons_succ]) (hCont (gb613) _ ⟨hHeld, (by (with_reducible repeat (first | apply Kd.R_alloc | apply Kd.R_drewN | apply Kd.R_drew)); exact Kd.R_mono HO_4.out (fun _ hk => hk.2)), (by (with_reducible repeat (first|apply kN|apply kD|apply kA)); exact BK579.out), (by (with_reducible repeat (first|apply kN|apply kD|apply kA)); exact BK593.out), (by (with_reducible repeat (first|apply kN|apply kD|apply kA)); exact BK599.out), (by (with_reducible repeat (first|apply kN|apply kD|apply kA)); exact BK604.out), (by (with_reducible repeat (first|apply kN|apply kD|apply kA)); exact BK613.out), GW613.out, GE613.out, NB579_613.out, NB613_579.out, NB593_613.out, NB613_593.out, NB599_613.out, NB613_599.out, NB604_613.out, NB613_604.out, (by repeat (first | (with_reducible first | exact HB.out | apply bA|apply bN|apply b1 | refine below_set ?_ (Aside0.out (by assumption))) | exact HB.out))⟩)
           ·skip
            refine box_step ?hg (N := 17) ?hd (cs := #[.int .i64 0, .int .i64 0]) (t := 31) ?hr ?_; (case hd => rfl); (case hg => rfl); (case hr => first | (go_simp; done) | (go_simp; rfl))
            intro gb613 hg w194 hbox hb
            have HS3_ := (hb.cell (World.block_lt_of_cell? _ _ (hHeld.2.2.2.1))).trans (hHeld.2.2.2.1)
            have HS4_ := (hb.cell (World.block_lt_of_cell? _ _ (hHeld.2.2.2.2))).trans (hHeld.2.2.2.2)
            have n0_ := aM (Kd.R_below (Kd.R_elderB (by (with_reducible repeat (first | apply Kd.R_alloc | apply Kd.R_drewN | apply Kd.R_drew)); exact HO_4.out) gb613 (Nat.le_of_eq hg.symm)) hb)
            have n1_ := bB BK579 hb
            have n2_ := bB BK593 hb
            have n3_ := bB BK599 hb
            have n4_ := bB BK604 hb
            have n5_ := bS HB hb
            have n6_ := aM (hbox)
            have n7_ := bZ hg HB
            have n8_ := bZ hg HB
            have n9_ := nL hg BK579
            have n10_ := nG hg BK579
            have n11_ := nL hg BK593
            have n12_ := nG hg BK593
            have n13_ := nL hg BK599
            have n14_ := nG hg BK599
            have n15_ := nL hg BK604
            have n16_ := nG hg BK604
            clear HO_4
            clear BK579
            clear BK593
            clear BK599
            clear BK604
            clear HB
            have HO_4 := n0_
            have BK579 := n1_
            have BK593 := n2_
            have BK599 := n3_
            have BK604 := n4_
            have HB := n5_
            have BK613 := n6_
            have GW613 := n7_
            have GE613 := n8_
            have NB579_613 := n9_
            have NB613_579 := n10_
            have NB593_613 := n11_
            have NB613_593 := n12_
            have NB599_613 := n13_
            have NB613_599 := n14_
            have NB604_613 := n15_
            have NB613_604 := n16_
            clear n0_ n1_ n2_ n3_ n4_ n5_ n6_ n7_ n8_ n9_ n10_ n11_ n12_ n13_ n14_ n15_ n16_
            clear hb hbox hg
            refine hK.out _ _ ⟨(blk_cell BK579.out 0).trans rfl, (blk_cell BK579.out 1).trans rfl, (blk_cell BK579.out 2).trans rfl, HS3_, HS4_⟩ (fun hHeld => ?_)
            clear hK K
            refine norm_ (a' := ?_) ?_ ?_
            rotate_left
            ·show Act.put _ (some 17) _ = _
             simp only [Act.put, List.setIfInBounds_toArray, List.set_cons_zero, List.set_cons_succ, i64_w, i32_w]
             rfl
            refine one_ (i := 5) (N := some 116) #[true, true, true, true, true, true, false, false, false, true, false, false] rfl rfl (one_of HT_.out (by kernel_rfl)) (by decide) (fun K hK => ?_)
            refine goes_ Tryd.func30 (by kernel_rfl) rfl #[.agg #[.int .i64 t576, .int .i64 t577, .int .i64 t578], .agg #[.int .i64 ((rd_T31 t580 x16_2).f0), .int .i64 ((rd_T31 t580 x16_2).f1)]] (by rfl) rfl rfl (by first|rfl|(simp only [List.map_toArray, List.map_cons, List.map_nil]; try rfl)) ?_
            with_reducible refine (impl_ReduceVec.calls t576 t577 t578 ((rd_T31 t580 x16_2).f0) ((rd_T31 t580 x16_2).f1) t610 t611 t612 _ A190.out).mono ?_
            rintro e w195 ⟨rfl, hb⟩
            have HS3_ := (hb.cell (World.block_lt_of_cell? _ _ (hHeld.2.2.2.1))).trans (hHeld.2.2.2.1)
            have HS4_ := (hb.cell (World.block_lt_of_cell? _ _ (hHeld.2.2.2.2))).trans (hHeld.2.2.2.2)
            refine ⟨_, rfl, ?_⟩
            have n0_ := aM (Kd.R_below (by (with_reducible repeat (first | apply Kd.R_alloc | apply Kd.R_drewN | apply Kd.R_drew)); exact HO_4.out) hb)
            have n1_ := bB BK579 hb
            have n2_ := bB BK593 hb
            have n3_ := bB BK599 hb
            have n4_ := bB BK604 hb
            have n5_ := bB BK613 hb
            have n6_ := bS HB hb
            clear HO_4
            clear BK579
            clear BK593
            clear BK599
            clear BK604
            clear BK613
            clear HB
            have HO_4 := n0_
            have BK579 := n1_
            have BK593 := n2_
            have BK599 := n3_
            have BK604 := n4_
            have BK613 := n5_
            have HB := n6_
            clear n0_ n1_ n2_ n3_ n4_ n5_ n6_
            (try clear hb)
            (try clear hb2)
            (try clear hk)
            (try clear hi)
            refine hK.out _ _ ⟨(blk_cell BK579.out 0).trans rfl, (blk_cell BK579.out 1).trans rfl, (blk_cell BK579.out 2).trans rfl, HS3_, HS4_⟩ (fun hHeld => ?_)
            clear hK K
            refine norm_ (a' := ?_) ?_ ?_
            rotate_left
            ·show Act.put _ (some 116) _ = _
             simp only [Act.put, List.setIfInBounds_toArray, List.set_cons_zero, List.set_cons_succ, i64_w, i32_w]
             rfl
            refine pure_ (i := 6) (N := some 110) (v := ?_) (a' := ?_) #[true, true, true, true, true, true, true, false, false, true, false, false] rfl rfl (any_of HT_.out (by kernel_rfl)) (fun _ _ _ h => h) (Or.inl ⟨by rfl, ?_⟩) ?_ ?_
            rotate_left
            ·intro w'
             go_simp
             with_reducible rfl
            rotate_left
            ·simp only [Act.put, List.setIfInBounds_toArray, List.set_cons_zero, List.set_cons_succ, i64_w, i32_w]
             rfl
            refine pure_ (i := 7) (N := some 117) (v := ?_) (a' := ?_) #[true, true, true, true, true, true, true, true, false, true, false, false] rfl rfl (any_of HT_.out (by kernel_rfl)) (fun _ _ _ h => h) (Or.inl ⟨by rfl, ?_⟩) ?_ ?_
            rotate_left
            ·intro w'
             go_simp
             with_reducible rfl
            rotate_left
            ·simp only [Act.put, List.setIfInBounds_toArray, List.set_cons_zero, List.set_cons_succ, i64_w, i32_w]
             rfl
            refine pure_ (i := 8) (N := some 118) (v := ?_) (a' := ?_) #[true, true, true, true, true, true, true, true, true, true, false, false] rfl rfl (any_of HT_.out (by kernel_rfl)) (fun _ _ _ h => h) (Or.inl ⟨by rfl, ?_⟩) ?_ ?_
            rotate_left
            ·intro w'
             go_simp
             with_reducible rfl
            rotate_left
            ·simp only [Act.put, List.setIfInBounds_toArray, List.set_cons_zero, List.set_cons_succ, i64_w, i32_w]
             rfl
            exact norm_ (by simp only [putAll, Act.put, List.setIfInBounds_toArray, List.set_cons_zero, List.set_cons_succ]) (hCont (gb613) _ ⟨hHeld, (by (with_reducible repeat (first | apply Kd.R_alloc | apply Kd.R_drewN | apply Kd.R_drew)); exact Kd.R_mono HO_4.out (fun _ hk => hk.2)), (by (with_reducible repeat (first|apply kN|apply kD|apply kA)); exact BK579.out), (by (with_reducible repeat (first|apply kN|apply kD|apply kA)); exact BK593.out), (by (with_reducible repeat (first|apply kN|apply kD|apply kA)); exact BK599.out), (by (with_reducible repeat (first|apply kN|apply kD|apply kA)); exact BK604.out), (by (with_reducible repeat (first|apply kN|apply kD|apply kA)); exact BK613.out), GW613.out, GE613.out, NB579_613.out, NB613_579.out, NB593_613.out, NB613_593.out, NB599_613.out, NB613_599.out, NB604_613.out, NB613_604.out, (by repeat (first | (with_reducible first | exact HB.out | apply bA|apply bN|apply b1 | refine below_set ?_ (Aside0.out (by assumption))) | exact HB.out))⟩)
          rintro gb613 w196 ⟨hS_, h0_, h1_, h2_, h3_, h4_, h5_, h6_, h7_, h8_, h9_, h10_, h11_, h12_, h13_, h14_, h15_, h16_⟩
          have n0_ : Aside0 (Kd.R k31 31 w196 w.heap.size (fun k_ => k_ ≠ gb613) (.slice (some ad609) t580.length co192) t580) := ⟨h0_⟩
          have n1_ : Aside0 (w196.heap[gb579]? = some (.cells #[.int .i64 t576, .int .i64 t577, .int .i64 t578] 38 (0, 0))) := ⟨h1_⟩
          have n2_ : Aside0 (w196.heap[gb593]? = some (.cells #[.int .i64 t589, .int .i64 t590, .int .i64 t591] 38 (0, 0))) := ⟨h2_⟩
          have n3_ : Aside0 (w196.heap[gb599]? = some (.cells #[.int .i64 t595, .int .i64 t596, .int .i64 t597] 38 (0, 0))) := ⟨h3_⟩
          have n4_ : Aside0 (w196.heap[gb604]? = some (.cells #[.int .i64 t600, .int .i64 t601, .int .i64 t602] 38 (0, 0))) := ⟨h4_⟩
          have n5_ : Aside0 (w196.heap[gb613]? = some (.cells #[.int .i64 0, .int .i64 0] 31 (0, 0))) := ⟨h5_⟩
          have n6_ : Aside0 (w.heap.size ≤ gb613) := ⟨h6_⟩
          have n7_ : Aside0 (w.heap.size ≤ gb613) := ⟨h7_⟩
          have n8_ : Aside0 (gb579 ≠ gb613) := ⟨h8_⟩
          have n9_ : Aside0 (gb613 ≠ gb579) := ⟨h9_⟩
          have n10_ : Aside0 (gb593 ≠ gb613) := ⟨h10_⟩
          have n11_ : Aside0 (gb613 ≠ gb593) := ⟨h11_⟩
          have n12_ : Aside0 (gb599 ≠ gb613) := ⟨h12_⟩
          have n13_ : Aside0 (gb613 ≠ gb599) := ⟨h13_⟩
          have n14_ : Aside0 (gb604 ≠ gb613) := ⟨h14_⟩
          have n15_ : Aside0 (gb613 ≠ gb604) := ⟨h15_⟩
          have n16_ : Aside0 (Below w.heap.size w w196) := ⟨h16_⟩
          clear HO_4
          clear BK579
          clear BK593
          clear BK599
          clear BK604
          clear HB
          clear h0_ h1_ h2_ h3_ h4_ h5_ h6_ h7_ h8_ h9_ h10_ h11_ h12_ h13_ h14_ h15_ h16_
          have HO_4 := n0_
          have BK579 := n1_
          have BK593 := n2_
          have BK599 := n3_
          have BK604 := n4_
          have BK613 := n5_
          have GW613 := n6_
          have GE613 := n7_
          have NB579_613 := n8_
          have NB613_579 := n9_
          have NB593_613 := n10_
          have NB613_593 := n11_
          have NB599_613 := n12_
          have NB613_599 := n13_
          have NB604_613 := n14_
          have NB613_604 := n15_
          have HB := n16_
          clear n0_ n1_ n2_ n3_ n4_ n5_ n6_ n7_ n8_ n9_ n10_ n11_ n12_ n13_ n14_ n15_ n16_
          have hHeld : w196.cell? ⟨gb579, 0, none⟩ = some (.int .i64 t576) ∧ w196.cell? ⟨gb579, 1, none⟩ = some (.int .i64 t577) ∧ w196.cell? ⟨gb579, 2, none⟩ = some (.int .i64 t578) ∧ w196.cell? (ad609.add ((x16_2).toNat * 2)) = some (.int .i64 ((rd_T31 t580 x16_2).f0)) ∧ w196.cell? ⟨(ad609.add ((x16_2).toNat * 2)).block, (ad609.add ((x16_2).toNat * 2)).off + 1, none⟩ = some (.int .i64 ((rd_T31 t580 x16_2).f1)) := hS_
          refine norm_ (a' := ?_) ?_ ?_
          rotate_left
          ·simp only [putAll, Act.put, List.setIfInBounds_toArray, List.set_cons_zero, List.set_cons_succ]
           rfl
          refine one_ (i := 10) (N := none) #[true, true, true, true, true, true, true, true, true, true, true, false] rfl rfl (one_of HT_.out (by kernel_rfl)) (by decide) (fun K hK => ?_)
          have hs197 : w196.cell? ⟨gb613, 0, none⟩ = some (.int .i64 0) := (blk_cell BK613.out 0).trans rfl
          have hfs197 := blk_frozen BK613.out 0
          have hns197_0 := NB579_613.out
          have hns197_1 := NB593_613.out
          have hns197_2 := NB599_613.out
          have hns197_3 := NB604_613.out
          have hms197_0 := NB613_579.out
          have hms197_1 := NB613_593.out
          have hms197_2 := NB613_599.out
          have hms197_3 := NB613_604.out
          have hs198 : w196.cell? ⟨gb613, 1, none⟩ = some (.int .i64 0) := (blk_cell BK613.out 1).trans rfl
          have hfs198 := blk_frozen BK613.out 1
          have hns198_0 := NB579_613.out
          have hns198_1 := NB593_613.out
          have hns198_2 := NB599_613.out
          have hns198_3 := NB604_613.out
          have hms198_0 := NB613_579.out
          have hms198_1 := NB613_593.out
          have hms198_2 := NB613_599.out
          have hms198_3 := NB613_604.out
          refine skip_ (w1 := ?_) (by rfl) rfl ?_ ?_
          rotate_left
          ·go_simp
           rfl
          refine hK.out _ _ ⟨((cell_far (p := ⟨gb613, _, none⟩) NB579_613.out _).trans (((cell_far (p := ⟨gb613, _, none⟩) NB579_613.out _).trans (hHeld.1)))), ((cell_far (p := ⟨gb613, _, none⟩) NB579_613.out _).trans (((cell_far (p := ⟨gb613, _, none⟩) NB579_613.out _).trans (hHeld.2.1)))), ((cell_far (p := ⟨gb613, _, none⟩) NB579_613.out _).trans (((cell_far (p := ⟨gb613, _, none⟩) NB579_613.out _).trans (hHeld.2.2.1)))), ((cell_far (p := ⟨gb613, _, none⟩) (by first | exact Kd.own_blk (Kd.R_away HO_4.out (fun _ hk => hk)) | (rw [add_block]; exact Kd.own_blk (Kd.R_away HO_4.out (fun _ hk => hk))) | (show (Addr.add _ _).block ≠ _; rw [add_block]; exact Kd.own_blk (Kd.R_away HO_4.out (fun _ hk => hk))) | (dsimp only; exact Kd.own_blk (Kd.R_away HO_4.out (fun _ hk => hk)))) _).trans (((cell_far (p := ⟨gb613, _, none⟩) (by first | exact Kd.own_blk (Kd.R_away HO_4.out (fun _ hk => hk)) | (rw [add_block]; exact Kd.own_blk (Kd.R_away HO_4.out (fun _ hk => hk))) | (show (Addr.add _ _).block ≠ _; rw [add_block]; exact Kd.own_blk (Kd.R_away HO_4.out (fun _ hk => hk))) | (dsimp only; exact Kd.own_blk (Kd.R_away HO_4.out (fun _ hk => hk)))) _).trans (hHeld.2.2.2.1)))), ((cell_far (p := ⟨gb613, _, none⟩) (by first | exact Kd.own_blk (Kd.R_away HO_4.out (fun _ hk => hk)) | (rw [add_block]; exact Kd.own_blk (Kd.R_away HO_4.out (fun _ hk => hk))) | (show (Addr.add _ _).block ≠ _; rw [add_block]; exact Kd.own_blk (Kd.R_away HO_4.out (fun _ hk => hk))) | (dsimp only; exact Kd.own_blk (Kd.R_away HO_4.out (fun _ hk => hk)))) _).trans (((cell_far (p := ⟨gb613, _, none⟩) (by first | exact Kd.own_blk (Kd.R_away HO_4.out (fun _ hk => hk)) | (rw [add_block]; exact Kd.own_blk (Kd.R_away HO_4.out (fun _ hk => hk))) | (show (Addr.add _ _).block ≠ _; rw [add_block]; exact Kd.own_blk (Kd.R_away HO_4.out (fun _ hk => hk))) | (dsimp only; exact Kd.own_blk (Kd.R_away HO_4.out (fun _ hk => hk)))) _).trans (hHeld.2.2.2.2))))⟩ (fun hHeld => ?_)
          clear hK K
          refine pure_ (i := 11) (N := some 18) (v := ?_) (a' := ?_) #[true, true, true, true, true, true, true, true, true, true, true, true] rfl rfl (any_of HT_.out (by kernel_rfl)) (fun _ _ _ h => h) (Or.inl ⟨by rfl, ?_⟩) ?_ ?_
          rotate_left
          ·intro w'
           go_simp
           with_reducible rfl
          rotate_left
          ·simp only [Act.put, List.setIfInBounds_toArray, List.set_cons_zero, List.set_cons_succ, i64_w, i32_w]
           rfl
          refine done_ (done_of HT_.out (by kernel_rfl)) ?_
          go_upto_region 19 with (fail)
          go_cut [128] (fun v128 wc => ∃ (kq : Nat) (x128_190 : Bool), v128 = .bool x128_190 ∧ Aside0 (laws_FnCells.j2 kq t580 x16_2 x128_190 t576 t577 t578 = some true) ∧ Aside0 (kq ≤ k2) ∧ Aside0 (Kd.R k31 31 wc w.heap.size (fun k_ => k_ ≠ gb613) (.slice (some ad609) t580.length co192) t580) ∧ Aside0 (wc.heap[gb579]? = some (.cells #[.int .i64 t576, .int .i64 t577, .int .i64 t578] 38 (0, 0))) ∧ Aside0 (wc.heap[gb593]? = some (.cells #[.int .i64 t589, .int .i64 t590, .int .i64 t591] 38 (0, 0))) ∧ Aside0 (wc.heap[gb599]? = some (.cells #[.int .i64 t595, .int .i64 t596, .int .i64 t597] 38 (0, 0))) ∧ Aside0 (wc.heap[gb604]? = some (.cells #[.int .i64 t600, .int .i64 t601, .int .i64 t602] 38 (0, 0))) ∧ Aside0 (wc.heap[gb613]? = some (.cells #[.int .i64 t610, .int .i64 t611] 31 (0, 0))) ∧ Aside0 (Below w.heap.size w wc))
          case first =>
           have H := HC191.out
           clear HC191
           by_cases c199 : t612 = 0
           ·rw [if_pos c199] at H
            have c199b0 : (t612 == 0) = true := beq_iff_eq.mpr c199
            have c199b1 : (t612 != 0) = false := bne_eq_false_iff_eq.mpr c199
            clear c199
            (first | rw [c199b0] | (simp only [i64_w, i32_w]; rw [c199b0]) | skip)
            have H' := aM H
            clear H
            try go_wp2
            have n0_ : Aside0 (Kd.R k31 31 ((w196.setCell ⟨gb613, 0, none⟩ (.int .i64 t610)).setCell ⟨gb613, 1, none⟩ (.int .i64 t611)) w.heap.size (fun k_ => k_ ≠ gb613) (.slice (some ad609) t580.length co192) t580) := ⟨by (with_reducible repeat (first | apply Kd.R_alloc | apply Kd.R_drewN | apply Kd.R_drew)); exact Kd.R_mono (Kd.R_far (p := ⟨gb613, 1, none⟩) (Kd.R_far (p := ⟨gb613, 0, none⟩) (Kd.R_mono HO_4.out (fun k_ hk => (⟨hk, hk⟩ : _ ∧ k_ ≠ gb613))) (fun _ hk => hk.2) (.int .i64 t610)) (fun _ hk => hk.2) (.int .i64 t611)) (fun _ hk => hk.1)⟩
            have n1_ : Aside0 (((w196.setCell ⟨gb613, 0, none⟩ (.int .i64 t610)).setCell ⟨gb613, 1, none⟩ (.int .i64 t611)).heap[gb579]? = some (.cells #[.int .i64 t576, .int .i64 t577, .int .i64 t578] 38 (0, 0))) := ⟨by (repeat (first|(with_reducible first|apply kN|apply kD|apply kA)|refine blk_far ?_ NB579_613.out _)); exact BK579.out⟩
            have n2_ : Aside0 (((w196.setCell ⟨gb613, 0, none⟩ (.int .i64 t610)).setCell ⟨gb613, 1, none⟩ (.int .i64 t611)).heap[gb593]? = some (.cells #[.int .i64 t589, .int .i64 t590, .int .i64 t591] 38 (0, 0))) := ⟨by (repeat (first|(with_reducible first|apply kN|apply kD|apply kA)|refine blk_far ?_ NB593_613.out _)); exact BK593.out⟩
            have n3_ : Aside0 (((w196.setCell ⟨gb613, 0, none⟩ (.int .i64 t610)).setCell ⟨gb613, 1, none⟩ (.int .i64 t611)).heap[gb599]? = some (.cells #[.int .i64 t595, .int .i64 t596, .int .i64 t597] 38 (0, 0))) := ⟨by (repeat (first|(with_reducible first|apply kN|apply kD|apply kA)|refine blk_far ?_ NB599_613.out _)); exact BK599.out⟩
            have n4_ : Aside0 (((w196.setCell ⟨gb613, 0, none⟩ (.int .i64 t610)).setCell ⟨gb613, 1, none⟩ (.int .i64 t611)).heap[gb604]? = some (.cells #[.int .i64 t600, .int .i64 t601, .int .i64 t602] 38 (0, 0))) := ⟨by (repeat (first|(with_reducible first|apply kN|apply kD|apply kA)|refine blk_far ?_ NB604_613.out _)); exact BK604.out⟩
            have n5_ : Aside0 (((w196.setCell ⟨gb613, 0, none⟩ (.int .i64 t610)).setCell ⟨gb613, 1, none⟩ (.int .i64 t611)).heap[gb613]? = some (.cells #[.int .i64 t610, .int .i64 t611] 31 (0, 0))) := ⟨by (with_reducible repeat (first|apply kN|apply kD|apply kA)); refine blk_put (cs := #[.int .i64 t610, .int .i64 0]) ?_ 1 _ rfl; (with_reducible repeat (first|apply kN|apply kD|apply kA)); refine blk_put (cs := #[.int .i64 0, .int .i64 0]) ?_ 0 _ rfl; (with_reducible repeat (first|apply kN|apply kD|apply kA)); exact BK613.out⟩
            have n6_ : Aside0 (Below w.heap.size w ((w196.setCell ⟨gb613, 0, none⟩ (.int .i64 t610)).setCell ⟨gb613, 1, none⟩ (.int .i64 t611))) := ⟨by repeat (first | (with_reducible first | exact HB.out | apply bA|apply bN|apply b1 | refine below_set ?_ (Aside0.out (by assumption))) | exact HB.out)⟩
            (try clear HO_4)
            (try clear BK579)
            (try clear BK593)
            (try clear BK599)
            (try clear BK604)
            (try clear BK613)
            (try clear HB)
            generalize ((w196.setCell ⟨gb613, 0, none⟩ (.int .i64 t610)).setCell ⟨gb613, 1, none⟩ (.int .i64 t611)) = w200 at n0_ n1_ n2_ n3_ n4_ n5_ n6_ ⊢
            have HO_4 := n0_
            have BK579 := n1_
            have BK593 := n2_
            have BK599 := n3_
            have BK604 := n4_
            have BK613 := n5_
            have HB := n6_
            clear n0_ n1_ n2_ n3_ n4_ n5_ n6_
            have n0_ := aM (Kd.R_drew HO_4.out)
            have n1_ := aM (blk_drew BK579.out)
            have n2_ := aM (blk_drew BK593.out)
            have n3_ := aM (blk_drew BK599.out)
            have n4_ := aM (blk_drew BK604.out)
            have n5_ := aM (blk_drew BK613.out)
            have n6_ := aM (below_drew1 HB.out)
            clear HO_4
            clear BK579
            clear BK593
            clear BK599
            clear BK604
            clear BK613
            clear HB
            have HO_4 := n0_
            have BK579 := n1_
            have BK593 := n2_
            have BK599 := n3_
            have BK604 := n4_
            have BK613 := n5_
            have HB := n6_
            clear n0_ n1_ n2_ n3_ n4_ n5_ n6_
            have p614 : 0 ≤ (x16_2 : Int) := of_decide_eq_true (by first | (with_reducible assumption) | assumption)
            have q614 : x16_2 < (t580.length : Int) := of_decide_eq_true (by first | (with_reducible assumption) | assumption)
            obtain ⟨ad614, e614, hx614_0, hx614_1⟩ := at_T31 (Kd.R_reads' HO_4.out).2.2 x16_2 p614 q614
            obtain rfl : ad609 = ad614 := (by injection e614)
            replace p614 := eq_true p614
            replace q614 := eq_true q614
            refine start_ (n := 10) (S := fun w' => w'.cell? ⟨gb613, 0, none⟩ = some (.int .i64 t610) ∧ w'.cell? ⟨gb613, 1, none⟩ = some (.int .i64 t611) ∧ w'.cell? (ad609.add ((x16_2).toNat * 2)) = some (.int .i64 ((rd_T31 t580 x16_2).f0)) ∧ w'.cell? ⟨(ad609.add ((x16_2).toNat * 2)).block, (ad609.add ((x16_2).toNat * 2)).off + 1, none⟩ = some (.int .i64 ((rd_T31 t580 x16_2).f1))) (ds := []) #[false, false, false, false, false, false, false, false, false, false] (by kernel_rfl) rfl rfl ⟨(blk_cell BK613.out 0).trans rfl, (blk_cell BK613.out 1).trans rfl, hx614_0, hx614_1⟩ (fun hHeld => ?_); refine with_tabW laws_FnCells.tab19 laws_FnCells.bits19 (fun HT_ HW_ => ?_)
            generalize w200.drew = w201 at HO_4 BK579 BK593 BK599 BK604 BK613 HB hx614_0 hx614_1 hHeld ⊢
            refine pure_ (i := 0) (N := some 119) (v := ?_) (a' := ?_) #[true, false, false, false, false, false, false, false, false, false] rfl rfl (any_of HT_.out (by kernel_rfl)) (fun _ _ _ h => h) (Or.inl ⟨by rfl, ?_⟩) ?_ ?_
            rotate_left
            ·intro w'
             go_simp
             with_reducible rfl
            rotate_left
            ·simp only [Act.put, List.setIfInBounds_toArray, List.set_cons_zero, List.set_cons_succ, i64_w, i32_w]
             rfl
            refine pure_ (i := 1) (N := some 120) (v := ?_) (a' := ?_) #[true, true, false, false, false, false, false, false, false, false] rfl rfl (any_of HT_.out (by kernel_rfl)) (fun _ _ _ h => h) (Or.inl ⟨by rfl, ?_⟩) ?_ ?_
            rotate_left
            ·intro w'
             go_simp
             with_reducible rfl
            rotate_left
            ·simp only [Act.put, List.setIfInBounds_toArray, List.set_cons_zero, List.set_cons_succ, i64_w, i32_w]
             rfl
            refine pure_ (i := 2) (N := some 121) (v := ?_) (a' := ?_) #[true, true, true, false, false, false, false, false, false, false] rfl rfl (any_of HT_.out (by kernel_rfl)) (fun _ _ _ h => h) (Or.inl ⟨by rfl, ?_⟩) ?_ ?_
            rotate_left
            ·intro w'
             go_simp
             with_reducible rfl
            rotate_left
            ·simp only [Act.put, List.setIfInBounds_toArray, List.set_cons_zero, List.set_cons_succ, i64_w, i32_w]
             rfl
            refine pure_ (i := 4) (N := some 123) (v := ?_) (a' := ?_) #[true, true, true, false, true, false, false, false, false, false] rfl rfl (any_of HT_.out (by kernel_rfl)) (fun _ _ _ h => h) (Or.inl ⟨by rfl, ?_⟩) ?_ ?_
            rotate_left
            ·intro w'
             go_simp
             with_reducible rfl
            rotate_left
            ·simp only [Act.put, List.setIfInBounds_toArray, List.set_cons_zero, List.set_cons_succ, i64_w, i32_w]
             rfl
            refine pure_ (i := 5) (N := some 124) (v := ?_) (a' := ?_) #[true, true, true, false, true, true, false, false, false, false] rfl rfl (any_of HT_.out (by kernel_rfl)) (fun _ _ _ h => h) (Or.inl ⟨by rfl, ?_⟩) ?_ ?_
            rotate_left
            ·intro w'
             go_simp
             with_reducible rfl
            rotate_left
            ·simp only [Act.put, List.setIfInBounds_toArray, List.set_cons_zero, List.set_cons_succ, i64_w, i32_w]
             rfl
            refine pure_ (i := 6) (N := some 125) (v := ?_) (a' := ?_) #[true, true, true, false, true, true, true, false, false, false] rfl rfl (any_of HT_.out (by kernel_rfl)) (fun _ _ _ h => h) (Or.inl ⟨by rfl, ?_⟩) ?_ ?_
            rotate_left
            ·intro w'
             go_simp
             with_reducible rfl
            rotate_left
            ·simp only [Act.put, List.setIfInBounds_toArray, List.set_cons_zero, List.set_cons_succ, i64_w, i32_w]
             rfl
            refine take_ (i := 3) (N := some 122) (v := ?_) (a' := ?_) #[true, true, true, true, true, true, true, false, false, false] rfl rfl (take_ofW HT_.out HW_.out (by kernel_rfl)) (fun _ _ _ h => h) (Or.inl ⟨by rfl, ?_⟩) hHeld ?_ ?_
            rotate_left
            ·rintro w' ⟨s0, s1, s2, s3⟩
             go_simp
             with_reducible rfl
            rotate_left
            ·simp only [Act.put, List.setIfInBounds_toArray, List.set_cons_zero, List.set_cons_succ, i64_w, i32_w]
             rfl
            refine take_ (i := 7) (N := some 126) (v := ?_) (a' := ?_) #[true, true, true, true, true, true, true, true, false, false] rfl rfl (take_ofW HT_.out HW_.out (by kernel_rfl)) (fun _ _ _ h => h) (Or.inl ⟨by rfl, ?_⟩) hHeld ?_ ?_
            rotate_left
            ·rintro w' ⟨s0, s1, s2, s3⟩
             go_simp
             with_reducible rfl
            rotate_left
            ·simp only [Act.put, List.setIfInBounds_toArray, List.set_cons_zero, List.set_cons_succ, i64_w, i32_w]
             rfl
            refine pure_ (i := 8) (N := some 127) (v := ?_) (a' := ?_) #[true, true, true, true, true, true, true, true, true, false] rfl rfl (any_of HT_.out (by kernel_rfl)) (fun _ _ _ h => h) (Or.inl ⟨by rfl, ?_⟩) ?_ ?_
            rotate_left
            ·intro w'
             go_simp
             with_reducible rfl
            rotate_left
            ·simp only [Act.put, List.setIfInBounds_toArray, List.set_cons_zero, List.set_cons_succ, i64_w, i32_w]
             rfl
            refine pure_ (i := 9) (N := some 128) (v := ?_) (a' := ?_) #[true, true, true, true, true, true, true, true, true, true] rfl rfl (any_of HT_.out (by kernel_rfl)) (fun _ _ _ h => h) (Or.inl ⟨by rfl, ?_⟩) ?_ ?_
            rotate_left
            ·intro w'
             go_simp
             with_reducible rfl
            rotate_left
            ·simp only [Act.put, List.setIfInBounds_toArray, List.set_cons_zero, List.set_cons_succ, i64_w, i32_w]
             rfl
            refine done_ (done_of HT_.out (by kernel_rfl)) ?_
            try go_wp2
            go_meet
            case rel => exact ⟨_, ((!(t610 == ((rd_T31 t580 x16_2).f0)) || (!(t611 == ((rd_T31 t580 x16_2).f1))))), (by first | rfl | (simp; done) | (simp [*]; done)), H', ⟨by have := HJ11.out; have := HK2.out; first | omega | exact Nat.le_refl _⟩, ⟨by (with_reducible repeat (first | apply Kd.R_alloc | apply Kd.R_drewN | apply Kd.R_drew)); exact HO_4.out⟩, ⟨by (with_reducible repeat (first|apply kN|apply kD|apply kA)); exact BK579.out⟩, ⟨by (with_reducible repeat (first|apply kN|apply kD|apply kA)); exact BK593.out⟩, ⟨by (with_reducible repeat (first|apply kN|apply kD|apply kA)); exact BK599.out⟩, ⟨by (with_reducible repeat (first|apply kN|apply kD|apply kA)); exact BK604.out⟩, ⟨by (with_reducible repeat (first|apply kN|apply kD|apply kA)); exact BK613.out⟩, ⟨by repeat (first | (with_reducible first | exact HB.out | apply bA|apply bN|apply b1 | refine below_set ?_ (Aside0.out (by assumption))) | exact HB.out)⟩⟩
           ·rw [if_neg c199] at H
            exact absurd H (by cases k2 <;> simp [laws_FnCells.j2])
          case rest =>
           clear HC191
           try clear c1
           try clear p2
           try clear c3
           try clear p6
           try clear q6
           try clear hx6
           try clear c19
           try clear c30
           try clear p61
           try clear q61
           try clear hx61
           try clear c199
           try clear c199b0
           try clear c199b1
           try clear hx614_0
           try clear hx614_1
           try clear p614
           try clear q614
           obtain ⟨kq, x128_190, rfl, HA, HJ190, HO_4, BK579, BK593, BK599, BK604, BK613, HB⟩ := hcut
           cases kq with
           | zero => exact absurd HA.out (by simp [laws_FnCells.j2])
           | succ kj190 =>
            have H := HA.out
            clear HA
            simp only [laws_FnCells.j2] at H
            by_cases c204 : x128_190 = true
            ·subst c204
             have H1 : (some false) = some true := by rw [if_pos rfl] at H; exact H
             clear H
             have H := H1
             clear H1
             exact absurd (Option.some.inj H) (by decide)
            ·replace c204 := Bool.eq_false_iff.mpr c204
             subst c204
             have H1 : (if x16_2 > 0 then (if 0 ≤ (wrap64 (x16_2 - 1)) then (if (wrap64 (x16_2 - 1)) < (t580.length : Int) then (if 0 ≤ x16_2 then (if x16_2 < (t580.length : Int) then ((impl_CompareVecs.f kj190 ((rd_T31 t580 (wrap64 (x16_2 - 1))).f0) ((rd_T31 t580 (wrap64 (x16_2 - 1))).f1) ((rd_T31 t580 x16_2).f0) ((rd_T31 t580 x16_2).f1)).bind fun bt617 => (if bt617.2 = 0 then (if bt617.1 = (-1) then (laws_FnCells.l0 kj190 t580 (wrap64 (x16_2 + 1)) t576 t577 t578) else (some false)) else (some false))) else (none)) else (none)) else (none)) else (none)) else (laws_FnCells.l0 kj190 t580 (wrap64 (x16_2 + 1)) t576 t577 t578)) = some true := by rw [if_neg (show ¬ (false = true) by decide)] at H; exact H
             clear H
             have H := H1
             clear H1
             by_cases c205 : x16_2 > 0
             ·rw [if_pos c205] at H
              have c205b0 : decide (0 < x16_2) = true := decide_eq_true c205
              clear c205
              obtain ⟨ji206, hji206⟩ : ∃ j_ : Int, (wrap64 (x16_2 - 1)) = j_ := ⟨_, rfl⟩
              replace H : (if 0 ≤ (ji206) then (if (ji206) < (t580.length : Int) then (if 0 ≤ x16_2 then (if x16_2 < (t580.length : Int) then ((impl_CompareVecs.f kj190 ((rd_T31 t580 (ji206)).f0) ((rd_T31 t580 (ji206)).f1) ((rd_T31 t580 x16_2).f0) ((rd_T31 t580 x16_2).f1)).bind fun bt617 => (if bt617.2 = 0 then (if bt617.1 = (-1) then (laws_FnCells.l0 kj190 t580 (wrap64 (x16_2 + 1)) t576 t577 t578) else (some false)) else (some false))) else (none)) else (none)) else (none)) else (none)) = some true := by first | (rw [hji206] at H; exact H) | (simp only [hji206] at H ⊢; exact H)
              have hji206w : (IntKind.i64.wrap (x16_2 - 1)) = ji206 := (i64_w _).trans hji206
              by_cases c207 : 0 ≤ (ji206)
              ·rw [if_pos c207] at H
               have c207b0 : decide (0 ≤ (ji206)) = true := decide_eq_true c207
               clear c207
               by_cases c208 : (ji206) < (t580.length : Int)
               ·rw [if_pos c208] at H
                have c208b0 : decide ((ji206) < (t580.length : Int)) = true := decide_eq_true c208
                clear c208
                by_cases c209 : 0 ≤ x16_2
                ·rw [if_pos c209] at H
                 have c209b0 : decide (0 ≤ x16_2) = true := decide_eq_true c209
                 clear c209
                 by_cases c210 : x16_2 < (t580.length : Int)
                 ·rw [if_pos c210] at H
                  have c210b0 : decide (x16_2 < (t580.length : Int)) = true := decide_eq_true c210
                  clear c210
                  replace H := Option.bind_eq_some_iff.mp H
                  obtain ⟨⟨t617, t618⟩, A2110, H⟩ := H
                  try dsimp only at H
                  have A211 := aM A2110
                  clear A2110
                  by_cases c212 : t618 = 0
                  ·rw [if_pos c212] at H
                   have c212b0 : (t618 == 0) = true := beq_iff_eq.mpr c212
                   have c212b1 : (t618 != 0) = false := bne_eq_false_iff_eq.mpr c212
                   clear c212
                   by_cases c213 : t617 = (-1)
                   ·rw [if_pos c213] at H
                    have c213b0 : (t617 == (-1)) = true := beq_iff_eq.mpr c213
                    have c213b1 : (t617 != (-1)) = false := bne_eq_false_iff_eq.mpr c213
                    clear c213
                    have H' := aM H
                    clear H
                    try go_wp2
                    have n0_ := aM (Kd.R_drew HO_4.out)
                    have n1_ := aM (blk_drew BK579.out)
                    have n2_ := aM (blk_drew BK593.out)
                    have n3_ := aM (blk_drew BK599.out)
                    have n4_ := aM (blk_drew BK604.out)
                    have n5_ := aM (blk_drew BK613.out)
                    have n6_ := aM (below_drew1 HB.out)
                    clear HO_4
                    clear BK579
                    clear BK593
                    clear BK599
                    clear BK604
                    clear BK613
                    clear HB
                    have HO_4 := n0_
                    have BK579 := n1_
                    have BK593 := n2_
                    have BK599 := n3_
                    have BK604 := n4_
                    have BK613 := n5_
                    have HB := n6_
                    clear n0_ n1_ n2_ n3_ n4_ n5_ n6_
                    have p615 : 0 ≤ ((ji206) : Int) := of_decide_eq_true (by first | (with_reducible assumption) | assumption)
                    have q615 : (ji206) < (t580.length : Int) := of_decide_eq_true (by first | (with_reducible assumption) | assumption)
                    obtain ⟨ad615, e615, hx615_0, hx615_1⟩ := at_T31 (Kd.R_reads' HO_4.out).2.2 (ji206) p615 q615
                    obtain rfl : ad609 = ad615 := (by injection e615)
                    replace p615 := eq_true p615
                    replace q615 := eq_true q615
                    have p616 : 0 ≤ (x16_2 : Int) := of_decide_eq_true (by first | (with_reducible assumption) | assumption)
                    have q616 : x16_2 < (t580.length : Int) := of_decide_eq_true (by first | (with_reducible assumption) | assumption)
                    obtain ⟨ad616, e616, hx616_0, hx616_1⟩ := at_T31 (Kd.R_reads' HO_4.out).2.2 x16_2 p616 q616
                    obtain rfl : ad609 = ad616 := (by injection e616)
                    replace p616 := eq_true p616
                    replace q616 := eq_true q616
                    refine start_ (n := 15) (S := fun w' => w'.cell? (ad609.add (((ji206)).toNat * 2)) = some (.int .i64 ((rd_T31 t580 (ji206)).f0)) ∧ w'.cell? ⟨(ad609.add (((ji206)).toNat * 2)).block, (ad609.add (((ji206)).toNat * 2)).off + 1, none⟩ = some (.int .i64 ((rd_T31 t580 (ji206)).f1)) ∧ w'.cell? (ad609.add ((x16_2).toNat * 2)) = some (.int .i64 ((rd_T31 t580 x16_2).f0)) ∧ w'.cell? ⟨(ad609.add ((x16_2).toNat * 2)).block, (ad609.add ((x16_2).toNat * 2)).off + 1, none⟩ = some (.int .i64 ((rd_T31 t580 x16_2).f1))) (ds := []) #[false, false, false, false, false, false, false, false, false, false, false, false, false, false, false] (by kernel_rfl) rfl rfl ⟨hx615_0, hx615_1, hx616_0, hx616_1⟩ (fun hHeld => ?_); refine with_tabW laws_FnCells.tab22 laws_FnCells.bits22 (fun HT_ HW_ => ?_)
                    generalize wc.drew = w214 at HO_4 BK579 BK593 BK599 BK604 BK613 HB hx615_0 hx615_1 hx616_0 hx616_1 hHeld ⊢
                    refine pure_ (i := 0) (N := some 132) (v := ?_) (a' := ?_) #[true, false, false, false, false, false, false, false, false, false, false, false, false, false, false] rfl rfl (any_of HT_.out (by kernel_rfl)) (fun _ _ _ h => h) (Or.inl ⟨by rfl, ?_⟩) ?_ ?_
                    rotate_left
                    ·intro w'
                     go_simp
                     with_reducible rfl
                    rotate_left
                    ·simp only [Act.put, List.setIfInBounds_toArray, List.set_cons_zero, List.set_cons_succ, i64_w, i32_w]
                     rfl
                    refine pure_ (i := 1) (N := some 133) (v := ?_) (a' := ?_) #[true, true, false, false, false, false, false, false, false, false, false, false, false, false, false] rfl rfl (any_of HT_.out (by kernel_rfl)) (fun _ _ _ h => h) (Or.inl ⟨by rfl, ?_⟩) ?_ ?_
                    rotate_left
                    ·intro w'
                     go_simp
                     with_reducible rfl
                    rotate_left
                    ·simp only [Act.put, List.setIfInBounds_toArray, List.set_cons_zero, List.set_cons_succ, i64_w, i32_w]
                     rfl
                    refine pure_ (i := 2) (N := some 134) (v := ?_) (a' := ?_) #[true, true, true, false, false, false, false, false, false, false, false, false, false, false, false] rfl rfl (any_of HT_.out (by kernel_rfl)) (fun _ _ _ h => h) (Or.inl ⟨by rfl, ?_⟩) ?_ ?_
                    rotate_left
                    ·intro w'
                     go_simp
                     with_reducible rfl
                    rotate_left
                    ·simp only [Act.put, List.setIfInBounds_toArray, List.set_cons_zero, List.set_cons_succ, i64_w, i32_w]
                     rfl
                    refine pure_ (i := 3) (N := some 135) (v := ?_) (a' := ?_) #[true, true, true, true, false, false, false, false, false, false, false, false, false, false, false] rfl rfl (any_of HT_.out (by kernel_rfl)) (fun _ _ _ h => h) (Or.inl ⟨by rfl, ?_⟩) ?_ ?_
                    rotate_left
                    ·intro w'
                     go_simp
                     with_reducible rfl
                    rotate_left
                    ·simp only [Act.put, List.setIfInBounds_toArray, List.set_cons_zero, List.set_cons_succ, i64_w, i32_w]
                     rfl
                    refine pure_ (i := 5) (N := some 137) (v := ?_) (a' := ?_) #[true, true, true, true, false, true, false, false, false, false, false, false, false, false, false] rfl rfl (any_of HT_.out (by kernel_rfl)) (fun _ _ _ h => h) (Or.inl ⟨by rfl, ?_⟩) ?_ ?_
                    rotate_left
                    ·intro w'
                     go_simp
                     with_reducible rfl
                    rotate_left
                    ·simp only [Act.put, List.setIfInBounds_toArray, List.set_cons_zero, List.set_cons_succ, i64_w, i32_w]
                     rfl
                    refine pure_ (i := 6) (N := some 138) (v := ?_) (a' := ?_) #[true, true, true, true, false, true, true, false, false, false, false, false, false, false, false] rfl rfl (any_of HT_.out (by kernel_rfl)) (fun _ _ _ h => h) (Or.inl ⟨by rfl, ?_⟩) ?_ ?_
                    rotate_left
                    ·intro w'
                     go_simp
                     with_reducible rfl
                    rotate_left
                    ·simp only [Act.put, List.setIfInBounds_toArray, List.set_cons_zero, List.set_cons_succ, i64_w, i32_w]
                     rfl
                    refine pure_ (i := 7) (N := some 139) (v := ?_) (a' := ?_) #[true, true, true, true, false, true, true, true, false, false, false, false, false, false, false] rfl rfl (any_of HT_.out (by kernel_rfl)) (fun _ _ _ h => h) (Or.inl ⟨by rfl, ?_⟩) ?_ ?_
                    rotate_left
                    ·intro w'
                     go_simp
                     with_reducible rfl
                    rotate_left
                    ·simp only [Act.put, List.setIfInBounds_toArray, List.set_cons_zero, List.set_cons_succ, i64_w, i32_w]
                     rfl
                    refine take_ (i := 4) (N := some 136) (v := ?_) (a' := ?_) #[true, true, true, true, true, true, true, true, false, false, false, false, false, false, false] rfl rfl (take_ofW HT_.out HW_.out (by kernel_rfl)) (fun _ _ _ h => h) (Or.inl ⟨by rfl, ?_⟩) hHeld ?_ ?_
                    rotate_left
                    ·rintro w' ⟨s0, s1, s2, s3⟩
                     go_simp
                     with_reducible rfl
                    rotate_left
                    ·simp only [Act.put, List.setIfInBounds_toArray, List.set_cons_zero, List.set_cons_succ, i64_w, i32_w]
                     rfl
                    refine take_ (i := 8) (N := some 140) (v := ?_) (a' := ?_) #[true, true, true, true, true, true, true, true, true, false, false, false, false, false, false] rfl rfl (take_ofW HT_.out HW_.out (by kernel_rfl)) (fun _ _ _ h => h) (Or.inl ⟨by rfl, ?_⟩) hHeld ?_ ?_
                    rotate_left
                    ·rintro w' ⟨s0, s1, s2, s3⟩
                     go_simp
                     with_reducible rfl
                    rotate_left
                    ·simp only [Act.put, List.setIfInBounds_toArray, List.set_cons_zero, List.set_cons_succ, i64_w, i32_w]
                     rfl
                    refine one_ (i := 9) (N := some 141) #[true, true, true, true, true, true, true, true, true, true, false, false, false, false, false] rfl rfl (one_of HT_.out (by kernel_rfl)) (by decide) (fun K hK => ?_)
                    refine goes_ Tryd.func31 (by kernel_rfl) rfl #[.agg #[.int .i64 ((rd_T31 t580 (ji206)).f0), .int .i64 ((rd_T31 t580 (ji206)).f1)], .agg #[.int .i64 ((rd_T31 t580 x16_2).f0), .int .i64 ((rd_T31 t580 x16_2).f1)]] (by rfl) rfl rfl (by (try simp only [List.map_toArray, List.map_cons, List.map_nil]); first | done | (simp only [hji206]; rfl) | rfl | (simp only [List.length_drop, List.length_take]; rfl)) ?_
                    with_reducible refine (impl_CompareVecs.calls kj190 ((rd_T31 t580 (ji206)).f0) ((rd_T31 t580 (ji206)).f1) ((rd_T31 t580 x16_2).f0) ((rd_T31 t580 x16_2).f1) t617 t618 _ A211.out).mono ?_
                    rintro e w215 ⟨rfl, hb⟩
                    have HS0_ := (hb.cell (World.block_lt_of_cell? _ _ (hHeld.1))).trans (hHeld.1)
                    have HS1_ := (hb.cell (World.block_lt_of_cell? _ _ (hHeld.2.1))).trans (hHeld.2.1)
                    have HS2_ := (hb.cell (World.block_lt_of_cell? _ _ (hHeld.2.2.1))).trans (hHeld.2.2.1)
                    have HS3_ := (hb.cell (World.block_lt_of_cell? _ _ (hHeld.2.2.2))).trans (hHeld.2.2.2)
                    refine ⟨_, rfl, ?_⟩
                    have n0_ := aM (Kd.R_below (by (with_reducible repeat (first | apply Kd.R_alloc | apply Kd.R_drewN | apply Kd.R_drew)); exact HO_4.out) hb)
                    have n1_ := bB BK579 hb
                    have n2_ := bB BK593 hb
                    have n3_ := bB BK599 hb
                    have n4_ := bB BK604 hb
                    have n5_ := bB BK613 hb
                    have n6_ := bS HB hb
                    clear HO_4
                    clear BK579
                    clear BK593
                    clear BK599
                    clear BK604
                    clear BK613
                    clear HB
                    have HO_4 := n0_
                    have BK579 := n1_
                    have BK593 := n2_
                    have BK599 := n3_
                    have BK604 := n4_
                    have BK613 := n5_
                    have HB := n6_
                    clear n0_ n1_ n2_ n3_ n4_ n5_ n6_
                    (try clear hb)
                    (try clear hb2)
                    (try clear hk)
                    (try clear hi)
                    refine hK.out _ _ ⟨HS0_, HS1_, HS2_, HS3_⟩ (fun hHeld => ?_)
                    clear hK K
                    refine norm_ (a' := ?_) ?_ ?_
                    rotate_left
                    ·show Act.put _ (some 141) _ = _
                     simp only [Act.put, List.setIfInBounds_toArray, List.set_cons_zero, List.set_cons_succ, i64_w, i32_w]
                     rfl
                    refine pure_ (i := 10) (N := some 131) (v := ?_) (a' := ?_) #[true, true, true, true, true, true, true, true, true, true, true, false, false, false, false] rfl rfl (any_of HT_.out (by kernel_rfl)) (fun _ _ _ h => h) (Or.inl ⟨by rfl, ?_⟩) ?_ ?_
                    rotate_left
                    ·intro w'
                     go_simp
                     with_reducible rfl
                    rotate_left
                    ·simp only [Act.put, List.setIfInBounds_toArray, List.set_cons_zero, List.set_cons_succ, i64_w, i32_w]
                     rfl
                    refine pure_ (i := 11) (N := some 142) (v := ?_) (a' := ?_) #[true, true, true, true, true, true, true, true, true, true, true, true, false, false, false] rfl rfl (any_of HT_.out (by kernel_rfl)) (fun _ _ _ h => h) (Or.inl ⟨by rfl, ?_⟩) ?_ ?_
                    rotate_left
                    ·intro w'
                     go_simp
                     with_reducible rfl
                    rotate_left
                    ·simp only [Act.put, List.setIfInBounds_toArray, List.set_cons_zero, List.set_cons_succ, i64_w, i32_w]
                     rfl
                    refine pure_ (i := 12) (N := some 143) (v := ?_) (a' := ?_) #[true, true, true, true, true, true, true, true, true, true, true, true, true, false, false] rfl rfl (any_of HT_.out (by kernel_rfl)) (fun _ _ _ h => h) (Or.inl ⟨by rfl, ?_⟩) ?_ ?_
                    rotate_left
                    ·intro w'
                     go_simp
                     with_reducible rfl
                    rotate_left
                    ·simp only [Act.put, List.setIfInBounds_toArray, List.set_cons_zero, List.set_cons_succ, i64_w, i32_w]
                     rfl
                    refine pure_ (i := 13) (N := some 19) (v := ?_) (a' := ?_) #[true, true, true, true, true, true, true, true, true, true, true, true, true, true, false] rfl rfl (any_of HT_.out (by kernel_rfl)) (fun _ _ _ h => h) (Or.inl ⟨by rfl, ?_⟩) ?_ ?_
                    rotate_left
                    ·intro w'
                     go_simp
                     with_reducible rfl
                    rotate_left
                    ·simp only [Act.put, List.setIfInBounds_toArray, List.set_cons_zero, List.set_cons_succ, i64_w, i32_w]
                     rfl
                    refine pure_ (i := 14) (N := some 20) (v := ?_) (a' := ?_) #[true, true, true, true, true, true, true, true, true, true, true, true, true, true, true] rfl rfl (any_of HT_.out (by kernel_rfl)) (fun _ _ _ h => h) (Or.inl ⟨by rfl, ?_⟩) ?_ ?_
                    rotate_left
                    ·intro w'
                     go_simp
                     with_reducible rfl
                    rotate_left
                    ·simp only [Act.put, List.setIfInBounds_toArray, List.set_cons_zero, List.set_cons_succ, i64_w, i32_w]
                     rfl
                    refine done_ (done_of HT_.out (by kernel_rfl)) ?_
                    try go_wp2
                    go_roundg kj190
                    case measure => have := HJ11.out; have := HK2.out; have := HJ190.out; omega
                    case rel => exact ⟨(wrap64 (x16_2 + 1)), (by first | rfl | (simp; done) | (simp [*]; done)), H', ⟨by have := HJ11.out; have := HK2.out; have := HJ190.out; omega⟩, ⟨by (with_reducible repeat (first | apply Kd.R_alloc | apply Kd.R_drewN | apply Kd.R_drew)); exact Kd.R_mono HO_4.out (fun _ hk => trivial)⟩, ⟨by (with_reducible repeat (first|apply kN|apply kD|apply kA)); exact BK579.out⟩, ⟨by (with_reducible repeat (first|apply kN|apply kD|apply kA)); exact BK593.out⟩, ⟨by (with_reducible repeat (first|apply kN|apply kD|apply kA)); exact BK599.out⟩, ⟨by (with_reducible repeat (first|apply kN|apply kD|apply kA)); exact BK604.out⟩, ⟨by repeat (first | (with_reducible first | exact HB.out | apply bA|apply bN|apply b1 | refine below_set ?_ (Aside0.out (by assumption))) | exact HB.out)⟩⟩
                   ·rw [if_neg c213] at H
                    have c213b0 : (t617 == (-1)) = false := beq_eq_false_iff_ne.mpr c213
                    have c213b1 : (t617 != (-1)) = true := bne_iff_ne.mpr c213
                    exact absurd (Option.some.inj H) (by decide)
                  ·rw [if_neg c212] at H
                   have c212b0 : (t618 == 0) = false := beq_eq_false_iff_ne.mpr c212
                   have c212b1 : (t618 != 0) = true := bne_iff_ne.mpr c212
                   exact absurd (Option.some.inj H) (by decide)
                 ·rw [if_neg c210] at H
                  exact absurd H (by simp)
                ·rw [if_neg c209] at H
                 exact absurd H (by simp)
               ·rw [if_neg c208] at H
                exact absurd H (by simp)
              ·rw [if_neg c207] at H
               exact absurd H (by simp)
             ·rw [if_neg c205] at H
              have c205b0 : decide (0 < x16_2) = false := decide_eq_false c205
              clear c205
              have H' := aM H
              clear H
              go_wp2
              go_roundg kj190
              case measure => have := HJ11.out; have := HK2.out; have := HJ190.out; omega
              case rel => exact ⟨(wrap64 (x16_2 + 1)), (by first | rfl | (simp; done) | (simp [*]; done)), H', ⟨by have := HJ11.out; have := HK2.out; have := HJ190.out; omega⟩, ⟨by (with_reducible repeat (first | apply Kd.R_alloc | apply Kd.R_drewN | apply Kd.R_drew)); exact Kd.R_mono HO_4.out (fun _ hk => trivial)⟩, ⟨by (with_reducible repeat (first|apply kN|apply kD|apply kA)); exact BK579.out⟩, ⟨by (with_reducible repeat (first|apply kN|apply kD|apply kA)); exact BK593.out⟩, ⟨by (with_reducible repeat (first|apply kN|apply kD|apply kA)); exact BK599.out⟩, ⟨by (with_reducible repeat (first|apply kN|apply kD|apply kA)); exact BK604.out⟩, ⟨by repeat (first | (with_reducible first | exact HB.out | apply bA|apply bN|apply b1 | refine below_set ?_ (Aside0.out (by assumption))) | exact HB.out)⟩⟩
         ·rw [if_neg c189] at H
          exact absurd H (by simp)
        ·rw [if_neg c188] at H
         have c188b0 : decide (x16_2 < (t580.length : Int)) = false := decide_eq_false c188
         clear c188
         have hrT_ := Option.some.inj H
         obtain ⟨Ao220, co220, eo220⟩ := Kd.R_slice HO_4.out
         subst eo220
         have hnb221 := NB579_593.out
         have hnc221 := NB593_579.out
         have hnb222 := NB579_599.out
         have hnc222 := NB599_579.out
         have hnb223 := NB579_604.out
         have hnc223 := NB604_579.out
         obtain ⟨hcz224_0, hcz224_1, hcz224_2⟩ := z3 BK579
         obtain ⟨hfz224_0, hfz224_1, hfz224_2⟩ := y3 BK579
         go_wp2
         all_goals go_ret
         all_goals exact ⟨by first|rfl|(simp [*, errW_none, errW_some] <;> rfl), by repeat (first | (with_reducible first | exact HB.out | apply bA|apply bN|apply b1 | refine below_set ?_ (Aside0.out (by assumption))) | exact HB.out)⟩
     ·rw [if_neg c187] at H
      have c187b0 : (t583 == 0) = false := beq_eq_false_iff_ne.mpr c187
      have c187b1 : (t583 != 0) = true := bne_iff_ne.mpr c187
      clear H
      go_wp2
      go_ret
      exact ⟨by first|rfl|(simp [*, errW_none, errW_some] <;> rfl), by repeat (first | (with_reducible first | exact HB.out | apply bA|apply bN|apply b1 | refine below_set ?_ (Aside0.out (by assumption))) | exact HB.out)⟩


end Go.Proofs.YtiknfddggcbblaaDoor.F

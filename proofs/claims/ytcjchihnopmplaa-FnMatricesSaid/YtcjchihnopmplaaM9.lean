import Derived.Test.YtcjchihnopmplaaM0
import Derived.Test.YtcjchihnopmplaaM1
import Derived.Test.YtcjchihnopmplaaM4
import Derived.Test.YtcjchihnopmplaaM5
import Derived.Test.YtcjchihnopmplaaM6
import Derived.Test.YtcjchihnopmplaaM7
import Derived.Test.YtcjchihnopmplaaM8
namespace Go.Proofs.Ytcjchihnopmplaa.F
open Go.RowKit Go.Proofs.YtcjchihnopmplaaW.PrintWords Go.Proofs.YtcjchihnopmplaaW.PrintLast Go.Proofs.YtcjchihnopmplaaW.PrintMore
attribute [local go_sem] max2_int min2_int max_two min_two max_three min_three max_four min_four   -- for this text's walks alone
set_option linter.unusedVariables false
set_option linter.unusedSimpArgs false
attribute [local go_sem high] eqA47 eqA51

mutual
def laws_FnMatrices.j0 : Nat → Int → Int → Bool → Int → Int → Int → Int → Int → Int → Int → Int → Int → Int → Int → Int → Int → Int → Int → Int → Int → Int → Int → Int → Option (Bool)
 | 0, _, _, _, _, _, _, _, _, _, _, _, _, _, _, _, _, _, _, _, _, _, _, _ => none
 | k + 1, x6, x11, x111, x690000, x690001, x690002, x690003, x691000, x691001, x691002, x691003, x697000, x697001, x697002, x697003, x708000, x708001, x708002, x708003, x714000, x714001, x714002, x714003 => if x111 = true then (some false) else (if x11 = 0 then ((impl_MultiplyMats.f k x708000 x708001 x708002 x708003 x714000 x714001 x714002 x714003).bind fun bt738 => (if bt738.2.2.2.2 = 0 then (if (!(bt738.1 == 1) || (!(bt738.2.1 == 0) || (!(bt738.2.2.1 == 0) || (!(bt738.2.2.2.1 == 1))))) = true then (some false) else (laws_FnMatrices.j1 k x6 x690000 x690001 x690002 x690003 x691000 x691001 x691002 x691003 x697000 x697001 x697002 x697003)) else (some false))) else (laws_FnMatrices.j1 k x6 x690000 x690001 x690002 x690003 x691000 x691001 x691002 x691003 x697000 x697001 x697002 x697003))
def laws_FnMatrices.j1 : Nat → Int → Int → Int → Int → Int → Int → Int → Int → Int → Int → Int → Int → Int → Option (Bool)
 | 0, _, _, _, _, _, _, _, _, _, _, _, _, _ => none
 | k + 1, x6, x690000, x690001, x690002, x690003, x691000, x691001, x691002, x691003, x697000, x697001, x697002, x697003 => if x6 = 0 then ((impl_ApplyMat.f k x691000 x691001 x691002 x691003 3 (-2)).bind fun bt745 => ((impl_ApplyMat.f k x690000 x690001 x690002 x690003 bt745.1 bt745.2.1).bind fun bt749 => ((impl_ApplyMat.f k x697000 x697001 x697002 x697003 3 (-2)).bind fun bt753 => (if bt745.2.2 = 0 then (if bt749.2.2 = 0 then (if bt753.2.2 = 0 then (some (bt749.1 == bt753.1 && (bt749.2.1 == bt753.2.1))) else (some true)) else (some true)) else (some true))))) else (some true)
end
def laws_FnMatrices.f (k : Nat) (l0 : List Int) : Option (Bool) := (laws_big.f l0).bind fun t680 => (if t680 = true then (some true) else ((spec_DrawMultiplyMats.f k l0).bind fun bt681 => ((impl_MultiplyMats.f k bt681.1 bt681.2.1 bt681.2.2.1 bt681.2.2.2.1 bt681.2.2.2.2.1 bt681.2.2.2.2.2.1 bt681.2.2.2.2.2.2.1 bt681.2.2.2.2.2.2.2).bind fun bt691 => ((spec_MultiplyMats.f k bt681.1 bt681.2.1 bt681.2.2.1 bt681.2.2.2.1 bt681.2.2.2.2.1 bt681.2.2.2.2.2.1 bt681.2.2.2.2.2.2.1 bt681.2.2.2.2.2.2.2).bind fun bt697 => ((spec_DrawInverseMat.f k l0).bind fun bt703 => ((impl_InverseMat.f bt703.1 bt703.2.1 bt703.2.2.1 bt703.2.2.2).bind fun bt708 => ((spec_InverseMat.f bt703.1 bt703.2.1 bt703.2.2.1 bt703.2.2.2).bind fun bt714 => ((spec_DrawApplyMat.f k l0).bind fun bt720 => ((impl_ApplyMat.f k bt720.1 bt720.2.1 bt720.2.2.1 bt720.2.2.2.1 bt720.2.2.2.2.1 bt720.2.2.2.2.2).bind fun bt728 => ((spec_ApplyMat.f k bt720.1 bt720.2.1 bt720.2.2.1 bt720.2.2.2.1 bt720.2.2.2.2.1 bt720.2.2.2.2.2).bind fun bt732 => (if bt691.2.2.2.2 = bt697.2.2.2.2 then (if (!(bt691.1 == bt697.1) || (!(bt691.2.1 == bt697.2.1) || (!(bt691.2.2.1 == bt697.2.2.1) || (!(bt691.2.2.2.1 == bt697.2.2.2.1))))) = true then (laws_FnMatrices.j0 k bt691.2.2.2.2 bt708.2.2.2.2 true bt681.1 bt681.2.1 bt681.2.2.1 bt681.2.2.2.1 bt681.2.2.2.2.1 bt681.2.2.2.2.2.1 bt681.2.2.2.2.2.2.1 bt681.2.2.2.2.2.2.2 bt691.1 bt691.2.1 bt691.2.2.1 bt691.2.2.2.1 bt703.1 bt703.2.1 bt703.2.2.1 bt703.2.2.2 bt708.1 bt708.2.1 bt708.2.2.1 bt708.2.2.2.1) else (if bt708.2.2.2.2 = bt714.2.2.2.2 then (if (!(bt708.1 == bt714.1) || (!(bt708.2.1 == bt714.2.1) || (!(bt708.2.2.1 == bt714.2.2.1) || (!(bt708.2.2.2.1 == bt714.2.2.2.1))))) = true then (laws_FnMatrices.j0 k bt691.2.2.2.2 bt708.2.2.2.2 true bt681.1 bt681.2.1 bt681.2.2.1 bt681.2.2.2.1 bt681.2.2.2.2.1 bt681.2.2.2.2.2.1 bt681.2.2.2.2.2.2.1 bt681.2.2.2.2.2.2.2 bt691.1 bt691.2.1 bt691.2.2.1 bt691.2.2.2.1 bt703.1 bt703.2.1 bt703.2.2.1 bt703.2.2.2 bt708.1 bt708.2.1 bt708.2.2.1 bt708.2.2.2.1) else (if bt728.2.2 = bt732.2.2 then (if (!(bt728.1 == bt732.1) || (!(bt728.2.1 == bt732.2.1))) = true then (laws_FnMatrices.j0 k bt691.2.2.2.2 bt708.2.2.2.2 true bt681.1 bt681.2.1 bt681.2.2.1 bt681.2.2.2.1 bt681.2.2.2.2.1 bt681.2.2.2.2.2.1 bt681.2.2.2.2.2.2.1 bt681.2.2.2.2.2.2.2 bt691.1 bt691.2.1 bt691.2.2.1 bt691.2.2.2.1 bt703.1 bt703.2.1 bt703.2.2.1 bt703.2.2.2 bt708.1 bt708.2.1 bt708.2.2.1 bt708.2.2.2.1) else ((impl_IsMat.f bt681.1 bt681.2.1 bt681.2.2.1 bt681.2.2.2.1).bind fun t736 => ((spec_IsMat.f bt681.1 bt681.2.1 bt681.2.2.1 bt681.2.2.2.1).bind fun t737 => (laws_FnMatrices.j0 k bt691.2.2.2.2 bt708.2.2.2.2 (t736 != t737) bt681.1 bt681.2.1 bt681.2.2.1 bt681.2.2.2.1 bt681.2.2.2.2.1 bt681.2.2.2.2.2.1 bt681.2.2.2.2.2.2.1 bt681.2.2.2.2.2.2.2 bt691.1 bt691.2.1 bt691.2.2.1 bt691.2.2.2.1 bt703.1 bt703.2.1 bt703.2.2.1 bt703.2.2.2 bt708.1 bt708.2.1 bt708.2.2.1 bt708.2.2.2.1)))) else (laws_FnMatrices.j0 k bt691.2.2.2.2 bt708.2.2.2.2 true bt681.1 bt681.2.1 bt681.2.2.1 bt681.2.2.2.1 bt681.2.2.2.2.1 bt681.2.2.2.2.2.1 bt681.2.2.2.2.2.2.1 bt681.2.2.2.2.2.2.2 bt691.1 bt691.2.1 bt691.2.2.1 bt691.2.2.2.1 bt703.1 bt703.2.1 bt703.2.2.1 bt703.2.2.2 bt708.1 bt708.2.1 bt708.2.2.1 bt708.2.2.2.1))) else (laws_FnMatrices.j0 k bt691.2.2.2.2 bt708.2.2.2.2 true bt681.1 bt681.2.1 bt681.2.2.1 bt681.2.2.2.1 bt681.2.2.2.2.1 bt681.2.2.2.2.2.1 bt681.2.2.2.2.2.2.1 bt681.2.2.2.2.2.2.2 bt691.1 bt691.2.1 bt691.2.2.1 bt691.2.2.2.1 bt703.1 bt703.2.1 bt703.2.2.1 bt703.2.2.2 bt708.1 bt708.2.1 bt708.2.2.1 bt708.2.2.2.1))) else (laws_FnMatrices.j0 k bt691.2.2.2.2 bt708.2.2.2.2 true bt681.1 bt681.2.1 bt681.2.2.1 bt681.2.2.2.1 bt681.2.2.2.2.1 bt681.2.2.2.2.2.1 bt681.2.2.2.2.2.2.1 bt681.2.2.2.2.2.2.2 bt691.1 bt691.2.1 bt691.2.2.1 bt691.2.2.2.1 bt703.1 bt703.2.1 bt703.2.2.1 bt703.2.2.2 bt708.1 bt708.2.1 bt708.2.2.1 bt708.2.2.2.1))))))))))))
def laws_FnMatrices.T12 : Bool × List (List Nat × List Nat) := (true, [([], []), ([], []), ([0, 1], [0, 1]), ([2], [2]), ([3], [3]), ([3], [3]), ([4, 5, 3], [3, 4, 5]), ([3, 6], [3, 6]), ([7, 3], [7]), ([8], [8]), ([8], [8]), ([9, 10, 8], [8, 9, 10]), ([8, 11], [8, 11]), ([12, 8], [12]), ([13], [13]), ([13], [13]), ([14, 15, 13], [13, 14, 15]), ([13, 16], [13, 16]), ([17, 13], [17]), ([18], [18]), ([18], [18]), ([19, 20, 18], [18, 19, 20]), ([18, 21], [18, 21]), ([22, 18], [22]), ([23], [23]), ([23], [23]), ([24, 25, 23], [23, 24, 25]), ([23, 26], [23, 26]), ([27, 23], [27]), ([28], [28]), ([29, 28, 28], [28, 29]), ([28], [28]), ([31, 30, 28], [28, 31]), ([30, 32, 28], [28, 30, 32]), ([28, 33], [28, 33])])
def laws_FnMatrices.B12 : List Nat := [0, 0, 3, 7, 15, 15, 63, 127, 255, 511, 511, 2047, 4095, 8191, 16383, 16383, 65535, 131071, 262143, 524287, 524287, 2097151, 4194303, 8388607, 16777215, 16777215, 67108863, 134217727, 268435455, 536870911, 1073741823, 536870911, 4294967295, 8589934591, 17179869183]
theorem laws_FnMatrices.tab12 : rtab .any (opsOf Try.f6 12) = laws_FnMatrices.T12 := by kernel_rfl
theorem laws_FnMatrices.bits12 : waitsOk laws_FnMatrices.T12.2 laws_FnMatrices.B12 = true := by kernel_rfl
set_option maxHeartbeats 8000000 in
set_option maxRecDepth 100000 in
theorem laws_FnMatrices.calls (k : Nat) (A0 : Option Addr) (c0 : Nat) (l0 : List Int) (w : World) (hr0 : Kd.C (Kd.int .u8) w A0 l0.length l0) (hc0 : l0.length ≤ c0) (h : laws_FnMatrices.f k l0 = some true) :
  Calls Try.prog 6 #[.slice A0 l0.length c0] w fun e w' => e = .returned (.bool true) ∧ Below w.heap.size w w' := by
 have hu51 := Try.underlying51
 have hu47 := Try.underlying47
 have HR0 := aM hr0
 have HC0 := aM hc0
 clear hr0 hc0
 have HB := aM (Below.refl w.heap.size w)
 have H : ((laws_big.f l0).bind fun t680 => (if t680 = true then (some true) else ((spec_DrawMultiplyMats.f k l0).bind fun bt681 => ((impl_MultiplyMats.f k bt681.1 bt681.2.1 bt681.2.2.1 bt681.2.2.2.1 bt681.2.2.2.2.1 bt681.2.2.2.2.2.1 bt681.2.2.2.2.2.2.1 bt681.2.2.2.2.2.2.2).bind fun bt691 => ((spec_MultiplyMats.f k bt681.1 bt681.2.1 bt681.2.2.1 bt681.2.2.2.1 bt681.2.2.2.2.1 bt681.2.2.2.2.2.1 bt681.2.2.2.2.2.2.1 bt681.2.2.2.2.2.2.2).bind fun bt697 => ((spec_DrawInverseMat.f k l0).bind fun bt703 => ((impl_InverseMat.f bt703.1 bt703.2.1 bt703.2.2.1 bt703.2.2.2).bind fun bt708 => ((spec_InverseMat.f bt703.1 bt703.2.1 bt703.2.2.1 bt703.2.2.2).bind fun bt714 => ((spec_DrawApplyMat.f k l0).bind fun bt720 => ((impl_ApplyMat.f k bt720.1 bt720.2.1 bt720.2.2.1 bt720.2.2.2.1 bt720.2.2.2.2.1 bt720.2.2.2.2.2).bind fun bt728 => ((spec_ApplyMat.f k bt720.1 bt720.2.1 bt720.2.2.1 bt720.2.2.2.1 bt720.2.2.2.2.1 bt720.2.2.2.2.2).bind fun bt732 => (if bt691.2.2.2.2 = bt697.2.2.2.2 then (if (!(bt691.1 == bt697.1) || (!(bt691.2.1 == bt697.2.1) || (!(bt691.2.2.1 == bt697.2.2.1) || (!(bt691.2.2.2.1 == bt697.2.2.2.1))))) = true then (laws_FnMatrices.j0 k bt691.2.2.2.2 bt708.2.2.2.2 true bt681.1 bt681.2.1 bt681.2.2.1 bt681.2.2.2.1 bt681.2.2.2.2.1 bt681.2.2.2.2.2.1 bt681.2.2.2.2.2.2.1 bt681.2.2.2.2.2.2.2 bt691.1 bt691.2.1 bt691.2.2.1 bt691.2.2.2.1 bt703.1 bt703.2.1 bt703.2.2.1 bt703.2.2.2 bt708.1 bt708.2.1 bt708.2.2.1 bt708.2.2.2.1) else (if bt708.2.2.2.2 = bt714.2.2.2.2 then (if (!(bt708.1 == bt714.1) || (!(bt708.2.1 == bt714.2.1) || (!(bt708.2.2.1 == bt714.2.2.1) || (!(bt708.2.2.2.1 == bt714.2.2.2.1))))) = true then (laws_FnMatrices.j0 k bt691.2.2.2.2 bt708.2.2.2.2 true bt681.1 bt681.2.1 bt681.2.2.1 bt681.2.2.2.1 bt681.2.2.2.2.1 bt681.2.2.2.2.2.1 bt681.2.2.2.2.2.2.1 bt681.2.2.2.2.2.2.2 bt691.1 bt691.2.1 bt691.2.2.1 bt691.2.2.2.1 bt703.1 bt703.2.1 bt703.2.2.1 bt703.2.2.2 bt708.1 bt708.2.1 bt708.2.2.1 bt708.2.2.2.1) else (if bt728.2.2 = bt732.2.2 then (if (!(bt728.1 == bt732.1) || (!(bt728.2.1 == bt732.2.1))) = true then (laws_FnMatrices.j0 k bt691.2.2.2.2 bt708.2.2.2.2 true bt681.1 bt681.2.1 bt681.2.2.1 bt681.2.2.2.1 bt681.2.2.2.2.1 bt681.2.2.2.2.2.1 bt681.2.2.2.2.2.2.1 bt681.2.2.2.2.2.2.2 bt691.1 bt691.2.1 bt691.2.2.1 bt691.2.2.2.1 bt703.1 bt703.2.1 bt703.2.2.1 bt703.2.2.2 bt708.1 bt708.2.1 bt708.2.2.1 bt708.2.2.2.1) else ((impl_IsMat.f bt681.1 bt681.2.1 bt681.2.2.1 bt681.2.2.2.1).bind fun t736 => ((spec_IsMat.f bt681.1 bt681.2.1 bt681.2.2.1 bt681.2.2.2.1).bind fun t737 => (laws_FnMatrices.j0 k bt691.2.2.2.2 bt708.2.2.2.2 (t736 != t737) bt681.1 bt681.2.1 bt681.2.2.1 bt681.2.2.2.1 bt681.2.2.2.2.1 bt681.2.2.2.2.2.1 bt681.2.2.2.2.2.2.1 bt681.2.2.2.2.2.2.2 bt691.1 bt691.2.1 bt691.2.2.1 bt691.2.2.2.1 bt703.1 bt703.2.1 bt703.2.2.1 bt703.2.2.2 bt708.1 bt708.2.1 bt708.2.2.1 bt708.2.2.2.1)))) else (laws_FnMatrices.j0 k bt691.2.2.2.2 bt708.2.2.2.2 true bt681.1 bt681.2.1 bt681.2.2.1 bt681.2.2.2.1 bt681.2.2.2.2.1 bt681.2.2.2.2.2.1 bt681.2.2.2.2.2.2.1 bt681.2.2.2.2.2.2.2 bt691.1 bt691.2.1 bt691.2.2.1 bt691.2.2.2.1 bt703.1 bt703.2.1 bt703.2.2.1 bt703.2.2.2 bt708.1 bt708.2.1 bt708.2.2.1 bt708.2.2.2.1))) else (laws_FnMatrices.j0 k bt691.2.2.2.2 bt708.2.2.2.2 true bt681.1 bt681.2.1 bt681.2.2.1 bt681.2.2.2.1 bt681.2.2.2.2.1 bt681.2.2.2.2.2.1 bt681.2.2.2.2.2.2.1 bt681.2.2.2.2.2.2.2 bt691.1 bt691.2.1 bt691.2.2.1 bt691.2.2.2.1 bt703.1 bt703.2.1 bt703.2.2.1 bt703.2.2.2 bt708.1 bt708.2.1 bt708.2.2.1 bt708.2.2.2.1))) else (laws_FnMatrices.j0 k bt691.2.2.2.2 bt708.2.2.2.2 true bt681.1 bt681.2.1 bt681.2.2.1 bt681.2.2.2.1 bt681.2.2.2.2.1 bt681.2.2.2.2.2.1 bt681.2.2.2.2.2.2.1 bt681.2.2.2.2.2.2.2 bt691.1 bt691.2.1 bt691.2.2.1 bt691.2.2.2.1 bt703.1 bt703.2.1 bt703.2.2.1 bt703.2.2.2 bt708.1 bt708.2.1 bt708.2.2.1 bt708.2.2.2.1))))))))))))) = some true := h
 clear h
 replace H := Option.bind_eq_some_iff.mp H
 obtain ⟨t680, A20, H⟩ := H
 try dsimp only at H
 have A2 := aM A20
 clear A20
 by_cases c3 : t680 = true
 ·subst c3
  have H1 : (some true) = some true := rfl
  clear H
  have H := H1
  clear H1
  clear H
  go_enter Try.func6, Try.ntmps6
  go_wp2_with (first | ((with_reducible refine gate_callee (f := 21) rfl ?_); refine goesL_ (some 30) rfl rfl Try.func21 (by kernel_rfl) rfl #[.slice A0 l0.length c0] rfl (by first|rfl|(simp only [List.map_toArray, List.map_cons, List.map_nil]; try rfl)) ?_; (with_reducible refine (laws_big.calls _ _ l0 true _ ?side1 ?side2 A2.out).mono ?_); (case side1 => repeat (first | exact HR0.out | (with_reducible refine Kd.C_alloc ?_ _) | (with_reducible refine Kd.C_drewN ?_ _) | (with_reducible refine Kd.C_drew ?_))); (case side2 => exact HC0.out); rintro e w' ⟨rfl, ⟨nd, rfl⟩⟩; refine ⟨_, rfl, ?_⟩))
  go_ret
  exact ⟨by first|rfl|(simp [*, errW_none, errW_some] <;> rfl), by repeat (first | (with_reducible first | exact HB.out | apply bA|apply bN|apply b1) | exact HB.out)⟩
 ·replace c3 := Bool.eq_false_iff.mpr c3
  subst c3
  have H1 : ((spec_DrawMultiplyMats.f k l0).bind fun bt681 => ((impl_MultiplyMats.f k bt681.1 bt681.2.1 bt681.2.2.1 bt681.2.2.2.1 bt681.2.2.2.2.1 bt681.2.2.2.2.2.1 bt681.2.2.2.2.2.2.1 bt681.2.2.2.2.2.2.2).bind fun bt691 => ((spec_MultiplyMats.f k bt681.1 bt681.2.1 bt681.2.2.1 bt681.2.2.2.1 bt681.2.2.2.2.1 bt681.2.2.2.2.2.1 bt681.2.2.2.2.2.2.1 bt681.2.2.2.2.2.2.2).bind fun bt697 => ((spec_DrawInverseMat.f k l0).bind fun bt703 => ((impl_InverseMat.f bt703.1 bt703.2.1 bt703.2.2.1 bt703.2.2.2).bind fun bt708 => ((spec_InverseMat.f bt703.1 bt703.2.1 bt703.2.2.1 bt703.2.2.2).bind fun bt714 => ((spec_DrawApplyMat.f k l0).bind fun bt720 => ((impl_ApplyMat.f k bt720.1 bt720.2.1 bt720.2.2.1 bt720.2.2.2.1 bt720.2.2.2.2.1 bt720.2.2.2.2.2).bind fun bt728 => ((spec_ApplyMat.f k bt720.1 bt720.2.1 bt720.2.2.1 bt720.2.2.2.1 bt720.2.2.2.2.1 bt720.2.2.2.2.2).bind fun bt732 => (if bt691.2.2.2.2 = bt697.2.2.2.2 then (if (!(bt691.1 == bt697.1) || (!(bt691.2.1 == bt697.2.1) || (!(bt691.2.2.1 == bt697.2.2.1) || (!(bt691.2.2.2.1 == bt697.2.2.2.1))))) = true then (laws_FnMatrices.j0 k bt691.2.2.2.2 bt708.2.2.2.2 true bt681.1 bt681.2.1 bt681.2.2.1 bt681.2.2.2.1 bt681.2.2.2.2.1 bt681.2.2.2.2.2.1 bt681.2.2.2.2.2.2.1 bt681.2.2.2.2.2.2.2 bt691.1 bt691.2.1 bt691.2.2.1 bt691.2.2.2.1 bt703.1 bt703.2.1 bt703.2.2.1 bt703.2.2.2 bt708.1 bt708.2.1 bt708.2.2.1 bt708.2.2.2.1) else (if bt708.2.2.2.2 = bt714.2.2.2.2 then (if (!(bt708.1 == bt714.1) || (!(bt708.2.1 == bt714.2.1) || (!(bt708.2.2.1 == bt714.2.2.1) || (!(bt708.2.2.2.1 == bt714.2.2.2.1))))) = true then (laws_FnMatrices.j0 k bt691.2.2.2.2 bt708.2.2.2.2 true bt681.1 bt681.2.1 bt681.2.2.1 bt681.2.2.2.1 bt681.2.2.2.2.1 bt681.2.2.2.2.2.1 bt681.2.2.2.2.2.2.1 bt681.2.2.2.2.2.2.2 bt691.1 bt691.2.1 bt691.2.2.1 bt691.2.2.2.1 bt703.1 bt703.2.1 bt703.2.2.1 bt703.2.2.2 bt708.1 bt708.2.1 bt708.2.2.1 bt708.2.2.2.1) else (if bt728.2.2 = bt732.2.2 then (if (!(bt728.1 == bt732.1) || (!(bt728.2.1 == bt732.2.1))) = true then (laws_FnMatrices.j0 k bt691.2.2.2.2 bt708.2.2.2.2 true bt681.1 bt681.2.1 bt681.2.2.1 bt681.2.2.2.1 bt681.2.2.2.2.1 bt681.2.2.2.2.2.1 bt681.2.2.2.2.2.2.1 bt681.2.2.2.2.2.2.2 bt691.1 bt691.2.1 bt691.2.2.1 bt691.2.2.2.1 bt703.1 bt703.2.1 bt703.2.2.1 bt703.2.2.2 bt708.1 bt708.2.1 bt708.2.2.1 bt708.2.2.2.1) else ((impl_IsMat.f bt681.1 bt681.2.1 bt681.2.2.1 bt681.2.2.2.1).bind fun t736 => ((spec_IsMat.f bt681.1 bt681.2.1 bt681.2.2.1 bt681.2.2.2.1).bind fun t737 => (laws_FnMatrices.j0 k bt691.2.2.2.2 bt708.2.2.2.2 (t736 != t737) bt681.1 bt681.2.1 bt681.2.2.1 bt681.2.2.2.1 bt681.2.2.2.2.1 bt681.2.2.2.2.2.1 bt681.2.2.2.2.2.2.1 bt681.2.2.2.2.2.2.2 bt691.1 bt691.2.1 bt691.2.2.1 bt691.2.2.2.1 bt703.1 bt703.2.1 bt703.2.2.1 bt703.2.2.2 bt708.1 bt708.2.1 bt708.2.2.1 bt708.2.2.2.1)))) else (laws_FnMatrices.j0 k bt691.2.2.2.2 bt708.2.2.2.2 true bt681.1 bt681.2.1 bt681.2.2.1 bt681.2.2.2.1 bt681.2.2.2.2.1 bt681.2.2.2.2.2.1 bt681.2.2.2.2.2.2.1 bt681.2.2.2.2.2.2.2 bt691.1 bt691.2.1 bt691.2.2.1 bt691.2.2.2.1 bt703.1 bt703.2.1 bt703.2.2.1 bt703.2.2.2 bt708.1 bt708.2.1 bt708.2.2.1 bt708.2.2.2.1))) else (laws_FnMatrices.j0 k bt691.2.2.2.2 bt708.2.2.2.2 true bt681.1 bt681.2.1 bt681.2.2.1 bt681.2.2.2.1 bt681.2.2.2.2.1 bt681.2.2.2.2.2.1 bt681.2.2.2.2.2.2.1 bt681.2.2.2.2.2.2.2 bt691.1 bt691.2.1 bt691.2.2.1 bt691.2.2.2.1 bt703.1 bt703.2.1 bt703.2.2.1 bt703.2.2.2 bt708.1 bt708.2.1 bt708.2.2.1 bt708.2.2.2.1))) else (laws_FnMatrices.j0 k bt691.2.2.2.2 bt708.2.2.2.2 true bt681.1 bt681.2.1 bt681.2.2.1 bt681.2.2.2.1 bt681.2.2.2.2.1 bt681.2.2.2.2.2.1 bt681.2.2.2.2.2.2.1 bt681.2.2.2.2.2.2.2 bt691.1 bt691.2.1 bt691.2.2.1 bt691.2.2.2.1 bt703.1 bt703.2.1 bt703.2.2.1 bt703.2.2.2 bt708.1 bt708.2.1 bt708.2.2.1 bt708.2.2.2.1))))))))))) = some true := by rw [if_neg (show ¬ (false = true) by decide)] at H; exact H
  clear H
  have H := H1
  clear H1
  replace H := Option.bind_eq_some_iff.mp H
  obtain ⟨⟨t681, t682, t683, t684, t685, t686, t687, t688⟩, A40, H⟩ := H
  try dsimp only at H
  have A4 := aM A40
  clear A40
  replace H := Option.bind_eq_some_iff.mp H
  obtain ⟨⟨t691, t692, t693, t694, t695⟩, A50, H⟩ := H
  try dsimp only at H
  have A5 := aM A50
  clear A50
  replace H := Option.bind_eq_some_iff.mp H
  obtain ⟨⟨t697, t698, t699, t700, t701⟩, A60, H⟩ := H
  try dsimp only at H
  have A6 := aM A60
  clear A60
  replace H := Option.bind_eq_some_iff.mp H
  obtain ⟨⟨t703, t704, t705, t706⟩, A70, H⟩ := H
  try dsimp only at H
  have A7 := aM A70
  clear A70
  replace H := Option.bind_eq_some_iff.mp H
  obtain ⟨⟨t708, t709, t710, t711, t712⟩, A80, H⟩ := H
  try dsimp only at H
  have A8 := aM A80
  clear A80
  replace H := Option.bind_eq_some_iff.mp H
  obtain ⟨⟨t714, t715, t716, t717, t718⟩, A90, H⟩ := H
  try dsimp only at H
  have A9 := aM A90
  clear A90
  replace H := Option.bind_eq_some_iff.mp H
  obtain ⟨⟨t720, t721, t722, t723, t724, t725⟩, A100, H⟩ := H
  try dsimp only at H
  have A10 := aM A100
  clear A100
  replace H := Option.bind_eq_some_iff.mp H
  obtain ⟨⟨t728, t729, t730⟩, A110, H⟩ := H
  try dsimp only at H
  have A11 := aM A110
  clear A110
  replace H := Option.bind_eq_some_iff.mp H
  obtain ⟨⟨t732, t733, t734⟩, A120, H⟩ := H
  try dsimp only at H
  have A12 := aM A120
  clear A120
  have HC13 := aM H
  clear H
  go_enter Try.func6, Try.ntmps6
  go_upto_region 12 with (first | ((with_reducible refine gate_callee (f := 21) rfl ?_); refine goesL_ (some 30) rfl rfl Try.func21 (by kernel_rfl) rfl #[.slice A0 l0.length c0] rfl (by first|rfl|(simp only [List.map_toArray, List.map_cons, List.map_nil]; try rfl)) ?_; (with_reducible refine (laws_big.calls _ _ l0 false _ ?side1 ?side2 A2.out).mono ?_); (case side1 => repeat (first | exact HR0.out | (with_reducible refine Kd.C_alloc ?_ _) | (with_reducible refine Kd.C_drewN ?_ _) | (with_reducible refine Kd.C_drew ?_))); (case side2 => exact HC0.out); rintro e w' ⟨rfl, ⟨nd, rfl⟩⟩; refine ⟨_, rfl, ?_⟩) | ((with_reducible refine gate_callee (f := 28) rfl ?_); refine goesL_ (some 33) rfl rfl Try.func28 (by kernel_rfl) rfl #[.slice A0 l0.length c0] rfl (by first|rfl|(simp only [List.map_toArray, List.map_cons, List.map_nil]; try rfl)) ?_; (with_reducible refine (spec_DrawMultiplyMats.calls k _ _ l0 t681 t682 t683 t684 t685 t686 t687 t688 _ ?side1 ?side2 A4.out).mono ?_); (case side1 => repeat (first | exact HR0.out | (with_reducible refine Kd.C_alloc ?_ _) | (with_reducible refine Kd.C_drewN ?_ _) | (with_reducible refine Kd.C_drew ?_))); (case side2 => exact HC0.out); rintro e w14 ⟨rfl, hb⟩; refine ⟨_, rfl, ?_⟩; have n0_ := bS HB hb; clear HB; have HB := n0_; clear n0_; (try clear hb)) | ((with_reducible refine gate_dst (N := 3) rfl ?_); refine box_event ?hg (N := 3) ?hd (cs := #[.int .i64 0, .int .i64 0, .int .i64 0, .int .i64 0]) (t := 51) ?hr ?_; (case hd => rfl); (case hg => rfl); (case hr => first | (go_simp; done) | (go_simp; rfl)); intro gb689 hg w15 hbox hb; have n0_ := bS HB hb; have n1_ := aM (hbox); have n2_ := bZ hg HB; have n3_ := bZ hg HB; clear HB; have HB := n0_; have BK689 := n1_; have GW689 := n2_; have GE689 := n3_; clear n0_ n1_ n2_ n3_; clear hb hbox hg) | ((with_reducible refine gate_dst (N := 4) rfl ?_); refine box_event ?hg (N := 4) ?hd (cs := #[.int .i64 0, .int .i64 0, .int .i64 0, .int .i64 0]) (t := 51) ?hr ?_; (case hd => rfl); (case hg => rfl); (case hr => first | (go_simp; done) | (go_simp; rfl)); intro gb690 hg w16 hbox hb; have n0_ := bB BK689 hb; have n1_ := bS HB hb; have n2_ := aM (hbox); have n3_ := bZ hg HB; have n4_ := bZ hg HB; have n5_ := nL hg BK689; have n6_ := nG hg BK689; clear BK689; clear HB; have BK689 := n0_; have HB := n1_; have BK690 := n2_; have GW690 := n3_; have GE690 := n4_; have NB689_690 := n5_; have NB690_689 := n6_; clear n0_ n1_ n2_ n3_ n4_ n5_ n6_; clear hb hbox hg; have hnb17 := NB689_690.out; have hnc17 := NB690_689.out; obtain ⟨hcz18_0, hcz18_1, hcz18_2, hcz18_3⟩ := z4 BK689; obtain ⟨hfz18_0, hfz18_1, hfz18_2, hfz18_3⟩ := y4 BK689; obtain ⟨hcz19_0, hcz19_1, hcz19_2, hcz19_3⟩ := z4 BK690; obtain ⟨hfz19_0, hfz19_1, hfz19_2, hfz19_3⟩ := y4 BK690) | ((with_reducible refine gate_callee (f := 29) rfl ?_); refine goesL_ (some 39) rfl rfl Try.func29 (by kernel_rfl) rfl #[.agg #[.int .i64 t681, .int .i64 t682, .int .i64 t683, .int .i64 t684], .agg #[.int .i64 t685, .int .i64 t686, .int .i64 t687, .int .i64 t688]] rfl (by first|rfl|(simp only [List.map_toArray, List.map_cons, List.map_nil]; try rfl)) ?_; (with_reducible refine (impl_MultiplyMats.calls k t681 t682 t683 t684 t685 t686 t687 t688 t691 t692 t693 t694 t695 _ A5.out).mono ?_); rintro e w20 ⟨rfl, hb⟩; refine ⟨_, rfl, ?_⟩; have n0_ := aM (blk_below (g := gb689) (o := .cells #[.int .i64 t681, .int .i64 t682, .int .i64 t683, .int .i64 t684] 51 (0, 0)) (by (repeat (first|(with_reducible first|apply kN|apply kD|apply kA)|refine blk_far ?_ NB689_690.out _)); refine blk_put (cs := #[.int .i64 t681, .int .i64 t682, .int .i64 t683, .int .i64 0]) ?_ 3 _ rfl; (with_reducible repeat (first|apply kN|apply kD|apply kA)); refine blk_put (cs := #[.int .i64 t681, .int .i64 t682, .int .i64 0, .int .i64 0]) ?_ 2 _ rfl; (with_reducible repeat (first|apply kN|apply kD|apply kA)); refine blk_put (cs := #[.int .i64 t681, .int .i64 0, .int .i64 0, .int .i64 0]) ?_ 1 _ rfl; (with_reducible repeat (first|apply kN|apply kD|apply kA)); refine blk_put (cs := #[.int .i64 0, .int .i64 0, .int .i64 0, .int .i64 0]) ?_ 0 _ rfl; (with_reducible repeat (first|apply kN|apply kD|apply kA)); exact BK689.out) hb); have n1_ := aM (blk_below (g := gb690) (o := .cells #[.int .i64 t685, .int .i64 t686, .int .i64 t687, .int .i64 t688] 51 (0, 0)) (by (with_reducible repeat (first|apply kN|apply kD|apply kA)); refine blk_put (cs := #[.int .i64 t685, .int .i64 t686, .int .i64 t687, .int .i64 0]) ?_ 3 _ rfl; (with_reducible repeat (first|apply kN|apply kD|apply kA)); refine blk_put (cs := #[.int .i64 t685, .int .i64 t686, .int .i64 0, .int .i64 0]) ?_ 2 _ rfl; (with_reducible repeat (first|apply kN|apply kD|apply kA)); refine blk_put (cs := #[.int .i64 t685, .int .i64 0, .int .i64 0, .int .i64 0]) ?_ 1 _ rfl; (with_reducible repeat (first|apply kN|apply kD|apply kA)); refine blk_put (cs := #[.int .i64 0, .int .i64 0, .int .i64 0, .int .i64 0]) ?_ 0 _ rfl; (repeat (first|(with_reducible first|apply kN|apply kD|apply kA)|refine blk_far ?_ NB690_689.out _)); exact BK690.out) hb); have n2_ := bS HB hb; clear BK689; clear BK690; clear HB; have BK689 := n0_; have BK690 := n1_; have HB := n2_; clear n0_ n1_ n2_; (try clear hb)) | ((with_reducible refine gate_dst (N := 5) rfl ?_); refine box_event ?hg (N := 5) ?hd (cs := #[.int .i64 0, .int .i64 0, .int .i64 0, .int .i64 0]) (t := 51) ?hr ?_; (case hd => rfl); (case hg => rfl); (case hr => first | (go_simp; done) | (go_simp; rfl)); intro gb696 hg w21 hbox hb; have n0_ := bB BK689 hb; have n1_ := bB BK690 hb; have n2_ := bS HB hb; have n3_ := aM (hbox); have n4_ := bZ hg HB; have n5_ := bZ hg HB; have n6_ := nL hg BK689; have n7_ := nG hg BK689; have n8_ := nL hg BK690; have n9_ := nG hg BK690; clear BK689; clear BK690; clear HB; have BK689 := n0_; have BK690 := n1_; have HB := n2_; have BK696 := n3_; have GW696 := n4_; have GE696 := n5_; have NB689_696 := n6_; have NB696_689 := n7_; have NB690_696 := n8_; have NB696_690 := n9_; clear n0_ n1_ n2_ n3_ n4_ n5_ n6_ n7_ n8_ n9_; clear hb hbox hg; have hnb22 := NB696_689.out; have hnc22 := NB689_696.out; have hnb23 := NB696_690.out; have hnc23 := NB690_696.out; obtain ⟨hcz24_0, hcz24_1, hcz24_2, hcz24_3⟩ := z4 BK696; obtain ⟨hfz24_0, hfz24_1, hfz24_2, hfz24_3⟩ := y4 BK696; obtain ⟨hcz25_0, hcz25_1, hcz25_2, hcz25_3⟩ := z4 BK689; obtain ⟨hfz25_0, hfz25_1, hfz25_2, hfz25_3⟩ := y4 BK689; obtain ⟨hcz26_0, hcz26_1, hcz26_2, hcz26_3⟩ := z4 BK690; obtain ⟨hfz26_0, hfz26_1, hfz26_2, hfz26_3⟩ := y4 BK690) | ((with_reducible refine gate_callee (f := 30) rfl ?_); refine goesL_ (some 45) rfl rfl Try.func30 (by kernel_rfl) rfl #[.agg #[.int .i64 t681, .int .i64 t682, .int .i64 t683, .int .i64 t684], .agg #[.int .i64 t685, .int .i64 t686, .int .i64 t687, .int .i64 t688]] rfl (by first|rfl|(simp only [List.map_toArray, List.map_cons, List.map_nil]; try rfl)) ?_; (with_reducible refine (spec_MultiplyMats.calls k t681 t682 t683 t684 t685 t686 t687 t688 t697 t698 t699 t700 t701 _ A6.out).mono ?_); rintro e w27 ⟨rfl, hb⟩; refine ⟨_, rfl, ?_⟩; have n0_ := aM (blk_below (g := gb689) (o := .cells #[.int .i64 t681, .int .i64 t682, .int .i64 t683, .int .i64 t684] 51 (0, 0)) (by (repeat (first|(with_reducible first|apply kN|apply kD|apply kA)|refine blk_far ?_ NB689_696.out _)); exact BK689.out) hb); have n1_ := aM (blk_below (g := gb690) (o := .cells #[.int .i64 t685, .int .i64 t686, .int .i64 t687, .int .i64 t688] 51 (0, 0)) (by (repeat (first|(with_reducible first|apply kN|apply kD|apply kA)|refine blk_far ?_ NB690_696.out _)); exact BK690.out) hb); have n2_ := aM (blk_below (g := gb696) (o := .cells #[.int .i64 t691, .int .i64 t692, .int .i64 t693, .int .i64 t694] 51 (0, 0)) (by (with_reducible repeat (first|apply kN|apply kD|apply kA)); refine blk_put (cs := #[.int .i64 t691, .int .i64 t692, .int .i64 t693, .int .i64 0]) ?_ 3 _ rfl; (with_reducible repeat (first|apply kN|apply kD|apply kA)); refine blk_put (cs := #[.int .i64 t691, .int .i64 t692, .int .i64 0, .int .i64 0]) ?_ 2 _ rfl; (with_reducible repeat (first|apply kN|apply kD|apply kA)); refine blk_put (cs := #[.int .i64 t691, .int .i64 0, .int .i64 0, .int .i64 0]) ?_ 1 _ rfl; (with_reducible repeat (first|apply kN|apply kD|apply kA)); refine blk_put (cs := #[.int .i64 0, .int .i64 0, .int .i64 0, .int .i64 0]) ?_ 0 _ rfl; (with_reducible repeat (first|apply kN|apply kD|apply kA)); exact BK696.out) hb); have n3_ := bS HB hb; clear BK689; clear BK690; clear BK696; clear HB; have BK689 := n0_; have BK690 := n1_; have BK696 := n2_; have HB := n3_; clear n0_ n1_ n2_ n3_; (try clear hb)) | ((with_reducible refine gate_dst (N := 7) rfl ?_); refine box_event ?hg (N := 7) ?hd (cs := #[.int .i64 0, .int .i64 0, .int .i64 0, .int .i64 0]) (t := 51) ?hr ?_; (case hd => rfl); (case hg => rfl); (case hr => first | (go_simp; done) | (go_simp; rfl)); intro gb702 hg w28 hbox hb; have n0_ := bB BK689 hb; have n1_ := bB BK690 hb; have n2_ := bB BK696 hb; have n3_ := bS HB hb; have n4_ := aM (hbox); have n5_ := bZ hg HB; have n6_ := bZ hg HB; have n7_ := nL hg BK689; have n8_ := nG hg BK689; have n9_ := nL hg BK690; have n10_ := nG hg BK690; have n11_ := nL hg BK696; have n12_ := nG hg BK696; clear BK689; clear BK690; clear BK696; clear HB; have BK689 := n0_; have BK690 := n1_; have BK696 := n2_; have HB := n3_; have BK702 := n4_; have GW702 := n5_; have GE702 := n6_; have NB689_702 := n7_; have NB702_689 := n8_; have NB690_702 := n9_; have NB702_690 := n10_; have NB696_702 := n11_; have NB702_696 := n12_; clear n0_ n1_ n2_ n3_ n4_ n5_ n6_ n7_ n8_ n9_ n10_ n11_ n12_; clear hb hbox hg; have hnb29 := NB702_689.out; have hnc29 := NB689_702.out; have hnb30 := NB702_690.out; have hnc30 := NB690_702.out; have hnb31 := NB702_696.out; have hnc31 := NB696_702.out; obtain ⟨hcz32_0, hcz32_1, hcz32_2, hcz32_3⟩ := z4 BK702; obtain ⟨hfz32_0, hfz32_1, hfz32_2, hfz32_3⟩ := y4 BK702) | ((with_reducible refine gate_callee (f := 31) rfl ?_); refine goesL_ (some 49) rfl rfl Try.func31 (by kernel_rfl) rfl #[.slice A0 l0.length c0] rfl (by first|rfl|(simp only [List.map_toArray, List.map_cons, List.map_nil]; try rfl)) ?_; (with_reducible refine (spec_DrawInverseMat.calls k _ _ l0 t703 t704 t705 t706 _ ?side1 ?side2 A7.out).mono ?_); (case side1 => exact Kd.C_below HR0.out (by repeat (first | (with_reducible first | exact HB.out | apply bA|apply bN|apply b1 | refine below_set ?_ (Aside0.out (by assumption))) | exact HB.out))); (case side2 => exact HC0.out); rintro e w33 ⟨rfl, hb⟩; refine ⟨_, rfl, ?_⟩; have n0_ := aM (blk_below (g := gb689) (o := .cells #[.int .i64 t681, .int .i64 t682, .int .i64 t683, .int .i64 t684] 51 (0, 0)) (by (repeat (first|(with_reducible first|apply kN|apply kD|apply kA)|refine blk_far ?_ NB689_702.out _)); exact BK689.out) hb); have n1_ := aM (blk_below (g := gb690) (o := .cells #[.int .i64 t685, .int .i64 t686, .int .i64 t687, .int .i64 t688] 51 (0, 0)) (by (repeat (first|(with_reducible first|apply kN|apply kD|apply kA)|refine blk_far ?_ NB690_702.out _)); exact BK690.out) hb); have n2_ := aM (blk_below (g := gb696) (o := .cells #[.int .i64 t691, .int .i64 t692, .int .i64 t693, .int .i64 t694] 51 (0, 0)) (by (repeat (first|(with_reducible first|apply kN|apply kD|apply kA)|refine blk_far ?_ NB696_702.out _)); exact BK696.out) hb); have n3_ := aM (blk_below (g := gb702) (o := .cells #[.int .i64 t697, .int .i64 t698, .int .i64 t699, .int .i64 t700] 51 (0, 0)) (by (with_reducible repeat (first|apply kN|apply kD|apply kA)); refine blk_put (cs := #[.int .i64 t697, .int .i64 t698, .int .i64 t699, .int .i64 0]) ?_ 3 _ rfl; (with_reducible repeat (first|apply kN|apply kD|apply kA)); refine blk_put (cs := #[.int .i64 t697, .int .i64 t698, .int .i64 0, .int .i64 0]) ?_ 2 _ rfl; (with_reducible repeat (first|apply kN|apply kD|apply kA)); refine blk_put (cs := #[.int .i64 t697, .int .i64 0, .int .i64 0, .int .i64 0]) ?_ 1 _ rfl; (with_reducible repeat (first|apply kN|apply kD|apply kA)); refine blk_put (cs := #[.int .i64 0, .int .i64 0, .int .i64 0, .int .i64 0]) ?_ 0 _ rfl; (with_reducible repeat (first|apply kN|apply kD|apply kA)); exact BK702.out) hb); have n4_ := bS HB hb; clear BK689; clear BK690; clear BK696; clear BK702; clear HB; have BK689 := n0_; have BK690 := n1_; have BK696 := n2_; have BK702 := n3_; have HB := n4_; clear n0_ n1_ n2_ n3_ n4_; (try clear hb)) | ((with_reducible refine gate_dst (N := 9) rfl ?_); refine box_event ?hg (N := 9) ?hd (cs := #[.int .i64 0, .int .i64 0, .int .i64 0, .int .i64 0]) (t := 51) ?hr ?_; (case hd => rfl); (case hg => rfl); (case hr => first | (go_simp; done) | (go_simp; rfl)); intro gb707 hg w34 hbox hb; have n0_ := bB BK689 hb; have n1_ := bB BK690 hb; have n2_ := bB BK696 hb; have n3_ := bB BK702 hb; have n4_ := bS HB hb; have n5_ := aM (hbox); have n6_ := bZ hg HB; have n7_ := bZ hg HB; have n8_ := nL hg BK689; have n9_ := nG hg BK689; have n10_ := nL hg BK690; have n11_ := nG hg BK690; have n12_ := nL hg BK696; have n13_ := nG hg BK696; have n14_ := nL hg BK702; have n15_ := nG hg BK702; clear BK689; clear BK690; clear BK696; clear BK702; clear HB; have BK689 := n0_; have BK690 := n1_; have BK696 := n2_; have BK702 := n3_; have HB := n4_; have BK707 := n5_; have GW707 := n6_; have GE707 := n7_; have NB689_707 := n8_; have NB707_689 := n9_; have NB690_707 := n10_; have NB707_690 := n11_; have NB696_707 := n12_; have NB707_696 := n13_; have NB702_707 := n14_; have NB707_702 := n15_; clear n0_ n1_ n2_ n3_ n4_ n5_ n6_ n7_ n8_ n9_ n10_ n11_ n12_ n13_ n14_ n15_; clear hb hbox hg; have hnb35 := NB707_689.out; have hnc35 := NB689_707.out; have hnb36 := NB707_690.out; have hnc36 := NB690_707.out; have hnb37 := NB707_696.out; have hnc37 := NB696_707.out; have hnb38 := NB707_702.out; have hnc38 := NB702_707.out; obtain ⟨hcz39_0, hcz39_1, hcz39_2, hcz39_3⟩ := z4 BK707; obtain ⟨hfz39_0, hfz39_1, hfz39_2, hfz39_3⟩ := y4 BK707) | ((with_reducible refine gate_callee (f := 32) rfl ?_); refine goesL_ (some 52) rfl rfl Try.func32 (by kernel_rfl) rfl #[.agg #[.int .i64 t703, .int .i64 t704, .int .i64 t705, .int .i64 t706]] rfl (by first|rfl|(simp only [List.map_toArray, List.map_cons, List.map_nil]; try rfl)) ?_; (with_reducible refine (impl_InverseMat.calls t703 t704 t705 t706 t708 t709 t710 t711 t712 _ A8.out).mono ?_); rintro e w40 ⟨rfl, hb⟩; refine ⟨_, rfl, ?_⟩; have n0_ := aM (blk_below (g := gb689) (o := .cells #[.int .i64 t681, .int .i64 t682, .int .i64 t683, .int .i64 t684] 51 (0, 0)) (by (repeat (first|(with_reducible first|apply kN|apply kD|apply kA)|refine blk_far ?_ NB689_707.out _)); exact BK689.out) hb); have n1_ := aM (blk_below (g := gb690) (o := .cells #[.int .i64 t685, .int .i64 t686, .int .i64 t687, .int .i64 t688] 51 (0, 0)) (by (repeat (first|(with_reducible first|apply kN|apply kD|apply kA)|refine blk_far ?_ NB690_707.out _)); exact BK690.out) hb); have n2_ := aM (blk_below (g := gb696) (o := .cells #[.int .i64 t691, .int .i64 t692, .int .i64 t693, .int .i64 t694] 51 (0, 0)) (by (repeat (first|(with_reducible first|apply kN|apply kD|apply kA)|refine blk_far ?_ NB696_707.out _)); exact BK696.out) hb); have n3_ := aM (blk_below (g := gb702) (o := .cells #[.int .i64 t697, .int .i64 t698, .int .i64 t699, .int .i64 t700] 51 (0, 0)) (by (repeat (first|(with_reducible first|apply kN|apply kD|apply kA)|refine blk_far ?_ NB702_707.out _)); exact BK702.out) hb); have n4_ := aM (blk_below (g := gb707) (o := .cells #[.int .i64 t703, .int .i64 t704, .int .i64 t705, .int .i64 t706] 51 (0, 0)) (by (with_reducible repeat (first|apply kN|apply kD|apply kA)); refine blk_put (cs := #[.int .i64 t703, .int .i64 t704, .int .i64 t705, .int .i64 0]) ?_ 3 _ rfl; (with_reducible repeat (first|apply kN|apply kD|apply kA)); refine blk_put (cs := #[.int .i64 t703, .int .i64 t704, .int .i64 0, .int .i64 0]) ?_ 2 _ rfl; (with_reducible repeat (first|apply kN|apply kD|apply kA)); refine blk_put (cs := #[.int .i64 t703, .int .i64 0, .int .i64 0, .int .i64 0]) ?_ 1 _ rfl; (with_reducible repeat (first|apply kN|apply kD|apply kA)); refine blk_put (cs := #[.int .i64 0, .int .i64 0, .int .i64 0, .int .i64 0]) ?_ 0 _ rfl; (with_reducible repeat (first|apply kN|apply kD|apply kA)); exact BK707.out) hb); have n5_ := bS HB hb; clear BK689; clear BK690; clear BK696; clear BK702; clear BK707; clear HB; have BK689 := n0_; have BK690 := n1_; have BK696 := n2_; have BK702 := n3_; have BK707 := n4_; have HB := n5_; clear n0_ n1_ n2_ n3_ n4_ n5_; (try clear hb)) | ((with_reducible refine gate_dst (N := 10) rfl ?_); refine box_event ?hg (N := 10) ?hd (cs := #[.int .i64 0, .int .i64 0, .int .i64 0, .int .i64 0]) (t := 51) ?hr ?_; (case hd => rfl); (case hg => rfl); (case hr => first | (go_simp; done) | (go_simp; rfl)); intro gb713 hg w41 hbox hb; have n0_ := bB BK689 hb; have n1_ := bB BK690 hb; have n2_ := bB BK696 hb; have n3_ := bB BK702 hb; have n4_ := bB BK707 hb; have n5_ := bS HB hb; have n6_ := aM (hbox); have n7_ := bZ hg HB; have n8_ := bZ hg HB; have n9_ := nL hg BK689; have n10_ := nG hg BK689; have n11_ := nL hg BK690; have n12_ := nG hg BK690; have n13_ := nL hg BK696; have n14_ := nG hg BK696; have n15_ := nL hg BK702; have n16_ := nG hg BK702; have n17_ := nL hg BK707; have n18_ := nG hg BK707; clear BK689; clear BK690; clear BK696; clear BK702; clear BK707; clear HB; have BK689 := n0_; have BK690 := n1_; have BK696 := n2_; have BK702 := n3_; have BK707 := n4_; have HB := n5_; have BK713 := n6_; have GW713 := n7_; have GE713 := n8_; have NB689_713 := n9_; have NB713_689 := n10_; have NB690_713 := n11_; have NB713_690 := n12_; have NB696_713 := n13_; have NB713_696 := n14_; have NB702_713 := n15_; have NB713_702 := n16_; have NB707_713 := n17_; have NB713_707 := n18_; clear n0_ n1_ n2_ n3_ n4_ n5_ n6_ n7_ n8_ n9_ n10_ n11_ n12_ n13_ n14_ n15_ n16_ n17_ n18_; clear hb hbox hg; have hnb42 := NB713_689.out; have hnc42 := NB689_713.out; have hnb43 := NB713_690.out; have hnc43 := NB690_713.out; have hnb44 := NB713_696.out; have hnc44 := NB696_713.out; have hnb45 := NB713_702.out; have hnc45 := NB702_713.out; have hnb46 := NB713_707.out; have hnc46 := NB707_713.out; obtain ⟨hcz47_0, hcz47_1, hcz47_2, hcz47_3⟩ := z4 BK713; obtain ⟨hfz47_0, hfz47_1, hfz47_2, hfz47_3⟩ := y4 BK713; obtain ⟨hcz48_0, hcz48_1, hcz48_2, hcz48_3⟩ := z4 BK707; obtain ⟨hfz48_0, hfz48_1, hfz48_2, hfz48_3⟩ := y4 BK707) | ((with_reducible refine gate_callee (f := 33) rfl ?_); refine goesL_ (some 57) rfl rfl Try.func33 (by kernel_rfl) rfl #[.agg #[.int .i64 t703, .int .i64 t704, .int .i64 t705, .int .i64 t706]] rfl (by first|rfl|(simp only [List.map_toArray, List.map_cons, List.map_nil]; try rfl)) ?_; (with_reducible refine (spec_InverseMat.calls t703 t704 t705 t706 t714 t715 t716 t717 t718 _ A9.out).mono ?_); rintro e w49 ⟨rfl, hb⟩; refine ⟨_, rfl, ?_⟩; have n0_ := aM (blk_below (g := gb689) (o := .cells #[.int .i64 t681, .int .i64 t682, .int .i64 t683, .int .i64 t684] 51 (0, 0)) (by (repeat (first|(with_reducible first|apply kN|apply kD|apply kA)|refine blk_far ?_ NB689_713.out _)); exact BK689.out) hb); have n1_ := aM (blk_below (g := gb690) (o := .cells #[.int .i64 t685, .int .i64 t686, .int .i64 t687, .int .i64 t688] 51 (0, 0)) (by (repeat (first|(with_reducible first|apply kN|apply kD|apply kA)|refine blk_far ?_ NB690_713.out _)); exact BK690.out) hb); have n2_ := aM (blk_below (g := gb696) (o := .cells #[.int .i64 t691, .int .i64 t692, .int .i64 t693, .int .i64 t694] 51 (0, 0)) (by (repeat (first|(with_reducible first|apply kN|apply kD|apply kA)|refine blk_far ?_ NB696_713.out _)); exact BK696.out) hb); have n3_ := aM (blk_below (g := gb702) (o := .cells #[.int .i64 t697, .int .i64 t698, .int .i64 t699, .int .i64 t700] 51 (0, 0)) (by (repeat (first|(with_reducible first|apply kN|apply kD|apply kA)|refine blk_far ?_ NB702_713.out _)); exact BK702.out) hb); have n4_ := aM (blk_below (g := gb707) (o := .cells #[.int .i64 t703, .int .i64 t704, .int .i64 t705, .int .i64 t706] 51 (0, 0)) (by (repeat (first|(with_reducible first|apply kN|apply kD|apply kA)|refine blk_far ?_ NB707_713.out _)); exact BK707.out) hb); have n5_ := aM (blk_below (g := gb713) (o := .cells #[.int .i64 t708, .int .i64 t709, .int .i64 t710, .int .i64 t711] 51 (0, 0)) (by (with_reducible repeat (first|apply kN|apply kD|apply kA)); refine blk_put (cs := #[.int .i64 t708, .int .i64 t709, .int .i64 t710, .int .i64 0]) ?_ 3 _ rfl; (with_reducible repeat (first|apply kN|apply kD|apply kA)); refine blk_put (cs := #[.int .i64 t708, .int .i64 t709, .int .i64 0, .int .i64 0]) ?_ 2 _ rfl; (with_reducible repeat (first|apply kN|apply kD|apply kA)); refine blk_put (cs := #[.int .i64 t708, .int .i64 0, .int .i64 0, .int .i64 0]) ?_ 1 _ rfl; (with_reducible repeat (first|apply kN|apply kD|apply kA)); refine blk_put (cs := #[.int .i64 0, .int .i64 0, .int .i64 0, .int .i64 0]) ?_ 0 _ rfl; (with_reducible repeat (first|apply kN|apply kD|apply kA)); exact BK713.out) hb); have n6_ := bS HB hb; clear BK689; clear BK690; clear BK696; clear BK702; clear BK707; clear BK713; clear HB; have BK689 := n0_; have BK690 := n1_; have BK696 := n2_; have BK702 := n3_; have BK707 := n4_; have BK713 := n5_; have HB := n6_; clear n0_ n1_ n2_ n3_ n4_ n5_ n6_; (try clear hb)) | ((with_reducible refine gate_dst (N := 12) rfl ?_); refine box_event ?hg (N := 12) ?hd (cs := #[.int .i64 0, .int .i64 0, .int .i64 0, .int .i64 0]) (t := 51) ?hr ?_; (case hd => rfl); (case hg => rfl); (case hr => first | (go_simp; done) | (go_simp; rfl)); intro gb719 hg w50 hbox hb; have n0_ := bB BK689 hb; have n1_ := bB BK690 hb; have n2_ := bB BK696 hb; have n3_ := bB BK702 hb; have n4_ := bB BK707 hb; have n5_ := bB BK713 hb; have n6_ := bS HB hb; have n7_ := aM (hbox); have n8_ := bZ hg HB; have n9_ := bZ hg HB; have n10_ := nL hg BK689; have n11_ := nG hg BK689; have n12_ := nL hg BK690; have n13_ := nG hg BK690; have n14_ := nL hg BK696; have n15_ := nG hg BK696; have n16_ := nL hg BK702; have n17_ := nG hg BK702; have n18_ := nL hg BK707; have n19_ := nG hg BK707; have n20_ := nL hg BK713; have n21_ := nG hg BK713; clear BK689; clear BK690; clear BK696; clear BK702; clear BK707; clear BK713; clear HB; have BK689 := n0_; have BK690 := n1_; have BK696 := n2_; have BK702 := n3_; have BK707 := n4_; have BK713 := n5_; have HB := n6_; have BK719 := n7_; have GW719 := n8_; have GE719 := n9_; have NB689_719 := n10_; have NB719_689 := n11_; have NB690_719 := n12_; have NB719_690 := n13_; have NB696_719 := n14_; have NB719_696 := n15_; have NB702_719 := n16_; have NB719_702 := n17_; have NB707_719 := n18_; have NB719_707 := n19_; have NB713_719 := n20_; have NB719_713 := n21_; clear n0_ n1_ n2_ n3_ n4_ n5_ n6_ n7_ n8_ n9_ n10_ n11_ n12_ n13_ n14_ n15_ n16_ n17_ n18_ n19_ n20_ n21_; clear hb hbox hg; have hnb51 := NB719_689.out; have hnc51 := NB689_719.out; have hnb52 := NB719_690.out; have hnc52 := NB690_719.out; have hnb53 := NB719_696.out; have hnc53 := NB696_719.out; have hnb54 := NB719_702.out; have hnc54 := NB702_719.out; have hnb55 := NB719_707.out; have hnc55 := NB707_719.out; have hnb56 := NB719_713.out; have hnc56 := NB713_719.out; obtain ⟨hcz57_0, hcz57_1, hcz57_2, hcz57_3⟩ := z4 BK719; obtain ⟨hfz57_0, hfz57_1, hfz57_2, hfz57_3⟩ := y4 BK719) | ((with_reducible refine gate_callee (f := 34) rfl ?_); refine goesL_ (some 62) rfl rfl Try.func34 (by kernel_rfl) rfl #[.slice A0 l0.length c0] rfl (by first|rfl|(simp only [List.map_toArray, List.map_cons, List.map_nil]; try rfl)) ?_; (with_reducible refine (spec_DrawApplyMat.calls k _ _ l0 t720 t721 t722 t723 t724 t725 _ ?side1 ?side2 A10.out).mono ?_); (case side1 => exact Kd.C_below HR0.out (by repeat (first | (with_reducible first | exact HB.out | apply bA|apply bN|apply b1 | refine below_set ?_ (Aside0.out (by assumption))) | exact HB.out))); (case side2 => exact HC0.out); rintro e w58 ⟨rfl, hb⟩; refine ⟨_, rfl, ?_⟩; have n0_ := aM (blk_below (g := gb689) (o := .cells #[.int .i64 t681, .int .i64 t682, .int .i64 t683, .int .i64 t684] 51 (0, 0)) (by (repeat (first|(with_reducible first|apply kN|apply kD|apply kA)|refine blk_far ?_ NB689_719.out _)); exact BK689.out) hb); have n1_ := aM (blk_below (g := gb690) (o := .cells #[.int .i64 t685, .int .i64 t686, .int .i64 t687, .int .i64 t688] 51 (0, 0)) (by (repeat (first|(with_reducible first|apply kN|apply kD|apply kA)|refine blk_far ?_ NB690_719.out _)); exact BK690.out) hb); have n2_ := aM (blk_below (g := gb696) (o := .cells #[.int .i64 t691, .int .i64 t692, .int .i64 t693, .int .i64 t694] 51 (0, 0)) (by (repeat (first|(with_reducible first|apply kN|apply kD|apply kA)|refine blk_far ?_ NB696_719.out _)); exact BK696.out) hb); have n3_ := aM (blk_below (g := gb702) (o := .cells #[.int .i64 t697, .int .i64 t698, .int .i64 t699, .int .i64 t700] 51 (0, 0)) (by (repeat (first|(with_reducible first|apply kN|apply kD|apply kA)|refine blk_far ?_ NB702_719.out _)); exact BK702.out) hb); have n4_ := aM (blk_below (g := gb707) (o := .cells #[.int .i64 t703, .int .i64 t704, .int .i64 t705, .int .i64 t706] 51 (0, 0)) (by (repeat (first|(with_reducible first|apply kN|apply kD|apply kA)|refine blk_far ?_ NB707_719.out _)); exact BK707.out) hb); have n5_ := aM (blk_below (g := gb713) (o := .cells #[.int .i64 t708, .int .i64 t709, .int .i64 t710, .int .i64 t711] 51 (0, 0)) (by (repeat (first|(with_reducible first|apply kN|apply kD|apply kA)|refine blk_far ?_ NB713_719.out _)); exact BK713.out) hb); have n6_ := aM (blk_below (g := gb719) (o := .cells #[.int .i64 t714, .int .i64 t715, .int .i64 t716, .int .i64 t717] 51 (0, 0)) (by (with_reducible repeat (first|apply kN|apply kD|apply kA)); refine blk_put (cs := #[.int .i64 t714, .int .i64 t715, .int .i64 t716, .int .i64 0]) ?_ 3 _ rfl; (with_reducible repeat (first|apply kN|apply kD|apply kA)); refine blk_put (cs := #[.int .i64 t714, .int .i64 t715, .int .i64 0, .int .i64 0]) ?_ 2 _ rfl; (with_reducible repeat (first|apply kN|apply kD|apply kA)); refine blk_put (cs := #[.int .i64 t714, .int .i64 0, .int .i64 0, .int .i64 0]) ?_ 1 _ rfl; (with_reducible repeat (first|apply kN|apply kD|apply kA)); refine blk_put (cs := #[.int .i64 0, .int .i64 0, .int .i64 0, .int .i64 0]) ?_ 0 _ rfl; (with_reducible repeat (first|apply kN|apply kD|apply kA)); exact BK719.out) hb); have n7_ := bS HB hb; clear BK689; clear BK690; clear BK696; clear BK702; clear BK707; clear BK713; clear BK719; clear HB; have BK689 := n0_; have BK690 := n1_; have BK696 := n2_; have BK702 := n3_; have BK707 := n4_; have BK713 := n5_; have BK719 := n6_; have HB := n7_; clear n0_ n1_ n2_ n3_ n4_ n5_ n6_ n7_; (try clear hb)) | ((with_reducible refine gate_dst (N := 14) rfl ?_); refine box_event ?hg (N := 14) ?hd (cs := #[.int .i64 0, .int .i64 0, .int .i64 0, .int .i64 0]) (t := 51) ?hr ?_; (case hd => rfl); (case hg => rfl); (case hr => first | (go_simp; done) | (go_simp; rfl)); intro gb726 hg w59 hbox hb; have n0_ := bB BK689 hb; have n1_ := bB BK690 hb; have n2_ := bB BK696 hb; have n3_ := bB BK702 hb; have n4_ := bB BK707 hb; have n5_ := bB BK713 hb; have n6_ := bB BK719 hb; have n7_ := bS HB hb; have n8_ := aM (hbox); have n9_ := bZ hg HB; have n10_ := bZ hg HB; have n11_ := nL hg BK689; have n12_ := nG hg BK689; have n13_ := nL hg BK690; have n14_ := nG hg BK690; have n15_ := nL hg BK696; have n16_ := nG hg BK696; have n17_ := nL hg BK702; have n18_ := nG hg BK702; have n19_ := nL hg BK707; have n20_ := nG hg BK707; have n21_ := nL hg BK713; have n22_ := nG hg BK713; have n23_ := nL hg BK719; have n24_ := nG hg BK719; clear BK689; clear BK690; clear BK696; clear BK702; clear BK707; clear BK713; clear BK719; clear HB; have BK689 := n0_; have BK690 := n1_; have BK696 := n2_; have BK702 := n3_; have BK707 := n4_; have BK713 := n5_; have BK719 := n6_; have HB := n7_; have BK726 := n8_; have GW726 := n9_; have GE726 := n10_; have NB689_726 := n11_; have NB726_689 := n12_; have NB690_726 := n13_; have NB726_690 := n14_; have NB696_726 := n15_; have NB726_696 := n16_; have NB702_726 := n17_; have NB726_702 := n18_; have NB707_726 := n19_; have NB726_707 := n20_; have NB713_726 := n21_; have NB726_713 := n22_; have NB719_726 := n23_; have NB726_719 := n24_; clear n0_ n1_ n2_ n3_ n4_ n5_ n6_ n7_ n8_ n9_ n10_ n11_ n12_ n13_ n14_ n15_ n16_ n17_ n18_ n19_ n20_ n21_ n22_ n23_ n24_; clear hb hbox hg) | ((with_reducible refine gate_dst (N := 15) rfl ?_); refine box_event ?hg (N := 15) ?hd (cs := #[.int .i64 0, .int .i64 0]) (t := 47) ?hr ?_; (case hd => rfl); (case hg => rfl); (case hr => first | (go_simp; done) | (go_simp; rfl)); intro gb727 hg w60 hbox hb; have n0_ := bB BK689 hb; have n1_ := bB BK690 hb; have n2_ := bB BK696 hb; have n3_ := bB BK702 hb; have n4_ := bB BK707 hb; have n5_ := bB BK713 hb; have n6_ := bB BK719 hb; have n7_ := bB BK726 hb; have n8_ := bS HB hb; have n9_ := aM (hbox); have n10_ := bZ hg HB; have n11_ := bZ hg HB; have n12_ := nL hg BK689; have n13_ := nG hg BK689; have n14_ := nL hg BK690; have n15_ := nG hg BK690; have n16_ := nL hg BK696; have n17_ := nG hg BK696; have n18_ := nL hg BK702; have n19_ := nG hg BK702; have n20_ := nL hg BK707; have n21_ := nG hg BK707; have n22_ := nL hg BK713; have n23_ := nG hg BK713; have n24_ := nL hg BK719; have n25_ := nG hg BK719; have n26_ := nL hg BK726; have n27_ := nG hg BK726; clear BK689; clear BK690; clear BK696; clear BK702; clear BK707; clear BK713; clear BK719; clear BK726; clear HB; have BK689 := n0_; have BK690 := n1_; have BK696 := n2_; have BK702 := n3_; have BK707 := n4_; have BK713 := n5_; have BK719 := n6_; have BK726 := n7_; have HB := n8_; have BK727 := n9_; have GW727 := n10_; have GE727 := n11_; have NB689_727 := n12_; have NB727_689 := n13_; have NB690_727 := n14_; have NB727_690 := n15_; have NB696_727 := n16_; have NB727_696 := n17_; have NB702_727 := n18_; have NB727_702 := n19_; have NB707_727 := n20_; have NB727_707 := n21_; have NB713_727 := n22_; have NB727_713 := n23_; have NB719_727 := n24_; have NB727_719 := n25_; have NB726_727 := n26_; have NB727_726 := n27_; clear n0_ n1_ n2_ n3_ n4_ n5_ n6_ n7_ n8_ n9_ n10_ n11_ n12_ n13_ n14_ n15_ n16_ n17_ n18_ n19_ n20_ n21_ n22_ n23_ n24_ n25_ n26_ n27_; clear hb hbox hg; have hnb61 := NB726_689.out; have hnc61 := NB689_726.out; have hnb62 := NB726_690.out; have hnc62 := NB690_726.out; have hnb63 := NB726_696.out; have hnc63 := NB696_726.out; have hnb64 := NB726_702.out; have hnc64 := NB702_726.out; have hnb65 := NB726_707.out; have hnc65 := NB707_726.out; have hnb66 := NB726_713.out; have hnc66 := NB713_726.out; have hnb67 := NB726_719.out; have hnc67 := NB719_726.out; have hnb68 := NB726_727.out; have hnc68 := NB727_726.out; obtain ⟨hcz69_0, hcz69_1, hcz69_2, hcz69_3⟩ := z4 BK726; obtain ⟨hfz69_0, hfz69_1, hfz69_2, hfz69_3⟩ := y4 BK726; have hnb70 := NB727_689.out; have hnc70 := NB689_727.out; have hnb71 := NB727_690.out; have hnc71 := NB690_727.out; have hnb72 := NB727_696.out; have hnc72 := NB696_727.out; have hnb73 := NB727_702.out; have hnc73 := NB702_727.out; have hnb74 := NB727_707.out; have hnc74 := NB707_727.out; have hnb75 := NB727_713.out; have hnc75 := NB713_727.out; have hnb76 := NB727_719.out; have hnc76 := NB719_727.out; obtain ⟨hcz77_0, hcz77_1⟩ := z2 BK727; obtain ⟨hfz77_0, hfz77_1⟩ := y2 BK727) | ((with_reducible refine gate_callee (f := 35) rfl ?_); refine goesL_ (some 68) rfl rfl Try.func35 (by kernel_rfl) rfl #[.agg #[.int .i64 t720, .int .i64 t721, .int .i64 t722, .int .i64 t723], .agg #[.int .i64 t724, .int .i64 t725]] rfl (by first|rfl|(simp only [List.map_toArray, List.map_cons, List.map_nil]; try rfl)) ?_; (with_reducible refine (impl_ApplyMat.calls k t720 t721 t722 t723 t724 t725 t728 t729 t730 _ A11.out).mono ?_); rintro e w78 ⟨rfl, hb⟩; refine ⟨_, rfl, ?_⟩; have n0_ := aM (blk_below (g := gb689) (o := .cells #[.int .i64 t681, .int .i64 t682, .int .i64 t683, .int .i64 t684] 51 (0, 0)) (by (repeat (first|(with_reducible first|apply kN|apply kD|apply kA)|refine blk_far ?_ NB689_727.out _|refine blk_far ?_ NB689_726.out _)); exact BK689.out) hb); have n1_ := aM (blk_below (g := gb690) (o := .cells #[.int .i64 t685, .int .i64 t686, .int .i64 t687, .int .i64 t688] 51 (0, 0)) (by (repeat (first|(with_reducible first|apply kN|apply kD|apply kA)|refine blk_far ?_ NB690_727.out _|refine blk_far ?_ NB690_726.out _)); exact BK690.out) hb); have n2_ := aM (blk_below (g := gb696) (o := .cells #[.int .i64 t691, .int .i64 t692, .int .i64 t693, .int .i64 t694] 51 (0, 0)) (by (repeat (first|(with_reducible first|apply kN|apply kD|apply kA)|refine blk_far ?_ NB696_727.out _|refine blk_far ?_ NB696_726.out _)); exact BK696.out) hb); have n3_ := aM (blk_below (g := gb702) (o := .cells #[.int .i64 t697, .int .i64 t698, .int .i64 t699, .int .i64 t700] 51 (0, 0)) (by (repeat (first|(with_reducible first|apply kN|apply kD|apply kA)|refine blk_far ?_ NB702_727.out _|refine blk_far ?_ NB702_726.out _)); exact BK702.out) hb); have n4_ := aM (blk_below (g := gb707) (o := .cells #[.int .i64 t703, .int .i64 t704, .int .i64 t705, .int .i64 t706] 51 (0, 0)) (by (repeat (first|(with_reducible first|apply kN|apply kD|apply kA)|refine blk_far ?_ NB707_727.out _|refine blk_far ?_ NB707_726.out _)); exact BK707.out) hb); have n5_ := aM (blk_below (g := gb713) (o := .cells #[.int .i64 t708, .int .i64 t709, .int .i64 t710, .int .i64 t711] 51 (0, 0)) (by (repeat (first|(with_reducible first|apply kN|apply kD|apply kA)|refine blk_far ?_ NB713_727.out _|refine blk_far ?_ NB713_726.out _)); exact BK713.out) hb); have n6_ := aM (blk_below (g := gb719) (o := .cells #[.int .i64 t714, .int .i64 t715, .int .i64 t716, .int .i64 t717] 51 (0, 0)) (by (repeat (first|(with_reducible first|apply kN|apply kD|apply kA)|refine blk_far ?_ NB719_727.out _|refine blk_far ?_ NB719_726.out _)); exact BK719.out) hb); have n7_ := aM (blk_below (g := gb726) (o := .cells #[.int .i64 t720, .int .i64 t721, .int .i64 t722, .int .i64 t723] 51 (0, 0)) (by (repeat (first|(with_reducible first|apply kN|apply kD|apply kA)|refine blk_far ?_ NB726_727.out _)); refine blk_put (cs := #[.int .i64 t720, .int .i64 t721, .int .i64 t722, .int .i64 0]) ?_ 3 _ rfl; (with_reducible repeat (first|apply kN|apply kD|apply kA)); refine blk_put (cs := #[.int .i64 t720, .int .i64 t721, .int .i64 0, .int .i64 0]) ?_ 2 _ rfl; (with_reducible repeat (first|apply kN|apply kD|apply kA)); refine blk_put (cs := #[.int .i64 t720, .int .i64 0, .int .i64 0, .int .i64 0]) ?_ 1 _ rfl; (with_reducible repeat (first|apply kN|apply kD|apply kA)); refine blk_put (cs := #[.int .i64 0, .int .i64 0, .int .i64 0, .int .i64 0]) ?_ 0 _ rfl; (with_reducible repeat (first|apply kN|apply kD|apply kA)); exact BK726.out) hb); have n8_ := aM (blk_below (g := gb727) (o := .cells #[.int .i64 t724, .int .i64 t725] 47 (0, 0)) (by (with_reducible repeat (first|apply kN|apply kD|apply kA)); refine blk_put (cs := #[.int .i64 t724, .int .i64 0]) ?_ 1 _ rfl; (with_reducible repeat (first|apply kN|apply kD|apply kA)); refine blk_put (cs := #[.int .i64 0, .int .i64 0]) ?_ 0 _ rfl; (repeat (first|(with_reducible first|apply kN|apply kD|apply kA)|refine blk_far ?_ NB727_726.out _)); exact BK727.out) hb); have n9_ := bS HB hb; clear BK689; clear BK690; clear BK696; clear BK702; clear BK707; clear BK713; clear BK719; clear BK726; clear BK727; clear HB; have BK689 := n0_; have BK690 := n1_; have BK696 := n2_; have BK702 := n3_; have BK707 := n4_; have BK713 := n5_; have BK719 := n6_; have BK726 := n7_; have BK727 := n8_; have HB := n9_; clear n0_ n1_ n2_ n3_ n4_ n5_ n6_ n7_ n8_ n9_; (try clear hb)) | ((with_reducible refine gate_dst (N := 16) rfl ?_); refine box_event ?hg (N := 16) ?hd (cs := #[.int .i64 0, .int .i64 0]) (t := 47) ?hr ?_; (case hd => rfl); (case hg => rfl); (case hr => first | (go_simp; done) | (go_simp; rfl)); intro gb731 hg w79 hbox hb; have n0_ := bB BK689 hb; have n1_ := bB BK690 hb; have n2_ := bB BK696 hb; have n3_ := bB BK702 hb; have n4_ := bB BK707 hb; have n5_ := bB BK713 hb; have n6_ := bB BK719 hb; have n7_ := bB BK726 hb; have n8_ := bB BK727 hb; have n9_ := bS HB hb; have n10_ := aM (hbox); have n11_ := bZ hg HB; have n12_ := bZ hg HB; have n13_ := nL hg BK689; have n14_ := nG hg BK689; have n15_ := nL hg BK690; have n16_ := nG hg BK690; have n17_ := nL hg BK696; have n18_ := nG hg BK696; have n19_ := nL hg BK702; have n20_ := nG hg BK702; have n21_ := nL hg BK707; have n22_ := nG hg BK707; have n23_ := nL hg BK713; have n24_ := nG hg BK713; have n25_ := nL hg BK719; have n26_ := nG hg BK719; have n27_ := nL hg BK726; have n28_ := nG hg BK726; have n29_ := nL hg BK727; have n30_ := nG hg BK727; clear BK689; clear BK690; clear BK696; clear BK702; clear BK707; clear BK713; clear BK719; clear BK726; clear BK727; clear HB; have BK689 := n0_; have BK690 := n1_; have BK696 := n2_; have BK702 := n3_; have BK707 := n4_; have BK713 := n5_; have BK719 := n6_; have BK726 := n7_; have BK727 := n8_; have HB := n9_; have BK731 := n10_; have GW731 := n11_; have GE731 := n12_; have NB689_731 := n13_; have NB731_689 := n14_; have NB690_731 := n15_; have NB731_690 := n16_; have NB696_731 := n17_; have NB731_696 := n18_; have NB702_731 := n19_; have NB731_702 := n20_; have NB707_731 := n21_; have NB731_707 := n22_; have NB713_731 := n23_; have NB731_713 := n24_; have NB719_731 := n25_; have NB731_719 := n26_; have NB726_731 := n27_; have NB731_726 := n28_; have NB727_731 := n29_; have NB731_727 := n30_; clear n0_ n1_ n2_ n3_ n4_ n5_ n6_ n7_ n8_ n9_ n10_ n11_ n12_ n13_ n14_ n15_ n16_ n17_ n18_ n19_ n20_ n21_ n22_ n23_ n24_ n25_ n26_ n27_ n28_ n29_ n30_; clear hb hbox hg; have hnb80 := NB731_689.out; have hnc80 := NB689_731.out; have hnb81 := NB731_690.out; have hnc81 := NB690_731.out; have hnb82 := NB731_696.out; have hnc82 := NB696_731.out; have hnb83 := NB731_702.out; have hnc83 := NB702_731.out; have hnb84 := NB731_707.out; have hnc84 := NB707_731.out; have hnb85 := NB731_713.out; have hnc85 := NB713_731.out; have hnb86 := NB731_719.out; have hnc86 := NB719_731.out; have hnb87 := NB731_726.out; have hnc87 := NB726_731.out; have hnb88 := NB731_727.out; have hnc88 := NB727_731.out; obtain ⟨hcz89_0, hcz89_1⟩ := z2 BK731; obtain ⟨hfz89_0, hfz89_1⟩ := y2 BK731; obtain ⟨hcz90_0, hcz90_1, hcz90_2, hcz90_3⟩ := z4 BK726; obtain ⟨hfz90_0, hfz90_1, hfz90_2, hfz90_3⟩ := y4 BK726; obtain ⟨hcz91_0, hcz91_1⟩ := z2 BK727; obtain ⟨hfz91_0, hfz91_1⟩ := y2 BK727) | ((with_reducible refine gate_callee (f := 36) rfl ?_); refine goesL_ (some 74) rfl rfl Try.func36 (by kernel_rfl) rfl #[.agg #[.int .i64 t720, .int .i64 t721, .int .i64 t722, .int .i64 t723], .agg #[.int .i64 t724, .int .i64 t725]] rfl (by first|rfl|(simp only [List.map_toArray, List.map_cons, List.map_nil]; try rfl)) ?_; (with_reducible refine (spec_ApplyMat.calls k t720 t721 t722 t723 t724 t725 t732 t733 t734 _ A12.out).mono ?_); rintro e w92 ⟨rfl, hb⟩; refine ⟨_, rfl, ?_⟩; have n0_ := aM (blk_below (g := gb689) (o := .cells #[.int .i64 t681, .int .i64 t682, .int .i64 t683, .int .i64 t684] 51 (0, 0)) (by (repeat (first|(with_reducible first|apply kN|apply kD|apply kA)|refine blk_far ?_ NB689_731.out _)); exact BK689.out) hb); have n1_ := aM (blk_below (g := gb690) (o := .cells #[.int .i64 t685, .int .i64 t686, .int .i64 t687, .int .i64 t688] 51 (0, 0)) (by (repeat (first|(with_reducible first|apply kN|apply kD|apply kA)|refine blk_far ?_ NB690_731.out _)); exact BK690.out) hb); have n2_ := aM (blk_below (g := gb696) (o := .cells #[.int .i64 t691, .int .i64 t692, .int .i64 t693, .int .i64 t694] 51 (0, 0)) (by (repeat (first|(with_reducible first|apply kN|apply kD|apply kA)|refine blk_far ?_ NB696_731.out _)); exact BK696.out) hb); have n3_ := aM (blk_below (g := gb702) (o := .cells #[.int .i64 t697, .int .i64 t698, .int .i64 t699, .int .i64 t700] 51 (0, 0)) (by (repeat (first|(with_reducible first|apply kN|apply kD|apply kA)|refine blk_far ?_ NB702_731.out _)); exact BK702.out) hb); have n4_ := aM (blk_below (g := gb707) (o := .cells #[.int .i64 t703, .int .i64 t704, .int .i64 t705, .int .i64 t706] 51 (0, 0)) (by (repeat (first|(with_reducible first|apply kN|apply kD|apply kA)|refine blk_far ?_ NB707_731.out _)); exact BK707.out) hb); have n5_ := aM (blk_below (g := gb713) (o := .cells #[.int .i64 t708, .int .i64 t709, .int .i64 t710, .int .i64 t711] 51 (0, 0)) (by (repeat (first|(with_reducible first|apply kN|apply kD|apply kA)|refine blk_far ?_ NB713_731.out _)); exact BK713.out) hb); have n6_ := aM (blk_below (g := gb719) (o := .cells #[.int .i64 t714, .int .i64 t715, .int .i64 t716, .int .i64 t717] 51 (0, 0)) (by (repeat (first|(with_reducible first|apply kN|apply kD|apply kA)|refine blk_far ?_ NB719_731.out _)); exact BK719.out) hb); have n7_ := aM (blk_below (g := gb726) (o := .cells #[.int .i64 t720, .int .i64 t721, .int .i64 t722, .int .i64 t723] 51 (0, 0)) (by (repeat (first|(with_reducible first|apply kN|apply kD|apply kA)|refine blk_far ?_ NB726_731.out _)); exact BK726.out) hb); have n8_ := aM (blk_below (g := gb727) (o := .cells #[.int .i64 t724, .int .i64 t725] 47 (0, 0)) (by (repeat (first|(with_reducible first|apply kN|apply kD|apply kA)|refine blk_far ?_ NB727_731.out _)); exact BK727.out) hb); have n9_ := aM (blk_below (g := gb731) (o := .cells #[.int .i64 t728, .int .i64 t729] 47 (0, 0)) (by (with_reducible repeat (first|apply kN|apply kD|apply kA)); refine blk_put (cs := #[.int .i64 t728, .int .i64 0]) ?_ 1 _ rfl; (with_reducible repeat (first|apply kN|apply kD|apply kA)); refine blk_put (cs := #[.int .i64 0, .int .i64 0]) ?_ 0 _ rfl; (with_reducible repeat (first|apply kN|apply kD|apply kA)); exact BK731.out) hb); have n10_ := bS HB hb; clear BK689; clear BK690; clear BK696; clear BK702; clear BK707; clear BK713; clear BK719; clear BK726; clear BK727; clear BK731; clear HB; have BK689 := n0_; have BK690 := n1_; have BK696 := n2_; have BK702 := n3_; have BK707 := n4_; have BK713 := n5_; have BK719 := n6_; have BK726 := n7_; have BK727 := n8_; have BK731 := n9_; have HB := n10_; clear n0_ n1_ n2_ n3_ n4_ n5_ n6_ n7_ n8_ n9_ n10_; (try clear hb)) | ((with_reducible refine gate_dst (N := 18) rfl ?_); refine box_event ?hg (N := 18) ?hd (cs := #[.int .i64 0, .int .i64 0]) (t := 47) ?hr ?_; (case hd => rfl); (case hg => rfl); (case hr => first | (go_simp; done) | (go_simp; rfl)); intro gb735 hg w93 hbox hb; have n0_ := bB BK689 hb; have n1_ := bB BK690 hb; have n2_ := bB BK696 hb; have n3_ := bB BK702 hb; have n4_ := bB BK707 hb; have n5_ := bB BK713 hb; have n6_ := bB BK719 hb; have n7_ := bB BK726 hb; have n8_ := bB BK727 hb; have n9_ := bB BK731 hb; have n10_ := bS HB hb; have n11_ := aM (hbox); have n12_ := bZ hg HB; have n13_ := bZ hg HB; have n14_ := nL hg BK689; have n15_ := nG hg BK689; have n16_ := nL hg BK690; have n17_ := nG hg BK690; have n18_ := nL hg BK696; have n19_ := nG hg BK696; have n20_ := nL hg BK702; have n21_ := nG hg BK702; have n22_ := nL hg BK707; have n23_ := nG hg BK707; have n24_ := nL hg BK713; have n25_ := nG hg BK713; have n26_ := nL hg BK719; have n27_ := nG hg BK719; have n28_ := nL hg BK726; have n29_ := nG hg BK726; have n30_ := nL hg BK727; have n31_ := nG hg BK727; have n32_ := nL hg BK731; have n33_ := nG hg BK731; clear BK689; clear BK690; clear BK696; clear BK702; clear BK707; clear BK713; clear BK719; clear BK726; clear BK727; clear BK731; clear HB; have BK689 := n0_; have BK690 := n1_; have BK696 := n2_; have BK702 := n3_; have BK707 := n4_; have BK713 := n5_; have BK719 := n6_; have BK726 := n7_; have BK727 := n8_; have BK731 := n9_; have HB := n10_; have BK735 := n11_; have GW735 := n12_; have GE735 := n13_; have NB689_735 := n14_; have NB735_689 := n15_; have NB690_735 := n16_; have NB735_690 := n17_; have NB696_735 := n18_; have NB735_696 := n19_; have NB702_735 := n20_; have NB735_702 := n21_; have NB707_735 := n22_; have NB735_707 := n23_; have NB713_735 := n24_; have NB735_713 := n25_; have NB719_735 := n26_; have NB735_719 := n27_; have NB726_735 := n28_; have NB735_726 := n29_; have NB727_735 := n30_; have NB735_727 := n31_; have NB731_735 := n32_; have NB735_731 := n33_; clear n0_ n1_ n2_ n3_ n4_ n5_ n6_ n7_ n8_ n9_ n10_ n11_ n12_ n13_ n14_ n15_ n16_ n17_ n18_ n19_ n20_ n21_ n22_ n23_ n24_ n25_ n26_ n27_ n28_ n29_ n30_ n31_ n32_ n33_; clear hb hbox hg; have hnb94 := NB735_689.out; have hnc94 := NB689_735.out; have hnb95 := NB735_690.out; have hnc95 := NB690_735.out; have hnb96 := NB735_696.out; have hnc96 := NB696_735.out; have hnb97 := NB735_702.out; have hnc97 := NB702_735.out; have hnb98 := NB735_707.out; have hnc98 := NB707_735.out; have hnb99 := NB735_713.out; have hnc99 := NB713_735.out; have hnb100 := NB735_719.out; have hnc100 := NB719_735.out; have hnb101 := NB735_726.out; have hnc101 := NB726_735.out; have hnb102 := NB735_727.out; have hnc102 := NB727_735.out; have hnb103 := NB735_731.out; have hnc103 := NB731_735.out; obtain ⟨hcz104_0, hcz104_1⟩ := z2 BK735; obtain ⟨hfz104_0, hfz104_1⟩ := y2 BK735))
  (try simp only [Act.put, List.setIfInBounds_toArray, List.set_cons_zero, List.set_cons_succ])
  go_cut [111] (fun v111 wc => ∃ (kq : Nat) (x111_12 : Bool), v111 = .bool x111_12 ∧ Aside0 (laws_FnMatrices.j0 kq t695 t712 x111_12 t681 t682 t683 t684 t685 t686 t687 t688 t691 t692 t693 t694 t703 t704 t705 t706 t708 t709 t710 t711 = some true) ∧ Aside0 (kq ≤ k) ∧ Aside0 (wc.heap[gb689]? = some (.cells #[.int .i64 t681, .int .i64 t682, .int .i64 t683, .int .i64 t684] 51 (0, 0))) ∧ Aside0 (wc.heap[gb690]? = some (.cells #[.int .i64 t685, .int .i64 t686, .int .i64 t687, .int .i64 t688] 51 (0, 0))) ∧ Aside0 (wc.heap[gb696]? = some (.cells #[.int .i64 t691, .int .i64 t692, .int .i64 t693, .int .i64 t694] 51 (0, 0))) ∧ Aside0 (wc.heap[gb702]? = some (.cells #[.int .i64 t697, .int .i64 t698, .int .i64 t699, .int .i64 t700] 51 (0, 0))) ∧ Aside0 (wc.heap[gb707]? = some (.cells #[.int .i64 t703, .int .i64 t704, .int .i64 t705, .int .i64 t706] 51 (0, 0))) ∧ Aside0 (wc.heap[gb713]? = some (.cells #[.int .i64 t708, .int .i64 t709, .int .i64 t710, .int .i64 t711] 51 (0, 0))) ∧ Aside0 (wc.heap[gb719]? = some (.cells #[.int .i64 t714, .int .i64 t715, .int .i64 t716, .int .i64 t717] 51 (0, 0))) ∧ Aside0 (wc.heap[gb726]? = some (.cells #[.int .i64 t720, .int .i64 t721, .int .i64 t722, .int .i64 t723] 51 (0, 0))) ∧ Aside0 (wc.heap[gb727]? = some (.cells #[.int .i64 t724, .int .i64 t725] 47 (0, 0))) ∧ Aside0 (wc.heap[gb731]? = some (.cells #[.int .i64 t728, .int .i64 t729] 47 (0, 0))) ∧ Aside0 (wc.heap[gb735]? = some (.cells #[.int .i64 t732, .int .i64 t733] 47 (0, 0))) ∧ Aside0 (Below w.heap.size w wc))
  case first =>
   have H := HC13.out
   clear HC13
   by_cases c105 : t695 = t701
   ·rw [if_pos c105] at H
    have c105b0 : (t695 == t701) = true := beq_iff_eq.mpr c105
    have c105b1 : (t695 != t701) = false := bne_eq_false_iff_eq.mpr c105
    clear c105
    (first | rw [c105b0] | (simp only [i64_w, i32_w]; rw [c105b0]) | skip)
    by_cases c106 : (!(t691 == t697) || (!(t692 == t698) || (!(t693 == t699) || (!(t694 == t700))))) = true
    ·rw [if_pos c106] at H
     exact absurd H (by cases k <;> simp [laws_FnMatrices.j0])
    ·rw [if_neg c106] at H
     have c106b0 : (!(t691 == t697) || (!(t692 == t698) || (!(t693 == t699) || (!(t694 == t700))))) = false := by simpa using c106
     clear c106
     by_cases c109 : t712 = t718
     ·rw [if_pos c109] at H
      have c109b0 : (t712 == t718) = true := beq_iff_eq.mpr c109
      have c109b1 : (t712 != t718) = false := bne_eq_false_iff_eq.mpr c109
      clear c109
      by_cases c110 : (!(t708 == t714) || (!(t709 == t715) || (!(t710 == t716) || (!(t711 == t717))))) = true
      ·rw [if_pos c110] at H
       exact absurd H (by cases k <;> simp [laws_FnMatrices.j0])
      ·rw [if_neg c110] at H
       have c110b0 : (!(t708 == t714) || (!(t709 == t715) || (!(t710 == t716) || (!(t711 == t717))))) = false := by simpa using c110
       clear c110
       by_cases c113 : t730 = t734
       ·rw [if_pos c113] at H
        have c113b0 : (t730 == t734) = true := beq_iff_eq.mpr c113
        have c113b1 : (t730 != t734) = false := bne_eq_false_iff_eq.mpr c113
        clear c113
        by_cases c114 : (!(t728 == t732) || (!(t729 == t733))) = true
        ·rw [if_pos c114] at H
         exact absurd H (by cases k <;> simp [laws_FnMatrices.j0])
        ·rw [if_neg c114] at H
         have c114b0 : (!(t728 == t732) || (!(t729 == t733))) = false := by simpa using c114
         clear c114
         replace H := Option.bind_eq_some_iff.mp H
         obtain ⟨t736, A1170, H⟩ := H
         try dsimp only at H
         have A117 := aM A1170
         clear A1170
         replace H := Option.bind_eq_some_iff.mp H
         obtain ⟨t737, A1180, H⟩ := H
         try dsimp only at H
         have A118 := aM A1180
         clear A1180
         have H' := aM H
         clear H
         try go_wp2
         have n0_ : Aside0 (((w93.setCell ⟨gb735, 0, none⟩ (.int .i64 t732)).setCell ⟨gb735, 1, none⟩ (.int .i64 t733)).heap[gb689]? = some (.cells #[.int .i64 t681, .int .i64 t682, .int .i64 t683, .int .i64 t684] 51 (0, 0))) := ⟨by (repeat (first|(with_reducible first|apply kN|apply kD|apply kA)|refine blk_far ?_ NB689_735.out _)); exact BK689.out⟩
         have n1_ : Aside0 (((w93.setCell ⟨gb735, 0, none⟩ (.int .i64 t732)).setCell ⟨gb735, 1, none⟩ (.int .i64 t733)).heap[gb690]? = some (.cells #[.int .i64 t685, .int .i64 t686, .int .i64 t687, .int .i64 t688] 51 (0, 0))) := ⟨by (repeat (first|(with_reducible first|apply kN|apply kD|apply kA)|refine blk_far ?_ NB690_735.out _)); exact BK690.out⟩
         have n2_ : Aside0 (((w93.setCell ⟨gb735, 0, none⟩ (.int .i64 t732)).setCell ⟨gb735, 1, none⟩ (.int .i64 t733)).heap[gb696]? = some (.cells #[.int .i64 t691, .int .i64 t692, .int .i64 t693, .int .i64 t694] 51 (0, 0))) := ⟨by (repeat (first|(with_reducible first|apply kN|apply kD|apply kA)|refine blk_far ?_ NB696_735.out _)); exact BK696.out⟩
         have n3_ : Aside0 (((w93.setCell ⟨gb735, 0, none⟩ (.int .i64 t732)).setCell ⟨gb735, 1, none⟩ (.int .i64 t733)).heap[gb702]? = some (.cells #[.int .i64 t697, .int .i64 t698, .int .i64 t699, .int .i64 t700] 51 (0, 0))) := ⟨by (repeat (first|(with_reducible first|apply kN|apply kD|apply kA)|refine blk_far ?_ NB702_735.out _)); exact BK702.out⟩
         have n4_ : Aside0 (((w93.setCell ⟨gb735, 0, none⟩ (.int .i64 t732)).setCell ⟨gb735, 1, none⟩ (.int .i64 t733)).heap[gb707]? = some (.cells #[.int .i64 t703, .int .i64 t704, .int .i64 t705, .int .i64 t706] 51 (0, 0))) := ⟨by (repeat (first|(with_reducible first|apply kN|apply kD|apply kA)|refine blk_far ?_ NB707_735.out _)); exact BK707.out⟩
         have n5_ : Aside0 (((w93.setCell ⟨gb735, 0, none⟩ (.int .i64 t732)).setCell ⟨gb735, 1, none⟩ (.int .i64 t733)).heap[gb713]? = some (.cells #[.int .i64 t708, .int .i64 t709, .int .i64 t710, .int .i64 t711] 51 (0, 0))) := ⟨by (repeat (first|(with_reducible first|apply kN|apply kD|apply kA)|refine blk_far ?_ NB713_735.out _)); exact BK713.out⟩
         have n6_ : Aside0 (((w93.setCell ⟨gb735, 0, none⟩ (.int .i64 t732)).setCell ⟨gb735, 1, none⟩ (.int .i64 t733)).heap[gb719]? = some (.cells #[.int .i64 t714, .int .i64 t715, .int .i64 t716, .int .i64 t717] 51 (0, 0))) := ⟨by (repeat (first|(with_reducible first|apply kN|apply kD|apply kA)|refine blk_far ?_ NB719_735.out _)); exact BK719.out⟩
         have n7_ : Aside0 (((w93.setCell ⟨gb735, 0, none⟩ (.int .i64 t732)).setCell ⟨gb735, 1, none⟩ (.int .i64 t733)).heap[gb726]? = some (.cells #[.int .i64 t720, .int .i64 t721, .int .i64 t722, .int .i64 t723] 51 (0, 0))) := ⟨by (repeat (first|(with_reducible first|apply kN|apply kD|apply kA)|refine blk_far ?_ NB726_735.out _)); exact BK726.out⟩
         have n8_ : Aside0 (((w93.setCell ⟨gb735, 0, none⟩ (.int .i64 t732)).setCell ⟨gb735, 1, none⟩ (.int .i64 t733)).heap[gb727]? = some (.cells #[.int .i64 t724, .int .i64 t725] 47 (0, 0))) := ⟨by (repeat (first|(with_reducible first|apply kN|apply kD|apply kA)|refine blk_far ?_ NB727_735.out _)); exact BK727.out⟩
         have n9_ : Aside0 (((w93.setCell ⟨gb735, 0, none⟩ (.int .i64 t732)).setCell ⟨gb735, 1, none⟩ (.int .i64 t733)).heap[gb731]? = some (.cells #[.int .i64 t728, .int .i64 t729] 47 (0, 0))) := ⟨by (repeat (first|(with_reducible first|apply kN|apply kD|apply kA)|refine blk_far ?_ NB731_735.out _)); exact BK731.out⟩
         have n10_ : Aside0 (((w93.setCell ⟨gb735, 0, none⟩ (.int .i64 t732)).setCell ⟨gb735, 1, none⟩ (.int .i64 t733)).heap[gb735]? = some (.cells #[.int .i64 t732, .int .i64 t733] 47 (0, 0))) := ⟨by (with_reducible repeat (first|apply kN|apply kD|apply kA)); refine blk_put (cs := #[.int .i64 t732, .int .i64 0]) ?_ 1 _ rfl; (with_reducible repeat (first|apply kN|apply kD|apply kA)); refine blk_put (cs := #[.int .i64 0, .int .i64 0]) ?_ 0 _ rfl; (with_reducible repeat (first|apply kN|apply kD|apply kA)); exact BK735.out⟩
         have n11_ : Aside0 (Below w.heap.size w ((w93.setCell ⟨gb735, 0, none⟩ (.int .i64 t732)).setCell ⟨gb735, 1, none⟩ (.int .i64 t733))) := ⟨by repeat (first | (with_reducible first | exact HB.out | apply bA|apply bN|apply b1 | refine below_set ?_ (Aside0.out (by assumption))) | exact HB.out)⟩
         (try clear BK689)
         (try clear BK690)
         (try clear BK696)
         (try clear BK702)
         (try clear BK707)
         (try clear BK713)
         (try clear BK719)
         (try clear BK726)
         (try clear BK727)
         (try clear BK731)
         (try clear BK735)
         (try clear HB)
         generalize ((w93.setCell ⟨gb735, 0, none⟩ (.int .i64 t732)).setCell ⟨gb735, 1, none⟩ (.int .i64 t733)) = w119 at n0_ n1_ n2_ n3_ n4_ n5_ n6_ n7_ n8_ n9_ n10_ n11_ ⊢
         have BK689 := n0_
         have BK690 := n1_
         have BK696 := n2_
         have BK702 := n3_
         have BK707 := n4_
         have BK713 := n5_
         have BK719 := n6_
         have BK726 := n7_
         have BK727 := n8_
         have BK731 := n9_
         have BK735 := n10_
         have HB := n11_
         clear n0_ n1_ n2_ n3_ n4_ n5_ n6_ n7_ n8_ n9_ n10_ n11_
         have n0_ := aM (blk_drew BK689.out)
         have n1_ := aM (blk_drew BK690.out)
         have n2_ := aM (blk_drew BK696.out)
         have n3_ := aM (blk_drew BK702.out)
         have n4_ := aM (blk_drew BK707.out)
         have n5_ := aM (blk_drew BK713.out)
         have n6_ := aM (blk_drew BK719.out)
         have n7_ := aM (blk_drew BK726.out)
         have n8_ := aM (blk_drew BK727.out)
         have n9_ := aM (blk_drew BK731.out)
         have n10_ := aM (blk_drew BK735.out)
         have n11_ := aM (below_drew1 HB.out)
         clear BK689
         clear BK690
         clear BK696
         clear BK702
         clear BK707
         clear BK713
         clear BK719
         clear BK726
         clear BK727
         clear BK731
         clear BK735
         clear HB
         have BK689 := n0_
         have BK690 := n1_
         have BK696 := n2_
         have BK702 := n3_
         have BK707 := n4_
         have BK713 := n5_
         have BK719 := n6_
         have BK726 := n7_
         have BK727 := n8_
         have BK731 := n9_
         have BK735 := n10_
         have HB := n11_
         clear n0_ n1_ n2_ n3_ n4_ n5_ n6_ n7_ n8_ n9_ n10_ n11_
         refine start_ (n := 35) (S := fun w' => w'.cell? ⟨gb696, 0, none⟩ = some (.int .i64 t691) ∧ w'.cell? ⟨gb696, 1, none⟩ = some (.int .i64 t692) ∧ w'.cell? ⟨gb696, 2, none⟩ = some (.int .i64 t693) ∧ w'.cell? ⟨gb696, 3, none⟩ = some (.int .i64 t694) ∧ w'.cell? ⟨gb702, 0, none⟩ = some (.int .i64 t697) ∧ w'.cell? ⟨gb702, 1, none⟩ = some (.int .i64 t698) ∧ w'.cell? ⟨gb702, 2, none⟩ = some (.int .i64 t699) ∧ w'.cell? ⟨gb702, 3, none⟩ = some (.int .i64 t700) ∧ w'.cell? ⟨gb713, 0, none⟩ = some (.int .i64 t708) ∧ w'.cell? ⟨gb713, 1, none⟩ = some (.int .i64 t709) ∧ w'.cell? ⟨gb713, 2, none⟩ = some (.int .i64 t710) ∧ w'.cell? ⟨gb713, 3, none⟩ = some (.int .i64 t711) ∧ w'.cell? ⟨gb719, 0, none⟩ = some (.int .i64 t714) ∧ w'.cell? ⟨gb719, 1, none⟩ = some (.int .i64 t715) ∧ w'.cell? ⟨gb719, 2, none⟩ = some (.int .i64 t716) ∧ w'.cell? ⟨gb719, 3, none⟩ = some (.int .i64 t717) ∧ w'.cell? ⟨gb731, 0, none⟩ = some (.int .i64 t728) ∧ w'.cell? ⟨gb731, 1, none⟩ = some (.int .i64 t729) ∧ w'.cell? ⟨gb735, 0, none⟩ = some (.int .i64 t732) ∧ w'.cell? ⟨gb735, 1, none⟩ = some (.int .i64 t733) ∧ w'.cell? ⟨gb689, 0, none⟩ = some (.int .i64 t681) ∧ w'.cell? ⟨gb689, 1, none⟩ = some (.int .i64 t682) ∧ w'.cell? ⟨gb689, 2, none⟩ = some (.int .i64 t683) ∧ w'.cell? ⟨gb689, 3, none⟩ = some (.int .i64 t684)) (ds := []) #[false, false, false, false, false, false, false, false, false, false, false, false, false, false, false, false, false, false, false, false, false, false, false, false, false, false, false, false, false, false, false, false, false, false, false] (by kernel_rfl) rfl rfl ⟨(blk_cell BK696.out 0).trans rfl, (blk_cell BK696.out 1).trans rfl, (blk_cell BK696.out 2).trans rfl, (blk_cell BK696.out 3).trans rfl, (blk_cell BK702.out 0).trans rfl, (blk_cell BK702.out 1).trans rfl, (blk_cell BK702.out 2).trans rfl, (blk_cell BK702.out 3).trans rfl, (blk_cell BK713.out 0).trans rfl, (blk_cell BK713.out 1).trans rfl, (blk_cell BK713.out 2).trans rfl, (blk_cell BK713.out 3).trans rfl, (blk_cell BK719.out 0).trans rfl, (blk_cell BK719.out 1).trans rfl, (blk_cell BK719.out 2).trans rfl, (blk_cell BK719.out 3).trans rfl, (blk_cell BK731.out 0).trans rfl, (blk_cell BK731.out 1).trans rfl, (blk_cell BK735.out 0).trans rfl, (blk_cell BK735.out 1).trans rfl, (blk_cell BK689.out 0).trans rfl, (blk_cell BK689.out 1).trans rfl, (blk_cell BK689.out 2).trans rfl, (blk_cell BK689.out 3).trans rfl⟩ (fun hHeld => ?_); refine with_tabW laws_FnMatrices.tab12 laws_FnMatrices.bits12 (fun HT_ HW_ => ?_)
         generalize w119.drew = w120 at BK689 BK690 BK696 BK702 BK707 BK713 BK719 BK726 BK727 BK731 BK735 HB hHeld ⊢
         refine pure_ (i := 0) (N := some 77) (v := ?_) (a' := ?_) #[true, false, false, false, false, false, false, false, false, false, false, false, false, false, false, false, false, false, false, false, false, false, false, false, false, false, false, false, false, false, false, false, false, false, false] rfl rfl (any_of HT_.out (by kernel_rfl)) (fun _ _ _ h => h) (Or.inl ⟨by rfl, ?_⟩) ?_ ?_
         rotate_left
         ·intro w'
          go_simp
          with_reducible rfl
         rotate_left
         ·simp only [Act.put, List.setIfInBounds_toArray, List.set_cons_zero, List.set_cons_succ, i64_w, i32_w]
          rfl
         refine pure_ (i := 1) (N := some 78) (v := ?_) (a' := ?_) #[true, true, false, false, false, false, false, false, false, false, false, false, false, false, false, false, false, false, false, false, false, false, false, false, false, false, false, false, false, false, false, false, false, false, false] rfl rfl (any_of HT_.out (by kernel_rfl)) (fun _ _ _ h => h) (Or.inl ⟨by rfl, ?_⟩) ?_ ?_
         rotate_left
         ·intro w'
          go_simp
          with_reducible rfl
         rotate_left
         ·simp only [Act.put, List.setIfInBounds_toArray, List.set_cons_zero, List.set_cons_succ, i64_w, i32_w]
          rfl
         refine pure_ (i := 2) (N := some 79) (v := ?_) (a' := ?_) #[true, true, true, false, false, false, false, false, false, false, false, false, false, false, false, false, false, false, false, false, false, false, false, false, false, false, false, false, false, false, false, false, false, false, false] rfl rfl (any_of HT_.out (by kernel_rfl)) (fun _ _ _ h => h) (Or.inl ⟨by rfl, ?_⟩) ?_ ?_
         rotate_left
         ·intro w'
          go_simp
          with_reducible rfl
         rotate_left
         ·simp only [Act.put, List.setIfInBounds_toArray, List.set_cons_zero, List.set_cons_succ, i64_w, i32_w]
          rfl
         refine pure_ (i := 3) (N := some 80) (v := ?_) (a' := ?_) #[true, true, true, true, false, false, false, false, false, false, false, false, false, false, false, false, false, false, false, false, false, false, false, false, false, false, false, false, false, false, false, false, false, false, false] rfl rfl (any_of HT_.out (by kernel_rfl)) (fun _ _ _ h => h) (Or.inl ⟨by rfl, ?_⟩) ?_ ?_
         rotate_left
         ·intro w'
          go_simp
          with_reducible rfl
         rotate_left
         ·simp only [Act.put, List.setIfInBounds_toArray, List.set_cons_zero, List.set_cons_succ, i64_w, i32_w]
          rfl
         refine take_ (i := 4) (N := some 81) (v := ?_) (a' := ?_) #[true, true, true, true, true, false, false, false, false, false, false, false, false, false, false, false, false, false, false, false, false, false, false, false, false, false, false, false, false, false, false, false, false, false, false] rfl rfl (take_ofW HT_.out HW_.out (by kernel_rfl)) (fun _ _ _ h => h) (Or.inl ⟨by rfl, ?_⟩) hHeld ?_ ?_
         rotate_left
         ·rintro w' ⟨s0, s1, s2, s3, s4, s5, s6, s7, s8, s9, s10, s11, s12, s13, s14, s15, s16, s17, s18, s19, s20, s21, s22, s23⟩
          go_simp
          with_reducible rfl
         rotate_left
         ·simp only [Act.put, List.setIfInBounds_toArray, List.set_cons_zero, List.set_cons_succ, i64_w, i32_w]
          rfl
         refine take_ (i := 5) (N := some 82) (v := ?_) (a' := ?_) #[true, true, true, true, true, true, false, false, false, false, false, false, false, false, false, false, false, false, false, false, false, false, false, false, false, false, false, false, false, false, false, false, false, false, false] rfl rfl (take_ofW HT_.out HW_.out (by kernel_rfl)) (fun _ _ _ h => h) (Or.inl ⟨by rfl, ?_⟩) hHeld ?_ ?_
         rotate_left
         ·rintro w' ⟨s0, s1, s2, s3, s4, s5, s6, s7, s8, s9, s10, s11, s12, s13, s14, s15, s16, s17, s18, s19, s20, s21, s22, s23⟩
          go_simp
          with_reducible rfl
         rotate_left
         ·simp only [Act.put, List.setIfInBounds_toArray, List.set_cons_zero, List.set_cons_succ, i64_w, i32_w]
          rfl
         refine pure_ (i := 6) (N := some 83) (v := ?_) (a' := ?_) #[true, true, true, true, true, true, true, false, false, false, false, false, false, false, false, false, false, false, false, false, false, false, false, false, false, false, false, false, false, false, false, false, false, false, false] rfl rfl (any_of HT_.out (by kernel_rfl)) (fun _ _ _ h => h) (Or.inl ⟨by rfl, ?_⟩) ?_ ?_
         rotate_left
         ·intro w'
          go_simp
          with_reducible rfl
         rotate_left
         ·simp only [Act.put, List.setIfInBounds_toArray, List.set_cons_zero, List.set_cons_succ, i64_w, i32_w]
          rfl
         refine pure_ (i := 7) (N := some 84) (v := ?_) (a' := ?_) #[true, true, true, true, true, true, true, true, false, false, false, false, false, false, false, false, false, false, false, false, false, false, false, false, false, false, false, false, false, false, false, false, false, false, false] rfl rfl (any_of HT_.out (by kernel_rfl)) (fun _ _ _ h => h) (Or.inl ⟨by rfl, ?_⟩) ?_ ?_
         rotate_left
         ·intro w'
          go_simp
          with_reducible rfl
         rotate_left
         ·simp only [Act.put, List.setIfInBounds_toArray, List.set_cons_zero, List.set_cons_succ, i64_w, i32_w]
          rfl
         refine pure_ (i := 8) (N := some 85) (v := ?_) (a' := ?_) #[true, true, true, true, true, true, true, true, true, false, false, false, false, false, false, false, false, false, false, false, false, false, false, false, false, false, false, false, false, false, false, false, false, false, false] rfl rfl (any_of HT_.out (by kernel_rfl)) (fun _ _ _ h => h) (Or.inl ⟨by rfl, ?_⟩) ?_ ?_
         rotate_left
         ·intro w'
          go_simp
          with_reducible rfl
         rotate_left
         ·simp only [Act.put, List.setIfInBounds_toArray, List.set_cons_zero, List.set_cons_succ, i64_w, i32_w]
          rfl
         refine pure_ (i := 9) (N := some 86) (v := ?_) (a' := ?_) #[true, true, true, true, true, true, true, true, true, true, false, false, false, false, false, false, false, false, false, false, false, false, false, false, false, false, false, false, false, false, false, false, false, false, false] rfl rfl (any_of HT_.out (by kernel_rfl)) (fun _ _ _ h => h) (Or.inl ⟨by rfl, ?_⟩) ?_ ?_
         rotate_left
         ·intro w'
          go_simp
          with_reducible rfl
         rotate_left
         ·simp only [Act.put, List.setIfInBounds_toArray, List.set_cons_zero, List.set_cons_succ, i64_w, i32_w]
          rfl
         refine pure_ (i := 10) (N := some 87) (v := ?_) (a' := ?_) #[true, true, true, true, true, true, true, true, true, true, true, false, false, false, false, false, false, false, false, false, false, false, false, false, false, false, false, false, false, false, false, false, false, false, false] rfl rfl (any_of HT_.out (by kernel_rfl)) (fun _ _ _ h => h) (Or.inl ⟨by rfl, ?_⟩) ?_ ?_
         rotate_left
         ·intro w'
          go_simp
          with_reducible rfl
         rotate_left
         ·simp only [Act.put, List.setIfInBounds_toArray, List.set_cons_zero, List.set_cons_succ, i64_w, i32_w]
          rfl
         refine pure_ (i := 11) (N := some 88) (v := ?_) (a' := ?_) #[true, true, true, true, true, true, true, true, true, true, true, true, false, false, false, false, false, false, false, false, false, false, false, false, false, false, false, false, false, false, false, false, false, false, false] rfl rfl (any_of HT_.out (by kernel_rfl)) (fun _ _ _ h => h) (Or.inl ⟨by rfl, ?_⟩) ?_ ?_
         rotate_left
         ·intro w'
          go_simp
          with_reducible rfl
         rotate_left
         ·simp only [Act.put, List.setIfInBounds_toArray, List.set_cons_zero, List.set_cons_succ, i64_w, i32_w]
          rfl
         refine pure_ (i := 12) (N := some 89) (v := ?_) (a' := ?_) #[true, true, true, true, true, true, true, true, true, true, true, true, true, false, false, false, false, false, false, false, false, false, false, false, false, false, false, false, false, false, false, false, false, false, false] rfl rfl (any_of HT_.out (by kernel_rfl)) (fun _ _ _ h => h) (Or.inl ⟨by rfl, ?_⟩) ?_ ?_
         rotate_left
         ·intro w'
          go_simp
          with_reducible rfl
         rotate_left
         ·simp only [Act.put, List.setIfInBounds_toArray, List.set_cons_zero, List.set_cons_succ, i64_w, i32_w]
          rfl
         refine pure_ (i := 13) (N := some 90) (v := ?_) (a' := ?_) #[true, true, true, true, true, true, true, true, true, true, true, true, true, true, false, false, false, false, false, false, false, false, false, false, false, false, false, false, false, false, false, false, false, false, false] rfl rfl (any_of HT_.out (by kernel_rfl)) (fun _ _ _ h => h) (Or.inl ⟨by rfl, ?_⟩) ?_ ?_
         rotate_left
         ·intro w'
          go_simp
          with_reducible rfl
         rotate_left
         ·simp only [Act.put, List.setIfInBounds_toArray, List.set_cons_zero, List.set_cons_succ, i64_w, i32_w]
          rfl
         refine take_ (i := 14) (N := some 91) (v := ?_) (a' := ?_) #[true, true, true, true, true, true, true, true, true, true, true, true, true, true, true, false, false, false, false, false, false, false, false, false, false, false, false, false, false, false, false, false, false, false, false] rfl rfl (take_ofW HT_.out HW_.out (by kernel_rfl)) (fun _ _ _ h => h) (Or.inl ⟨by rfl, ?_⟩) hHeld ?_ ?_
         rotate_left
         ·rintro w' ⟨s0, s1, s2, s3, s4, s5, s6, s7, s8, s9, s10, s11, s12, s13, s14, s15, s16, s17, s18, s19, s20, s21, s22, s23⟩
          go_simp
          with_reducible rfl
         rotate_left
         ·simp only [Act.put, List.setIfInBounds_toArray, List.set_cons_zero, List.set_cons_succ, i64_w, i32_w]
          rfl
         refine take_ (i := 15) (N := some 92) (v := ?_) (a' := ?_) #[true, true, true, true, true, true, true, true, true, true, true, true, true, true, true, true, false, false, false, false, false, false, false, false, false, false, false, false, false, false, false, false, false, false, false] rfl rfl (take_ofW HT_.out HW_.out (by kernel_rfl)) (fun _ _ _ h => h) (Or.inl ⟨by rfl, ?_⟩) hHeld ?_ ?_
         rotate_left
         ·rintro w' ⟨s0, s1, s2, s3, s4, s5, s6, s7, s8, s9, s10, s11, s12, s13, s14, s15, s16, s17, s18, s19, s20, s21, s22, s23⟩
          go_simp
          with_reducible rfl
         rotate_left
         ·simp only [Act.put, List.setIfInBounds_toArray, List.set_cons_zero, List.set_cons_succ, i64_w, i32_w]
          rfl
         refine pure_ (i := 16) (N := some 93) (v := ?_) (a' := ?_) #[true, true, true, true, true, true, true, true, true, true, true, true, true, true, true, true, true, false, false, false, false, false, false, false, false, false, false, false, false, false, false, false, false, false, false] rfl rfl (any_of HT_.out (by kernel_rfl)) (fun _ _ _ h => h) (Or.inl ⟨by rfl, ?_⟩) ?_ ?_
         rotate_left
         ·intro w'
          go_simp
          with_reducible rfl
         rotate_left
         ·simp only [Act.put, List.setIfInBounds_toArray, List.set_cons_zero, List.set_cons_succ, i64_w, i32_w]
          rfl
         refine pure_ (i := 17) (N := some 94) (v := ?_) (a' := ?_) #[true, true, true, true, true, true, true, true, true, true, true, true, true, true, true, true, true, true, false, false, false, false, false, false, false, false, false, false, false, false, false, false, false, false, false] rfl rfl (any_of HT_.out (by kernel_rfl)) (fun _ _ _ h => h) (Or.inl ⟨by rfl, ?_⟩) ?_ ?_
         rotate_left
         ·intro w'
          go_simp
          with_reducible rfl
         rotate_left
         ·simp only [Act.put, List.setIfInBounds_toArray, List.set_cons_zero, List.set_cons_succ, i64_w, i32_w]
          rfl
         refine pure_ (i := 18) (N := some 95) (v := ?_) (a' := ?_) #[true, true, true, true, true, true, true, true, true, true, true, true, true, true, true, true, true, true, true, false, false, false, false, false, false, false, false, false, false, false, false, false, false, false, false] rfl rfl (any_of HT_.out (by kernel_rfl)) (fun _ _ _ h => h) (Or.inl ⟨by rfl, ?_⟩) ?_ ?_
         rotate_left
         ·intro w'
          go_simp
          with_reducible rfl
         rotate_left
         ·simp only [Act.put, List.setIfInBounds_toArray, List.set_cons_zero, List.set_cons_succ, i64_w, i32_w]
          rfl
         refine pure_ (i := 19) (N := some 96) (v := ?_) (a' := ?_) #[true, true, true, true, true, true, true, true, true, true, true, true, true, true, true, true, true, true, true, true, false, false, false, false, false, false, false, false, false, false, false, false, false, false, false] rfl rfl (any_of HT_.out (by kernel_rfl)) (fun _ _ _ h => h) (Or.inl ⟨by rfl, ?_⟩) ?_ ?_
         rotate_left
         ·intro w'
          go_simp
          with_reducible rfl
         rotate_left
         ·simp only [Act.put, List.setIfInBounds_toArray, List.set_cons_zero, List.set_cons_succ, i64_w, i32_w]
          rfl
         refine pure_ (i := 20) (N := some 97) (v := ?_) (a' := ?_) #[true, true, true, true, true, true, true, true, true, true, true, true, true, true, true, true, true, true, true, true, true, false, false, false, false, false, false, false, false, false, false, false, false, false, false] rfl rfl (any_of HT_.out (by kernel_rfl)) (fun _ _ _ h => h) (Or.inl ⟨by rfl, ?_⟩) ?_ ?_
         rotate_left
         ·intro w'
          go_simp
          with_reducible rfl
         rotate_left
         ·simp only [Act.put, List.setIfInBounds_toArray, List.set_cons_zero, List.set_cons_succ, i64_w, i32_w]
          rfl
         refine pure_ (i := 21) (N := some 98) (v := ?_) (a' := ?_) #[true, true, true, true, true, true, true, true, true, true, true, true, true, true, true, true, true, true, true, true, true, true, false, false, false, false, false, false, false, false, false, false, false, false, false] rfl rfl (any_of HT_.out (by kernel_rfl)) (fun _ _ _ h => h) (Or.inl ⟨by rfl, ?_⟩) ?_ ?_
         rotate_left
         ·intro w'
          go_simp
          with_reducible rfl
         rotate_left
         ·simp only [Act.put, List.setIfInBounds_toArray, List.set_cons_zero, List.set_cons_succ, i64_w, i32_w]
          rfl
         refine pure_ (i := 22) (N := some 99) (v := ?_) (a' := ?_) #[true, true, true, true, true, true, true, true, true, true, true, true, true, true, true, true, true, true, true, true, true, true, true, false, false, false, false, false, false, false, false, false, false, false, false] rfl rfl (any_of HT_.out (by kernel_rfl)) (fun _ _ _ h => h) (Or.inl ⟨by rfl, ?_⟩) ?_ ?_
         rotate_left
         ·intro w'
          go_simp
          with_reducible rfl
         rotate_left
         ·simp only [Act.put, List.setIfInBounds_toArray, List.set_cons_zero, List.set_cons_succ, i64_w, i32_w]
          rfl
         refine pure_ (i := 23) (N := some 100) (v := ?_) (a' := ?_) #[true, true, true, true, true, true, true, true, true, true, true, true, true, true, true, true, true, true, true, true, true, true, true, true, false, false, false, false, false, false, false, false, false, false, false] rfl rfl (any_of HT_.out (by kernel_rfl)) (fun _ _ _ h => h) (Or.inl ⟨by rfl, ?_⟩) ?_ ?_
         rotate_left
         ·intro w'
          go_simp
          with_reducible rfl
         rotate_left
         ·simp only [Act.put, List.setIfInBounds_toArray, List.set_cons_zero, List.set_cons_succ, i64_w, i32_w]
          rfl
         refine take_ (i := 24) (N := some 101) (v := ?_) (a' := ?_) #[true, true, true, true, true, true, true, true, true, true, true, true, true, true, true, true, true, true, true, true, true, true, true, true, true, false, false, false, false, false, false, false, false, false, false] rfl rfl (take_ofW HT_.out HW_.out (by kernel_rfl)) (fun _ _ _ h => h) (Or.inl ⟨by rfl, ?_⟩) hHeld ?_ ?_
         rotate_left
         ·rintro w' ⟨s0, s1, s2, s3, s4, s5, s6, s7, s8, s9, s10, s11, s12, s13, s14, s15, s16, s17, s18, s19, s20, s21, s22, s23⟩
          go_simp
          with_reducible rfl
         rotate_left
         ·simp only [Act.put, List.setIfInBounds_toArray, List.set_cons_zero, List.set_cons_succ, i64_w, i32_w]
          rfl
         refine take_ (i := 25) (N := some 102) (v := ?_) (a' := ?_) #[true, true, true, true, true, true, true, true, true, true, true, true, true, true, true, true, true, true, true, true, true, true, true, true, true, true, false, false, false, false, false, false, false, false, false] rfl rfl (take_ofW HT_.out HW_.out (by kernel_rfl)) (fun _ _ _ h => h) (Or.inl ⟨by rfl, ?_⟩) hHeld ?_ ?_
         rotate_left
         ·rintro w' ⟨s0, s1, s2, s3, s4, s5, s6, s7, s8, s9, s10, s11, s12, s13, s14, s15, s16, s17, s18, s19, s20, s21, s22, s23⟩
          go_simp
          with_reducible rfl
         rotate_left
         ·simp only [Act.put, List.setIfInBounds_toArray, List.set_cons_zero, List.set_cons_succ, i64_w, i32_w]
          rfl
         refine pure_ (i := 26) (N := some 103) (v := ?_) (a' := ?_) #[true, true, true, true, true, true, true, true, true, true, true, true, true, true, true, true, true, true, true, true, true, true, true, true, true, true, true, false, false, false, false, false, false, false, false] rfl rfl (any_of HT_.out (by kernel_rfl)) (fun _ _ _ h => h) (Or.inl ⟨by rfl, ?_⟩) ?_ ?_
         rotate_left
         ·intro w'
          go_simp
          with_reducible rfl
         rotate_left
         ·simp only [Act.put, List.setIfInBounds_toArray, List.set_cons_zero, List.set_cons_succ, i64_w, i32_w]
          rfl
         refine pure_ (i := 27) (N := some 104) (v := ?_) (a' := ?_) #[true, true, true, true, true, true, true, true, true, true, true, true, true, true, true, true, true, true, true, true, true, true, true, true, true, true, true, true, false, false, false, false, false, false, false] rfl rfl (any_of HT_.out (by kernel_rfl)) (fun _ _ _ h => h) (Or.inl ⟨by rfl, ?_⟩) ?_ ?_
         rotate_left
         ·intro w'
          go_simp
          with_reducible rfl
         rotate_left
         ·simp only [Act.put, List.setIfInBounds_toArray, List.set_cons_zero, List.set_cons_succ, i64_w, i32_w]
          rfl
         refine pure_ (i := 28) (N := some 105) (v := ?_) (a' := ?_) #[true, true, true, true, true, true, true, true, true, true, true, true, true, true, true, true, true, true, true, true, true, true, true, true, true, true, true, true, true, false, false, false, false, false, false] rfl rfl (any_of HT_.out (by kernel_rfl)) (fun _ _ _ h => h) (Or.inl ⟨by rfl, ?_⟩) ?_ ?_
         rotate_left
         ·intro w'
          go_simp
          with_reducible rfl
         rotate_left
         ·simp only [Act.put, List.setIfInBounds_toArray, List.set_cons_zero, List.set_cons_succ, i64_w, i32_w]
          rfl
         refine take_ (i := 29) (N := some 106) (v := ?_) (a' := ?_) #[true, true, true, true, true, true, true, true, true, true, true, true, true, true, true, true, true, true, true, true, true, true, true, true, true, true, true, true, true, true, false, false, false, false, false] rfl rfl (take_ofW HT_.out HW_.out (by kernel_rfl)) (fun _ _ _ h => h) (Or.inl ⟨by rfl, ?_⟩) hHeld ?_ ?_
         rotate_left
         ·rintro w' ⟨s0, s1, s2, s3, s4, s5, s6, s7, s8, s9, s10, s11, s12, s13, s14, s15, s16, s17, s18, s19, s20, s21, s22, s23⟩
          go_simp
          with_reducible rfl
         rotate_left
         ·simp only [Act.put, List.setIfInBounds_toArray, List.set_cons_zero, List.set_cons_succ, i64_w, i32_w]
          rfl
         refine take_ (i := 31) (N := some 108) (v := ?_) (a' := ?_) #[true, true, true, true, true, true, true, true, true, true, true, true, true, true, true, true, true, true, true, true, true, true, true, true, true, true, true, true, true, true, false, true, false, false, false] rfl rfl (take_ofW HT_.out HW_.out (by kernel_rfl)) (fun _ _ _ h => h) (Or.inl ⟨by rfl, ?_⟩) hHeld ?_ ?_
         rotate_left
         ·rintro w' ⟨s0, s1, s2, s3, s4, s5, s6, s7, s8, s9, s10, s11, s12, s13, s14, s15, s16, s17, s18, s19, s20, s21, s22, s23⟩
          go_simp
          with_reducible rfl
         rotate_left
         ·simp only [Act.put, List.setIfInBounds_toArray, List.set_cons_zero, List.set_cons_succ, i64_w, i32_w]
          rfl
         refine one_ (i := 30) (N := some 107) #[true, true, true, true, true, true, true, true, true, true, true, true, true, true, true, true, true, true, true, true, true, true, true, true, true, true, true, true, true, true, true, true, false, false, false] rfl rfl (one_of HT_.out (by kernel_rfl)) (by decide) (fun K hK => ?_)
         refine goes_ Try.func37 (by kernel_rfl) rfl #[.agg #[.int .i64 t681, .int .i64 t682, .int .i64 t683, .int .i64 t684]] (by rfl) rfl rfl (by first|rfl|(simp only [List.map_toArray, List.map_cons, List.map_nil]; try rfl)) ?_
         with_reducible refine (impl_IsMat.calls t681 t682 t683 t684 t736 _ A117.out).mono ?_
         rintro e w121 ⟨rfl, hb⟩
         refine ⟨_, rfl, ?_⟩
         have n0_ := bB BK689 hb
         have n1_ := bB BK690 hb
         have n2_ := bB BK696 hb
         have n3_ := bB BK702 hb
         have n4_ := bB BK707 hb
         have n5_ := bB BK713 hb
         have n6_ := bB BK719 hb
         have n7_ := bB BK726 hb
         have n8_ := bB BK727 hb
         have n9_ := bB BK731 hb
         have n10_ := bB BK735 hb
         have n11_ := bS HB hb
         clear BK689
         clear BK690
         clear BK696
         clear BK702
         clear BK707
         clear BK713
         clear BK719
         clear BK726
         clear BK727
         clear BK731
         clear BK735
         clear HB
         have BK689 := n0_
         have BK690 := n1_
         have BK696 := n2_
         have BK702 := n3_
         have BK707 := n4_
         have BK713 := n5_
         have BK719 := n6_
         have BK726 := n7_
         have BK727 := n8_
         have BK731 := n9_
         have BK735 := n10_
         have HB := n11_
         clear n0_ n1_ n2_ n3_ n4_ n5_ n6_ n7_ n8_ n9_ n10_ n11_
         (try clear hb)
         (try clear hb2)
         (try clear hk)
         (try clear hi)
         refine hK.out _ _ ⟨(blk_cell BK696.out 0).trans rfl, (blk_cell BK696.out 1).trans rfl, (blk_cell BK696.out 2).trans rfl, (blk_cell BK696.out 3).trans rfl, (blk_cell BK702.out 0).trans rfl, (blk_cell BK702.out 1).trans rfl, (blk_cell BK702.out 2).trans rfl, (blk_cell BK702.out 3).trans rfl, (blk_cell BK713.out 0).trans rfl, (blk_cell BK713.out 1).trans rfl, (blk_cell BK713.out 2).trans rfl, (blk_cell BK713.out 3).trans rfl, (blk_cell BK719.out 0).trans rfl, (blk_cell BK719.out 1).trans rfl, (blk_cell BK719.out 2).trans rfl, (blk_cell BK719.out 3).trans rfl, (blk_cell BK731.out 0).trans rfl, (blk_cell BK731.out 1).trans rfl, (blk_cell BK735.out 0).trans rfl, (blk_cell BK735.out 1).trans rfl, (blk_cell BK689.out 0).trans rfl, (blk_cell BK689.out 1).trans rfl, (blk_cell BK689.out 2).trans rfl, (blk_cell BK689.out 3).trans rfl⟩ (fun hHeld => ?_)
         clear hK K
         refine norm_ (a' := ?_) ?_ ?_
         rotate_left
         ·show Act.put _ (some 107) _ = _
          simp only [Act.put, List.setIfInBounds_toArray, List.set_cons_zero, List.set_cons_succ, i64_w, i32_w]
          rfl
         refine one_ (i := 32) (N := some 109) #[true, true, true, true, true, true, true, true, true, true, true, true, true, true, true, true, true, true, true, true, true, true, true, true, true, true, true, true, true, true, true, true, true, false, false] rfl rfl (one_of HT_.out (by kernel_rfl)) (by decide) (fun K hK => ?_)
         refine goes_ Try.func38 (by kernel_rfl) rfl #[.agg #[.int .i64 t681, .int .i64 t682, .int .i64 t683, .int .i64 t684]] (by rfl) rfl rfl (by first|rfl|(simp only [List.map_toArray, List.map_cons, List.map_nil]; try rfl)) ?_
         with_reducible refine (spec_IsMat.calls t681 t682 t683 t684 t737 _ A118.out).mono ?_
         rintro e w122 ⟨rfl, hb⟩
         refine ⟨_, rfl, ?_⟩
         have n0_ := bB BK689 hb
         have n1_ := bB BK690 hb
         have n2_ := bB BK696 hb
         have n3_ := bB BK702 hb
         have n4_ := bB BK707 hb
         have n5_ := bB BK713 hb
         have n6_ := bB BK719 hb
         have n7_ := bB BK726 hb
         have n8_ := bB BK727 hb
         have n9_ := bB BK731 hb
         have n10_ := bB BK735 hb
         have n11_ := bS HB hb
         clear BK689
         clear BK690
         clear BK696
         clear BK702
         clear BK707
         clear BK713
         clear BK719
         clear BK726
         clear BK727
         clear BK731
         clear BK735
         clear HB
         have BK689 := n0_
         have BK690 := n1_
         have BK696 := n2_
         have BK702 := n3_
         have BK707 := n4_
         have BK713 := n5_
         have BK719 := n6_
         have BK726 := n7_
         have BK727 := n8_
         have BK731 := n9_
         have BK735 := n10_
         have HB := n11_
         clear n0_ n1_ n2_ n3_ n4_ n5_ n6_ n7_ n8_ n9_ n10_ n11_
         (try clear hb)
         (try clear hb2)
         (try clear hk)
         (try clear hi)
         refine hK.out _ _ ⟨(blk_cell BK696.out 0).trans rfl, (blk_cell BK696.out 1).trans rfl, (blk_cell BK696.out 2).trans rfl, (blk_cell BK696.out 3).trans rfl, (blk_cell BK702.out 0).trans rfl, (blk_cell BK702.out 1).trans rfl, (blk_cell BK702.out 2).trans rfl, (blk_cell BK702.out 3).trans rfl, (blk_cell BK713.out 0).trans rfl, (blk_cell BK713.out 1).trans rfl, (blk_cell BK713.out 2).trans rfl, (blk_cell BK713.out 3).trans rfl, (blk_cell BK719.out 0).trans rfl, (blk_cell BK719.out 1).trans rfl, (blk_cell BK719.out 2).trans rfl, (blk_cell BK719.out 3).trans rfl, (blk_cell BK731.out 0).trans rfl, (blk_cell BK731.out 1).trans rfl, (blk_cell BK735.out 0).trans rfl, (blk_cell BK735.out 1).trans rfl, (blk_cell BK689.out 0).trans rfl, (blk_cell BK689.out 1).trans rfl, (blk_cell BK689.out 2).trans rfl, (blk_cell BK689.out 3).trans rfl⟩ (fun hHeld => ?_)
         clear hK K
         refine norm_ (a' := ?_) ?_ ?_
         rotate_left
         ·show Act.put _ (some 109) _ = _
          simp only [Act.put, List.setIfInBounds_toArray, List.set_cons_zero, List.set_cons_succ, i64_w, i32_w]
          rfl
         refine pure_ (i := 33) (N := some 110) (v := ?_) (a' := ?_) #[true, true, true, true, true, true, true, true, true, true, true, true, true, true, true, true, true, true, true, true, true, true, true, true, true, true, true, true, true, true, true, true, true, true, false] rfl rfl (any_of HT_.out (by kernel_rfl)) (fun _ _ _ h => h) (Or.inl ⟨by rfl, ?_⟩) ?_ ?_
         rotate_left
         ·intro w'
          go_simp
          with_reducible rfl
         rotate_left
         ·simp only [Act.put, List.setIfInBounds_toArray, List.set_cons_zero, List.set_cons_succ, i64_w, i32_w]
          rfl
         refine pure_ (i := 34) (N := some 111) (v := ?_) (a' := ?_) #[true, true, true, true, true, true, true, true, true, true, true, true, true, true, true, true, true, true, true, true, true, true, true, true, true, true, true, true, true, true, true, true, true, true, true] rfl rfl (any_of HT_.out (by kernel_rfl)) (fun _ _ _ h => h) (Or.inl ⟨by rfl, ?_⟩) ?_ ?_
         rotate_left
         ·intro w'
          go_simp
          with_reducible rfl
         rotate_left
         ·simp only [Act.put, List.setIfInBounds_toArray, List.set_cons_zero, List.set_cons_succ, i64_w, i32_w]
          rfl
         refine done_ (done_of HT_.out (by kernel_rfl)) ?_
         try go_wp2
         go_meet
         case rel => exact ⟨_, ((t736 != t737)), (by first | rfl | (simp; done) | (simp [*]; done)), H', ⟨by first | omega | exact Nat.le_refl _⟩, ⟨by (with_reducible repeat (first|apply kN|apply kD|apply kA)); exact BK689.out⟩, ⟨by (with_reducible repeat (first|apply kN|apply kD|apply kA)); exact BK690.out⟩, ⟨by (with_reducible repeat (first|apply kN|apply kD|apply kA)); exact BK696.out⟩, ⟨by (with_reducible repeat (first|apply kN|apply kD|apply kA)); exact BK702.out⟩, ⟨by (with_reducible repeat (first|apply kN|apply kD|apply kA)); exact BK707.out⟩, ⟨by (with_reducible repeat (first|apply kN|apply kD|apply kA)); exact BK713.out⟩, ⟨by (with_reducible repeat (first|apply kN|apply kD|apply kA)); exact BK719.out⟩, ⟨by (with_reducible repeat (first|apply kN|apply kD|apply kA)); exact BK726.out⟩, ⟨by (with_reducible repeat (first|apply kN|apply kD|apply kA)); exact BK727.out⟩, ⟨by (with_reducible repeat (first|apply kN|apply kD|apply kA)); exact BK731.out⟩, ⟨by (with_reducible repeat (first|apply kN|apply kD|apply kA)); exact BK735.out⟩, ⟨by repeat (first | (with_reducible first | exact HB.out | apply bA|apply bN|apply b1 | refine below_set ?_ (Aside0.out (by assumption))) | exact HB.out)⟩⟩
       ·rw [if_neg c113] at H
        exact absurd H (by cases k <;> simp [laws_FnMatrices.j0])
     ·rw [if_neg c109] at H
      exact absurd H (by cases k <;> simp [laws_FnMatrices.j0])
   ·rw [if_neg c105] at H
    exact absurd H (by cases k <;> simp [laws_FnMatrices.j0])
  case rest =>
   clear HC13
   try clear c1
   try clear p2
   try clear c10
   try clear c105
   try clear c105b0
   try clear c105b1
   try clear c109
   try clear c109b0
   try clear c109b1
   obtain ⟨kq, x111_12, rfl, HA, HJ12, BK689, BK690, BK696, BK702, BK707, BK713, BK719, BK726, BK727, BK731, BK735, HB⟩ := hcut
   cases kq with
   | zero => exact absurd HA.out (by simp [laws_FnMatrices.j0])
   | succ kj12 =>
    have H := HA.out
    clear HA
    simp only [laws_FnMatrices.j0] at H
    by_cases c129 : x111_12 = true
    ·subst c129
     have H1 : (some false) = some true := by rw [if_pos rfl] at H; exact H
     clear H
     have H := H1
     clear H1
     exact absurd (Option.some.inj H) (by decide)
    ·replace c129 := Bool.eq_false_iff.mpr c129
     subst c129
     have H1 : (if t712 = 0 then ((impl_MultiplyMats.f kj12 t703 t704 t705 t706 t708 t709 t710 t711).bind fun bt738 => (if bt738.2.2.2.2 = 0 then (if (!(bt738.1 == 1) || (!(bt738.2.1 == 0) || (!(bt738.2.2.1 == 0) || (!(bt738.2.2.2.1 == 1))))) = true then (some false) else (laws_FnMatrices.j1 kj12 t695 t681 t682 t683 t684 t685 t686 t687 t688 t691 t692 t693 t694)) else (some false))) else (laws_FnMatrices.j1 kj12 t695 t681 t682 t683 t684 t685 t686 t687 t688 t691 t692 t693 t694)) = some true := by rw [if_neg (show ¬ (false = true) by decide)] at H; exact H
     clear H
     have H := H1
     clear H1
     have HC130 := aM H
     clear H
     go_upto_if 113 with (fail)
     go_cut [] (fun wc => ∃ (kq : Nat), Aside0 (laws_FnMatrices.j1 kq t695 t681 t682 t683 t684 t685 t686 t687 t688 t691 t692 t693 t694 = some true) ∧ Aside0 (kq ≤ kj12) ∧ Aside0 (wc.heap[gb689]? = some (.cells #[.int .i64 t681, .int .i64 t682, .int .i64 t683, .int .i64 t684] 51 (0, 0))) ∧ Aside0 (wc.heap[gb690]? = some (.cells #[.int .i64 t685, .int .i64 t686, .int .i64 t687, .int .i64 t688] 51 (0, 0))) ∧ Aside0 (wc.heap[gb696]? = some (.cells #[.int .i64 t691, .int .i64 t692, .int .i64 t693, .int .i64 t694] 51 (0, 0))) ∧ Aside0 (wc.heap[gb702]? = some (.cells #[.int .i64 t697, .int .i64 t698, .int .i64 t699, .int .i64 t700] 51 (0, 0))) ∧ Aside0 (wc.heap[gb707]? = some (.cells #[.int .i64 t703, .int .i64 t704, .int .i64 t705, .int .i64 t706] 51 (0, 0))) ∧ Aside0 (wc.heap[gb713]? = some (.cells #[.int .i64 t708, .int .i64 t709, .int .i64 t710, .int .i64 t711] 51 (0, 0))) ∧ Aside0 (wc.heap[gb719]? = some (.cells #[.int .i64 t714, .int .i64 t715, .int .i64 t716, .int .i64 t717] 51 (0, 0))) ∧ Aside0 (wc.heap[gb726]? = some (.cells #[.int .i64 t720, .int .i64 t721, .int .i64 t722, .int .i64 t723] 51 (0, 0))) ∧ Aside0 (wc.heap[gb727]? = some (.cells #[.int .i64 t724, .int .i64 t725] 47 (0, 0))) ∧ Aside0 (wc.heap[gb731]? = some (.cells #[.int .i64 t728, .int .i64 t729] 47 (0, 0))) ∧ Aside0 (wc.heap[gb735]? = some (.cells #[.int .i64 t732, .int .i64 t733] 47 (0, 0))) ∧ Aside0 (Below w.heap.size w wc))
     case first =>
      have H := HC130.out
      clear HC130
      by_cases c131 : t712 = 0
      ·rw [if_pos c131] at H
       have c131b0 : (t712 == 0) = true := beq_iff_eq.mpr c131
       have c131b1 : (t712 != 0) = false := bne_eq_false_iff_eq.mpr c131
       clear c131
       (first | rw [c131b0] | (simp only [i64_w, i32_w]; rw [c131b0]) | skip)
       replace H := Option.bind_eq_some_iff.mp H
       obtain ⟨⟨t738, t739, t740, t741, t742⟩, A1320, H⟩ := H
       try dsimp only at H
       have A132 := aM A1320
       clear A1320
       by_cases c133 : t742 = 0
       ·rw [if_pos c133] at H
        have c133b0 : (t742 == 0) = true := beq_iff_eq.mpr c133
        have c133b1 : (t742 != 0) = false := bne_eq_false_iff_eq.mpr c133
        clear c133
        by_cases c134 : (!(t738 == 1) || (!(t739 == 0) || (!(t740 == 0) || (!(t741 == 1))))) = true
        ·rw [if_pos c134] at H
         have c134b0 : (!(t738 == 1) || (!(t739 == 0) || (!(t740 == 0) || (!(t741 == 1))))) = true := c134
         clear c134
         exact absurd (Option.some.inj H) (by decide)
        ·rw [if_neg c134] at H
         have c134b0 : (!(t738 == 1) || (!(t739 == 0) || (!(t740 == 0) || (!(t741 == 1))))) = false := by simpa using c134
         clear c134
         have H' := aM H
         clear H
         have hnb170 := NB707_689.out
         have hnc170 := NB689_707.out
         have hnb171 := NB707_690.out
         have hnc171 := NB690_707.out
         have hnb172 := NB707_696.out
         have hnc172 := NB696_707.out
         have hnb173 := NB707_702.out
         have hnc173 := NB702_707.out
         have hnb174 := NB707_713.out
         have hnc174 := NB713_707.out
         have hnb175 := NB707_719.out
         have hnc175 := NB719_707.out
         have hnb176 := NB707_726.out
         have hnc176 := NB726_707.out
         have hnb177 := NB707_727.out
         have hnc177 := NB727_707.out
         have hnb178 := NB707_731.out
         have hnc178 := NB731_707.out
         have hnb179 := NB707_735.out
         have hnc179 := NB735_707.out
         obtain ⟨hcz180_0, hcz180_1, hcz180_2, hcz180_3⟩ := z4 BK707
         obtain ⟨hfz180_0, hfz180_1, hfz180_2, hfz180_3⟩ := y4 BK707
         have hnb181 := NB713_689.out
         have hnc181 := NB689_713.out
         have hnb182 := NB713_690.out
         have hnc182 := NB690_713.out
         have hnb183 := NB713_696.out
         have hnc183 := NB696_713.out
         have hnb184 := NB713_702.out
         have hnc184 := NB702_713.out
         have hnb185 := NB713_719.out
         have hnc185 := NB719_713.out
         have hnb186 := NB713_726.out
         have hnc186 := NB726_713.out
         have hnb187 := NB713_727.out
         have hnc187 := NB727_713.out
         have hnb188 := NB713_731.out
         have hnc188 := NB731_713.out
         have hnb189 := NB713_735.out
         have hnc189 := NB735_713.out
         obtain ⟨hcz190_0, hcz190_1, hcz190_2, hcz190_3⟩ := z4 BK713
         obtain ⟨hfz190_0, hfz190_1, hfz190_2, hfz190_3⟩ := y4 BK713
         go_wp2_with (first | ((with_reducible refine gate_callee (f := 29) rfl ?_); refine goesL_ (some 117) rfl rfl Try.func29 (by kernel_rfl) rfl #[.agg #[.int .i64 t703, .int .i64 t704, .int .i64 t705, .int .i64 t706], .agg #[.int .i64 t708, .int .i64 t709, .int .i64 t710, .int .i64 t711]] rfl (by first|rfl|(simp only [List.map_toArray, List.map_cons, List.map_nil]; try rfl)) ?_; (with_reducible refine (impl_MultiplyMats.calls kj12 t703 t704 t705 t706 t708 t709 t710 t711 t738 t739 t740 t741 t742 _ A132.out).mono ?_); rintro e w191 ⟨rfl, hb⟩; refine ⟨_, rfl, ?_⟩; have n0_ := bB BK689 hb; have n1_ := bB BK690 hb; have n2_ := bB BK696 hb; have n3_ := bB BK702 hb; have n4_ := bB BK707 hb; have n5_ := bB BK713 hb; have n6_ := bB BK719 hb; have n7_ := bB BK726 hb; have n8_ := bB BK727 hb; have n9_ := bB BK731 hb; have n10_ := bB BK735 hb; have n11_ := bS HB hb; clear BK689; clear BK690; clear BK696; clear BK702; clear BK707; clear BK713; clear BK719; clear BK726; clear BK727; clear BK731; clear BK735; clear HB; have BK689 := n0_; have BK690 := n1_; have BK696 := n2_; have BK702 := n3_; have BK707 := n4_; have BK713 := n5_; have BK719 := n6_; have BK726 := n7_; have BK727 := n8_; have BK731 := n9_; have BK735 := n10_; have HB := n11_; clear n0_ n1_ n2_ n3_ n4_ n5_ n6_ n7_ n8_ n9_ n10_ n11_; (try clear hb)) | ((with_reducible refine gate_dst (N := 20) rfl ?_); refine box_event ?hg (N := 20) ?hd (cs := #[.int .i64 0, .int .i64 0, .int .i64 0, .int .i64 0]) (t := 51) ?hr ?_; (case hd => rfl); (case hg => rfl); (case hr => first | (go_simp; done) | (go_simp; rfl)); intro gb743 hg w192 hbox hb; have n0_ := bB BK689 hb; have n1_ := bB BK690 hb; have n2_ := bB BK696 hb; have n3_ := bB BK702 hb; have n4_ := bB BK707 hb; have n5_ := bB BK713 hb; have n6_ := bB BK719 hb; have n7_ := bB BK726 hb; have n8_ := bB BK727 hb; have n9_ := bB BK731 hb; have n10_ := bB BK735 hb; have n11_ := bS HB hb; have n12_ := aM (hbox); have n13_ := bZ hg HB; have n14_ := bZ hg HB; have n15_ := nL hg BK689; have n16_ := nG hg BK689; have n17_ := nL hg BK690; have n18_ := nG hg BK690; have n19_ := nL hg BK696; have n20_ := nG hg BK696; have n21_ := nL hg BK702; have n22_ := nG hg BK702; have n23_ := nL hg BK707; have n24_ := nG hg BK707; have n25_ := nL hg BK713; have n26_ := nG hg BK713; have n27_ := nL hg BK719; have n28_ := nG hg BK719; have n29_ := nL hg BK726; have n30_ := nG hg BK726; have n31_ := nL hg BK727; have n32_ := nG hg BK727; have n33_ := nL hg BK731; have n34_ := nG hg BK731; have n35_ := nL hg BK735; have n36_ := nG hg BK735; clear BK689; clear BK690; clear BK696; clear BK702; clear BK707; clear BK713; clear BK719; clear BK726; clear BK727; clear BK731; clear BK735; clear HB; have BK689 := n0_; have BK690 := n1_; have BK696 := n2_; have BK702 := n3_; have BK707 := n4_; have BK713 := n5_; have BK719 := n6_; have BK726 := n7_; have BK727 := n8_; have BK731 := n9_; have BK735 := n10_; have HB := n11_; have BK743 := n12_; have GW743 := n13_; have GE743 := n14_; have NB689_743 := n15_; have NB743_689 := n16_; have NB690_743 := n17_; have NB743_690 := n18_; have NB696_743 := n19_; have NB743_696 := n20_; have NB702_743 := n21_; have NB743_702 := n22_; have NB707_743 := n23_; have NB743_707 := n24_; have NB713_743 := n25_; have NB743_713 := n26_; have NB719_743 := n27_; have NB743_719 := n28_; have NB726_743 := n29_; have NB743_726 := n30_; have NB727_743 := n31_; have NB743_727 := n32_; have NB731_743 := n33_; have NB743_731 := n34_; have NB735_743 := n35_; have NB743_735 := n36_; clear n0_ n1_ n2_ n3_ n4_ n5_ n6_ n7_ n8_ n9_ n10_ n11_ n12_ n13_ n14_ n15_ n16_ n17_ n18_ n19_ n20_ n21_ n22_ n23_ n24_ n25_ n26_ n27_ n28_ n29_ n30_ n31_ n32_ n33_ n34_ n35_ n36_; clear hb hbox hg; have hnb193 := NB743_689.out; have hnc193 := NB689_743.out; have hnb194 := NB743_690.out; have hnc194 := NB690_743.out; have hnb195 := NB743_696.out; have hnc195 := NB696_743.out; have hnb196 := NB743_702.out; have hnc196 := NB702_743.out; have hnb197 := NB743_707.out; have hnc197 := NB707_743.out; have hnb198 := NB743_713.out; have hnc198 := NB713_743.out; have hnb199 := NB743_719.out; have hnc199 := NB719_743.out; have hnb200 := NB743_726.out; have hnc200 := NB726_743.out; have hnb201 := NB743_727.out; have hnc201 := NB727_743.out; have hnb202 := NB743_731.out; have hnc202 := NB731_743.out; have hnb203 := NB743_735.out; have hnc203 := NB735_743.out; obtain ⟨hcz204_0, hcz204_1, hcz204_2, hcz204_3⟩ := z4 BK743; obtain ⟨hfz204_0, hfz204_1, hfz204_2, hfz204_3⟩ := y4 BK743))
         go_meet
         case rel => exact ⟨_, H', ⟨by have := HJ12.out; first | omega | exact Nat.le_refl _⟩, ⟨by (repeat (first|(with_reducible first|apply kN|apply kD|apply kA)|refine blk_far ?_ NB689_743.out _)); exact BK689.out⟩, ⟨by (repeat (first|(with_reducible first|apply kN|apply kD|apply kA)|refine blk_far ?_ NB690_743.out _)); exact BK690.out⟩, ⟨by (repeat (first|(with_reducible first|apply kN|apply kD|apply kA)|refine blk_far ?_ NB696_743.out _)); exact BK696.out⟩, ⟨by (repeat (first|(with_reducible first|apply kN|apply kD|apply kA)|refine blk_far ?_ NB702_743.out _)); exact BK702.out⟩, ⟨by (repeat (first|(with_reducible first|apply kN|apply kD|apply kA)|refine blk_far ?_ NB707_743.out _)); exact BK707.out⟩, ⟨by (repeat (first|(with_reducible first|apply kN|apply kD|apply kA)|refine blk_far ?_ NB713_743.out _)); exact BK713.out⟩, ⟨by (repeat (first|(with_reducible first|apply kN|apply kD|apply kA)|refine blk_far ?_ NB719_743.out _)); exact BK719.out⟩, ⟨by (repeat (first|(with_reducible first|apply kN|apply kD|apply kA)|refine blk_far ?_ NB726_743.out _)); exact BK726.out⟩, ⟨by (repeat (first|(with_reducible first|apply kN|apply kD|apply kA)|refine blk_far ?_ NB727_743.out _)); exact BK727.out⟩, ⟨by (repeat (first|(with_reducible first|apply kN|apply kD|apply kA)|refine blk_far ?_ NB731_743.out _)); exact BK731.out⟩, ⟨by (repeat (first|(with_reducible first|apply kN|apply kD|apply kA)|refine blk_far ?_ NB735_743.out _)); exact BK735.out⟩, ⟨by repeat (first | (with_reducible first | exact HB.out | apply bA|apply bN|apply b1 | refine below_set ?_ (Aside0.out (by assumption))) | exact HB.out)⟩⟩
       ·rw [if_neg c133] at H
        have c133b0 : (t742 == 0) = false := beq_eq_false_iff_ne.mpr c133
        have c133b1 : (t742 != 0) = true := bne_iff_ne.mpr c133
        exact absurd (Option.some.inj H) (by decide)
      ·rw [if_neg c131] at H
       have c131b0 : (t712 == 0) = false := beq_eq_false_iff_ne.mpr c131
       have c131b1 : (t712 != 0) = true := bne_iff_ne.mpr c131
       (first | rw [c131b0] | (simp only [i64_w, i32_w]; rw [c131b0]) | skip)
       have H' := aM H
       clear H
       go_wp2
       go_meet
       case rel => exact ⟨_, H', ⟨by have := HJ12.out; first | omega | exact Nat.le_refl _⟩, ⟨by (with_reducible repeat (first|apply kN|apply kD|apply kA)); exact BK689.out⟩, ⟨by (with_reducible repeat (first|apply kN|apply kD|apply kA)); exact BK690.out⟩, ⟨by (with_reducible repeat (first|apply kN|apply kD|apply kA)); exact BK696.out⟩, ⟨by (with_reducible repeat (first|apply kN|apply kD|apply kA)); exact BK702.out⟩, ⟨by (with_reducible repeat (first|apply kN|apply kD|apply kA)); exact BK707.out⟩, ⟨by (with_reducible repeat (first|apply kN|apply kD|apply kA)); exact BK713.out⟩, ⟨by (with_reducible repeat (first|apply kN|apply kD|apply kA)); exact BK719.out⟩, ⟨by (with_reducible repeat (first|apply kN|apply kD|apply kA)); exact BK726.out⟩, ⟨by (with_reducible repeat (first|apply kN|apply kD|apply kA)); exact BK727.out⟩, ⟨by (with_reducible repeat (first|apply kN|apply kD|apply kA)); exact BK731.out⟩, ⟨by (with_reducible repeat (first|apply kN|apply kD|apply kA)); exact BK735.out⟩, ⟨by repeat (first | (with_reducible first | exact HB.out | apply bA|apply bN|apply b1 | refine below_set ?_ (Aside0.out (by assumption))) | exact HB.out)⟩⟩
     case rest =>
      clear HC130
      try clear c1
      try clear c2
      try clear p2
      try clear c10
      try clear c12
      try clear c13
      try clear c14
      try clear c15
      try clear c16
      try clear c17
      try clear c18
      try clear c19
      try clear c20
      try clear c21
      try clear c22
      try clear c23
      try clear c29
      try clear c105
      try clear c105b0
      try clear c105b1
      try clear c109
      try clear c109b0
      try clear c109b1
      try clear c129
      try clear c131
      try clear c131b0
      try clear c131b1
      try clear c133
      try clear c133b0
      try clear c133b1
      try clear c134
      try clear c134b0
      try clear c135
      try clear c136
      try clear c137
      try clear c138
      try clear c139
      try clear c140
      try clear c141
      try clear c142
      try clear c143
      try clear c144
      try clear c146
      try clear c147
      try clear c148
      try clear c149
      try clear c150
      try clear c151
      try clear c152
      try clear c153
      try clear c154
      try clear c158
      try clear c159
      try clear c160
      try clear c161
      try clear c162
      try clear c163
      try clear c164
      try clear c165
      try clear c166
      try clear c167
      try clear c168
      try clear c170
      try clear c171
      try clear c172
      try clear c173
      try clear c174
      try clear c175
      try clear c176
      try clear c177
      try clear c178
      try clear c179
      try clear c181
      try clear c182
      try clear c183
      try clear c184
      try clear c185
      try clear c186
      try clear c187
      try clear c188
      try clear c189
      try clear c193
      try clear c194
      try clear c195
      try clear c196
      try clear c197
      try clear c198
      try clear c199
      try clear c200
      try clear c201
      try clear c202
      try clear c203
      try clear c205
      try clear c206
      try clear c207
      try clear c208
      try clear c209
      try clear c210
      try clear c211
      try clear c212
      try clear c213
      try clear c214
      try clear c216
      try clear c217
      try clear c218
      try clear c219
      try clear c220
      try clear c221
      try clear c222
      try clear c223
      try clear c224
      try clear c228
      try clear c229
      try clear c230
      try clear c231
      try clear c232
      try clear c233
      try clear c234
      try clear c235
      try clear c236
      try clear c237
      try clear c238
      try clear hcz145_0
      try clear hcz145_1
      try clear hcz145_2
      try clear hcz145_3
      try clear hcz155_0
      try clear hcz155_1
      try clear hcz155_2
      try clear hcz155_3
      try clear hcz169_0
      try clear hcz169_1
      try clear hcz169_2
      try clear hcz169_3
      try clear hcz180_0
      try clear hcz180_1
      try clear hcz180_2
      try clear hcz180_3
      try clear hcz190_0
      try clear hcz190_1
      try clear hcz190_2
      try clear hcz190_3
      try clear hcz204_0
      try clear hcz204_1
      try clear hcz204_2
      try clear hcz204_3
      try clear hcz215_0
      try clear hcz215_1
      try clear hcz215_2
      try clear hcz215_3
      try clear hcz225_0
      try clear hcz225_1
      try clear hcz225_2
      try clear hcz225_3
      try clear hcz239_0
      try clear hcz239_1
      try clear hcz239_2
      try clear hcz239_3
      try clear hfz145_0
      try clear hfz145_1
      try clear hfz145_2
      try clear hfz145_3
      try clear hfz155_0
      try clear hfz155_1
      try clear hfz155_2
      try clear hfz155_3
      try clear hfz169_0
      try clear hfz169_1
      try clear hfz169_2
      try clear hfz169_3
      try clear hfz180_0
      try clear hfz180_1
      try clear hfz180_2
      try clear hfz180_3
      try clear hfz190_0
      try clear hfz190_1
      try clear hfz190_2
      try clear hfz190_3
      try clear hfz204_0
      try clear hfz204_1
      try clear hfz204_2
      try clear hfz204_3
      try clear hfz215_0
      try clear hfz215_1
      try clear hfz215_2
      try clear hfz215_3
      try clear hfz225_0
      try clear hfz225_1
      try clear hfz225_2
      try clear hfz225_3
      try clear hfz239_0
      try clear hfz239_1
      try clear hfz239_2
      try clear hfz239_3
      try clear p2
      obtain ⟨kq, HA, HJ129, BK689, BK690, BK696, BK702, BK707, BK713, BK719, BK726, BK727, BK731, BK735, HB⟩ := hcut
      cases kq with
      | zero => exact absurd HA.out (by simp [laws_FnMatrices.j1])
      | succ kj129 =>
       have H := HA.out
       clear HA
       simp only [laws_FnMatrices.j1] at H
       by_cases c240 : t695 = 0
       ·rw [if_pos c240] at H
        have c240b0 : (t695 == 0) = true := beq_iff_eq.mpr c240
        have c240b1 : (t695 != 0) = false := bne_eq_false_iff_eq.mpr c240
        clear c240
        replace H := Option.bind_eq_some_iff.mp H
        obtain ⟨⟨t745, t746, t747⟩, A2410, H⟩ := H
        try dsimp only at H
        have A241 := aM A2410
        clear A2410
        replace H := Option.bind_eq_some_iff.mp H
        obtain ⟨⟨t749, t750, t751⟩, A2420, H⟩ := H
        try dsimp only at H
        have A242 := aM A2420
        clear A2420
        replace H := Option.bind_eq_some_iff.mp H
        obtain ⟨⟨t753, t754, t755⟩, A2430, H⟩ := H
        try dsimp only at H
        have A243 := aM A2430
        clear A2430
        have hrT_ := fun (h1 : t747 = 0) (h2 : t751 = 0) (h3 : t755 = 0) => Option.some.inj ((if_pos h3).symm.trans ((if_pos h2).symm.trans ((if_pos h1).symm.trans H)))
        clear H
        go_wp2_with (first | ((with_reducible refine gate_dst (N := 22) rfl ?_); refine box_event ?hg (N := 22) ?hd (cs := #[.int .i64 0, .int .i64 0]) (t := 47) ?hr ?_; (case hd => rfl); (case hg => rfl); (case hr => first | (go_simp; done) | (go_simp; rfl)); intro gb744 hg w247 hbox hb; have n0_ := bB BK689 hb; have n1_ := bB BK690 hb; have n2_ := bB BK696 hb; have n3_ := bB BK702 hb; have n4_ := bB BK707 hb; have n5_ := bB BK713 hb; have n6_ := bB BK719 hb; have n7_ := bB BK726 hb; have n8_ := bB BK727 hb; have n9_ := bB BK731 hb; have n10_ := bB BK735 hb; have n11_ := bS HB hb; have n12_ := aM (hbox); have n13_ := bZ hg HB; have n14_ := bZ hg HB; have n15_ := nL hg BK689; have n16_ := nG hg BK689; have n17_ := nL hg BK690; have n18_ := nG hg BK690; have n19_ := nL hg BK696; have n20_ := nG hg BK696; have n21_ := nL hg BK702; have n22_ := nG hg BK702; have n23_ := nL hg BK707; have n24_ := nG hg BK707; have n25_ := nL hg BK713; have n26_ := nG hg BK713; have n27_ := nL hg BK719; have n28_ := nG hg BK719; have n29_ := nL hg BK726; have n30_ := nG hg BK726; have n31_ := nL hg BK727; have n32_ := nG hg BK727; have n33_ := nL hg BK731; have n34_ := nG hg BK731; have n35_ := nL hg BK735; have n36_ := nG hg BK735; clear BK689; clear BK690; clear BK696; clear BK702; clear BK707; clear BK713; clear BK719; clear BK726; clear BK727; clear BK731; clear BK735; clear HB; have BK689 := n0_; have BK690 := n1_; have BK696 := n2_; have BK702 := n3_; have BK707 := n4_; have BK713 := n5_; have BK719 := n6_; have BK726 := n7_; have BK727 := n8_; have BK731 := n9_; have BK735 := n10_; have HB := n11_; have BK744 := n12_; have GW744 := n13_; have GE744 := n14_; have NB689_744 := n15_; have NB744_689 := n16_; have NB690_744 := n17_; have NB744_690 := n18_; have NB696_744 := n19_; have NB744_696 := n20_; have NB702_744 := n21_; have NB744_702 := n22_; have NB707_744 := n23_; have NB744_707 := n24_; have NB713_744 := n25_; have NB744_713 := n26_; have NB719_744 := n27_; have NB744_719 := n28_; have NB726_744 := n29_; have NB744_726 := n30_; have NB727_744 := n31_; have NB744_727 := n32_; have NB731_744 := n33_; have NB744_731 := n34_; have NB735_744 := n35_; have NB744_735 := n36_; clear n0_ n1_ n2_ n3_ n4_ n5_ n6_ n7_ n8_ n9_ n10_ n11_ n12_ n13_ n14_ n15_ n16_ n17_ n18_ n19_ n20_ n21_ n22_ n23_ n24_ n25_ n26_ n27_ n28_ n29_ n30_ n31_ n32_ n33_ n34_ n35_ n36_; clear hb hbox hg; have hnb248 := NB744_689.out; have hnc248 := NB689_744.out; have hnb249 := NB744_690.out; have hnc249 := NB690_744.out; have hnb250 := NB744_696.out; have hnc250 := NB696_744.out; have hnb251 := NB744_702.out; have hnc251 := NB702_744.out; have hnb252 := NB744_707.out; have hnc252 := NB707_744.out; have hnb253 := NB744_713.out; have hnc253 := NB713_744.out; have hnb254 := NB744_719.out; have hnc254 := NB719_744.out; have hnb255 := NB744_726.out; have hnc255 := NB726_744.out; have hnb256 := NB744_727.out; have hnc256 := NB727_744.out; have hnb257 := NB744_731.out; have hnc257 := NB731_744.out; have hnb258 := NB744_735.out; have hnc258 := NB735_744.out; obtain ⟨hcz259_0, hcz259_1⟩ := z2 BK744; obtain ⟨hfz259_0, hfz259_1⟩ := y2 BK744; have hnb260 := NB690_689.out; have hnc260 := NB689_690.out; have hnb261 := NB690_696.out; have hnc261 := NB696_690.out; have hnb262 := NB690_702.out; have hnc262 := NB702_690.out; have hnb263 := NB690_707.out; have hnc263 := NB707_690.out; have hnb264 := NB690_713.out; have hnc264 := NB713_690.out; have hnb265 := NB690_719.out; have hnc265 := NB719_690.out; have hnb266 := NB690_726.out; have hnc266 := NB726_690.out; have hnb267 := NB690_727.out; have hnc267 := NB727_690.out; have hnb268 := NB690_731.out; have hnc268 := NB731_690.out; have hnb269 := NB690_735.out; have hnc269 := NB735_690.out; obtain ⟨hcz270_0, hcz270_1, hcz270_2, hcz270_3⟩ := z4 BK690; obtain ⟨hfz270_0, hfz270_1, hfz270_2, hfz270_3⟩ := y4 BK690) | ((with_reducible refine gate_callee (f := 35) rfl ?_); refine goesL_ (some 133) rfl rfl Try.func35 (by kernel_rfl) rfl #[.agg #[.int .i64 t685, .int .i64 t686, .int .i64 t687, .int .i64 t688], .agg #[.int .i64 3, .int .i64 (-2)]] rfl (by first|rfl|(simp only [List.map_toArray, List.map_cons, List.map_nil]; try rfl)) ?_; (with_reducible refine (impl_ApplyMat.calls kj129 t685 t686 t687 t688 3 (-2) t745 t746 t747 _ A241.out).mono ?_); rintro e w271 ⟨rfl, hb⟩; refine ⟨_, rfl, ?_⟩; have n0_ := aM (blk_below (g := gb689) (o := .cells #[.int .i64 t681, .int .i64 t682, .int .i64 t683, .int .i64 t684] 51 (0, 0)) (by (repeat (first|(with_reducible first|apply kN|apply kD|apply kA)|refine blk_far ?_ NB689_744.out _)); exact BK689.out) hb); have n1_ := aM (blk_below (g := gb690) (o := .cells #[.int .i64 t685, .int .i64 t686, .int .i64 t687, .int .i64 t688] 51 (0, 0)) (by (repeat (first|(with_reducible first|apply kN|apply kD|apply kA)|refine blk_far ?_ NB690_744.out _)); exact BK690.out) hb); have n2_ := aM (blk_below (g := gb696) (o := .cells #[.int .i64 t691, .int .i64 t692, .int .i64 t693, .int .i64 t694] 51 (0, 0)) (by (repeat (first|(with_reducible first|apply kN|apply kD|apply kA)|refine blk_far ?_ NB696_744.out _)); exact BK696.out) hb); have n3_ := aM (blk_below (g := gb702) (o := .cells #[.int .i64 t697, .int .i64 t698, .int .i64 t699, .int .i64 t700] 51 (0, 0)) (by (repeat (first|(with_reducible first|apply kN|apply kD|apply kA)|refine blk_far ?_ NB702_744.out _)); exact BK702.out) hb); have n4_ := aM (blk_below (g := gb707) (o := .cells #[.int .i64 t703, .int .i64 t704, .int .i64 t705, .int .i64 t706] 51 (0, 0)) (by (repeat (first|(with_reducible first|apply kN|apply kD|apply kA)|refine blk_far ?_ NB707_744.out _)); exact BK707.out) hb); have n5_ := aM (blk_below (g := gb713) (o := .cells #[.int .i64 t708, .int .i64 t709, .int .i64 t710, .int .i64 t711] 51 (0, 0)) (by (repeat (first|(with_reducible first|apply kN|apply kD|apply kA)|refine blk_far ?_ NB713_744.out _)); exact BK713.out) hb); have n6_ := aM (blk_below (g := gb719) (o := .cells #[.int .i64 t714, .int .i64 t715, .int .i64 t716, .int .i64 t717] 51 (0, 0)) (by (repeat (first|(with_reducible first|apply kN|apply kD|apply kA)|refine blk_far ?_ NB719_744.out _)); exact BK719.out) hb); have n7_ := aM (blk_below (g := gb726) (o := .cells #[.int .i64 t720, .int .i64 t721, .int .i64 t722, .int .i64 t723] 51 (0, 0)) (by (repeat (first|(with_reducible first|apply kN|apply kD|apply kA)|refine blk_far ?_ NB726_744.out _)); exact BK726.out) hb); have n8_ := aM (blk_below (g := gb727) (o := .cells #[.int .i64 t724, .int .i64 t725] 47 (0, 0)) (by (repeat (first|(with_reducible first|apply kN|apply kD|apply kA)|refine blk_far ?_ NB727_744.out _)); exact BK727.out) hb); have n9_ := aM (blk_below (g := gb731) (o := .cells #[.int .i64 t728, .int .i64 t729] 47 (0, 0)) (by (repeat (first|(with_reducible first|apply kN|apply kD|apply kA)|refine blk_far ?_ NB731_744.out _)); exact BK731.out) hb); have n10_ := aM (blk_below (g := gb735) (o := .cells #[.int .i64 t732, .int .i64 t733] 47 (0, 0)) (by (repeat (first|(with_reducible first|apply kN|apply kD|apply kA)|refine blk_far ?_ NB735_744.out _)); exact BK735.out) hb); have n11_ := aM (blk_below (g := gb744) (o := .cells #[.int .i64 3, .int .i64 (-2)] 47 (0, 0)) (by (with_reducible repeat (first|apply kN|apply kD|apply kA)); refine blk_put (cs := #[.int .i64 3, .int .i64 0]) ?_ 1 _ rfl; (with_reducible repeat (first|apply kN|apply kD|apply kA)); refine blk_put (cs := #[.int .i64 0, .int .i64 0]) ?_ 0 _ rfl; (with_reducible repeat (first|apply kN|apply kD|apply kA)); exact BK744.out) hb); have n12_ := bS HB hb; clear BK689; clear BK690; clear BK696; clear BK702; clear BK707; clear BK713; clear BK719; clear BK726; clear BK727; clear BK731; clear BK735; clear BK744; clear HB; have BK689 := n0_; have BK690 := n1_; have BK696 := n2_; have BK702 := n3_; have BK707 := n4_; have BK713 := n5_; have BK719 := n6_; have BK726 := n7_; have BK727 := n8_; have BK731 := n9_; have BK735 := n10_; have BK744 := n11_; have HB := n12_; clear n0_ n1_ n2_ n3_ n4_ n5_ n6_ n7_ n8_ n9_ n10_ n11_ n12_; (try clear hb)) | ((with_reducible refine gate_dst (N := 23) rfl ?_); refine box_event ?hg (N := 23) ?hd (cs := #[.int .i64 0, .int .i64 0]) (t := 47) ?hr ?_; (case hd => rfl); (case hg => rfl); (case hr => first | (go_simp; done) | (go_simp; rfl)); intro gb748 hg w272 hbox hb; have n0_ := bB BK689 hb; have n1_ := bB BK690 hb; have n2_ := bB BK696 hb; have n3_ := bB BK702 hb; have n4_ := bB BK707 hb; have n5_ := bB BK713 hb; have n6_ := bB BK719 hb; have n7_ := bB BK726 hb; have n8_ := bB BK727 hb; have n9_ := bB BK731 hb; have n10_ := bB BK735 hb; have n11_ := bB BK744 hb; have n12_ := bS HB hb; have n13_ := aM (hbox); have n14_ := bZ hg HB; have n15_ := bZ hg HB; have n16_ := nL hg BK689; have n17_ := nG hg BK689; have n18_ := nL hg BK690; have n19_ := nG hg BK690; have n20_ := nL hg BK696; have n21_ := nG hg BK696; have n22_ := nL hg BK702; have n23_ := nG hg BK702; have n24_ := nL hg BK707; have n25_ := nG hg BK707; have n26_ := nL hg BK713; have n27_ := nG hg BK713; have n28_ := nL hg BK719; have n29_ := nG hg BK719; have n30_ := nL hg BK726; have n31_ := nG hg BK726; have n32_ := nL hg BK727; have n33_ := nG hg BK727; have n34_ := nL hg BK731; have n35_ := nG hg BK731; have n36_ := nL hg BK735; have n37_ := nG hg BK735; have n38_ := nL hg BK744; have n39_ := nG hg BK744; clear BK689; clear BK690; clear BK696; clear BK702; clear BK707; clear BK713; clear BK719; clear BK726; clear BK727; clear BK731; clear BK735; clear BK744; clear HB; have BK689 := n0_; have BK690 := n1_; have BK696 := n2_; have BK702 := n3_; have BK707 := n4_; have BK713 := n5_; have BK719 := n6_; have BK726 := n7_; have BK727 := n8_; have BK731 := n9_; have BK735 := n10_; have BK744 := n11_; have HB := n12_; have BK748 := n13_; have GW748 := n14_; have GE748 := n15_; have NB689_748 := n16_; have NB748_689 := n17_; have NB690_748 := n18_; have NB748_690 := n19_; have NB696_748 := n20_; have NB748_696 := n21_; have NB702_748 := n22_; have NB748_702 := n23_; have NB707_748 := n24_; have NB748_707 := n25_; have NB713_748 := n26_; have NB748_713 := n27_; have NB719_748 := n28_; have NB748_719 := n29_; have NB726_748 := n30_; have NB748_726 := n31_; have NB727_748 := n32_; have NB748_727 := n33_; have NB731_748 := n34_; have NB748_731 := n35_; have NB735_748 := n36_; have NB748_735 := n37_; have NB744_748 := n38_; have NB748_744 := n39_; clear n0_ n1_ n2_ n3_ n4_ n5_ n6_ n7_ n8_ n9_ n10_ n11_ n12_ n13_ n14_ n15_ n16_ n17_ n18_ n19_ n20_ n21_ n22_ n23_ n24_ n25_ n26_ n27_ n28_ n29_ n30_ n31_ n32_ n33_ n34_ n35_ n36_ n37_ n38_ n39_; clear hb hbox hg; have hnb273 := NB748_689.out; have hnc273 := NB689_748.out; have hnb274 := NB748_690.out; have hnc274 := NB690_748.out; have hnb275 := NB748_696.out; have hnc275 := NB696_748.out; have hnb276 := NB748_702.out; have hnc276 := NB702_748.out; have hnb277 := NB748_707.out; have hnc277 := NB707_748.out; have hnb278 := NB748_713.out; have hnc278 := NB713_748.out; have hnb279 := NB748_719.out; have hnc279 := NB719_748.out; have hnb280 := NB748_726.out; have hnc280 := NB726_748.out; have hnb281 := NB748_727.out; have hnc281 := NB727_748.out; have hnb282 := NB748_731.out; have hnc282 := NB731_748.out; have hnb283 := NB748_735.out; have hnc283 := NB735_748.out; have hnb284 := NB748_744.out; have hnc284 := NB744_748.out; obtain ⟨hcz285_0, hcz285_1⟩ := z2 BK748; obtain ⟨hfz285_0, hfz285_1⟩ := y2 BK748; have hnb286 := NB689_696.out; have hnc286 := NB696_689.out; have hnb287 := NB689_702.out; have hnc287 := NB702_689.out; have hnb288 := NB689_707.out; have hnc288 := NB707_689.out; have hnb289 := NB689_713.out; have hnc289 := NB713_689.out; have hnb290 := NB689_719.out; have hnc290 := NB719_689.out; have hnb291 := NB689_726.out; have hnc291 := NB726_689.out; have hnb292 := NB689_727.out; have hnc292 := NB727_689.out; have hnb293 := NB689_731.out; have hnc293 := NB731_689.out; have hnb294 := NB689_735.out; have hnc294 := NB735_689.out; obtain ⟨hcz295_0, hcz295_1, hcz295_2, hcz295_3⟩ := z4 BK689; obtain ⟨hfz295_0, hfz295_1, hfz295_2, hfz295_3⟩ := y4 BK689) | ((with_reducible refine gate_callee (f := 35) rfl ?_); refine goesL_ (some 139) rfl rfl Try.func35 (by kernel_rfl) rfl #[.agg #[.int .i64 t681, .int .i64 t682, .int .i64 t683, .int .i64 t684], .agg #[.int .i64 t745, .int .i64 t746]] rfl (by first|rfl|(simp only [List.map_toArray, List.map_cons, List.map_nil]; try rfl)) ?_; (with_reducible refine (impl_ApplyMat.calls kj129 t681 t682 t683 t684 t745 t746 t749 t750 t751 _ A242.out).mono ?_); rintro e w296 ⟨rfl, hb⟩; refine ⟨_, rfl, ?_⟩; have n0_ := aM (blk_below (g := gb689) (o := .cells #[.int .i64 t681, .int .i64 t682, .int .i64 t683, .int .i64 t684] 51 (0, 0)) (by (repeat (first|(with_reducible first|apply kN|apply kD|apply kA)|refine blk_far ?_ NB689_748.out _)); exact BK689.out) hb); have n1_ := aM (blk_below (g := gb690) (o := .cells #[.int .i64 t685, .int .i64 t686, .int .i64 t687, .int .i64 t688] 51 (0, 0)) (by (repeat (first|(with_reducible first|apply kN|apply kD|apply kA)|refine blk_far ?_ NB690_748.out _)); exact BK690.out) hb); have n2_ := aM (blk_below (g := gb696) (o := .cells #[.int .i64 t691, .int .i64 t692, .int .i64 t693, .int .i64 t694] 51 (0, 0)) (by (repeat (first|(with_reducible first|apply kN|apply kD|apply kA)|refine blk_far ?_ NB696_748.out _)); exact BK696.out) hb); have n3_ := aM (blk_below (g := gb702) (o := .cells #[.int .i64 t697, .int .i64 t698, .int .i64 t699, .int .i64 t700] 51 (0, 0)) (by (repeat (first|(with_reducible first|apply kN|apply kD|apply kA)|refine blk_far ?_ NB702_748.out _)); exact BK702.out) hb); have n4_ := aM (blk_below (g := gb707) (o := .cells #[.int .i64 t703, .int .i64 t704, .int .i64 t705, .int .i64 t706] 51 (0, 0)) (by (repeat (first|(with_reducible first|apply kN|apply kD|apply kA)|refine blk_far ?_ NB707_748.out _)); exact BK707.out) hb); have n5_ := aM (blk_below (g := gb713) (o := .cells #[.int .i64 t708, .int .i64 t709, .int .i64 t710, .int .i64 t711] 51 (0, 0)) (by (repeat (first|(with_reducible first|apply kN|apply kD|apply kA)|refine blk_far ?_ NB713_748.out _)); exact BK713.out) hb); have n6_ := aM (blk_below (g := gb719) (o := .cells #[.int .i64 t714, .int .i64 t715, .int .i64 t716, .int .i64 t717] 51 (0, 0)) (by (repeat (first|(with_reducible first|apply kN|apply kD|apply kA)|refine blk_far ?_ NB719_748.out _)); exact BK719.out) hb); have n7_ := aM (blk_below (g := gb726) (o := .cells #[.int .i64 t720, .int .i64 t721, .int .i64 t722, .int .i64 t723] 51 (0, 0)) (by (repeat (first|(with_reducible first|apply kN|apply kD|apply kA)|refine blk_far ?_ NB726_748.out _)); exact BK726.out) hb); have n8_ := aM (blk_below (g := gb727) (o := .cells #[.int .i64 t724, .int .i64 t725] 47 (0, 0)) (by (repeat (first|(with_reducible first|apply kN|apply kD|apply kA)|refine blk_far ?_ NB727_748.out _)); exact BK727.out) hb); have n9_ := aM (blk_below (g := gb731) (o := .cells #[.int .i64 t728, .int .i64 t729] 47 (0, 0)) (by (repeat (first|(with_reducible first|apply kN|apply kD|apply kA)|refine blk_far ?_ NB731_748.out _)); exact BK731.out) hb); have n10_ := aM (blk_below (g := gb735) (o := .cells #[.int .i64 t732, .int .i64 t733] 47 (0, 0)) (by (repeat (first|(with_reducible first|apply kN|apply kD|apply kA)|refine blk_far ?_ NB735_748.out _)); exact BK735.out) hb); have n11_ := aM (blk_below (g := gb744) (o := .cells #[.int .i64 3, .int .i64 (-2)] 47 (0, 0)) (by (repeat (first|(with_reducible first|apply kN|apply kD|apply kA)|refine blk_far ?_ NB744_748.out _)); exact BK744.out) hb); have n12_ := aM (blk_below (g := gb748) (o := .cells #[.int .i64 t745, .int .i64 t746] 47 (0, 0)) (by (with_reducible repeat (first|apply kN|apply kD|apply kA)); refine blk_put (cs := #[.int .i64 t745, .int .i64 0]) ?_ 1 _ rfl; (with_reducible repeat (first|apply kN|apply kD|apply kA)); refine blk_put (cs := #[.int .i64 0, .int .i64 0]) ?_ 0 _ rfl; (with_reducible repeat (first|apply kN|apply kD|apply kA)); exact BK748.out) hb); have n13_ := bS HB hb; clear BK689; clear BK690; clear BK696; clear BK702; clear BK707; clear BK713; clear BK719; clear BK726; clear BK727; clear BK731; clear BK735; clear BK744; clear BK748; clear HB; have BK689 := n0_; have BK690 := n1_; have BK696 := n2_; have BK702 := n3_; have BK707 := n4_; have BK713 := n5_; have BK719 := n6_; have BK726 := n7_; have BK727 := n8_; have BK731 := n9_; have BK735 := n10_; have BK744 := n11_; have BK748 := n12_; have HB := n13_; clear n0_ n1_ n2_ n3_ n4_ n5_ n6_ n7_ n8_ n9_ n10_ n11_ n12_ n13_; (try clear hb)) | ((with_reducible refine gate_dst (N := 25) rfl ?_); refine box_event ?hg (N := 25) ?hd (cs := #[.int .i64 0, .int .i64 0]) (t := 47) ?hr ?_; (case hd => rfl); (case hg => rfl); (case hr => first | (go_simp; done) | (go_simp; rfl)); intro gb752 hg w297 hbox hb; have n0_ := bB BK689 hb; have n1_ := bB BK690 hb; have n2_ := bB BK696 hb; have n3_ := bB BK702 hb; have n4_ := bB BK707 hb; have n5_ := bB BK713 hb; have n6_ := bB BK719 hb; have n7_ := bB BK726 hb; have n8_ := bB BK727 hb; have n9_ := bB BK731 hb; have n10_ := bB BK735 hb; have n11_ := bB BK744 hb; have n12_ := bB BK748 hb; have n13_ := bS HB hb; have n14_ := aM (hbox); have n15_ := bZ hg HB; have n16_ := bZ hg HB; have n17_ := nL hg BK689; have n18_ := nG hg BK689; have n19_ := nL hg BK690; have n20_ := nG hg BK690; have n21_ := nL hg BK696; have n22_ := nG hg BK696; have n23_ := nL hg BK702; have n24_ := nG hg BK702; have n25_ := nL hg BK707; have n26_ := nG hg BK707; have n27_ := nL hg BK713; have n28_ := nG hg BK713; have n29_ := nL hg BK719; have n30_ := nG hg BK719; have n31_ := nL hg BK726; have n32_ := nG hg BK726; have n33_ := nL hg BK727; have n34_ := nG hg BK727; have n35_ := nL hg BK731; have n36_ := nG hg BK731; have n37_ := nL hg BK735; have n38_ := nG hg BK735; have n39_ := nL hg BK744; have n40_ := nG hg BK744; have n41_ := nL hg BK748; have n42_ := nG hg BK748; clear BK689; clear BK690; clear BK696; clear BK702; clear BK707; clear BK713; clear BK719; clear BK726; clear BK727; clear BK731; clear BK735; clear BK744; clear BK748; clear HB; have BK689 := n0_; have BK690 := n1_; have BK696 := n2_; have BK702 := n3_; have BK707 := n4_; have BK713 := n5_; have BK719 := n6_; have BK726 := n7_; have BK727 := n8_; have BK731 := n9_; have BK735 := n10_; have BK744 := n11_; have BK748 := n12_; have HB := n13_; have BK752 := n14_; have GW752 := n15_; have GE752 := n16_; have NB689_752 := n17_; have NB752_689 := n18_; have NB690_752 := n19_; have NB752_690 := n20_; have NB696_752 := n21_; have NB752_696 := n22_; have NB702_752 := n23_; have NB752_702 := n24_; have NB707_752 := n25_; have NB752_707 := n26_; have NB713_752 := n27_; have NB752_713 := n28_; have NB719_752 := n29_; have NB752_719 := n30_; have NB726_752 := n31_; have NB752_726 := n32_; have NB727_752 := n33_; have NB752_727 := n34_; have NB731_752 := n35_; have NB752_731 := n36_; have NB735_752 := n37_; have NB752_735 := n38_; have NB744_752 := n39_; have NB752_744 := n40_; have NB748_752 := n41_; have NB752_748 := n42_; clear n0_ n1_ n2_ n3_ n4_ n5_ n6_ n7_ n8_ n9_ n10_ n11_ n12_ n13_ n14_ n15_ n16_ n17_ n18_ n19_ n20_ n21_ n22_ n23_ n24_ n25_ n26_ n27_ n28_ n29_ n30_ n31_ n32_ n33_ n34_ n35_ n36_ n37_ n38_ n39_ n40_ n41_ n42_; clear hb hbox hg; have hnb298 := NB752_689.out; have hnc298 := NB689_752.out; have hnb299 := NB752_690.out; have hnc299 := NB690_752.out; have hnb300 := NB752_696.out; have hnc300 := NB696_752.out; have hnb301 := NB752_702.out; have hnc301 := NB702_752.out; have hnb302 := NB752_707.out; have hnc302 := NB707_752.out; have hnb303 := NB752_713.out; have hnc303 := NB713_752.out; have hnb304 := NB752_719.out; have hnc304 := NB719_752.out; have hnb305 := NB752_726.out; have hnc305 := NB726_752.out; have hnb306 := NB752_727.out; have hnc306 := NB727_752.out; have hnb307 := NB752_731.out; have hnc307 := NB731_752.out; have hnb308 := NB752_735.out; have hnc308 := NB735_752.out; have hnb309 := NB752_744.out; have hnc309 := NB744_752.out; have hnb310 := NB752_748.out; have hnc310 := NB748_752.out; obtain ⟨hcz311_0, hcz311_1⟩ := z2 BK752; obtain ⟨hfz311_0, hfz311_1⟩ := y2 BK752; have hnb312 := NB696_702.out; have hnc312 := NB702_696.out; have hnb313 := NB696_707.out; have hnc313 := NB707_696.out; have hnb314 := NB696_713.out; have hnc314 := NB713_696.out; have hnb315 := NB696_719.out; have hnc315 := NB719_696.out; have hnb316 := NB696_726.out; have hnc316 := NB726_696.out; have hnb317 := NB696_727.out; have hnc317 := NB727_696.out; have hnb318 := NB696_731.out; have hnc318 := NB731_696.out; have hnb319 := NB696_735.out; have hnc319 := NB735_696.out; obtain ⟨hcz320_0, hcz320_1, hcz320_2, hcz320_3⟩ := z4 BK696; obtain ⟨hfz320_0, hfz320_1, hfz320_2, hfz320_3⟩ := y4 BK696; obtain ⟨hcz321_0, hcz321_1⟩ := z2 BK744; obtain ⟨hfz321_0, hfz321_1⟩ := y2 BK744) | ((with_reducible refine gate_callee (f := 35) rfl ?_); refine goesL_ (some 145) rfl rfl Try.func35 (by kernel_rfl) rfl #[.agg #[.int .i64 t691, .int .i64 t692, .int .i64 t693, .int .i64 t694], .agg #[.int .i64 3, .int .i64 (-2)]] rfl (by first|rfl|(simp only [List.map_toArray, List.map_cons, List.map_nil]; try rfl)) ?_; (with_reducible refine (impl_ApplyMat.calls kj129 t691 t692 t693 t694 3 (-2) t753 t754 t755 _ A243.out).mono ?_); rintro e w322 ⟨rfl, hb⟩; refine ⟨_, rfl, ?_⟩; have n0_ := aM (blk_below (g := gb689) (o := .cells #[.int .i64 t681, .int .i64 t682, .int .i64 t683, .int .i64 t684] 51 (0, 0)) (by (repeat (first|(with_reducible first|apply kN|apply kD|apply kA)|refine blk_far ?_ NB689_752.out _)); exact BK689.out) hb); have n1_ := aM (blk_below (g := gb690) (o := .cells #[.int .i64 t685, .int .i64 t686, .int .i64 t687, .int .i64 t688] 51 (0, 0)) (by (repeat (first|(with_reducible first|apply kN|apply kD|apply kA)|refine blk_far ?_ NB690_752.out _)); exact BK690.out) hb); have n2_ := aM (blk_below (g := gb696) (o := .cells #[.int .i64 t691, .int .i64 t692, .int .i64 t693, .int .i64 t694] 51 (0, 0)) (by (repeat (first|(with_reducible first|apply kN|apply kD|apply kA)|refine blk_far ?_ NB696_752.out _)); exact BK696.out) hb); have n3_ := aM (blk_below (g := gb702) (o := .cells #[.int .i64 t697, .int .i64 t698, .int .i64 t699, .int .i64 t700] 51 (0, 0)) (by (repeat (first|(with_reducible first|apply kN|apply kD|apply kA)|refine blk_far ?_ NB702_752.out _)); exact BK702.out) hb); have n4_ := aM (blk_below (g := gb707) (o := .cells #[.int .i64 t703, .int .i64 t704, .int .i64 t705, .int .i64 t706] 51 (0, 0)) (by (repeat (first|(with_reducible first|apply kN|apply kD|apply kA)|refine blk_far ?_ NB707_752.out _)); exact BK707.out) hb); have n5_ := aM (blk_below (g := gb713) (o := .cells #[.int .i64 t708, .int .i64 t709, .int .i64 t710, .int .i64 t711] 51 (0, 0)) (by (repeat (first|(with_reducible first|apply kN|apply kD|apply kA)|refine blk_far ?_ NB713_752.out _)); exact BK713.out) hb); have n6_ := aM (blk_below (g := gb719) (o := .cells #[.int .i64 t714, .int .i64 t715, .int .i64 t716, .int .i64 t717] 51 (0, 0)) (by (repeat (first|(with_reducible first|apply kN|apply kD|apply kA)|refine blk_far ?_ NB719_752.out _)); exact BK719.out) hb); have n7_ := aM (blk_below (g := gb726) (o := .cells #[.int .i64 t720, .int .i64 t721, .int .i64 t722, .int .i64 t723] 51 (0, 0)) (by (repeat (first|(with_reducible first|apply kN|apply kD|apply kA)|refine blk_far ?_ NB726_752.out _)); exact BK726.out) hb); have n8_ := aM (blk_below (g := gb727) (o := .cells #[.int .i64 t724, .int .i64 t725] 47 (0, 0)) (by (repeat (first|(with_reducible first|apply kN|apply kD|apply kA)|refine blk_far ?_ NB727_752.out _)); exact BK727.out) hb); have n9_ := aM (blk_below (g := gb731) (o := .cells #[.int .i64 t728, .int .i64 t729] 47 (0, 0)) (by (repeat (first|(with_reducible first|apply kN|apply kD|apply kA)|refine blk_far ?_ NB731_752.out _)); exact BK731.out) hb); have n10_ := aM (blk_below (g := gb735) (o := .cells #[.int .i64 t732, .int .i64 t733] 47 (0, 0)) (by (repeat (first|(with_reducible first|apply kN|apply kD|apply kA)|refine blk_far ?_ NB735_752.out _)); exact BK735.out) hb); have n11_ := aM (blk_below (g := gb744) (o := .cells #[.int .i64 3, .int .i64 (-2)] 47 (0, 0)) (by (repeat (first|(with_reducible first|apply kN|apply kD|apply kA)|refine blk_far ?_ NB744_752.out _)); exact BK744.out) hb); have n12_ := aM (blk_below (g := gb748) (o := .cells #[.int .i64 t745, .int .i64 t746] 47 (0, 0)) (by (repeat (first|(with_reducible first|apply kN|apply kD|apply kA)|refine blk_far ?_ NB748_752.out _)); exact BK748.out) hb); have n13_ := aM (blk_below (g := gb752) (o := .cells #[.int .i64 t749, .int .i64 t750] 47 (0, 0)) (by (with_reducible repeat (first|apply kN|apply kD|apply kA)); refine blk_put (cs := #[.int .i64 t749, .int .i64 0]) ?_ 1 _ rfl; (with_reducible repeat (first|apply kN|apply kD|apply kA)); refine blk_put (cs := #[.int .i64 0, .int .i64 0]) ?_ 0 _ rfl; (with_reducible repeat (first|apply kN|apply kD|apply kA)); exact BK752.out) hb); have n14_ := bS HB hb; clear BK689; clear BK690; clear BK696; clear BK702; clear BK707; clear BK713; clear BK719; clear BK726; clear BK727; clear BK731; clear BK735; clear BK744; clear BK748; clear BK752; clear HB; have BK689 := n0_; have BK690 := n1_; have BK696 := n2_; have BK702 := n3_; have BK707 := n4_; have BK713 := n5_; have BK719 := n6_; have BK726 := n7_; have BK727 := n8_; have BK731 := n9_; have BK735 := n10_; have BK744 := n11_; have BK748 := n12_; have BK752 := n13_; have HB := n14_; clear n0_ n1_ n2_ n3_ n4_ n5_ n6_ n7_ n8_ n9_ n10_ n11_ n12_ n13_ n14_; (try clear hb)) | ((with_reducible refine gate_dst (N := 27) rfl ?_); refine box_event ?hg (N := 27) ?hd (cs := #[.int .i64 0, .int .i64 0]) (t := 47) ?hr ?_; (case hd => rfl); (case hg => rfl); (case hr => first | (go_simp; done) | (go_simp; rfl)); intro gb756 hg w323 hbox hb; have n0_ := bB BK689 hb; have n1_ := bB BK690 hb; have n2_ := bB BK696 hb; have n3_ := bB BK702 hb; have n4_ := bB BK707 hb; have n5_ := bB BK713 hb; have n6_ := bB BK719 hb; have n7_ := bB BK726 hb; have n8_ := bB BK727 hb; have n9_ := bB BK731 hb; have n10_ := bB BK735 hb; have n11_ := bB BK744 hb; have n12_ := bB BK748 hb; have n13_ := bB BK752 hb; have n14_ := bS HB hb; have n15_ := aM (hbox); have n16_ := bZ hg HB; have n17_ := bZ hg HB; have n18_ := nL hg BK689; have n19_ := nG hg BK689; have n20_ := nL hg BK690; have n21_ := nG hg BK690; have n22_ := nL hg BK696; have n23_ := nG hg BK696; have n24_ := nL hg BK702; have n25_ := nG hg BK702; have n26_ := nL hg BK707; have n27_ := nG hg BK707; have n28_ := nL hg BK713; have n29_ := nG hg BK713; have n30_ := nL hg BK719; have n31_ := nG hg BK719; have n32_ := nL hg BK726; have n33_ := nG hg BK726; have n34_ := nL hg BK727; have n35_ := nG hg BK727; have n36_ := nL hg BK731; have n37_ := nG hg BK731; have n38_ := nL hg BK735; have n39_ := nG hg BK735; have n40_ := nL hg BK744; have n41_ := nG hg BK744; have n42_ := nL hg BK748; have n43_ := nG hg BK748; have n44_ := nL hg BK752; have n45_ := nG hg BK752; clear BK689; clear BK690; clear BK696; clear BK702; clear BK707; clear BK713; clear BK719; clear BK726; clear BK727; clear BK731; clear BK735; clear BK744; clear BK748; clear BK752; clear HB; have BK689 := n0_; have BK690 := n1_; have BK696 := n2_; have BK702 := n3_; have BK707 := n4_; have BK713 := n5_; have BK719 := n6_; have BK726 := n7_; have BK727 := n8_; have BK731 := n9_; have BK735 := n10_; have BK744 := n11_; have BK748 := n12_; have BK752 := n13_; have HB := n14_; have BK756 := n15_; have GW756 := n16_; have GE756 := n17_; have NB689_756 := n18_; have NB756_689 := n19_; have NB690_756 := n20_; have NB756_690 := n21_; have NB696_756 := n22_; have NB756_696 := n23_; have NB702_756 := n24_; have NB756_702 := n25_; have NB707_756 := n26_; have NB756_707 := n27_; have NB713_756 := n28_; have NB756_713 := n29_; have NB719_756 := n30_; have NB756_719 := n31_; have NB726_756 := n32_; have NB756_726 := n33_; have NB727_756 := n34_; have NB756_727 := n35_; have NB731_756 := n36_; have NB756_731 := n37_; have NB735_756 := n38_; have NB756_735 := n39_; have NB744_756 := n40_; have NB756_744 := n41_; have NB748_756 := n42_; have NB756_748 := n43_; have NB752_756 := n44_; have NB756_752 := n45_; clear n0_ n1_ n2_ n3_ n4_ n5_ n6_ n7_ n8_ n9_ n10_ n11_ n12_ n13_ n14_ n15_ n16_ n17_ n18_ n19_ n20_ n21_ n22_ n23_ n24_ n25_ n26_ n27_ n28_ n29_ n30_ n31_ n32_ n33_ n34_ n35_ n36_ n37_ n38_ n39_ n40_ n41_ n42_ n43_ n44_ n45_; clear hb hbox hg; have hnb324 := NB756_689.out; have hnc324 := NB689_756.out; have hnb325 := NB756_690.out; have hnc325 := NB690_756.out; have hnb326 := NB756_696.out; have hnc326 := NB696_756.out; have hnb327 := NB756_702.out; have hnc327 := NB702_756.out; have hnb328 := NB756_707.out; have hnc328 := NB707_756.out; have hnb329 := NB756_713.out; have hnc329 := NB713_756.out; have hnb330 := NB756_719.out; have hnc330 := NB719_756.out; have hnb331 := NB756_726.out; have hnc331 := NB726_756.out; have hnb332 := NB756_727.out; have hnc332 := NB727_756.out; have hnb333 := NB756_731.out; have hnc333 := NB731_756.out; have hnb334 := NB756_735.out; have hnc334 := NB735_756.out; have hnb335 := NB756_744.out; have hnc335 := NB744_756.out; have hnb336 := NB756_748.out; have hnc336 := NB748_756.out; have hnb337 := NB756_752.out; have hnc337 := NB752_756.out; obtain ⟨hcz338_0, hcz338_1⟩ := z2 BK756; obtain ⟨hfz338_0, hfz338_1⟩ := y2 BK756; obtain ⟨hcz339_0, hcz339_1⟩ := z2 BK752; obtain ⟨hfz339_0, hfz339_1⟩ := y2 BK752))
        all_goals go_ret
        all_goals exact ⟨by first|rfl|(simp [*, errW_none, errW_some] <;> rfl), by repeat (first | (with_reducible first | exact HB.out | apply bA|apply bN|apply b1 | refine below_set ?_ (Aside0.out (by assumption))) | exact HB.out)⟩
       ·rw [if_neg c240] at H
        have c240b0 : (t695 == 0) = false := beq_eq_false_iff_ne.mpr c240
        have c240b1 : (t695 != 0) = true := bne_iff_ne.mpr c240
        have hrT_ := Option.some.inj H
        go_wp2
        all_goals go_ret
        all_goals exact ⟨by first|rfl|(simp [*, errW_none, errW_some] <;> rfl), by repeat (first | (with_reducible first | exact HB.out | apply bA|apply bN|apply b1 | refine below_set ?_ (Aside0.out (by assumption))) | exact HB.out)⟩


end Go.Proofs.Ytcjchihnopmplaa.F

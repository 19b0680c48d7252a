import Derived.Test.YtcjchihnopmplaaP0
import Derived.Test.YtcjchihnopmplaaP1
import Derived.Test.YtcjchihnopmplaaP2
import Derived.Test.YtcjchihnopmplaaP4
import Derived.Test.YtcjchihnopmplaaP6
import Derived.Test.YtcjchihnopmplaaP10
import Derived.Test.YtcjchihnopmplaaP12
import Derived.Test.YtcjchihnopmplaaP14
import Derived.Test.YtcjchihnopmplaaP15
import Derived.Test.YtcjchihnopmplaaP17
namespace Go.Proofs.Ytcjchihnopmplaa.F
open Go.RowKit Go.Proofs.YtcjchihnopmplaaW.PrintWords Go.Proofs.YtcjchihnopmplaaW.PrintLast Go.Proofs.YtcjchihnopmplaaW.PrintMore
attribute [local go_sem] max2_int min2_int max_two min_two max_three min_three max_four min_four   -- for this text's walks alone
set_option linter.unusedVariables false
set_option linter.unusedSimpArgs false
attribute [local go_sem high] eqA33

mutual
def laws_FnPointMats.j0 : Nat → Int → Int → Int → Int → Bool → Int → Int → Int → Int → Int → Int → Int → Int → Option (Bool)
 | 0, _, _, _, _, _, _, _, _, _, _, _, _, _ => none
 | k + 1, x8, x10, x11, x20, x130, x601000, x601001, x621000, x621001, x621002, x626000, x626001, x626002 => if x130 = true then (some false) else (if x20 = 0 then (laws_FnPointMats.j1 k x8 x10 x11 ((wrap64 (x626000 * x626002)) != (wrap64 (x621000 * x621002))) x601000 x601001) else (laws_FnPointMats.j1 k x8 x10 x11 false x601000 x601001))
def laws_FnPointMats.j1 : Nat → Int → Int → Int → Bool → Int → Int → Option (Bool)
 | 0, _, _, _, _, _, _ => none
 | k + 1, x8, x10, x11, x145, x601000, x601001 => if x145 = true then (some false) else (if x11 = 0 then ((impl_PointMats.f k x8).bind fun bt636 => (if bt636.2 = 0 then (laws_FnPointMats.l0 k x8 x10 bt636.1 0 x601000 x601001) else (some false))) else (some true))
def laws_FnPointMats.l0 : Nat → Int → Int → List (S51) → Int → Int → Int → Option (Bool)
 | 0, _, _, _, _, _, _ => none
 | k + 1, x8, x10, x23, x25, x601000, x601001 => if x25 < (x23.length : Int) then (if 0 ≤ x25 then ((impl_ApplyMat.f k ((rd_T51 x23 x25).f0) ((rd_T51 x23 x25).f1) ((rd_T51 x23 x25).f2) ((rd_T51 x23 x25).f3) x601000 x601001).bind fun bt641 => (if bt641.2.2 = 0 then ((impl_NormOf.f x8 bt641.1 bt641.2.1).bind fun bt645 => (if bt645.2 = 0 then (if bt645.1 = x10 then (laws_FnPointMats.l0 k x8 x10 x23 (wrap64 (x25 + 1)) x601000 x601001) else (some false)) else (some false))) else (laws_FnPointMats.l0 k x8 x10 x23 (wrap64 (x25 + 1)) x601000 x601001))) else (none)) else (some true)
end
def laws_FnPointMats.f (k : Nat) (l0 : List Int) : Option (Bool) := (laws_big.f l0).bind fun t587 => (if t587 = true then (some true) else ((spec_DrawPointMats.f k l0).bind fun t588 => ((impl_PointMats.f k t588).bind fun bt589 => ((spec_PointMats.f k t588).bind fun bt593 => ((spec_DrawNormOf.f k l0).bind fun bt597 => ((impl_NormOf.f bt597.1 bt597.2.1 bt597.2.2).bind fun bt601 => ((spec_NormOf.f bt597.1 bt597.2.1 bt597.2.2).bind fun bt603 => ((spec_DrawIsPointMat.f k l0).bind fun bt605 => ((spec_DrawMapLattice.f k l0).bind fun bt611 => ((impl_MapLattice.f k bt611.1 bt611.2.1 bt611.2.2.1 bt611.2.2.2.1 bt611.2.2.2.2.1 bt611.2.2.2.2.2.1 bt611.2.2.2.2.2.2.1 bt611.2.2.2.2.2.2.2).bind fun bt621 => ((spec_MapLattice.f k bt611.1 bt611.2.1 bt611.2.2.1 bt611.2.2.2.1 bt611.2.2.2.2.1 bt611.2.2.2.2.2.1 bt611.2.2.2.2.2.2.1 bt611.2.2.2.2.2.2.2).bind fun bt626 => (if bt589.2 = bt593.2 then ((laws_likeMats9.f k bt589.1 bt593.1).bind fun t631 => (if t631 = true then (if bt601.2 = bt603.2 then (if bt601.1 = bt603.1 then ((impl_IsPointMat.f k bt605.1 bt605.2.1 bt605.2.2.1 bt605.2.2.2.1 bt605.2.2.2.2).bind fun t632 => ((spec_IsPointMat.f bt605.1 bt605.2.1 bt605.2.2.1 bt605.2.2.2.1 bt605.2.2.2.2).bind fun t633 => (if (t632 != t633) = true then (laws_FnPointMats.j0 k bt597.1 bt601.1 bt601.2 bt621.2.2.2 true bt597.2.1 bt597.2.2 bt611.2.2.2.2.2.1 bt611.2.2.2.2.2.2.1 bt611.2.2.2.2.2.2.2 bt621.1 bt621.2.1 bt621.2.2.1) else (if bt621.2.2.2 = bt626.2.2.2 then (if (!(bt621.1 == bt626.1) || (!(bt621.2.1 == bt626.2.1) || (!(bt621.2.2.1 == bt626.2.2.1)))) = true then (laws_FnPointMats.j0 k bt597.1 bt601.1 bt601.2 bt621.2.2.2 true bt597.2.1 bt597.2.2 bt611.2.2.2.2.2.1 bt611.2.2.2.2.2.2.1 bt611.2.2.2.2.2.2.2 bt621.1 bt621.2.1 bt621.2.2.1) else ((impl_IsFrame.f t588).bind fun t634 => ((spec_IsFrame.f t588).bind fun t635 => (laws_FnPointMats.j0 k bt597.1 bt601.1 bt601.2 bt621.2.2.2 (t634 != t635) bt597.2.1 bt597.2.2 bt611.2.2.2.2.2.1 bt611.2.2.2.2.2.2.1 bt611.2.2.2.2.2.2.2 bt621.1 bt621.2.1 bt621.2.2.1)))) else (laws_FnPointMats.j0 k bt597.1 bt601.1 bt601.2 bt621.2.2.2 true bt597.2.1 bt597.2.2 bt611.2.2.2.2.2.1 bt611.2.2.2.2.2.2.1 bt611.2.2.2.2.2.2.2 bt621.1 bt621.2.1 bt621.2.2.1))))) else (laws_FnPointMats.j0 k bt597.1 bt601.1 bt601.2 bt621.2.2.2 true bt597.2.1 bt597.2.2 bt611.2.2.2.2.2.1 bt611.2.2.2.2.2.2.1 bt611.2.2.2.2.2.2.2 bt621.1 bt621.2.1 bt621.2.2.1)) else (laws_FnPointMats.j0 k bt597.1 bt601.1 bt601.2 bt621.2.2.2 true bt597.2.1 bt597.2.2 bt611.2.2.2.2.2.1 bt611.2.2.2.2.2.2.1 bt611.2.2.2.2.2.2.2 bt621.1 bt621.2.1 bt621.2.2.1)) else (laws_FnPointMats.j0 k bt597.1 bt601.1 bt601.2 bt621.2.2.2 true bt597.2.1 bt597.2.2 bt611.2.2.2.2.2.1 bt611.2.2.2.2.2.2.1 bt611.2.2.2.2.2.2.2 bt621.1 bt621.2.1 bt621.2.2.1))) else (laws_FnPointMats.j0 k bt597.1 bt601.1 bt601.2 bt621.2.2.2 true bt597.2.1 bt597.2.2 bt611.2.2.2.2.2.1 bt611.2.2.2.2.2.2.1 bt611.2.2.2.2.2.2.2 bt621.1 bt621.2.1 bt621.2.2.1)))))))))))))
def laws_FnPointMats.T13 : Bool × List (List Nat × List Nat) := (true, [([], []), ([], []), ([0, 1], [0, 1]), ([2], [2]), ([3], [3]), ([3], [3]), ([4, 5, 3, 3], [3, 4, 5]), ([6, 3], [3, 6]), ([3, 7], [3, 7]), ([8, 6], [8]), ([9], [9]), ([9], [9]), ([10, 11, 9], [9, 10, 11]), ([9, 12], [9, 12]), ([13, 9], [13]), ([14], [14]), ([14], [14]), ([15, 16, 14], [14, 15, 16]), ([14, 17], [14, 17]), ([18, 14], [18]), ([19], [19]), ([19], [19]), ([20, 21, 19, 19], [19, 20, 21]), ([19], [19]), ([19], [19]), ([23, 24, 22, 19], [19, 23, 24]), ([22, 25, 19], [19, 22, 25]), ([19, 26], [19, 26]), ([27, 25], [27]), ([28], [28]), ([28], [28]), ([29, 30, 28], [28, 29, 30]), ([28, 31], [28, 31]), ([32, 28], [32]), ([33], [33]), ([33], [33]), ([34, 35, 33], [33, 34, 35]), ([33, 36], [33, 36]), ([37, 33], [37]), ([38], [38]), ([39, 38, 38], [38, 39]), ([38], [38]), ([41, 40, 38], [38, 41]), ([40, 42, 38], [38, 40, 42]), ([38, 43], [38, 43])])
def laws_FnPointMats.B13 : List Nat := [0, 0, 3, 7, 15, 15, 63, 127, 255, 511, 1023, 1023, 4095, 8191, 16383, 32767, 32767, 131071, 262143, 524287, 1048575, 1048575, 4194303, 1048575, 1048575, 33554431, 67108863, 134217727, 268435455, 536870911, 536870911, 2147483647, 4294967295, 8589934591, 17179869183, 17179869183, 68719476735, 137438953471, 274877906943, 549755813887, 1099511627775, 549755813887, 4398046511103, 8796093022207, 17592186044415]
theorem laws_FnPointMats.tab13 : rtab .any (opsOf Try.f8 13) = laws_FnPointMats.T13 := by kernel_rfl
theorem laws_FnPointMats.bits13 : waitsOk laws_FnPointMats.T13.2 laws_FnPointMats.B13 = true := by kernel_rfl
def laws_FnPointMats.T25 : Bool × List (List Nat × List Nat) := (true, [([], []), ([], []), ([0, 1], [0, 1]), ([2], [2]), ([], []), ([3, 4], [3, 4]), ([5], [5]), ([6], [6]), ([6], [6]), ([], []), ([9, 7, 5, 0, 1, 2, 3, 4, 5, 6, 7, 9], [7, 9]), ([8, 10, 0, 1, 2, 3, 4, 5, 6, 7, 8, 9, 10], [8])])
def laws_FnPointMats.B25 : List Nat := [0, 0, 3, 7, 0, 31, 63, 127, 127, 0, 767, 2047]
theorem laws_FnPointMats.tab25 : rtab .any (opsOf Try.f8 25) = laws_FnPointMats.T25 := by kernel_rfl
theorem laws_FnPointMats.bits25 : waitsOk laws_FnPointMats.T25.2 laws_FnPointMats.B25 = true := by kernel_rfl
set_option maxHeartbeats 40000000 in
set_option maxRecDepth 100000 in
theorem laws_FnPointMats.calls (k : Nat) (A0 : Option Addr) (c0 : Nat) (l0 : List Int) (w : World) (hr0 : Kd.C (Kd.int .u8) w A0 l0.length l0) (hc0 : l0.length ≤ c0) (h : laws_FnPointMats.f k l0 = some true) :
  Calls Try.prog 8 #[.slice A0 l0.length c0] w fun e w' => e = .returned (.bool true) ∧ Below w.heap.size w w' := by
 have hu47 := Try.underlying47
 have hu51 := Try.underlying51
 have hu33 := Try.underlying33
 have HR0 := aM hr0
 have HC0 := aM hc0
 clear hr0 hc0
 have HB := aM (Below.refl w.heap.size w)
 have H : ((laws_big.f l0).bind fun t587 => (if t587 = true then (some true) else ((spec_DrawPointMats.f k l0).bind fun t588 => ((impl_PointMats.f k t588).bind fun bt589 => ((spec_PointMats.f k t588).bind fun bt593 => ((spec_DrawNormOf.f k l0).bind fun bt597 => ((impl_NormOf.f bt597.1 bt597.2.1 bt597.2.2).bind fun bt601 => ((spec_NormOf.f bt597.1 bt597.2.1 bt597.2.2).bind fun bt603 => ((spec_DrawIsPointMat.f k l0).bind fun bt605 => ((spec_DrawMapLattice.f k l0).bind fun bt611 => ((impl_MapLattice.f k bt611.1 bt611.2.1 bt611.2.2.1 bt611.2.2.2.1 bt611.2.2.2.2.1 bt611.2.2.2.2.2.1 bt611.2.2.2.2.2.2.1 bt611.2.2.2.2.2.2.2).bind fun bt621 => ((spec_MapLattice.f k bt611.1 bt611.2.1 bt611.2.2.1 bt611.2.2.2.1 bt611.2.2.2.2.1 bt611.2.2.2.2.2.1 bt611.2.2.2.2.2.2.1 bt611.2.2.2.2.2.2.2).bind fun bt626 => (if bt589.2 = bt593.2 then ((laws_likeMats9.f k bt589.1 bt593.1).bind fun t631 => (if t631 = true then (if bt601.2 = bt603.2 then (if bt601.1 = bt603.1 then ((impl_IsPointMat.f k bt605.1 bt605.2.1 bt605.2.2.1 bt605.2.2.2.1 bt605.2.2.2.2).bind fun t632 => ((spec_IsPointMat.f bt605.1 bt605.2.1 bt605.2.2.1 bt605.2.2.2.1 bt605.2.2.2.2).bind fun t633 => (if (t632 != t633) = true then (laws_FnPointMats.j0 k bt597.1 bt601.1 bt601.2 bt621.2.2.2 true bt597.2.1 bt597.2.2 bt611.2.2.2.2.2.1 bt611.2.2.2.2.2.2.1 bt611.2.2.2.2.2.2.2 bt621.1 bt621.2.1 bt621.2.2.1) else (if bt621.2.2.2 = bt626.2.2.2 then (if (!(bt621.1 == bt626.1) || (!(bt621.2.1 == bt626.2.1) || (!(bt621.2.2.1 == bt626.2.2.1)))) = true then (laws_FnPointMats.j0 k bt597.1 bt601.1 bt601.2 bt621.2.2.2 true bt597.2.1 bt597.2.2 bt611.2.2.2.2.2.1 bt611.2.2.2.2.2.2.1 bt611.2.2.2.2.2.2.2 bt621.1 bt621.2.1 bt621.2.2.1) else ((impl_IsFrame.f t588).bind fun t634 => ((spec_IsFrame.f t588).bind fun t635 => (laws_FnPointMats.j0 k bt597.1 bt601.1 bt601.2 bt621.2.2.2 (t634 != t635) bt597.2.1 bt597.2.2 bt611.2.2.2.2.2.1 bt611.2.2.2.2.2.2.1 bt611.2.2.2.2.2.2.2 bt621.1 bt621.2.1 bt621.2.2.1)))) else (laws_FnPointMats.j0 k bt597.1 bt601.1 bt601.2 bt621.2.2.2 true bt597.2.1 bt597.2.2 bt611.2.2.2.2.2.1 bt611.2.2.2.2.2.2.1 bt611.2.2.2.2.2.2.2 bt621.1 bt621.2.1 bt621.2.2.1))))) else (laws_FnPointMats.j0 k bt597.1 bt601.1 bt601.2 bt621.2.2.2 true bt597.2.1 bt597.2.2 bt611.2.2.2.2.2.1 bt611.2.2.2.2.2.2.1 bt611.2.2.2.2.2.2.2 bt621.1 bt621.2.1 bt621.2.2.1)) else (laws_FnPointMats.j0 k bt597.1 bt601.1 bt601.2 bt621.2.2.2 true bt597.2.1 bt597.2.2 bt611.2.2.2.2.2.1 bt611.2.2.2.2.2.2.1 bt611.2.2.2.2.2.2.2 bt621.1 bt621.2.1 bt621.2.2.1)) else (laws_FnPointMats.j0 k bt597.1 bt601.1 bt601.2 bt621.2.2.2 true bt597.2.1 bt597.2.2 bt611.2.2.2.2.2.1 bt611.2.2.2.2.2.2.1 bt611.2.2.2.2.2.2.2 bt621.1 bt621.2.1 bt621.2.2.1))) else (laws_FnPointMats.j0 k bt597.1 bt601.1 bt601.2 bt621.2.2.2 true bt597.2.1 bt597.2.2 bt611.2.2.2.2.2.1 bt611.2.2.2.2.2.2.1 bt611.2.2.2.2.2.2.2 bt621.1 bt621.2.1 bt621.2.2.1)))))))))))))) = some true := h
 clear h
 obtain ⟨t587, A2, H⟩ := oB H
 try dsimp only at H
 by_cases c3 : t587 = true
 ·subst c3
  have H1 : (some true) = some true := rfl
  clear H
  have H := H1
  clear H1
  clear H
  go_enter Try.func8, Try.ntmps8
  go_wp2_with (first | ((with_reducible refine gC (f:=21) rfl ?_); refine gM 31 (laws_big.calls _ _ l0 true _ (cD HR0.out) HC0.out A2.out) Try.func21 ?_; rintro w' ⟨⟨nd, rfl⟩⟩))
  go_ret
  exact ⟨qR, qB⟩
 ·replace c3 := Bool.eq_false_iff.mpr c3
  subst c3
  have H1 : ((spec_DrawPointMats.f k l0).bind fun t588 => ((impl_PointMats.f k t588).bind fun bt589 => ((spec_PointMats.f k t588).bind fun bt593 => ((spec_DrawNormOf.f k l0).bind fun bt597 => ((impl_NormOf.f bt597.1 bt597.2.1 bt597.2.2).bind fun bt601 => ((spec_NormOf.f bt597.1 bt597.2.1 bt597.2.2).bind fun bt603 => ((spec_DrawIsPointMat.f k l0).bind fun bt605 => ((spec_DrawMapLattice.f k l0).bind fun bt611 => ((impl_MapLattice.f k bt611.1 bt611.2.1 bt611.2.2.1 bt611.2.2.2.1 bt611.2.2.2.2.1 bt611.2.2.2.2.2.1 bt611.2.2.2.2.2.2.1 bt611.2.2.2.2.2.2.2).bind fun bt621 => ((spec_MapLattice.f k bt611.1 bt611.2.1 bt611.2.2.1 bt611.2.2.2.1 bt611.2.2.2.2.1 bt611.2.2.2.2.2.1 bt611.2.2.2.2.2.2.1 bt611.2.2.2.2.2.2.2).bind fun bt626 => (if bt589.2 = bt593.2 then ((laws_likeMats9.f k bt589.1 bt593.1).bind fun t631 => (if t631 = true then (if bt601.2 = bt603.2 then (if bt601.1 = bt603.1 then ((impl_IsPointMat.f k bt605.1 bt605.2.1 bt605.2.2.1 bt605.2.2.2.1 bt605.2.2.2.2).bind fun t632 => ((spec_IsPointMat.f bt605.1 bt605.2.1 bt605.2.2.1 bt605.2.2.2.1 bt605.2.2.2.2).bind fun t633 => (if (t632 != t633) = true then (laws_FnPointMats.j0 k bt597.1 bt601.1 bt601.2 bt621.2.2.2 true bt597.2.1 bt597.2.2 bt611.2.2.2.2.2.1 bt611.2.2.2.2.2.2.1 bt611.2.2.2.2.2.2.2 bt621.1 bt621.2.1 bt621.2.2.1) else (if bt621.2.2.2 = bt626.2.2.2 then (if (!(bt621.1 == bt626.1) || (!(bt621.2.1 == bt626.2.1) || (!(bt621.2.2.1 == bt626.2.2.1)))) = true then (laws_FnPointMats.j0 k bt597.1 bt601.1 bt601.2 bt621.2.2.2 true bt597.2.1 bt597.2.2 bt611.2.2.2.2.2.1 bt611.2.2.2.2.2.2.1 bt611.2.2.2.2.2.2.2 bt621.1 bt621.2.1 bt621.2.2.1) else ((impl_IsFrame.f t588).bind fun t634 => ((spec_IsFrame.f t588).bind fun t635 => (laws_FnPointMats.j0 k bt597.1 bt601.1 bt601.2 bt621.2.2.2 (t634 != t635) bt597.2.1 bt597.2.2 bt611.2.2.2.2.2.1 bt611.2.2.2.2.2.2.1 bt611.2.2.2.2.2.2.2 bt621.1 bt621.2.1 bt621.2.2.1)))) else (laws_FnPointMats.j0 k bt597.1 bt601.1 bt601.2 bt621.2.2.2 true bt597.2.1 bt597.2.2 bt611.2.2.2.2.2.1 bt611.2.2.2.2.2.2.1 bt611.2.2.2.2.2.2.2 bt621.1 bt621.2.1 bt621.2.2.1))))) else (laws_FnPointMats.j0 k bt597.1 bt601.1 bt601.2 bt621.2.2.2 true bt597.2.1 bt597.2.2 bt611.2.2.2.2.2.1 bt611.2.2.2.2.2.2.1 bt611.2.2.2.2.2.2.2 bt621.1 bt621.2.1 bt621.2.2.1)) else (laws_FnPointMats.j0 k bt597.1 bt601.1 bt601.2 bt621.2.2.2 true bt597.2.1 bt597.2.2 bt611.2.2.2.2.2.1 bt611.2.2.2.2.2.2.1 bt611.2.2.2.2.2.2.2 bt621.1 bt621.2.1 bt621.2.2.1)) else (laws_FnPointMats.j0 k bt597.1 bt601.1 bt601.2 bt621.2.2.2 true bt597.2.1 bt597.2.2 bt611.2.2.2.2.2.1 bt611.2.2.2.2.2.2.1 bt611.2.2.2.2.2.2.2 bt621.1 bt621.2.1 bt621.2.2.1))) else (laws_FnPointMats.j0 k bt597.1 bt601.1 bt601.2 bt621.2.2.2 true bt597.2.1 bt597.2.2 bt611.2.2.2.2.2.1 bt611.2.2.2.2.2.2.1 bt611.2.2.2.2.2.2.2 bt621.1 bt621.2.1 bt621.2.2.1)))))))))))) = some true := by rw [if_neg (show ¬ (false = true) by decide)] at H; exact H
  clear H
  have H := H1
  clear H1
  obtain ⟨t588, A4, H⟩ := oB H
  try dsimp only at H
  obtain ⟨⟨t589, t590⟩, A5, H⟩ := oB H
  try dsimp only at H
  obtain ⟨⟨t593, t594⟩, A6, H⟩ := oB H
  try dsimp only at H
  obtain ⟨⟨t597, t598, t599⟩, A7, H⟩ := oB H
  try dsimp only at H
  obtain ⟨⟨t601, t602⟩, A8, H⟩ := oB H
  try dsimp only at H
  obtain ⟨⟨t603, t604⟩, A9, H⟩ := oB H
  try dsimp only at H
  obtain ⟨⟨t605, t606, t607, t608, t609⟩, A10, H⟩ := oB H
  try dsimp only at H
  obtain ⟨⟨t611, t612, t613, t614, t615, t616, t617, t618⟩, A11, H⟩ := oB H
  try dsimp only at H
  obtain ⟨⟨t621, t622, t623, t624⟩, A12, H⟩ := oB H
  try dsimp only at H
  obtain ⟨⟨t626, t627, t628, t629⟩, A13, H⟩ := oB H
  try dsimp only at H
  have HC14 := aM H
  clear H
  go_enter Try.func8, Try.ntmps8
  go_upto_region 13 with (first | ((with_reducible refine gC (f:=21) rfl ?_); refine gM 31 (laws_big.calls _ _ l0 false _ (cD HR0.out) HC0.out A2.out) Try.func21 ?_; rintro w' ⟨⟨nd, rfl⟩⟩) | ((with_reducible refine gC (f:=50) rfl ?_); refine gM 33 (spec_DrawPointMats.calls k _ _ l0 t588 _ (cD HR0.out) HC0.out A4.out) Try.func50 ?_; rintro w15 hb; replace HB := bS HB hb; (try clear hb)) | ((with_reducible refine gate_callee (f := 51) rfl ?_); refine goesL_ (some 36) rfl rfl Try.func51 (by kernel_rfl) rfl #[.int .i64 t588] rfl (by first|rfl|(simp only [List.map_toArray, List.map_cons, List.map_nil]; try rfl)) ?_; (with_reducible refine (impl_PointMats.calls k t588 t589 t590 _ A5.out).mono ?_); rintro e w16 ⟨v591, rfl, ho0, hb⟩; refine ⟨_, rfl, ?_⟩; have HO592 := aM (Kd.R_lower ho0 (below_size qB)); replace HB := bS HB hb; (try clear hb); (try clear ho0)) | ((with_reducible refine gate_callee (f := 52) rfl ?_); refine goesL_ (some 41) rfl rfl Try.func52 (by kernel_rfl) rfl #[.int .i64 t588] rfl (by first|rfl|(simp only [List.map_toArray, List.map_cons, List.map_nil]; try rfl)) ?_; (with_reducible refine (spec_PointMats.calls k t588 t593 t594 _ A6.out).mono ?_); rintro e w17 ⟨v595, rfl, ho0, hb⟩; refine ⟨_, rfl, ?_⟩; have HO596 := aM (Kd.R_lower (Kd.R_new' ho0 (Kd.R_lt (by (with_reducible repeat (first | apply Kd.R_alloc | apply Kd.R_drewN | apply Kd.R_drew)); exact HO592.out))) (below_size qB)); replace HO592 := aM (Kd.R_elder' (by (with_reducible repeat (first | apply Kd.R_alloc | apply Kd.R_drewN | apply Kd.R_drew)); exact HO592.out) (Kd.R_base ho0) hb); replace HB := bS HB hb; (try clear hb); (try clear ho0)) | ((with_reducible refine gC (f:=53) rfl ?_); refine gM 46 (spec_DrawNormOf.calls k _ _ l0 t597 t598 t599 _ (cD (Kd.C_below HR0.out HB.out)) HC0.out A7.out) Try.func53 ?_; rintro w18 hb; replace HO592 := aM (Kd.R_below (by (with_reducible repeat (first | apply Kd.R_alloc | apply Kd.R_drewN | apply Kd.R_drew)); exact HO592.out) hb); replace HO596 := aM (Kd.R_below (by (with_reducible repeat (first | apply Kd.R_alloc | apply Kd.R_drewN | apply Kd.R_drew)); exact HO596.out) hb); replace HB := bS HB hb; (try clear hb)) | ((with_reducible refine gD (N:=9) rfl ?_); refine bE 9 #[.int .i64 0, .int .i64 0] 47 ?_; intro gb600 hg w19 hbox hb; have BK600 := aM hbox; have GW600 := bZ hg HB; have GE600 := bZ hg HB; replace HO592 := aM (Kd.R_below (by (with_reducible repeat (first | apply Kd.R_alloc | apply Kd.R_drewN | apply Kd.R_drew)); exact HO592.out) hb); replace HO596 := aM (Kd.R_below (by (with_reducible repeat (first | apply Kd.R_alloc | apply Kd.R_drewN | apply Kd.R_drew)); exact HO596.out) hb); replace HB := bS HB hb; clear hb hbox hg; obtain ⟨hcz20_0, hcz20_1⟩ := z2 BK600; obtain ⟨hfz20_0, hfz20_1⟩ := y2 BK600) | ((with_reducible refine gC (f:=26) rfl ?_); refine gM 52 (impl_NormOf.calls t597 t598 t599 t601 t602 _ A8.out) Try.func26 ?_; rintro w21 hb; replace HO592 := aM (Kd.R_below (by (with_reducible repeat (first | apply Kd.R_alloc | apply Kd.R_drewN | apply Kd.R_drew)); exact (Kd.R_mono (Kd.R_far (p := ⟨gb600, 1, none⟩) (Kd.R_far (p := ⟨gb600, 0, none⟩) (Kd.R_types HO592.out BK600.out (by decide)) (fun _ hk => hk.2) (.int .i64 t598)) (fun _ hk => hk.2) (.int .i64 t599)) (fun _ h_ => h_.1))) hb); replace HO596 := aM (Kd.R_below (by (with_reducible repeat (first | apply Kd.R_alloc | apply Kd.R_drewN | apply Kd.R_drew)); exact (Kd.R_mono (Kd.R_far (p := ⟨gb600, 1, none⟩) (Kd.R_far (p := ⟨gb600, 0, none⟩) (Kd.R_types HO596.out BK600.out (by decide)) (fun _ hk => hk.2) (.int .i64 t598)) (fun _ hk => hk.2) (.int .i64 t599)) (fun _ h_ => h_.1))) hb); replace BK600 := bW (.cells #[.int .i64 t598, .int .i64 t599] 47 (0, 0)) BK600 hb; replace HB := bS HB hb; (try clear hb); obtain ⟨hcz22_0, hcz22_1⟩ := z2 BK600; obtain ⟨hfz22_0, hfz22_1⟩ := y2 BK600) | ((with_reducible refine gC (f:=54) rfl ?_); refine gM 58 (spec_NormOf.calls t597 t598 t599 t603 t604 _ A9.out) Try.func54 ?_; rintro w23 hb; replace HO592 := aM (Kd.R_below (by (with_reducible repeat (first | apply Kd.R_alloc | apply Kd.R_drewN | apply Kd.R_drew)); exact HO592.out) hb); replace HO596 := aM (Kd.R_below (by (with_reducible repeat (first | apply Kd.R_alloc | apply Kd.R_drewN | apply Kd.R_drew)); exact HO596.out) hb); replace BK600 := bB BK600 hb; replace HB := bS HB hb; (try clear hb)) | ((with_reducible refine gC (f:=55) rfl ?_); refine gM 63 (spec_DrawIsPointMat.calls k _ _ l0 t605 t606 t607 t608 t609 _ (cD (Kd.C_below HR0.out HB.out)) HC0.out A10.out) Try.func55 ?_; rintro w24 hb; replace HO592 := aM (Kd.R_below (by (with_reducible repeat (first | apply Kd.R_alloc | apply Kd.R_drewN | apply Kd.R_drew)); exact HO592.out) hb); replace HO596 := aM (Kd.R_below (by (with_reducible repeat (first | apply Kd.R_alloc | apply Kd.R_drewN | apply Kd.R_drew)); exact HO596.out) hb); replace BK600 := bB BK600 hb; replace HB := bS HB hb; (try clear hb)) | ((with_reducible refine gD (N:=15) rfl ?_); refine bE 15 #[.int .i64 0, .int .i64 0, .int .i64 0, .int .i64 0] 51 ?_; intro gb610 hg w25 hbox hb; have BK610 := aM hbox; have GW610 := bZ hg HB; have GE610 := bZ hg HB; have NB600_610 := nL hg BK600; have NB610_600 := nG hg BK600; replace HO592 := aM (Kd.R_below (Kd.R_elderB (by (with_reducible repeat (first | apply Kd.R_alloc | apply Kd.R_drewN | apply Kd.R_drew)); exact HO592.out) gb610 (Nat.le_of_eq hg.symm)) hb); replace HO596 := aM (Kd.R_below (Kd.R_elderB (by (with_reducible repeat (first | apply Kd.R_alloc | apply Kd.R_drewN | apply Kd.R_drew)); exact HO596.out) gb610 (Nat.le_of_eq hg.symm)) hb); replace BK600 := bB BK600 hb; replace HB := bS HB hb; clear hb hbox hg; have hnb26 := NB610_600.out; have hnc26 := NB600_610.out; obtain ⟨hcz27_0, hcz27_1, hcz27_2, hcz27_3⟩ := z4 BK610; obtain ⟨hfz27_0, hfz27_1, hfz27_2, hfz27_3⟩ := y4 BK610) | ((with_reducible refine gC (f:=56) rfl ?_); refine gM 68 (spec_DrawMapLattice.calls k _ _ l0 t611 t612 t613 t614 t615 t616 t617 t618 _ (by exact Kd.C_below HR0.out qB) HC0.out A11.out) Try.func56 ?_; rintro w28 hb; replace HO592 := aM (Kd.R_below (by (with_reducible repeat (first | apply Kd.R_alloc | apply Kd.R_drewN | apply Kd.R_drew)); exact (Kd.R_mono (Kd.R_far (p := ⟨gb610, 3, none⟩) (Kd.R_far (p := ⟨gb610, 2, none⟩) (Kd.R_far (p := ⟨gb610, 1, none⟩) (Kd.R_far (p := ⟨gb610, 0, none⟩) (Kd.R_mono HO592.out (fun k_ hk => (⟨hk, hk.2⟩ : _ ∧ k_ ≠ gb610))) (fun _ hk => hk.2) (.int .i64 t606)) (fun _ hk => hk.2) (.int .i64 t607)) (fun _ hk => hk.2) (.int .i64 t608)) (fun _ hk => hk.2) (.int .i64 t609)) (fun _ h_ => h_.1))) hb); replace HO596 := aM (Kd.R_below (by (with_reducible repeat (first | apply Kd.R_alloc | apply Kd.R_drewN | apply Kd.R_drew)); exact (Kd.R_mono (Kd.R_far (p := ⟨gb610, 3, none⟩) (Kd.R_far (p := ⟨gb610, 2, none⟩) (Kd.R_far (p := ⟨gb610, 1, none⟩) (Kd.R_far (p := ⟨gb610, 0, none⟩) (Kd.R_mono HO596.out (fun k_ hk => (⟨hk, hk.2⟩ : _ ∧ k_ ≠ gb610))) (fun _ hk => hk.2) (.int .i64 t606)) (fun _ hk => hk.2) (.int .i64 t607)) (fun _ hk => hk.2) (.int .i64 t608)) (fun _ hk => hk.2) (.int .i64 t609)) (fun _ h_ => h_.1))) hb); replace BK600 := bF BK600 hb; replace BK610 := bW (.cells #[.int .i64 t606, .int .i64 t607, .int .i64 t608, .int .i64 t609] 51 (0, 0)) BK610 hb; replace HB := bS HB hb; (try clear hb)) | ((with_reducible refine gD (N:=17) rfl ?_); refine bE 17 #[.int .i64 0, .int .i64 0, .int .i64 0, .int .i64 0] 51 ?_; intro gb619 hg w29 hbox hb; have BK619 := aM hbox; have GW619 := bZ hg HB; have GE619 := bZ hg HB; have NB600_619 := nL hg BK600; have NB619_600 := nG hg BK600; have NB610_619 := nL hg BK610; have NB619_610 := nG hg BK610; replace HO592 := aM (Kd.R_below (Kd.R_elderB (by (with_reducible repeat (first | apply Kd.R_alloc | apply Kd.R_drewN | apply Kd.R_drew)); exact HO592.out) gb619 (Nat.le_of_eq hg.symm)) hb); replace HO596 := aM (Kd.R_below (Kd.R_elderB (by (with_reducible repeat (first | apply Kd.R_alloc | apply Kd.R_drewN | apply Kd.R_drew)); exact HO596.out) gb619 (Nat.le_of_eq hg.symm)) hb); replace BK600 := bB BK600 hb; replace BK610 := bB BK610 hb; replace HB := bS HB hb; clear hb hbox hg) | ((with_reducible refine gD (N:=18) rfl ?_); refine bE 18 #[.int .i64 0, .int .i64 0, .int .i64 0] 33 ?_; intro gb620 hg w30 hbox hb; have BK620 := aM hbox; have GW620 := bZ hg HB; have GE620 := bZ hg HB; have NB600_620 := nL hg BK600; have NB620_600 := nG hg BK600; have NB610_620 := nL hg BK610; have NB620_610 := nG hg BK610; have NB619_620 := nL hg BK619; have NB620_619 := nG hg BK619; replace HO592 := aM (Kd.R_below (by (with_reducible repeat (first | apply Kd.R_alloc | apply Kd.R_drewN | apply Kd.R_drew)); exact HO592.out) hb); replace HO596 := aM (Kd.R_below (by (with_reducible repeat (first | apply Kd.R_alloc | apply Kd.R_drewN | apply Kd.R_drew)); exact HO596.out) hb); replace BK600 := bB BK600 hb; replace BK610 := bB BK610 hb; replace BK619 := bB BK619 hb; replace HB := bS HB hb; clear hb hbox hg; have hnb31 := NB619_600.out; have hnc31 := NB600_619.out; have hnb32 := NB619_610.out; have hnc32 := NB610_619.out; have hnb33 := NB619_620.out; have hnc33 := NB620_619.out; obtain ⟨hcz34_0, hcz34_1, hcz34_2, hcz34_3⟩ := z4 BK619; obtain ⟨hfz34_0, hfz34_1, hfz34_2, hfz34_3⟩ := y4 BK619; have hnb35 := NB620_600.out; have hnc35 := NB600_620.out; have hnb36 := NB620_610.out; have hnc36 := NB610_620.out; obtain ⟨hcz37_0, hcz37_1, hcz37_2⟩ := z3 BK620; obtain ⟨hfz37_0, hfz37_1, hfz37_2⟩ := y3 BK620) | ((with_reducible refine gC (f:=57) rfl ?_); refine gM 76 (impl_MapLattice.calls k t611 t612 t613 t614 t615 t616 t617 t618 t621 t622 t623 t624 _ A12.out) Try.func57 ?_; rintro w38 hb; replace HO592 := aM (Kd.R_below (by (with_reducible repeat (first | apply Kd.R_alloc | apply Kd.R_drewN | apply Kd.R_drew)); exact (Kd.R_mono (Kd.R_mono (Kd.R_far (p := ⟨gb620, 2, none⟩) (Kd.R_far (p := ⟨gb620, 1, none⟩) (Kd.R_far (p := ⟨gb620, 0, none⟩) (Kd.R_far (p := ⟨gb619, 3, none⟩) (Kd.R_far (p := ⟨gb619, 2, none⟩) (Kd.R_far (p := ⟨gb619, 1, none⟩) (Kd.R_far (p := ⟨gb619, 0, none⟩) (Kd.R_types (Kd.R_mono HO592.out (fun k_ hk => (⟨hk, hk.2⟩ : _ ∧ k_ ≠ gb619))) BK620.out (by decide)) (fun _ hk => hk.1.2) (.int .i64 t612)) (fun _ hk => hk.1.2) (.int .i64 t613)) (fun _ hk => hk.1.2) (.int .i64 t614)) (fun _ hk => hk.1.2) (.int .i64 t615)) (fun _ hk => hk.2) (.int .i64 t616)) (fun _ hk => hk.2) (.int .i64 t617)) (fun _ hk => hk.2) (.int .i64 t618)) (fun _ h_ => h_.1)) (fun _ h_ => h_.1))) hb); replace HO596 := aM (Kd.R_below (by (with_reducible repeat (first | apply Kd.R_alloc | apply Kd.R_drewN | apply Kd.R_drew)); exact (Kd.R_mono (Kd.R_mono (Kd.R_far (p := ⟨gb620, 2, none⟩) (Kd.R_far (p := ⟨gb620, 1, none⟩) (Kd.R_far (p := ⟨gb620, 0, none⟩) (Kd.R_far (p := ⟨gb619, 3, none⟩) (Kd.R_far (p := ⟨gb619, 2, none⟩) (Kd.R_far (p := ⟨gb619, 1, none⟩) (Kd.R_far (p := ⟨gb619, 0, none⟩) (Kd.R_types (Kd.R_mono HO596.out (fun k_ hk => (⟨hk, hk.2⟩ : _ ∧ k_ ≠ gb619))) BK620.out (by decide)) (fun _ hk => hk.1.2) (.int .i64 t612)) (fun _ hk => hk.1.2) (.int .i64 t613)) (fun _ hk => hk.1.2) (.int .i64 t614)) (fun _ hk => hk.1.2) (.int .i64 t615)) (fun _ hk => hk.2) (.int .i64 t616)) (fun _ hk => hk.2) (.int .i64 t617)) (fun _ hk => hk.2) (.int .i64 t618)) (fun _ h_ => h_.1)) (fun _ h_ => h_.1))) hb); replace BK600 := bF BK600 hb; replace BK610 := bF BK610 hb; replace BK619 := bW (.cells #[.int .i64 t612, .int .i64 t613, .int .i64 t614, .int .i64 t615] 51 (0, 0)) BK619 hb; replace BK620 := bW (.cells #[.int .i64 t616, .int .i64 t617, .int .i64 t618] 33 (0, 0)) BK620 hb; replace HB := bS HB hb; (try clear hb)) | ((with_reducible refine gD (N:=19) rfl ?_); refine bE 19 #[.int .i64 0, .int .i64 0, .int .i64 0] 33 ?_; intro gb625 hg w39 hbox hb; have BK625 := aM hbox; have GW625 := bZ hg HB; have GE625 := bZ hg HB; have NB600_625 := nL hg BK600; have NB625_600 := nG hg BK600; have NB610_625 := nL hg BK610; have NB625_610 := nG hg BK610; have NB619_625 := nL hg BK619; have NB625_619 := nG hg BK619; have NB620_625 := nL hg BK620; have NB625_620 := nG hg BK620; replace HO592 := aM (Kd.R_below (by (with_reducible repeat (first | apply Kd.R_alloc | apply Kd.R_drewN | apply Kd.R_drew)); exact HO592.out) hb); replace HO596 := aM (Kd.R_below (by (with_reducible repeat (first | apply Kd.R_alloc | apply Kd.R_drewN | apply Kd.R_drew)); exact HO596.out) hb); replace BK600 := bB BK600 hb; replace BK610 := bB BK610 hb; replace BK619 := bB BK619 hb; replace BK620 := bB BK620 hb; replace HB := bS HB hb; clear hb hbox hg; have hnb40 := NB625_600.out; have hnc40 := NB600_625.out; have hnb41 := NB625_610.out; have hnc41 := NB610_625.out; have hnb42 := NB625_619.out; have hnc42 := NB619_625.out; have hnb43 := NB625_620.out; have hnc43 := NB620_625.out; obtain ⟨hcz44_0, hcz44_1, hcz44_2⟩ := z3 BK625; obtain ⟨hfz44_0, hfz44_1, hfz44_2⟩ := y3 BK625; obtain ⟨hcz45_0, hcz45_1, hcz45_2, hcz45_3⟩ := z4 BK619; obtain ⟨hfz45_0, hfz45_1, hfz45_2, hfz45_3⟩ := y4 BK619; obtain ⟨hcz46_0, hcz46_1, hcz46_2⟩ := z3 BK620; obtain ⟨hfz46_0, hfz46_1, hfz46_2⟩ := y3 BK620) | ((with_reducible refine gC (f:=58) rfl ?_); refine gM 83 (spec_MapLattice.calls k t611 t612 t613 t614 t615 t616 t617 t618 t626 t627 t628 t629 _ A13.out) Try.func58 ?_; rintro w47 hb; replace HO592 := aM (Kd.R_below (by (with_reducible repeat (first | apply Kd.R_alloc | apply Kd.R_drewN | apply Kd.R_drew)); exact (Kd.R_mono (Kd.R_far (p := ⟨gb625, 2, none⟩) (Kd.R_far (p := ⟨gb625, 1, none⟩) (Kd.R_far (p := ⟨gb625, 0, none⟩) (Kd.R_types HO592.out BK625.out (by decide)) (fun _ hk => hk.2) (.int .i64 t621)) (fun _ hk => hk.2) (.int .i64 t622)) (fun _ hk => hk.2) (.int .i64 t623)) (fun _ h_ => h_.1))) hb); replace HO596 := aM (Kd.R_below (by (with_reducible repeat (first | apply Kd.R_alloc | apply Kd.R_drewN | apply Kd.R_drew)); exact (Kd.R_mono (Kd.R_far (p := ⟨gb625, 2, none⟩) (Kd.R_far (p := ⟨gb625, 1, none⟩) (Kd.R_far (p := ⟨gb625, 0, none⟩) (Kd.R_types HO596.out BK625.out (by decide)) (fun _ hk => hk.2) (.int .i64 t621)) (fun _ hk => hk.2) (.int .i64 t622)) (fun _ hk => hk.2) (.int .i64 t623)) (fun _ h_ => h_.1))) hb); replace BK600 := bF BK600 hb; replace BK610 := bF BK610 hb; replace BK619 := bF BK619 hb; replace BK620 := bF BK620 hb; replace BK625 := bW (.cells #[.int .i64 t621, .int .i64 t622, .int .i64 t623] 33 (0, 0)) BK625 hb; replace HB := bS HB hb; (try clear hb)) | ((with_reducible refine gD (N:=21) rfl ?_); refine bE 21 #[.int .i64 0, .int .i64 0, .int .i64 0] 33 ?_; intro gb630 hg w48 hbox hb; have BK630 := aM hbox; have GW630 := bZ hg HB; have GE630 := bZ hg HB; have NB600_630 := nL hg BK600; have NB630_600 := nG hg BK600; have NB610_630 := nL hg BK610; have NB630_610 := nG hg BK610; have NB619_630 := nL hg BK619; have NB630_619 := nG hg BK619; have NB620_630 := nL hg BK620; have NB630_620 := nG hg BK620; have NB625_630 := nL hg BK625; have NB630_625 := nG hg BK625; replace HO592 := aM (Kd.R_below (by (with_reducible repeat (first | apply Kd.R_alloc | apply Kd.R_drewN | apply Kd.R_drew)); exact HO592.out) hb); replace HO596 := aM (Kd.R_below (by (with_reducible repeat (first | apply Kd.R_alloc | apply Kd.R_drewN | apply Kd.R_drew)); exact HO596.out) hb); replace BK600 := bB BK600 hb; replace BK610 := bB BK610 hb; replace BK619 := bB BK619 hb; replace BK620 := bB BK620 hb; replace BK625 := bB BK625 hb; replace HB := bS HB hb; clear hb hbox hg; have hnb49 := NB630_600.out; have hnc49 := NB600_630.out; have hnb50 := NB630_610.out; have hnc50 := NB610_630.out; have hnb51 := NB630_619.out; have hnc51 := NB619_630.out; have hnb52 := NB630_620.out; have hnc52 := NB620_630.out; have hnb53 := NB630_625.out; have hnc53 := NB625_630.out; obtain ⟨hcz54_0, hcz54_1, hcz54_2⟩ := z3 BK630; obtain ⟨hfz54_0, hfz54_1, hfz54_2⟩ := y3 BK630))
  (try simp only [Act.put, List.setIfInBounds_toArray, List.set_cons_zero, List.set_cons_succ])
  go_cut [130] (fun v130 wc => ∃ (kq : Nat) (x130_13 : Bool), v130 = .bool x130_13 ∧ Aside0 (laws_FnPointMats.j0 kq t597 t601 t602 t624 x130_13 t598 t599 t616 t617 t618 t621 t622 t623 = some true) ∧ Aside0 (kq ≤ k) ∧ Aside0 (wc.heap[gb600]? = some (.cells #[.int .i64 t598, .int .i64 t599] 47 (0, 0))) ∧ Aside0 (wc.heap[gb610]? = some (.cells #[.int .i64 t606, .int .i64 t607, .int .i64 t608, .int .i64 t609] 51 (0, 0))) ∧ Aside0 (wc.heap[gb619]? = some (.cells #[.int .i64 t612, .int .i64 t613, .int .i64 t614, .int .i64 t615] 51 (0, 0))) ∧ Aside0 (wc.heap[gb620]? = some (.cells #[.int .i64 t616, .int .i64 t617, .int .i64 t618] 33 (0, 0))) ∧ Aside0 (wc.heap[gb625]? = some (.cells #[.int .i64 t621, .int .i64 t622, .int .i64 t623] 33 (0, 0))) ∧ Aside0 (wc.heap[gb630]? = some (.cells #[.int .i64 t626, .int .i64 t627, .int .i64 t628] 33 (0, 0))) ∧ Aside0 (Below w.heap.size w wc))
  case first =>
   have H := HC14.out
   clear HC14
   by_cases c55 : t590 = t594
   ·rw [if_pos c55] at H
    have c55b0 : (t590 == t594) = true := beq_iff_eq.mpr c55
    have c55b1 : (t590 != t594) = false := bne_eq_false_iff_eq.mpr c55
    clear c55
    (first | rw [c55b0] | (simp only [i64_w, i32_w]; rw [c55b0]) | skip)
    obtain ⟨t631, A56, H⟩ := oB H
    try dsimp only at H
    by_cases c57 : t631 = true
    ·subst c57
     have H1 : (if t602 = t604 then (if t601 = t603 then ((impl_IsPointMat.f k t605 t606 t607 t608 t609).bind fun t632 => ((spec_IsPointMat.f t605 t606 t607 t608 t609).bind fun t633 => (if (t632 != t633) = true then (laws_FnPointMats.j0 k t597 t601 t602 t624 true t598 t599 t616 t617 t618 t621 t622 t623) else (if t624 = t629 then (if (!(t621 == t626) || (!(t622 == t627) || (!(t623 == t628)))) = true then (laws_FnPointMats.j0 k t597 t601 t602 t624 true t598 t599 t616 t617 t618 t621 t622 t623) else ((impl_IsFrame.f t588).bind fun t634 => ((spec_IsFrame.f t588).bind fun t635 => (laws_FnPointMats.j0 k t597 t601 t602 t624 (t634 != t635) t598 t599 t616 t617 t618 t621 t622 t623)))) else (laws_FnPointMats.j0 k t597 t601 t602 t624 true t598 t599 t616 t617 t618 t621 t622 t623))))) else (laws_FnPointMats.j0 k t597 t601 t602 t624 true t598 t599 t616 t617 t618 t621 t622 t623)) else (laws_FnPointMats.j0 k t597 t601 t602 t624 true t598 t599 t616 t617 t618 t621 t622 t623)) = some true := by rw [if_pos rfl] at H; exact H
     clear H
     have H := H1
     clear H1
     by_cases c58 : t602 = t604
     ·rw [if_pos c58] at H
      have c58b0 : (t602 == t604) = true := beq_iff_eq.mpr c58
      have c58b1 : (t602 != t604) = false := bne_eq_false_iff_eq.mpr c58
      clear c58
      by_cases c59 : t601 = t603
      ·rw [if_pos c59] at H
       have c59b0 : (t601 == t603) = true := beq_iff_eq.mpr c59
       have c59b1 : (t601 != t603) = false := bne_eq_false_iff_eq.mpr c59
       clear c59
       obtain ⟨t632, A60, H⟩ := oB H
       try dsimp only at H
       obtain ⟨t633, A61, H⟩ := oB H
       try dsimp only at H
       by_cases c62 : (t632 != t633) = true
       ·rw [if_pos c62] at H
        exact absurd H (by cases k <;> simp [laws_FnPointMats.j0])
       ·rw [if_neg c62] at H
        have c62b0 : (t632 != t633) = false := by simpa using c62
        (try (have c62b1 : decide (t632 = t633) = true := by simpa using c62))
        (try (have c62b2 : (t632 == t633) = true := by simpa using c62))
        clear c62
        by_cases c69 : t624 = t629
        ·rw [if_pos c69] at H
         have c69b0 : (t624 == t629) = true := beq_iff_eq.mpr c69
         have c69b1 : (t624 != t629) = false := bne_eq_false_iff_eq.mpr c69
         clear c69
         by_cases c70 : (!(t621 == t626) || (!(t622 == t627) || (!(t623 == t628)))) = true
         ·rw [if_pos c70] at H
          exact absurd H (by cases k <;> simp [laws_FnPointMats.j0])
         ·rw [if_neg c70] at H
          have c70b0 : (!(t621 == t626) || (!(t622 == t627) || (!(t623 == t628)))) = false := by simpa using c70
          clear c70
          obtain ⟨t634, A77, H⟩ := oB H
          try dsimp only at H
          obtain ⟨t635, A78, H⟩ := oB H
          try dsimp only at H
          have H' := aM H
          clear H
          try go_wp2
          have n0_ : Aside0 (Kd.R k51 51 (((w48.setCell ⟨gb630, 0, none⟩ (.int .i64 t626)).setCell ⟨gb630, 1, none⟩ (.int .i64 t627)).setCell ⟨gb630, 2, none⟩ (.int .i64 t628)) w.heap.size (fun k_ => some k_ ≠ (v595 : Value).ownBlock ∧ k_ ≠ gb610 ∧ k_ ≠ gb619) v591 t589) := ⟨by (with_reducible repeat (first | apply Kd.R_alloc | apply Kd.R_drewN | apply Kd.R_drew)); exact Kd.R_mono (Kd.R_far (p := ⟨gb630, 2, none⟩) (Kd.R_far (p := ⟨gb630, 1, none⟩) (Kd.R_far (p := ⟨gb630, 0, none⟩) (Kd.R_types HO592.out BK630.out (by decide)) (fun _ hk => hk.2) (.int .i64 t626)) (fun _ hk => hk.2) (.int .i64 t627)) (fun _ hk => hk.2) (.int .i64 t628)) (fun _ hk => ⟨hk.1.1.1.2, ⟨hk.1.1.2, hk.1.2⟩⟩)⟩
          have n1_ : Aside0 (Kd.R k51 51 (((w48.setCell ⟨gb630, 0, none⟩ (.int .i64 t626)).setCell ⟨gb630, 1, none⟩ (.int .i64 t627)).setCell ⟨gb630, 2, none⟩ (.int .i64 t628)) w.heap.size (fun k_ => some k_ ≠ (v591 : Value).ownBlock ∧ k_ ≠ gb610 ∧ k_ ≠ gb619) v595 t593) := ⟨by (with_reducible repeat (first | apply Kd.R_alloc | apply Kd.R_drewN | apply Kd.R_drew)); exact Kd.R_mono (Kd.R_far (p := ⟨gb630, 2, none⟩) (Kd.R_far (p := ⟨gb630, 1, none⟩) (Kd.R_far (p := ⟨gb630, 0, none⟩) (Kd.R_types HO596.out BK630.out (by decide)) (fun _ hk => hk.2) (.int .i64 t626)) (fun _ hk => hk.2) (.int .i64 t627)) (fun _ hk => hk.2) (.int .i64 t628)) (fun _ hk => ⟨hk.1.1.1.2, ⟨hk.1.1.2, hk.1.2⟩⟩)⟩
          have n2_ : Aside0 ((((w48.setCell ⟨gb630, 0, none⟩ (.int .i64 t626)).setCell ⟨gb630, 1, none⟩ (.int .i64 t627)).setCell ⟨gb630, 2, none⟩ (.int .i64 t628)).heap[gb600]? = some (.cells #[.int .i64 t598, .int .i64 t599] 47 (0, 0))) := ⟨by (repeat (first|(with_reducible first|apply kN|apply kD|apply kA)|refine blk_far ?_ NB600_630.out _)); exact BK600.out⟩
          have n3_ : Aside0 ((((w48.setCell ⟨gb630, 0, none⟩ (.int .i64 t626)).setCell ⟨gb630, 1, none⟩ (.int .i64 t627)).setCell ⟨gb630, 2, none⟩ (.int .i64 t628)).heap[gb610]? = some (.cells #[.int .i64 t606, .int .i64 t607, .int .i64 t608, .int .i64 t609] 51 (0, 0))) := ⟨by (repeat (first|(with_reducible first|apply kN|apply kD|apply kA)|refine blk_far ?_ NB610_630.out _)); exact BK610.out⟩
          have n4_ : Aside0 ((((w48.setCell ⟨gb630, 0, none⟩ (.int .i64 t626)).setCell ⟨gb630, 1, none⟩ (.int .i64 t627)).setCell ⟨gb630, 2, none⟩ (.int .i64 t628)).heap[gb619]? = some (.cells #[.int .i64 t612, .int .i64 t613, .int .i64 t614, .int .i64 t615] 51 (0, 0))) := ⟨by (repeat (first|(with_reducible first|apply kN|apply kD|apply kA)|refine blk_far ?_ NB619_630.out _)); exact BK619.out⟩
          have n5_ : Aside0 ((((w48.setCell ⟨gb630, 0, none⟩ (.int .i64 t626)).setCell ⟨gb630, 1, none⟩ (.int .i64 t627)).setCell ⟨gb630, 2, none⟩ (.int .i64 t628)).heap[gb620]? = some (.cells #[.int .i64 t616, .int .i64 t617, .int .i64 t618] 33 (0, 0))) := ⟨by (repeat (first|(with_reducible first|apply kN|apply kD|apply kA)|refine blk_far ?_ NB620_630.out _)); exact BK620.out⟩
          have n6_ : Aside0 ((((w48.setCell ⟨gb630, 0, none⟩ (.int .i64 t626)).setCell ⟨gb630, 1, none⟩ (.int .i64 t627)).setCell ⟨gb630, 2, none⟩ (.int .i64 t628)).heap[gb625]? = some (.cells #[.int .i64 t621, .int .i64 t622, .int .i64 t623] 33 (0, 0))) := ⟨by (repeat (first|(with_reducible first|apply kN|apply kD|apply kA)|refine blk_far ?_ NB625_630.out _)); exact BK625.out⟩
          have n7_ : Aside0 ((((w48.setCell ⟨gb630, 0, none⟩ (.int .i64 t626)).setCell ⟨gb630, 1, none⟩ (.int .i64 t627)).setCell ⟨gb630, 2, none⟩ (.int .i64 t628)).heap[gb630]? = some (.cells #[.int .i64 t626, .int .i64 t627, .int .i64 t628] 33 (0, 0))) := ⟨by (with_reducible repeat (first|apply kN|apply kD|apply kA)); refine blk_put (cs := #[.int .i64 t626, .int .i64 t627, .int .i64 0]) ?_ 2 _ rfl; (with_reducible repeat (first|apply kN|apply kD|apply kA)); refine blk_put (cs := #[.int .i64 t626, .int .i64 0, .int .i64 0]) ?_ 1 _ rfl; (with_reducible repeat (first|apply kN|apply kD|apply kA)); refine blk_put (cs := #[.int .i64 0, .int .i64 0, .int .i64 0]) ?_ 0 _ rfl; (with_reducible repeat (first|apply kN|apply kD|apply kA)); exact BK630.out⟩
          have n8_ : Aside0 (Below w.heap.size w (((w48.setCell ⟨gb630, 0, none⟩ (.int .i64 t626)).setCell ⟨gb630, 1, none⟩ (.int .i64 t627)).setCell ⟨gb630, 2, none⟩ (.int .i64 t628))) := ⟨qB⟩
          (try clear HO592)
          (try clear HO596)
          (try clear BK600)
          (try clear BK610)
          (try clear BK619)
          (try clear BK620)
          (try clear BK625)
          (try clear BK630)
          (try clear HB)
          generalize (((w48.setCell ⟨gb630, 0, none⟩ (.int .i64 t626)).setCell ⟨gb630, 1, none⟩ (.int .i64 t627)).setCell ⟨gb630, 2, none⟩ (.int .i64 t628)) = w79 at n0_ n1_ n2_ n3_ n4_ n5_ n6_ n7_ n8_ ⊢
          have HO592 := n0_
          have HO596 := n1_
          have BK600 := n2_
          have BK610 := n3_
          have BK619 := n4_
          have BK620 := n5_
          have BK625 := n6_
          have BK630 := n7_
          have HB := n8_
          clear n0_ n1_ n2_ n3_ n4_ n5_ n6_ n7_ n8_
          replace HO592 := aM (Kd.R_drew HO592.out)
          replace HO596 := aM (Kd.R_drew HO596.out)
          replace BK600 := aM (blk_drew BK600.out)
          replace BK610 := aM (blk_drew BK610.out)
          replace BK619 := aM (blk_drew BK619.out)
          replace BK620 := aM (blk_drew BK620.out)
          replace BK625 := aM (blk_drew BK625.out)
          replace BK630 := aM (blk_drew BK630.out)
          replace HB := aM (below_drew1 HB.out)
          obtain ⟨Ao81, co81, eo81⟩ := Kd.R_slice HO592.out
          (first | subst eo81 | (injection eo81 with f1_ f2_ f3_; have f4_ := f1_.symm; have f5_ := f3_.symm; clear f1_ f2_ f3_; subst f4_; subst f5_))
          obtain ⟨Ao82, co82, eo82⟩ := Kd.R_slice HO596.out
          (first | subst eo82 | (injection eo82 with f1_ f2_ f3_; have f4_ := f1_.symm; have f5_ := f3_.symm; clear f1_ f2_ f3_; subst f4_; subst f5_))
          refine sT (fun w' => w'.cell? ⟨gb610, 0, none⟩ = some (.int .i64 t606) ∧ w'.cell? ⟨gb610, 1, none⟩ = some (.int .i64 t607) ∧ w'.cell? ⟨gb610, 2, none⟩ = some (.int .i64 t608) ∧ w'.cell? ⟨gb610, 3, none⟩ = some (.int .i64 t609) ∧ w'.cell? ⟨gb625, 0, none⟩ = some (.int .i64 t621) ∧ w'.cell? ⟨gb625, 1, none⟩ = some (.int .i64 t622) ∧ w'.cell? ⟨gb625, 2, none⟩ = some (.int .i64 t623) ∧ w'.cell? ⟨gb630, 0, none⟩ = some (.int .i64 t626) ∧ w'.cell? ⟨gb630, 1, none⟩ = some (.int .i64 t627) ∧ w'.cell? ⟨gb630, 2, none⟩ = some (.int .i64 t628)) [] ⟨cB BK610, cB BK610, cB BK610, cB BK610, cB BK625, cB BK625, cB BK625, cB BK630, cB BK630, cB BK630⟩ (fun hHeld => ?_); refine with_tabW laws_FnPointMats.tab13 laws_FnPointMats.bits13 (fun HT_ HW_ => ?_)
          generalize w79.drew = w80 at HO592 HO596 BK600 BK610 BK619 BK620 BK625 BK630 HB hHeld ⊢
          refine pU 0 (some 86) 1 HT_ ?_
          refine pU 1 (some 87) 3 HT_ ?_
          refine pU 2 (some 88) 7 HT_ ?_
          refine pU 3 (some 89) 15 HT_ ?_
          refine pU 4 (some 90) 31 HT_ ?_
          refine pU 5 (some 91) 63 HT_ ?_
          refine oU 6 (some 92) 127 HT_ (fun K hK => ?_)
          refine gO Try.func59 #[.slice Ao81 t589.length co81, .slice Ao82 t593.length co82] ?_
          with_reducible refine (laws_likeMats9.calls k _ _ t589 _ _ t593 true _ ?side1 ?side2 ?side3 ?side4 A56.out).mono ?_
          (case side1 => repeat (first | exact (Kd.R_reads' HO592.out).2.2 | (with_reducible refine Kd.C_alloc ?_ _) | (with_reducible refine Kd.C_drewN ?_ _) | (with_reducible refine Kd.C_drew ?_)))
          (case side2 => exact (Kd.R_reads' HO592.out).2.1)
          (case side3 => repeat (first | exact (Kd.R_reads' HO596.out).2.2 | (with_reducible refine Kd.C_alloc ?_ _) | (with_reducible refine Kd.C_drewN ?_ _) | (with_reducible refine Kd.C_drew ?_)))
          (case side4 => exact (Kd.R_reads' HO596.out).2.1)
          rintro e w' ⟨rfl, ⟨nd, rfl⟩⟩
          refine ⟨_, rfl, ?_⟩
          refine hK.out _ _ ⟨cB BK610, cB BK610, cB BK610, cB BK610, cB BK625, cB BK625, cB BK625, cB BK630, cB BK630, cB BK630⟩ (fun hHeld => ?_)
          clear hK K
          refine nM 92 ?_
          refine pU 7 (some 93) 255 HT_ ?_
          refine pU 8 (some 94) 511 HT_ ?_
          refine pU 9 (some 95) 1023 HT_ ?_
          refine pU 10 (some 96) 2047 HT_ ?_
          refine pU 11 (some 97) 4095 HT_ ?_
          refine pU 12 (some 98) 8191 HT_ ?_
          refine pU 13 (some 99) 16383 HT_ ?_
          refine pU 14 (some 100) 32767 HT_ ?_
          refine pU 15 (some 101) 65535 HT_ ?_
          refine pU 16 (some 102) 131071 HT_ ?_
          refine pU 17 (some 103) 262143 HT_ ?_
          refine pU 18 (some 104) 524287 HT_ ?_
          refine pU 19 (some 105) 1048575 HT_ ?_
          refine pU 20 (some 106) 2097151 HT_ ?_
          refine pU 23 (some 109) 10485759 HT_ ?_
          refine tU 21 (some 107) 12582911 HT_ HW_ hHeld ?_
          refine tU 24 (some 110) 29360127 HT_ HW_ hHeld ?_
          refine oU 22 (some 108) 33554431 HT_ (fun K hK => ?_)
          refine gO Try.func60 #[.int .i64 t605, .agg #[.int .i64 t606, .int .i64 t607, .int .i64 t608, .int .i64 t609]] ?_
          with_reducible refine (impl_IsPointMat.calls k t605 t606 t607 t608 t609 t632 _ A60.out).mono ?_
          rintro e w83 ⟨rfl, hb⟩
          refine ⟨_, rfl, ?_⟩
          have n0_ := aM (Kd.R_below (by (with_reducible repeat (first | apply Kd.R_alloc | apply Kd.R_drewN | apply Kd.R_drew)); exact HO592.out) hb)
          have n1_ := aM (Kd.R_below (by (with_reducible repeat (first | apply Kd.R_alloc | apply Kd.R_drewN | apply Kd.R_drew)); exact HO596.out) hb)
          have n2_ := bB BK600 hb
          have n3_ := bB BK610 hb
          have n4_ := bB BK619 hb
          have n5_ := bB BK620 hb
          have n6_ := bB BK625 hb
          have n7_ := bB BK630 hb
          have n8_ := bS HB hb
          clear HO592
          clear HO596
          clear BK600
          clear BK610
          clear BK619
          clear BK620
          clear BK625
          clear BK630
          clear HB
          have HO592 := n0_
          have HO596 := n1_
          have BK600 := n2_
          have BK610 := n3_
          have BK619 := n4_
          have BK620 := n5_
          have BK625 := n6_
          have BK630 := n7_
          have HB := n8_
          clear n0_ n1_ n2_ n3_ n4_ n5_ n6_ n7_ n8_
          (try clear hb)
          (try clear hb2)
          (try clear hk)
          (try clear hi)
          refine hK.out _ _ ⟨cB BK610, cB BK610, cB BK610, cB BK610, cB BK625, cB BK625, cB BK625, cB BK630, cB BK630, cB BK630⟩ (fun hHeld => ?_)
          clear hK K
          refine nM 108 ?_
          refine oU 25 (some 111) 67108863 HT_ (fun K hK => ?_)
          refine gO Try.func61 #[.int .i64 t605, .agg #[.int .i64 t606, .int .i64 t607, .int .i64 t608, .int .i64 t609]] ?_
          with_reducible refine (spec_IsPointMat.calls t605 t606 t607 t608 t609 t633 _ A61.out).mono ?_
          rintro e w84 ⟨rfl, hb⟩
          refine ⟨_, rfl, ?_⟩
          have n0_ := aM (Kd.R_below (by (with_reducible repeat (first | apply Kd.R_alloc | apply Kd.R_drewN | apply Kd.R_drew)); exact HO592.out) hb)
          have n1_ := aM (Kd.R_below (by (with_reducible repeat (first | apply Kd.R_alloc | apply Kd.R_drewN | apply Kd.R_drew)); exact HO596.out) hb)
          have n2_ := bB BK600 hb
          have n3_ := bB BK610 hb
          have n4_ := bB BK619 hb
          have n5_ := bB BK620 hb
          have n6_ := bB BK625 hb
          have n7_ := bB BK630 hb
          have n8_ := bS HB hb
          clear HO592
          clear HO596
          clear BK600
          clear BK610
          clear BK619
          clear BK620
          clear BK625
          clear BK630
          clear HB
          have HO592 := n0_
          have HO596 := n1_
          have BK600 := n2_
          have BK610 := n3_
          have BK619 := n4_
          have BK620 := n5_
          have BK625 := n6_
          have BK630 := n7_
          have HB := n8_
          clear n0_ n1_ n2_ n3_ n4_ n5_ n6_ n7_ n8_
          (try clear hb)
          (try clear hb2)
          (try clear hk)
          (try clear hi)
          refine hK.out _ _ ⟨cB BK610, cB BK610, cB BK610, cB BK610, cB BK625, cB BK625, cB BK625, cB BK630, cB BK630, cB BK630⟩ (fun hHeld => ?_)
          clear hK K
          refine nM 111 ?_
          refine pU 26 (some 112) 134217727 HT_ ?_
          refine pU 27 (some 113) 268435455 HT_ ?_
          refine pU 28 (some 114) 536870911 HT_ ?_
          refine pU 29 (some 115) 1073741823 HT_ ?_
          refine pU 30 (some 116) 2147483647 HT_ ?_
          refine pU 31 (some 117) 4294967295 HT_ ?_
          refine pU 32 (some 118) 8589934591 HT_ ?_
          refine pU 33 (some 119) 17179869183 HT_ ?_
          refine tU 34 (some 120) 34359738367 HT_ HW_ hHeld ?_
          refine tU 35 (some 121) 68719476735 HT_ HW_ hHeld ?_
          refine pU 36 (some 122) 137438953471 HT_ ?_
          refine pU 37 (some 123) 274877906943 HT_ ?_
          refine pU 38 (some 124) 549755813887 HT_ ?_
          refine pU 39 (some 125) 1099511627775 HT_ ?_
          refine pU 41 (some 127) 3298534883327 HT_ ?_
          refine oU 40 (some 126) 4398046511103 HT_ (fun K hK => ?_)
          refine gO Try.func62 #[.int .i64 t588] ?_
          with_reducible refine (impl_IsFrame.calls t588 t634 _ A77.out).mono ?_
          rintro e w' ⟨rfl, ⟨nd, rfl⟩⟩
          refine ⟨_, rfl, ?_⟩
          refine hK.out _ _ ⟨cB BK610, cB BK610, cB BK610, cB BK610, cB BK625, cB BK625, cB BK625, cB BK630, cB BK630, cB BK630⟩ (fun hHeld => ?_)
          clear hK K
          refine nM 126 ?_
          refine oU 42 (some 128) 8796093022207 HT_ (fun K hK => ?_)
          refine gO Try.func63 #[.int .i64 t588] ?_
          with_reducible refine (spec_IsFrame.calls t588 t635 _ A78.out).mono ?_
          rintro e w' ⟨rfl, ⟨nd, rfl⟩⟩
          refine ⟨_, rfl, ?_⟩
          refine hK.out _ _ ⟨cB BK610, cB BK610, cB BK610, cB BK610, cB BK625, cB BK625, cB BK625, cB BK630, cB BK630, cB BK630⟩ (fun hHeld => ?_)
          clear hK K
          refine nM 128 ?_
          refine pU 43 (some 129) 17592186044415 HT_ ?_
          refine pU 44 (some 130) 35184372088831 HT_ ?_
          refine dN HT_ ?_
          try go_wp2
          go_meet
          case rel => exact ⟨_, ((t634 != t635)), (by first | rfl | (simp; done) | (simp [*]; done)), H', ⟨by first | omega | exact Nat.le_refl _⟩, ⟨bk BK600⟩, ⟨bk BK610⟩, ⟨bk BK619⟩, ⟨bk BK620⟩, ⟨bk BK625⟩, ⟨bk BK630⟩, ⟨qB⟩⟩
        ·rw [if_neg c69] at H
         exact absurd H (by cases k <;> simp [laws_FnPointMats.j0])
      ·rw [if_neg c59] at H
       exact absurd H (by cases k <;> simp [laws_FnPointMats.j0])
     ·rw [if_neg c58] at H
      exact absurd H (by cases k <;> simp [laws_FnPointMats.j0])
    ·replace c57 := Bool.eq_false_iff.mpr c57
     subst c57
     have H1 : (laws_FnPointMats.j0 k t597 t601 t602 t624 true t598 t599 t616 t617 t618 t621 t622 t623) = some true := by rw [if_neg (show ¬ (false = true) by decide)] at H; exact H
     clear H
     have H := H1
     clear H1
     have H' := aM H
     clear H
     try go_wp2
     have n0_ : Aside0 (Kd.R k51 51 (((w48.setCell ⟨gb630, 0, none⟩ (.int .i64 t626)).setCell ⟨gb630, 1, none⟩ (.int .i64 t627)).setCell ⟨gb630, 2, none⟩ (.int .i64 t628)) w.heap.size (fun k_ => some k_ ≠ (v595 : Value).ownBlock ∧ k_ ≠ gb610 ∧ k_ ≠ gb619) v591 t589) := ⟨by (with_reducible repeat (first | apply Kd.R_alloc | apply Kd.R_drewN | apply Kd.R_drew)); exact Kd.R_mono (Kd.R_far (p := ⟨gb630, 2, none⟩) (Kd.R_far (p := ⟨gb630, 1, none⟩) (Kd.R_far (p := ⟨gb630, 0, none⟩) (Kd.R_types HO592.out BK630.out (by decide)) (fun _ hk => hk.2) (.int .i64 t626)) (fun _ hk => hk.2) (.int .i64 t627)) (fun _ hk => hk.2) (.int .i64 t628)) (fun _ hk => ⟨hk.1.1.1.2, ⟨hk.1.1.2, hk.1.2⟩⟩)⟩
     have n1_ : Aside0 (Kd.R k51 51 (((w48.setCell ⟨gb630, 0, none⟩ (.int .i64 t626)).setCell ⟨gb630, 1, none⟩ (.int .i64 t627)).setCell ⟨gb630, 2, none⟩ (.int .i64 t628)) w.heap.size (fun k_ => some k_ ≠ (v591 : Value).ownBlock ∧ k_ ≠ gb610 ∧ k_ ≠ gb619) v595 t593) := ⟨by (with_reducible repeat (first | apply Kd.R_alloc | apply Kd.R_drewN | apply Kd.R_drew)); exact Kd.R_mono (Kd.R_far (p := ⟨gb630, 2, none⟩) (Kd.R_far (p := ⟨gb630, 1, none⟩) (Kd.R_far (p := ⟨gb630, 0, none⟩) (Kd.R_types HO596.out BK630.out (by decide)) (fun _ hk => hk.2) (.int .i64 t626)) (fun _ hk => hk.2) (.int .i64 t627)) (fun _ hk => hk.2) (.int .i64 t628)) (fun _ hk => ⟨hk.1.1.1.2, ⟨hk.1.1.2, hk.1.2⟩⟩)⟩
     have n2_ : Aside0 ((((w48.setCell ⟨gb630, 0, none⟩ (.int .i64 t626)).setCell ⟨gb630, 1, none⟩ (.int .i64 t627)).setCell ⟨gb630, 2, none⟩ (.int .i64 t628)).heap[gb600]? = some (.cells #[.int .i64 t598, .int .i64 t599] 47 (0, 0))) := ⟨by (repeat (first|(with_reducible first|apply kN|apply kD|apply kA)|refine blk_far ?_ NB600_630.out _)); exact BK600.out⟩
     have n3_ : Aside0 ((((w48.setCell ⟨gb630, 0, none⟩ (.int .i64 t626)).setCell ⟨gb630, 1, none⟩ (.int .i64 t627)).setCell ⟨gb630, 2, none⟩ (.int .i64 t628)).heap[gb610]? = some (.cells #[.int .i64 t606, .int .i64 t607, .int .i64 t608, .int .i64 t609] 51 (0, 0))) := ⟨by (repeat (first|(with_reducible first|apply kN|apply kD|apply kA)|refine blk_far ?_ NB610_630.out _)); exact BK610.out⟩
     have n4_ : Aside0 ((((w48.setCell ⟨gb630, 0, none⟩ (.int .i64 t626)).setCell ⟨gb630, 1, none⟩ (.int .i64 t627)).setCell ⟨gb630, 2, none⟩ (.int .i64 t628)).heap[gb619]? = some (.cells #[.int .i64 t612, .int .i64 t613, .int .i64 t614, .int .i64 t615] 51 (0, 0))) := ⟨by (repeat (first|(with_reducible first|apply kN|apply kD|apply kA)|refine blk_far ?_ NB619_630.out _)); exact BK619.out⟩
     have n5_ : Aside0 ((((w48.setCell ⟨gb630, 0, none⟩ (.int .i64 t626)).setCell ⟨gb630, 1, none⟩ (.int .i64 t627)).setCell ⟨gb630, 2, none⟩ (.int .i64 t628)).heap[gb620]? = some (.cells #[.int .i64 t616, .int .i64 t617, .int .i64 t618] 33 (0, 0))) := ⟨by (repeat (first|(with_reducible first|apply kN|apply kD|apply kA)|refine blk_far ?_ NB620_630.out _)); exact BK620.out⟩
     have n6_ : Aside0 ((((w48.setCell ⟨gb630, 0, none⟩ (.int .i64 t626)).setCell ⟨gb630, 1, none⟩ (.int .i64 t627)).setCell ⟨gb630, 2, none⟩ (.int .i64 t628)).heap[gb625]? = some (.cells #[.int .i64 t621, .int .i64 t622, .int .i64 t623] 33 (0, 0))) := ⟨by (repeat (first|(with_reducible first|apply kN|apply kD|apply kA)|refine blk_far ?_ NB625_630.out _)); exact BK625.out⟩
     have n7_ : Aside0 ((((w48.setCell ⟨gb630, 0, none⟩ (.int .i64 t626)).setCell ⟨gb630, 1, none⟩ (.int .i64 t627)).setCell ⟨gb630, 2, none⟩ (.int .i64 t628)).heap[gb630]? = some (.cells #[.int .i64 t626, .int .i64 t627, .int .i64 t628] 33 (0, 0))) := ⟨by (with_reducible repeat (first|apply kN|apply kD|apply kA)); refine blk_put (cs := #[.int .i64 t626, .int .i64 t627, .int .i64 0]) ?_ 2 _ rfl; (with_reducible repeat (first|apply kN|apply kD|apply kA)); refine blk_put (cs := #[.int .i64 t626, .int .i64 0, .int .i64 0]) ?_ 1 _ rfl; (with_reducible repeat (first|apply kN|apply kD|apply kA)); refine blk_put (cs := #[.int .i64 0, .int .i64 0, .int .i64 0]) ?_ 0 _ rfl; (with_reducible repeat (first|apply kN|apply kD|apply kA)); exact BK630.out⟩
     have n8_ : Aside0 (Below w.heap.size w (((w48.setCell ⟨gb630, 0, none⟩ (.int .i64 t626)).setCell ⟨gb630, 1, none⟩ (.int .i64 t627)).setCell ⟨gb630, 2, none⟩ (.int .i64 t628))) := ⟨qB⟩
     (try clear HO592)
     (try clear HO596)
     (try clear BK600)
     (try clear BK610)
     (try clear BK619)
     (try clear BK620)
     (try clear BK625)
     (try clear BK630)
     (try clear HB)
     generalize (((w48.setCell ⟨gb630, 0, none⟩ (.int .i64 t626)).setCell ⟨gb630, 1, none⟩ (.int .i64 t627)).setCell ⟨gb630, 2, none⟩ (.int .i64 t628)) = w99 at n0_ n1_ n2_ n3_ n4_ n5_ n6_ n7_ n8_ ⊢
     have HO592 := n0_
     have HO596 := n1_
     have BK600 := n2_
     have BK610 := n3_
     have BK619 := n4_
     have BK620 := n5_
     have BK625 := n6_
     have BK630 := n7_
     have HB := n8_
     clear n0_ n1_ n2_ n3_ n4_ n5_ n6_ n7_ n8_
     replace HO592 := aM (Kd.R_drew HO592.out)
     replace HO596 := aM (Kd.R_drew HO596.out)
     replace BK600 := aM (blk_drew BK600.out)
     replace BK610 := aM (blk_drew BK610.out)
     replace BK619 := aM (blk_drew BK619.out)
     replace BK620 := aM (blk_drew BK620.out)
     replace BK625 := aM (blk_drew BK625.out)
     replace BK630 := aM (blk_drew BK630.out)
     replace HB := aM (below_drew1 HB.out)
     obtain ⟨Ao101, co101, eo101⟩ := Kd.R_slice HO592.out
     (first | subst eo101 | (injection eo101 with f1_ f2_ f3_; have f4_ := f1_.symm; have f5_ := f3_.symm; clear f1_ f2_ f3_; subst f4_; subst f5_))
     obtain ⟨Ao102, co102, eo102⟩ := Kd.R_slice HO596.out
     (first | subst eo102 | (injection eo102 with f1_ f2_ f3_; have f4_ := f1_.symm; have f5_ := f3_.symm; clear f1_ f2_ f3_; subst f4_; subst f5_))
     refine start_ (n := 45) (S := fun w' => True) (ds := []) (bz 45 0) (by kernel_rfl) rfl rfl trivial (fun hHeld => ?_); refine with_tabW laws_FnPointMats.tab13 laws_FnPointMats.bits13 (fun HT_ HW_ => ?_)
     generalize w99.drew = w100 at HO592 HO596 BK600 BK610 BK619 BK620 BK625 BK630 HB hHeld ⊢
     refine pU 0 (some 86) 1 HT_ ?_
     refine pU 1 (some 87) 3 HT_ ?_
     refine pU 2 (some 88) 7 HT_ ?_
     refine pU 3 (some 89) 15 HT_ ?_
     refine pU 4 (some 90) 31 HT_ ?_
     refine pU 5 (some 91) 63 HT_ ?_
     refine oU 6 (some 92) 127 HT_ (fun K hK => ?_)
     refine gO Try.func59 #[.slice Ao101 t589.length co101, .slice Ao102 t593.length co102] ?_
     with_reducible refine (laws_likeMats9.calls k _ _ t589 _ _ t593 false _ ?side1 ?side2 ?side3 ?side4 A56.out).mono ?_
     (case side1 => repeat (first | exact (Kd.R_reads' HO592.out).2.2 | (with_reducible refine Kd.C_alloc ?_ _) | (with_reducible refine Kd.C_drewN ?_ _) | (with_reducible refine Kd.C_drew ?_)))
     (case side2 => exact (Kd.R_reads' HO592.out).2.1)
     (case side3 => repeat (first | exact (Kd.R_reads' HO596.out).2.2 | (with_reducible refine Kd.C_alloc ?_ _) | (with_reducible refine Kd.C_drewN ?_ _) | (with_reducible refine Kd.C_drew ?_)))
     (case side4 => exact (Kd.R_reads' HO596.out).2.1)
     rintro e w' ⟨rfl, ⟨nd, rfl⟩⟩
     refine ⟨_, rfl, ?_⟩
     refine hK.out _ _ trivial (fun hHeld => ?_)
     clear hK K
     refine nM 92 ?_
     refine pU 7 (some 93) 255 HT_ ?_
     refine pU 8 (some 94) 511 HT_ ?_
     refine pU 9 (some 95) 1023 HT_ ?_
     refine pV 10 (some 96) 2047 HT_ ?_
     refine pV 11 (some 97) 4095 HT_ ?_
     refine pV 12 (some 98) 8191 HT_ ?_
     refine pU 13 (some 99) 16383 HT_ ?_
     refine pU 14 (some 100) 32767 HT_ ?_
     refine pV 15 (some 101) 65535 HT_ ?_
     refine pV 16 (some 102) 131071 HT_ ?_
     refine pV 17 (some 103) 262143 HT_ ?_
     refine pU 18 (some 104) 524287 HT_ ?_
     refine pU 19 (some 105) 1048575 HT_ ?_
     refine pV 20 (some 106) 2097151 HT_ ?_
     refine pV 21 (some 107) 4194303 HT_ ?_
     refine pV 22 (some 108) 8388607 HT_ ?_
     refine pV 23 (some 109) 16777215 HT_ ?_
     refine pV 24 (some 110) 33554431 HT_ ?_
     refine pV 25 (some 111) 67108863 HT_ ?_
     refine pV 26 (some 112) 134217727 HT_ ?_
     refine pU 27 (some 113) 268435455 HT_ ?_
     refine pU 28 (some 114) 536870911 HT_ ?_
     refine pV 29 (some 115) 1073741823 HT_ ?_
     refine pV 30 (some 116) 2147483647 HT_ ?_
     refine pV 31 (some 117) 4294967295 HT_ ?_
     refine pU 32 (some 118) 8589934591 HT_ ?_
     refine pU 33 (some 119) 17179869183 HT_ ?_
     refine pV 34 (some 120) 34359738367 HT_ ?_
     refine pV 35 (some 121) 68719476735 HT_ ?_
     refine pV 36 (some 122) 137438953471 HT_ ?_
     refine pU 37 (some 123) 274877906943 HT_ ?_
     refine pU 38 (some 124) 549755813887 HT_ ?_
     refine pV 39 (some 125) 1099511627775 HT_ ?_
     refine pV 40 (some 126) 2199023255551 HT_ ?_
     refine pV 41 (some 127) 4398046511103 HT_ ?_
     refine pV 42 (some 128) 8796093022207 HT_ ?_
     refine pV 43 (some 129) 17592186044415 HT_ ?_
     refine pU 44 (some 130) 35184372088831 HT_ ?_
     refine dN HT_ ?_
     try go_wp2
     go_meet
     case rel => exact ⟨_, (true), (by first | rfl | (simp; done) | (simp [*]; done)), H', ⟨by first | omega | exact Nat.le_refl _⟩, ⟨bk BK600⟩, ⟨bk BK610⟩, ⟨bk BK619⟩, ⟨bk BK620⟩, ⟨bk BK625⟩, ⟨bk BK630⟩, ⟨qB⟩⟩
   ·rw [if_neg c55] at H
    exact absurd H (by cases k <;> simp [laws_FnPointMats.j0])
  case rest =>
   clear HC14
   try clear p2
   try clear c5
   try clear c55
   try clear c55b0
   try clear c55b1
   try clear c59
   obtain ⟨kq, x130_13, rfl, HA, HJ13, BK600, BK610, BK619, BK620, BK625, BK630, HB⟩ := hcut
   cases kq with
   | zero => exact absurd HA.out (by simp [laws_FnPointMats.j0])
   | succ kj13 =>
    have H := HA.out
    clear HA
    simp only [laws_FnPointMats.j0] at H
    by_cases c105 : x130_13 = true
    ·subst c105
     have H1 : (some false) = some true := by rw [if_pos rfl] at H; exact H
     clear H
     have H := H1
     clear H1
     exact absurd (Option.some.inj H) (by decide)
    ·replace c105 := Bool.eq_false_iff.mpr c105
     subst c105
     have H1 : (if t624 = 0 then (laws_FnPointMats.j1 kj13 t597 t601 t602 ((wrap64 (t621 * t623)) != (wrap64 (t616 * t618))) t598 t599) else (laws_FnPointMats.j1 kj13 t597 t601 t602 false t598 t599)) = some true := by rw [if_neg (show ¬ (false = true) by decide)] at H; exact H
     clear H
     have H := H1
     clear H1
     have HC106 := aM H
     clear H
     go_upto_region 15 with (fail)
     go_cut [145] (fun v145 wc => ∃ (kq : Nat) (x145_105 : Bool), v145 = .bool x145_105 ∧ Aside0 (laws_FnPointMats.j1 kq t597 t601 t602 x145_105 t598 t599 = some true) ∧ Aside0 (kq ≤ kj13) ∧ Aside0 (wc.heap[gb600]? = some (.cells #[.int .i64 t598, .int .i64 t599] 47 (0, 0))) ∧ Aside0 (wc.heap[gb610]? = some (.cells #[.int .i64 t606, .int .i64 t607, .int .i64 t608, .int .i64 t609] 51 (0, 0))) ∧ Aside0 (wc.heap[gb619]? = some (.cells #[.int .i64 t612, .int .i64 t613, .int .i64 t614, .int .i64 t615] 51 (0, 0))) ∧ Aside0 (wc.heap[gb620]? = some (.cells #[.int .i64 t616, .int .i64 t617, .int .i64 t618] 33 (0, 0))) ∧ Aside0 (wc.heap[gb625]? = some (.cells #[.int .i64 t621, .int .i64 t622, .int .i64 t623] 33 (0, 0))) ∧ Aside0 (wc.heap[gb630]? = some (.cells #[.int .i64 t626, .int .i64 t627, .int .i64 t628] 33 (0, 0))) ∧ Aside0 (Below w.heap.size w wc))
     case first =>
      have H := HC106.out
      clear HC106
      by_cases c107 : t624 = 0
      ·rw [if_pos c107] at H
       have c107b0 : (t624 == 0) = true := beq_iff_eq.mpr c107
       have c107b1 : (t624 != 0) = false := bne_eq_false_iff_eq.mpr c107
       clear c107
       (first | rw [c107b0] | (simp only [i64_w, i32_w]; rw [c107b0]) | skip)
       have H' := aM H
       clear H
       have hnb108 := NB625_600.out
       have hnc108 := NB600_625.out
       have hnb109 := NB625_610.out
       have hnc109 := NB610_625.out
       have hnb110 := NB625_619.out
       have hnc110 := NB619_625.out
       have hnb111 := NB625_620.out
       have hnc111 := NB620_625.out
       have hnb112 := NB625_630.out
       have hnc112 := NB630_625.out
       obtain ⟨hcz113_0, hcz113_1, hcz113_2⟩ := z3 BK625
       obtain ⟨hfz113_0, hfz113_1, hfz113_2⟩ := y3 BK625
       have hnb114 := NB620_600.out
       have hnc114 := NB600_620.out
       have hnb115 := NB620_610.out
       have hnc115 := NB610_620.out
       have hnb116 := NB620_619.out
       have hnc116 := NB619_620.out
       have hnb117 := NB620_630.out
       have hnc117 := NB630_620.out
       obtain ⟨hcz118_0, hcz118_1, hcz118_2⟩ := z3 BK620
       obtain ⟨hfz118_0, hfz118_1, hfz118_2⟩ := y3 BK620
       go_wp2
       go_meet
       case rel => exact ⟨_, (((wrap64 (t621 * t623)) != (wrap64 (t616 * t618)))), (by first | rfl | (simp; done) | (simp [*]; done)), H', ⟨by have := HJ13.out; first | omega | exact Nat.le_refl _⟩, ⟨bk BK600⟩, ⟨bk BK610⟩, ⟨bk BK619⟩, ⟨bk BK620⟩, ⟨bk BK625⟩, ⟨bk BK630⟩, ⟨qB⟩⟩
      ·rw [if_neg c107] at H
       have c107b0 : (t624 == 0) = false := beq_eq_false_iff_ne.mpr c107
       have c107b1 : (t624 != 0) = true := bne_iff_ne.mpr c107
       (first | rw [c107b0] | (simp only [i64_w, i32_w]; rw [c107b0]) | skip)
       have H' := aM H
       clear H
       go_wp2
       go_meet
       case rel => exact ⟨_, (false), (by first | rfl | (simp; done) | (simp [*]; done)), H', ⟨by have := HJ13.out; first | omega | exact Nat.le_refl _⟩, ⟨bk BK600⟩, ⟨bk BK610⟩, ⟨bk BK619⟩, ⟨bk BK620⟩, ⟨bk BK625⟩, ⟨bk BK630⟩, ⟨qB⟩⟩
     case rest =>
      clear HC106
      try clear c1
      try clear p2
      try clear c5
      try clear p6
      try clear c10
      try clear c11
      try clear c55
      try clear c55b0
      try clear c55b1
      try clear c59
      try clear p64
      try clear c105
      try clear c107
      try clear c107b0
      try clear c107b1
      try clear c108
      try clear c109
      try clear c110
      try clear c111
      try clear c112
      try clear c114
      try clear c115
      try clear c116
      try clear c117
      try clear hcz113_0
      try clear hcz113_1
      try clear hcz113_2
      try clear hcz118_0
      try clear hcz118_1
      try clear hcz118_2
      try clear hfz113_0
      try clear hfz113_1
      try clear hfz113_2
      try clear hfz118_0
      try clear hfz118_1
      try clear hfz118_2
      try clear p2
      obtain ⟨kq, x145_105, rfl, HA, HJ105, BK600, BK610, BK619, BK620, BK625, BK630, HB⟩ := hcut
      cases kq with
      | zero => exact absurd HA.out (by simp [laws_FnPointMats.j1])
      | succ kj105 =>
       have H := HA.out
       clear HA
       simp only [laws_FnPointMats.j1] at H
       by_cases c119 : x145_105 = true
       ·subst c119
        have H1 : (some false) = some true := by rw [if_pos rfl] at H; exact H
        clear H
        have H := H1
        clear H1
        exact absurd (Option.some.inj H) (by decide)
       ·replace c119 := Bool.eq_false_iff.mpr c119
        subst c119
        have H1 : (if t602 = 0 then ((impl_PointMats.f kj105 t597).bind fun bt636 => (if bt636.2 = 0 then (laws_FnPointMats.l0 kj105 t597 t601 bt636.1 0 t598 t599) else (some false))) else (some true)) = some true := by rw [if_neg (show ¬ (false = true) by decide)] at H; exact H
        clear H
        have H := H1
        clear H1
        by_cases c120 : t602 = 0
        ·rw [if_pos c120] at H
         have c120b0 : (t602 == 0) = true := beq_iff_eq.mpr c120
         have c120b1 : (t602 != 0) = false := bne_eq_false_iff_eq.mpr c120
         clear c120
         obtain ⟨⟨t636, t637⟩, A121, H⟩ := oB H
         try dsimp only at H
         by_cases c122 : t637 = 0
         ·rw [if_pos c122] at H
          have c122b0 : (t637 == 0) = true := beq_iff_eq.mpr c122
          have c122b1 : (t637 != 0) = false := bne_eq_false_iff_eq.mpr c122
          clear c122
          have H' := aM H
          clear H
          go_wp2_with (first | ((with_reducible refine gate_callee (f := 51) rfl ?_); refine goesL_ (some 150) rfl rfl Try.func51 (by kernel_rfl) rfl #[.int .i64 t597] rfl (by first|rfl|(simp only [List.map_toArray, List.map_cons, List.map_nil]; try rfl)) ?_; (with_reducible refine (impl_PointMats.calls kj105 t597 t636 t637 _ A121.out).mono ?_); rintro e w123 ⟨v638, rfl, ho0, hb⟩; refine ⟨_, rfl, ?_⟩; have HO639 := aM (Kd.R_lower (Kd.R_newB (Kd.R_newB ho0 (g := gb610) (o := .cells #[.int .i64 t606, .int .i64 t607, .int .i64 t608, .int .i64 t609] 51 (0, 0)) (bk BK610)) (g := gb619) (o := .cells #[.int .i64 t612, .int .i64 t613, .int .i64 t614, .int .i64 t615] 51 (0, 0)) (bk BK619)) (below_size qB)); replace BK600 := bB BK600 hb; replace BK610 := bB BK610 hb; replace BK619 := bB BK619 hb; replace BK620 := bB BK620 hb; replace BK625 := bB BK625 hb; replace BK630 := bB BK630 hb; replace HB := bS HB hb; (try clear hb); (try clear ho0)))
          go_loopg [25] kj105 (fun kq v25 w' => ∃ (x25_3 : Int), v25 = .int .i64 x25_3 ∧ Aside0 (laws_FnPointMats.l0 kq t597 t601 t636 x25_3 t598 t599 = some true) ∧ Aside0 (kq ≤ kj105) ∧ Aside0 (Kd.R k51 51 w' w.heap.size (fun k_ => k_ ≠ gb610 ∧ k_ ≠ gb619) v638 t636) ∧ Aside0 (w'.heap[gb600]? = some (.cells #[.int .i64 t598, .int .i64 t599] 47 (0, 0))) ∧ Aside0 (w'.heap[gb610]? = some (.cells #[.int .i64 t606, .int .i64 t607, .int .i64 t608, .int .i64 t609] 51 (0, 0))) ∧ Aside0 (w'.heap[gb619]? = some (.cells #[.int .i64 t612, .int .i64 t613, .int .i64 t614, .int .i64 t615] 51 (0, 0))) ∧ Aside0 (w'.heap[gb620]? = some (.cells #[.int .i64 t616, .int .i64 t617, .int .i64 t618] 33 (0, 0))) ∧ Aside0 (w'.heap[gb625]? = some (.cells #[.int .i64 t621, .int .i64 t622, .int .i64 t623] 33 (0, 0))) ∧ Aside0 (w'.heap[gb630]? = some (.cells #[.int .i64 t626, .int .i64 t627, .int .i64 t628] 33 (0, 0))) ∧ Aside0 (Below w.heap.size w w'))
          case atStart => exact ⟨(0), (by first | rfl | (simp; done) | (simp [*]; done)), H', ⟨Nat.le_refl _⟩, ⟨by (with_reducible repeat (first | apply Kd.R_alloc | apply Kd.R_drewN | apply Kd.R_drew)); exact Kd.R_mono HO639.out (fun _ hk => ⟨hk.1.2, hk.2⟩)⟩, ⟨bk BK600⟩, ⟨bk BK610⟩, ⟨bk BK619⟩, ⟨bk BK620⟩, ⟨bk BK625⟩, ⟨bk BK630⟩, ⟨qB⟩⟩
          case round =>
           clear H'
           try clear c1
           try clear p2
           try clear c5
           try clear p6
           try clear c10
           try clear c11
           try clear c12
           try clear c51
           try clear c55
           try clear c55b0
           try clear c55b1
           try clear c59
           try clear p64
           try clear c105
           try clear c107
           try clear c107b0
           try clear c107b1
           try clear c108
           try clear c109
           try clear c110
           try clear c111
           try clear c112
           try clear c114
           try clear c115
           try clear c116
           try clear c117
           try clear c119
           try clear c120
           try clear c120b0
           try clear c120b1
           try clear c122
           try clear c122b0
           try clear c122b1
           try clear hcz113_0
           try clear hcz113_1
           try clear hcz113_2
           try clear hcz118_0
           try clear hcz118_1
           try clear hcz118_2
           try clear hfz113_0
           try clear hfz113_1
           try clear hfz113_2
           try clear hfz118_0
           try clear hfz118_1
           try clear hfz118_2
           try clear p2
           try clear p6
           try clear p64
           obtain ⟨x25_3, rfl, HA, HK3, HO_23, BK600, BK610, BK619, BK620, BK625, BK630, HB⟩ := hrel
           cases gk with
           | zero => exact absurd HA.out (by simp [laws_FnPointMats.l0])
           | succ k3 =>
            have H := HA.out
            clear HA
            simp only [laws_FnPointMats.l0] at H
            by_cases c124 : x25_3 < (t636.length : Int)
            ·rw [if_pos c124] at H
             have c124b0 : decide (x25_3 < (t636.length : Int)) = true := decide_eq_true c124
             clear c124
             by_cases c125 : 0 ≤ x25_3
             ·rw [if_pos c125] at H
              have c125b0 : decide (0 ≤ x25_3) = true := decide_eq_true c125
              clear c125
              obtain ⟨⟨t641, t642, t643⟩, A126, H⟩ := oB H
              try dsimp only at H
              by_cases c127 : t643 = 0
              ·rw [if_pos c127] at H
               have c127b0 : (t643 == 0) = true := beq_iff_eq.mpr c127
               have c127b1 : (t643 != 0) = false := bne_eq_false_iff_eq.mpr c127
               clear c127
               obtain ⟨⟨t645, t646⟩, A128, H⟩ := oB H
               try dsimp only at H
               by_cases c129 : t646 = 0
               ·rw [if_pos c129] at H
                have c129b0 : (t646 == 0) = true := beq_iff_eq.mpr c129
                have c129b1 : (t646 != 0) = false := bne_eq_false_iff_eq.mpr c129
                clear c129
                by_cases c130 : t645 = t601
                ·rw [if_pos c130] at H
                 have c130b0 : (t645 == t601) = true := beq_iff_eq.mpr c130
                 have c130b1 : (t645 != t601) = false := bne_eq_false_iff_eq.mpr c130
                 clear c130
                 have H' := aM H
                 clear H
                 obtain ⟨Ao131, co131, eo131⟩ := Kd.R_slice HO_23.out
                 subst eo131
                 try go_wp2
                 replace HO_23 := aM (Kd.R_drew HO_23.out)
                 replace BK600 := aM (blk_drew BK600.out)
                 replace BK610 := aM (blk_drew BK610.out)
                 replace BK619 := aM (blk_drew BK619.out)
                 replace BK620 := aM (blk_drew BK620.out)
                 replace BK625 := aM (blk_drew BK625.out)
                 replace BK630 := aM (blk_drew BK630.out)
                 replace HB := aM (below_drew1 HB.out)
                 have p640 : 0 ≤ (x25_3 : Int) := of_decide_eq_true (by first | (with_reducible assumption) | assumption)
                 have q640 : x25_3 < (t636.length : Int) := of_decide_eq_true (by first | (with_reducible assumption) | assumption)
                 obtain ⟨ad640, e640, hx640_0, hx640_1, hx640_2, hx640_3⟩ := at_T51 (Kd.R_reads' HO_23.out).2.2 x25_3 p640 q640
                 cases e640
                 replace p640 := eq_true p640
                 replace q640 := eq_true q640
                 refine sT (fun w' => w'.cell? ⟨gb600, 0, none⟩ = some (.int .i64 t598) ∧ w'.cell? ⟨gb600, 1, none⟩ = some (.int .i64 t599) ∧ w'.cell? (ad640.add ((x25_3).toNat * 4)) = some (.int .i64 ((rd_T51 t636 x25_3).f0)) ∧ w'.cell? ⟨(ad640.add ((x25_3).toNat * 4)).block, (ad640.add ((x25_3).toNat * 4)).off + 1, none⟩ = some (.int .i64 ((rd_T51 t636 x25_3).f1)) ∧ w'.cell? ⟨(ad640.add ((x25_3).toNat * 4)).block, (ad640.add ((x25_3).toNat * 4)).off + 2, none⟩ = some (.int .i64 ((rd_T51 t636 x25_3).f2)) ∧ w'.cell? ⟨(ad640.add ((x25_3).toNat * 4)).block, (ad640.add ((x25_3).toNat * 4)).off + 3, none⟩ = some (.int .i64 ((rd_T51 t636 x25_3).f3))) [] ⟨cB BK600, cB BK600, hx640_0, hx640_1, hx640_2, hx640_3⟩ (fun hHeld => ?_); refine with_tabW laws_FnPointMats.tab25 laws_FnPointMats.bits25 (fun HT_ HW_ => ?_)
                 generalize wr.drew = w132 at HO_23 BK600 BK610 BK619 BK620 BK625 BK630 HB hx640_0 hx640_1 hx640_2 hx640_3 hHeld ⊢
                 refine pU 0 (some 162) 1 HT_ ?_
                 refine pU 1 (some 163) 3 HT_ ?_
                 refine pU 2 (some 164) 7 HT_ ?_
                 refine tU 3 (some 165) 15 HT_ HW_ hHeld ?_
                 refine tU 4 (some 166) 31 HT_ HW_ hHeld ?_
                 refine join_ (σ := Nat) 2 (bz 12 1023) (fun s_ => [(167, .tuple #[.agg #[.int .i64 t641, .int .i64 t642], .int .i64 t643]), (26, .pointer (some ⟨s_, 0, none⟩)), (161, .tuple #[.agg #[.int .i64 t641, .int .i64 t642], .int .i64 t643]), (168, .agg #[.int .i64 t641, .int .i64 t642]), (169, .int .i64 t643)]) (fun s_ w' => (w'.cell? ⟨gb600, 0, none⟩ = some (.int .i64 t598) ∧ w'.cell? ⟨gb600, 1, none⟩ = some (.int .i64 t599) ∧ w'.cell? (ad640.add ((x25_3).toNat * 4)) = some (.int .i64 ((rd_T51 t636 x25_3).f0)) ∧ w'.cell? ⟨(ad640.add ((x25_3).toNat * 4)).block, (ad640.add ((x25_3).toNat * 4)).off + 1, none⟩ = some (.int .i64 ((rd_T51 t636 x25_3).f1)) ∧ w'.cell? ⟨(ad640.add ((x25_3).toNat * 4)).block, (ad640.add ((x25_3).toNat * 4)).off + 2, none⟩ = some (.int .i64 ((rd_T51 t636 x25_3).f2)) ∧ w'.cell? ⟨(ad640.add ((x25_3).toNat * 4)).block, (ad640.add ((x25_3).toNat * 4)).off + 3, none⟩ = some (.int .i64 ((rd_T51 t636 x25_3).f3))) ∧ (Kd.R k51 51 w' w.heap.size (fun k_ => k_ ≠ gb610 ∧ k_ ≠ gb619) (.slice (some ad640) t636.length co131) t636) ∧ (w'.heap[gb600]? = some (.cells #[.int .i64 t598, .int .i64 t599] 47 (0, 0))) ∧ (w'.heap[gb610]? = some (.cells #[.int .i64 t606, .int .i64 t607, .int .i64 t608, .int .i64 t609] 51 (0, 0))) ∧ (w'.heap[gb619]? = some (.cells #[.int .i64 t612, .int .i64 t613, .int .i64 t614, .int .i64 t615] 51 (0, 0))) ∧ (w'.heap[gb620]? = some (.cells #[.int .i64 t616, .int .i64 t617, .int .i64 t618] 33 (0, 0))) ∧ (w'.heap[gb625]? = some (.cells #[.int .i64 t621, .int .i64 t622, .int .i64 t623] 33 (0, 0))) ∧ (w'.heap[gb630]? = some (.cells #[.int .i64 t626, .int .i64 t627, .int .i64 t628] 33 (0, 0))) ∧ (w'.heap[s_]? = some (.cells #[.int .i64 0, .int .i64 0] 47 (0, 0))) ∧ (w.heap.size ≤ s_) ∧ (w.heap.size ≤ s_) ∧ (gb600 ≠ s_) ∧ (s_ ≠ gb600) ∧ (gb610 ≠ s_) ∧ (s_ ≠ gb610) ∧ (gb619 ≠ s_) ∧ (s_ ≠ gb619) ∧ (gb620 ≠ s_) ∧ (s_ ≠ gb620) ∧ (gb625 ≠ s_) ∧ (s_ ≠ gb625) ∧ (gb630 ≠ s_) ∧ (s_ ≠ gb630) ∧ (Below w.heap.size w w')) ?_ ?_
                 rotate_left
                 ·intro hCont
                  refine two_ (i := 5) (j := 9) (Ni := some 167) (Nj := some 26) (bz 12 63) (bz 12 543) rfl rfl rfl rfl (two_of HT_.out (by kernel_rfl)) (by decide) (by decide) (fun K hK => ?_) (fun K hK => ?_)
                  ·skip
                   refine gO Try.func35 #[.agg #[.int .i64 ((rd_T51 t636 x25_3).f0), .int .i64 ((rd_T51 t636 x25_3).f1), .int .i64 ((rd_T51 t636 x25_3).f2), .int .i64 ((rd_T51 t636 x25_3).f3)], .agg #[.int .i64 t598, .int .i64 t599]] ?_
                   with_reducible refine (impl_ApplyMat.calls k3 ((rd_T51 t636 x25_3).f0) ((rd_T51 t636 x25_3).f1) ((rd_T51 t636 x25_3).f2) ((rd_T51 t636 x25_3).f3) t598 t599 t641 t642 t643 _ A126.out).mono ?_
                   rintro e w133 ⟨rfl, hb⟩
                   have HS2_ := (hb.cell (World.block_lt_of_cell? _ _ (hHeld.2.2.1))).trans (hHeld.2.2.1)
                   have HS3_ := (hb.cell (World.block_lt_of_cell? _ _ (hHeld.2.2.2.1))).trans (hHeld.2.2.2.1)
                   have HS4_ := (hb.cell (World.block_lt_of_cell? _ _ (hHeld.2.2.2.2.1))).trans (hHeld.2.2.2.2.1)
                   have HS5_ := (hb.cell (World.block_lt_of_cell? _ _ (hHeld.2.2.2.2.2))).trans (hHeld.2.2.2.2.2)
                   refine ⟨_, rfl, ?_⟩
                   have n0_ := aM (Kd.R_below (by (with_reducible repeat (first | apply Kd.R_alloc | apply Kd.R_drewN | apply Kd.R_drew)); exact HO_23.out) hb)
                   have n1_ := bB BK600 hb
                   have n2_ := bB BK610 hb
                   have n3_ := bB BK619 hb
                   have n4_ := bB BK620 hb
                   have n5_ := bB BK625 hb
                   have n6_ := bB BK630 hb
                   have n7_ := bS HB hb
                   clear HO_23
                   clear BK600
                   clear BK610
                   clear BK619
                   clear BK620
                   clear BK625
                   clear BK630
                   clear HB
                   have HO_23 := n0_
                   have BK600 := n1_
                   have BK610 := n2_
                   have BK619 := n3_
                   have BK620 := n4_
                   have BK625 := n5_
                   have BK630 := n6_
                   have HB := n7_
                   clear n0_ n1_ n2_ n3_ n4_ n5_ n6_ n7_
                   (try clear hb)
                   (try clear hb2)
                   (try clear hk)
                   (try clear hi)
                   refine hK.out _ _ ⟨cB BK600, cB BK600, HS2_, HS3_, HS4_, HS5_⟩ (fun hHeld => ?_)
                   clear hK K
                   refine nM 167 ?_
                   refine pU 6 (some 161) 127 HT_ ?_
                   refine pU 7 (some 168) 255 HT_ ?_
                   refine pU 8 (some 169) 511 HT_ ?_
                   refine oU 9 (some 26) 1023 HT_ (fun K hK => ?_)
                   refine xS 26 #[.int .i64 0, .int .i64 0] 47 ?_
                   intro gb644 hg w134 hbox hb
                   have HS2_ := (hb.cell (World.block_lt_of_cell? _ _ (hHeld.2.2.1))).trans (hHeld.2.2.1)
                   have HS3_ := (hb.cell (World.block_lt_of_cell? _ _ (hHeld.2.2.2.1))).trans (hHeld.2.2.2.1)
                   have HS4_ := (hb.cell (World.block_lt_of_cell? _ _ (hHeld.2.2.2.2.1))).trans (hHeld.2.2.2.2.1)
                   have HS5_ := (hb.cell (World.block_lt_of_cell? _ _ (hHeld.2.2.2.2.2))).trans (hHeld.2.2.2.2.2)
                   have n0_ := aM (Kd.R_below (by (with_reducible repeat (first | apply Kd.R_alloc | apply Kd.R_drewN | apply Kd.R_drew)); exact HO_23.out) hb)
                   have n1_ := bB BK600 hb
                   have n2_ := bB BK610 hb
                   have n3_ := bB BK619 hb
                   have n4_ := bB BK620 hb
                   have n5_ := bB BK625 hb
                   have n6_ := bB BK630 hb
                   have n7_ := bS HB hb
                   have n8_ := aM hbox
                   have n9_ := bZ hg HB
                   have n10_ := bZ hg HB
                   have n11_ := nL hg BK600
                   have n12_ := nG hg BK600
                   have n13_ := nL hg BK610
                   have n14_ := nG hg BK610
                   have n15_ := nL hg BK619
                   have n16_ := nG hg BK619
                   have n17_ := nL hg BK620
                   have n18_ := nG hg BK620
                   have n19_ := nL hg BK625
                   have n20_ := nG hg BK625
                   have n21_ := nL hg BK630
                   have n22_ := nG hg BK630
                   clear HO_23
                   clear BK600
                   clear BK610
                   clear BK619
                   clear BK620
                   clear BK625
                   clear BK630
                   clear HB
                   have HO_23 := n0_
                   have BK600 := n1_
                   have BK610 := n2_
                   have BK619 := n3_
                   have BK620 := n4_
                   have BK625 := n5_
                   have BK630 := n6_
                   have HB := n7_
                   have BK644 := n8_
                   have GW644 := n9_
                   have GE644 := n10_
                   have NB600_644 := n11_
                   have NB644_600 := n12_
                   have NB610_644 := n13_
                   have NB644_610 := n14_
                   have NB619_644 := n15_
                   have NB644_619 := n16_
                   have NB620_644 := n17_
                   have NB644_620 := n18_
                   have NB625_644 := n19_
                   have NB644_625 := n20_
                   have NB630_644 := n21_
                   have NB644_630 := n22_
                   clear n0_ n1_ n2_ n3_ n4_ n5_ n6_ n7_ n8_ n9_ n10_ n11_ n12_ n13_ n14_ n15_ n16_ n17_ n18_ n19_ n20_ n21_ n22_
                   clear hb hbox hg
                   refine hK.out _ _ ⟨cB BK600, cB BK600, HS2_, HS3_, HS4_, HS5_⟩ (fun hHeld => ?_)
                   clear hK K
                   refine nM 26 ?_
                   exact norm_ (by simp only [putAll, Act.put, List.setIfInBounds_toArray, List.set_cons_zero, List.set_cons_succ]) (hCont (gb644) _ ⟨hHeld, (by (with_reducible repeat (first | apply Kd.R_alloc | apply Kd.R_drewN | apply Kd.R_drew)); exact HO_23.out), (bk BK600), (bk BK610), (bk BK619), (bk BK620), (bk BK625), (bk BK630), (bk BK644), GW644.out, GE644.out, NB600_644.out, NB644_600.out, NB610_644.out, NB644_610.out, NB619_644.out, NB644_619.out, NB620_644.out, NB644_620.out, NB625_644.out, NB644_625.out, NB630_644.out, NB644_630.out, qB⟩)
                  ·skip
                   refine xS 26 #[.int .i64 0, .int .i64 0] 47 ?_
                   intro gb644 hg w133 hbox hb
                   have HS2_ := (hb.cell (World.block_lt_of_cell? _ _ (hHeld.2.2.1))).trans (hHeld.2.2.1)
                   have HS3_ := (hb.cell (World.block_lt_of_cell? _ _ (hHeld.2.2.2.1))).trans (hHeld.2.2.2.1)
                   have HS4_ := (hb.cell (World.block_lt_of_cell? _ _ (hHeld.2.2.2.2.1))).trans (hHeld.2.2.2.2.1)
                   have HS5_ := (hb.cell (World.block_lt_of_cell? _ _ (hHeld.2.2.2.2.2))).trans (hHeld.2.2.2.2.2)
                   have n0_ := aM (Kd.R_below (by (with_reducible repeat (first | apply Kd.R_alloc | apply Kd.R_drewN | apply Kd.R_drew)); exact HO_23.out) hb)
                   have n1_ := bB BK600 hb
                   have n2_ := bB BK610 hb
                   have n3_ := bB BK619 hb
                   have n4_ := bB BK620 hb
                   have n5_ := bB BK625 hb
                   have n6_ := bB BK630 hb
                   have n7_ := bS HB hb
                   have n8_ := aM hbox
                   have n9_ := bZ hg HB
                   have n10_ := bZ hg HB
                   have n11_ := nL hg BK600
                   have n12_ := nG hg BK600
                   have n13_ := nL hg BK610
                   have n14_ := nG hg BK610
                   have n15_ := nL hg BK619
                   have n16_ := nG hg BK619
                   have n17_ := nL hg BK620
                   have n18_ := nG hg BK620
                   have n19_ := nL hg BK625
                   have n20_ := nG hg BK625
                   have n21_ := nL hg BK630
                   have n22_ := nG hg BK630
                   clear HO_23
                   clear BK600
                   clear BK610
                   clear BK619
                   clear BK620
                   clear BK625
                   clear BK630
                   clear HB
                   have HO_23 := n0_
                   have BK600 := n1_
                   have BK610 := n2_
                   have BK619 := n3_
                   have BK620 := n4_
                   have BK625 := n5_
                   have BK630 := n6_
                   have HB := n7_
                   have BK644 := n8_
                   have GW644 := n9_
                   have GE644 := n10_
                   have NB600_644 := n11_
                   have NB644_600 := n12_
                   have NB610_644 := n13_
                   have NB644_610 := n14_
                   have NB619_644 := n15_
                   have NB644_619 := n16_
                   have NB620_644 := n17_
                   have NB644_620 := n18_
                   have NB625_644 := n19_
                   have NB644_625 := n20_
                   have NB630_644 := n21_
                   have NB644_630 := n22_
                   clear n0_ n1_ n2_ n3_ n4_ n5_ n6_ n7_ n8_ n9_ n10_ n11_ n12_ n13_ n14_ n15_ n16_ n17_ n18_ n19_ n20_ n21_ n22_
                   clear hb hbox hg
                   refine hK.out _ _ ⟨cB BK600, cB BK600, HS2_, HS3_, HS4_, HS5_⟩ (fun hHeld => ?_)
                   clear hK K
                   refine nM 26 ?_
                   refine oU 5 (some 167) 575 HT_ (fun K hK => ?_)
                   refine gO Try.func35 #[.agg #[.int .i64 ((rd_T51 t636 x25_3).f0), .int .i64 ((rd_T51 t636 x25_3).f1), .int .i64 ((rd_T51 t636 x25_3).f2), .int .i64 ((rd_T51 t636 x25_3).f3)], .agg #[.int .i64 t598, .int .i64 t599]] ?_
                   with_reducible refine (impl_ApplyMat.calls k3 ((rd_T51 t636 x25_3).f0) ((rd_T51 t636 x25_3).f1) ((rd_T51 t636 x25_3).f2) ((rd_T51 t636 x25_3).f3) t598 t599 t641 t642 t643 _ A126.out).mono ?_
                   rintro e w134 ⟨rfl, hb⟩
                   have HS2_ := (hb.cell (World.block_lt_of_cell? _ _ (hHeld.2.2.1))).trans (hHeld.2.2.1)
                   have HS3_ := (hb.cell (World.block_lt_of_cell? _ _ (hHeld.2.2.2.1))).trans (hHeld.2.2.2.1)
                   have HS4_ := (hb.cell (World.block_lt_of_cell? _ _ (hHeld.2.2.2.2.1))).trans (hHeld.2.2.2.2.1)
                   have HS5_ := (hb.cell (World.block_lt_of_cell? _ _ (hHeld.2.2.2.2.2))).trans (hHeld.2.2.2.2.2)
                   refine ⟨_, rfl, ?_⟩
                   have n0_ := aM (Kd.R_below (by (with_reducible repeat (first | apply Kd.R_alloc | apply Kd.R_drewN | apply Kd.R_drew)); exact HO_23.out) hb)
                   have n1_ := bB BK600 hb
                   have n2_ := bB BK610 hb
                   have n3_ := bB BK619 hb
                   have n4_ := bB BK620 hb
                   have n5_ := bB BK625 hb
                   have n6_ := bB BK630 hb
                   have n7_ := bB BK644 hb
                   have n8_ := bS HB hb
                   clear HO_23
                   clear BK600
                   clear BK610
                   clear BK619
                   clear BK620
                   clear BK625
                   clear BK630
                   clear BK644
                   clear HB
                   have HO_23 := n0_
                   have BK600 := n1_
                   have BK610 := n2_
                   have BK619 := n3_
                   have BK620 := n4_
                   have BK625 := n5_
                   have BK630 := n6_
                   have BK644 := n7_
                   have HB := n8_
                   clear n0_ n1_ n2_ n3_ n4_ n5_ n6_ n7_ n8_
                   (try clear hb)
                   (try clear hb2)
                   (try clear hk)
                   (try clear hi)
                   refine hK.out _ _ ⟨cB BK600, cB BK600, HS2_, HS3_, HS4_, HS5_⟩ (fun hHeld => ?_)
                   clear hK K
                   refine nM 167 ?_
                   refine pU 6 (some 161) 639 HT_ ?_
                   refine pU 7 (some 168) 767 HT_ ?_
                   refine pU 8 (some 169) 1023 HT_ ?_
                   exact norm_ (by simp only [putAll, Act.put, List.setIfInBounds_toArray, List.set_cons_zero, List.set_cons_succ]) (hCont (gb644) _ ⟨hHeld, (by (with_reducible repeat (first | apply Kd.R_alloc | apply Kd.R_drewN | apply Kd.R_drew)); exact HO_23.out), (bk BK600), (bk BK610), (bk BK619), (bk BK620), (bk BK625), (bk BK630), (bk BK644), GW644.out, GE644.out, NB600_644.out, NB644_600.out, NB610_644.out, NB644_610.out, NB619_644.out, NB644_619.out, NB620_644.out, NB644_620.out, NB625_644.out, NB644_625.out, NB630_644.out, NB644_630.out, qB⟩)
                 rintro gb644 w135 ⟨hS_, h0_, h1_, h2_, h3_, h4_, h5_, h6_, h7_, h8_, h9_, h10_, h11_, h12_, h13_, h14_, h15_, h16_, h17_, h18_, h19_, h20_, h21_, h22_⟩
                 have n0_ : Aside0 (Kd.R k51 51 w135 w.heap.size (fun k_ => k_ ≠ gb610 ∧ k_ ≠ gb619) (.slice (some ad640) t636.length co131) t636) := ⟨h0_⟩
                 have n1_ : Aside0 (w135.heap[gb600]? = some (.cells #[.int .i64 t598, .int .i64 t599] 47 (0, 0))) := ⟨h1_⟩
                 have n2_ : Aside0 (w135.heap[gb610]? = some (.cells #[.int .i64 t606, .int .i64 t607, .int .i64 t608, .int .i64 t609] 51 (0, 0))) := ⟨h2_⟩
                 have n3_ : Aside0 (w135.heap[gb619]? = some (.cells #[.int .i64 t612, .int .i64 t613, .int .i64 t614, .int .i64 t615] 51 (0, 0))) := ⟨h3_⟩
                 have n4_ : Aside0 (w135.heap[gb620]? = some (.cells #[.int .i64 t616, .int .i64 t617, .int .i64 t618] 33 (0, 0))) := ⟨h4_⟩
                 have n5_ : Aside0 (w135.heap[gb625]? = some (.cells #[.int .i64 t621, .int .i64 t622, .int .i64 t623] 33 (0, 0))) := ⟨h5_⟩
                 have n6_ : Aside0 (w135.heap[gb630]? = some (.cells #[.int .i64 t626, .int .i64 t627, .int .i64 t628] 33 (0, 0))) := ⟨h6_⟩
                 have n7_ : Aside0 (w135.heap[gb644]? = some (.cells #[.int .i64 0, .int .i64 0] 47 (0, 0))) := ⟨h7_⟩
                 have n8_ : Aside0 (w.heap.size ≤ gb644) := ⟨h8_⟩
                 have n9_ : Aside0 (w.heap.size ≤ gb644) := ⟨h9_⟩
                 have n10_ : Aside0 (gb600 ≠ gb644) := ⟨h10_⟩
                 have n11_ : Aside0 (gb644 ≠ gb600) := ⟨h11_⟩
                 have n12_ : Aside0 (gb610 ≠ gb644) := ⟨h12_⟩
                 have n13_ : Aside0 (gb644 ≠ gb610) := ⟨h13_⟩
                 have n14_ : Aside0 (gb619 ≠ gb644) := ⟨h14_⟩
                 have n15_ : Aside0 (gb644 ≠ gb619) := ⟨h15_⟩
                 have n16_ : Aside0 (gb620 ≠ gb644) := ⟨h16_⟩
                 have n17_ : Aside0 (gb644 ≠ gb620) := ⟨h17_⟩
                 have n18_ : Aside0 (gb625 ≠ gb644) := ⟨h18_⟩
                 have n19_ : Aside0 (gb644 ≠ gb625) := ⟨h19_⟩
                 have n20_ : Aside0 (gb630 ≠ gb644) := ⟨h20_⟩
                 have n21_ : Aside0 (gb644 ≠ gb630) := ⟨h21_⟩
                 have n22_ : Aside0 (Below w.heap.size w w135) := ⟨h22_⟩
                 clear HO_23
                 clear BK600
                 clear BK610
                 clear BK619
                 clear BK620
                 clear BK625
                 clear BK630
                 clear HB
                 clear h0_ h1_ h2_ h3_ h4_ h5_ h6_ h7_ h8_ h9_ h10_ h11_ h12_ h13_ h14_ h15_ h16_ h17_ h18_ h19_ h20_ h21_ h22_
                 have HO_23 := n0_
                 have BK600 := n1_
                 have BK610 := n2_
                 have BK619 := n3_
                 have BK620 := n4_
                 have BK625 := n5_
                 have BK630 := n6_
                 have BK644 := n7_
                 have GW644 := n8_
                 have GE644 := n9_
                 have NB600_644 := n10_
                 have NB644_600 := n11_
                 have NB610_644 := n12_
                 have NB644_610 := n13_
                 have NB619_644 := n14_
                 have NB644_619 := n15_
                 have NB620_644 := n16_
                 have NB644_620 := n17_
                 have NB625_644 := n18_
                 have NB644_625 := n19_
                 have NB630_644 := n20_
                 have NB644_630 := n21_
                 have HB := n22_
                 clear n0_ n1_ n2_ n3_ n4_ n5_ n6_ n7_ n8_ n9_ n10_ n11_ n12_ n13_ n14_ n15_ n16_ n17_ n18_ n19_ n20_ n21_ n22_
                 have hHeld : w135.cell? ⟨gb600, 0, none⟩ = some (.int .i64 t598) ∧ w135.cell? ⟨gb600, 1, none⟩ = some (.int .i64 t599) ∧ w135.cell? (ad640.add ((x25_3).toNat * 4)) = some (.int .i64 ((rd_T51 t636 x25_3).f0)) ∧ w135.cell? ⟨(ad640.add ((x25_3).toNat * 4)).block, (ad640.add ((x25_3).toNat * 4)).off + 1, none⟩ = some (.int .i64 ((rd_T51 t636 x25_3).f1)) ∧ w135.cell? ⟨(ad640.add ((x25_3).toNat * 4)).block, (ad640.add ((x25_3).toNat * 4)).off + 2, none⟩ = some (.int .i64 ((rd_T51 t636 x25_3).f2)) ∧ w135.cell? ⟨(ad640.add ((x25_3).toNat * 4)).block, (ad640.add ((x25_3).toNat * 4)).off + 3, none⟩ = some (.int .i64 ((rd_T51 t636 x25_3).f3)) := hS_
                 refine norm_ (a' := ?_) ?_ ?_
                 rotate_left
                 ·simp only [putAll, Act.put, List.setIfInBounds_toArray, List.set_cons_zero, List.set_cons_succ]
                  rfl
                 refine oU 10 none 2047 HT_ (fun K hK => ?_)
                 have hs136 : w135.cell? ⟨gb644, 0, none⟩ = some (.int .i64 0) := cB BK644
                 have hfs136 := blk_frozen BK644.out 0
                 have hns136_0 := NB600_644.out
                 have hns136_1 := NB610_644.out
                 have hns136_2 := NB619_644.out
                 have hns136_3 := NB620_644.out
                 have hns136_4 := NB625_644.out
                 have hns136_5 := NB630_644.out
                 have hms136_0 := NB644_600.out
                 have hms136_1 := NB644_610.out
                 have hms136_2 := NB644_619.out
                 have hms136_3 := NB644_620.out
                 have hms136_4 := NB644_625.out
                 have hms136_5 := NB644_630.out
                 have hs137 : w135.cell? ⟨gb644, 1, none⟩ = some (.int .i64 0) := cB BK644
                 have hfs137 := blk_frozen BK644.out 1
                 have hns137_0 := NB600_644.out
                 have hns137_1 := NB610_644.out
                 have hns137_2 := NB619_644.out
                 have hns137_3 := NB620_644.out
                 have hns137_4 := NB625_644.out
                 have hns137_5 := NB630_644.out
                 have hms137_0 := NB644_600.out
                 have hms137_1 := NB644_610.out
                 have hms137_2 := NB644_619.out
                 have hms137_3 := NB644_620.out
                 have hms137_4 := NB644_625.out
                 have hms137_5 := NB644_630.out
                 refine skip_ (w1 := ?_) (by rfl) rfl ?_ ?_
                 rotate_left
                 ·go_simp
                  rfl
                 refine hK.out _ _ ⟨((cell_far (p := ⟨gb644, _, none⟩) NB600_644.out _).trans (((cell_far (p := ⟨gb644, _, none⟩) NB600_644.out _).trans (hHeld.1)))), ((cell_far (p := ⟨gb644, _, none⟩) NB600_644.out _).trans (((cell_far (p := ⟨gb644, _, none⟩) NB600_644.out _).trans (hHeld.2.1)))), ((cell_far (p := ⟨gb644, _, none⟩) (by first | exact Kd.own_blk (Kd.R_ne HO_23.out BK644.out (by decide)) | (rw [add_block]; exact Kd.own_blk (Kd.R_ne HO_23.out BK644.out (by decide))) | (show (Addr.add _ _).block ≠ _; rw [add_block]; exact Kd.own_blk (Kd.R_ne HO_23.out BK644.out (by decide))) | (dsimp only; exact Kd.own_blk (Kd.R_ne HO_23.out BK644.out (by decide)))) _).trans (((cell_far (p := ⟨gb644, _, none⟩) (by first | exact Kd.own_blk (Kd.R_ne HO_23.out BK644.out (by decide)) | (rw [add_block]; exact Kd.own_blk (Kd.R_ne HO_23.out BK644.out (by decide))) | (show (Addr.add _ _).block ≠ _; rw [add_block]; exact Kd.own_blk (Kd.R_ne HO_23.out BK644.out (by decide))) | (dsimp only; exact Kd.own_blk (Kd.R_ne HO_23.out BK644.out (by decide)))) _).trans (hHeld.2.2.1)))), ((cell_far (p := ⟨gb644, _, none⟩) (by first | exact Kd.own_blk (Kd.R_ne HO_23.out BK644.out (by decide)) | (rw [add_block]; exact Kd.own_blk (Kd.R_ne HO_23.out BK644.out (by decide))) | (show (Addr.add _ _).block ≠ _; rw [add_block]; exact Kd.own_blk (Kd.R_ne HO_23.out BK644.out (by decide))) | (dsimp only; exact Kd.own_blk (Kd.R_ne HO_23.out BK644.out (by decide)))) _).trans (((cell_far (p := ⟨gb644, _, none⟩) (by first | exact Kd.own_blk (Kd.R_ne HO_23.out BK644.out (by decide)) | (rw [add_block]; exact Kd.own_blk (Kd.R_ne HO_23.out BK644.out (by decide))) | (show (Addr.add _ _).block ≠ _; rw [add_block]; exact Kd.own_blk (Kd.R_ne HO_23.out BK644.out (by decide))) | (dsimp only; exact Kd.own_blk (Kd.R_ne HO_23.out BK644.out (by decide)))) _).trans (hHeld.2.2.2.1)))), ((cell_far (p := ⟨gb644, _, none⟩) (by first | exact Kd.own_blk (Kd.R_ne HO_23.out BK644.out (by decide)) | (rw [add_block]; exact Kd.own_blk (Kd.R_ne HO_23.out BK644.out (by decide))) | (show (Addr.add _ _).block ≠ _; rw [add_block]; exact Kd.own_blk (Kd.R_ne HO_23.out BK644.out (by decide))) | (dsimp only; exact Kd.own_blk (Kd.R_ne HO_23.out BK644.out (by decide)))) _).trans (((cell_far (p := ⟨gb644, _, none⟩) (by first | exact Kd.own_blk (Kd.R_ne HO_23.out BK644.out (by decide)) | (rw [add_block]; exact Kd.own_blk (Kd.R_ne HO_23.out BK644.out (by decide))) | (show (Addr.add _ _).block ≠ _; rw [add_block]; exact Kd.own_blk (Kd.R_ne HO_23.out BK644.out (by decide))) | (dsimp only; exact Kd.own_blk (Kd.R_ne HO_23.out BK644.out (by decide)))) _).trans (hHeld.2.2.2.2.1)))), ((cell_far (p := ⟨gb644, _, none⟩) (by first | exact Kd.own_blk (Kd.R_ne HO_23.out BK644.out (by decide)) | (rw [add_block]; exact Kd.own_blk (Kd.R_ne HO_23.out BK644.out (by decide))) | (show (Addr.add _ _).block ≠ _; rw [add_block]; exact Kd.own_blk (Kd.R_ne HO_23.out BK644.out (by decide))) | (dsimp only; exact Kd.own_blk (Kd.R_ne HO_23.out BK644.out (by decide)))) _).trans (((cell_far (p := ⟨gb644, _, none⟩) (by first | exact Kd.own_blk (Kd.R_ne HO_23.out BK644.out (by decide)) | (rw [add_block]; exact Kd.own_blk (Kd.R_ne HO_23.out BK644.out (by decide))) | (show (Addr.add _ _).block ≠ _; rw [add_block]; exact Kd.own_blk (Kd.R_ne HO_23.out BK644.out (by decide))) | (dsimp only; exact Kd.own_blk (Kd.R_ne HO_23.out BK644.out (by decide)))) _).trans (hHeld.2.2.2.2.2))))⟩ (fun hHeld => ?_)
                 clear hK K
                 refine pU 11 (some 27) 4095 HT_ ?_
                 refine dN HT_ ?_
                 have hnb138 := NB644_600.out
                 have hnc138 := NB600_644.out
                 have hnb139 := NB644_610.out
                 have hnc139 := NB610_644.out
                 have hnb140 := NB644_619.out
                 have hnc140 := NB619_644.out
                 have hnb141 := NB644_620.out
                 have hnc141 := NB620_644.out
                 have hnb142 := NB644_625.out
                 have hnc142 := NB625_644.out
                 have hnb143 := NB644_630.out
                 have hnc143 := NB630_644.out
                 obtain ⟨hcz144_0, hcz144_1⟩ := z2 BK644
                 obtain ⟨hfz144_0, hfz144_1⟩ := y2 BK644
                 try go_wp2_with (first | ((with_reducible refine gC (f:=26) rfl ?_); refine gM 175 (impl_NormOf.calls t597 t641 t642 t645 t646 _ A128.out) Try.func26 ?_; rintro w145 hb; replace HO_23 := aM (Kd.R_below (by (with_reducible repeat (first | apply Kd.R_alloc | apply Kd.R_drewN | apply Kd.R_drew)); exact (Kd.R_mono (Kd.R_far (p := ⟨gb644, 1, none⟩) (Kd.R_far (p := ⟨gb644, 0, none⟩) (Kd.R_types HO_23.out BK644.out (by decide)) (fun _ hk => hk.2) (.int .i64 t641)) (fun _ hk => hk.2) (.int .i64 t642)) (fun _ h_ => h_.1))) hb); replace BK600 := bF BK600 hb; replace BK610 := bF BK610 hb; replace BK619 := bF BK619 hb; replace BK620 := bF BK620 hb; replace BK625 := bF BK625 hb; replace BK630 := bF BK630 hb; replace BK644 := bW (.cells #[.int .i64 t641, .int .i64 t642] 47 (0, 0)) BK644 hb; replace HB := bS HB hb; (try clear hb)))
                 go_roundg k3
                 case measure => have := HJ13.out; have := HJ105.out; have := HK3.out; omega
                 case rel => exact ⟨(wrap64 (x25_3 + 1)), (by first | rfl | (simp; done) | (simp [*]; done)), H', ⟨by have := HJ13.out; have := HJ105.out; have := HK3.out; omega⟩, ⟨by (with_reducible repeat (first | apply Kd.R_alloc | apply Kd.R_drewN | apply Kd.R_drew)); exact HO_23.out⟩, ⟨bk BK600⟩, ⟨bk BK610⟩, ⟨bk BK619⟩, ⟨bk BK620⟩, ⟨bk BK625⟩, ⟨bk BK630⟩, ⟨qB⟩⟩
                ·rw [if_neg c130] at H
                 have c130b0 : (t645 == t601) = false := beq_eq_false_iff_ne.mpr c130
                 have c130b1 : (t645 != t601) = true := bne_iff_ne.mpr c130
                 exact absurd (Option.some.inj H) (by decide)
               ·rw [if_neg c129] at H
                have c129b0 : (t646 == 0) = false := beq_eq_false_iff_ne.mpr c129
                have c129b1 : (t646 != 0) = true := bne_iff_ne.mpr c129
                exact absurd (Option.some.inj H) (by decide)
              ·rw [if_neg c127] at H
               have c127b0 : (t643 == 0) = false := beq_eq_false_iff_ne.mpr c127
               have c127b1 : (t643 != 0) = true := bne_iff_ne.mpr c127
               have H' := aM H
               clear H
               obtain ⟨Ao176, co176, eo176⟩ := Kd.R_slice HO_23.out
               subst eo176
               try go_wp2
               replace HO_23 := aM (Kd.R_drew HO_23.out)
               replace BK600 := aM (blk_drew BK600.out)
               replace BK610 := aM (blk_drew BK610.out)
               replace BK619 := aM (blk_drew BK619.out)
               replace BK620 := aM (blk_drew BK620.out)
               replace BK625 := aM (blk_drew BK625.out)
               replace BK630 := aM (blk_drew BK630.out)
               replace HB := aM (below_drew1 HB.out)
               have p640 : 0 ≤ (x25_3 : Int) := of_decide_eq_true (by first | (with_reducible assumption) | assumption)
               have q640 : x25_3 < (t636.length : Int) := of_decide_eq_true (by first | (with_reducible assumption) | assumption)
               obtain ⟨ad640, e640, hx640_0, hx640_1, hx640_2, hx640_3⟩ := at_T51 (Kd.R_reads' HO_23.out).2.2 x25_3 p640 q640
               cases e640
               replace p640 := eq_true p640
               replace q640 := eq_true q640
               refine sT (fun w' => w'.cell? ⟨gb600, 0, none⟩ = some (.int .i64 t598) ∧ w'.cell? ⟨gb600, 1, none⟩ = some (.int .i64 t599) ∧ w'.cell? (ad640.add ((x25_3).toNat * 4)) = some (.int .i64 ((rd_T51 t636 x25_3).f0)) ∧ w'.cell? ⟨(ad640.add ((x25_3).toNat * 4)).block, (ad640.add ((x25_3).toNat * 4)).off + 1, none⟩ = some (.int .i64 ((rd_T51 t636 x25_3).f1)) ∧ w'.cell? ⟨(ad640.add ((x25_3).toNat * 4)).block, (ad640.add ((x25_3).toNat * 4)).off + 2, none⟩ = some (.int .i64 ((rd_T51 t636 x25_3).f2)) ∧ w'.cell? ⟨(ad640.add ((x25_3).toNat * 4)).block, (ad640.add ((x25_3).toNat * 4)).off + 3, none⟩ = some (.int .i64 ((rd_T51 t636 x25_3).f3))) [] ⟨cB BK600, cB BK600, hx640_0, hx640_1, hx640_2, hx640_3⟩ (fun hHeld => ?_); refine with_tabW laws_FnPointMats.tab25 laws_FnPointMats.bits25 (fun HT_ HW_ => ?_)
               generalize wr.drew = w177 at HO_23 BK600 BK610 BK619 BK620 BK625 BK630 HB hx640_0 hx640_1 hx640_2 hx640_3 hHeld ⊢
               refine pU 0 (some 162) 1 HT_ ?_
               refine pU 1 (some 163) 3 HT_ ?_
               refine pU 2 (some 164) 7 HT_ ?_
               refine tU 3 (some 165) 15 HT_ HW_ hHeld ?_
               refine tU 4 (some 166) 31 HT_ HW_ hHeld ?_
               refine join_ (σ := Nat) 2 (bz 12 1023) (fun s_ => [(167, .tuple #[.agg #[.int .i64 t641, .int .i64 t642], .int .i64 t643]), (26, .pointer (some ⟨s_, 0, none⟩)), (161, .tuple #[.agg #[.int .i64 t641, .int .i64 t642], .int .i64 t643]), (168, .agg #[.int .i64 t641, .int .i64 t642]), (169, .int .i64 t643)]) (fun s_ w' => (w'.cell? ⟨gb600, 0, none⟩ = some (.int .i64 t598) ∧ w'.cell? ⟨gb600, 1, none⟩ = some (.int .i64 t599) ∧ w'.cell? (ad640.add ((x25_3).toNat * 4)) = some (.int .i64 ((rd_T51 t636 x25_3).f0)) ∧ w'.cell? ⟨(ad640.add ((x25_3).toNat * 4)).block, (ad640.add ((x25_3).toNat * 4)).off + 1, none⟩ = some (.int .i64 ((rd_T51 t636 x25_3).f1)) ∧ w'.cell? ⟨(ad640.add ((x25_3).toNat * 4)).block, (ad640.add ((x25_3).toNat * 4)).off + 2, none⟩ = some (.int .i64 ((rd_T51 t636 x25_3).f2)) ∧ w'.cell? ⟨(ad640.add ((x25_3).toNat * 4)).block, (ad640.add ((x25_3).toNat * 4)).off + 3, none⟩ = some (.int .i64 ((rd_T51 t636 x25_3).f3))) ∧ (Kd.R k51 51 w' w.heap.size (fun k_ => k_ ≠ gb610 ∧ k_ ≠ gb619) (.slice (some ad640) t636.length co176) t636) ∧ (w'.heap[gb600]? = some (.cells #[.int .i64 t598, .int .i64 t599] 47 (0, 0))) ∧ (w'.heap[gb610]? = some (.cells #[.int .i64 t606, .int .i64 t607, .int .i64 t608, .int .i64 t609] 51 (0, 0))) ∧ (w'.heap[gb619]? = some (.cells #[.int .i64 t612, .int .i64 t613, .int .i64 t614, .int .i64 t615] 51 (0, 0))) ∧ (w'.heap[gb620]? = some (.cells #[.int .i64 t616, .int .i64 t617, .int .i64 t618] 33 (0, 0))) ∧ (w'.heap[gb625]? = some (.cells #[.int .i64 t621, .int .i64 t622, .int .i64 t623] 33 (0, 0))) ∧ (w'.heap[gb630]? = some (.cells #[.int .i64 t626, .int .i64 t627, .int .i64 t628] 33 (0, 0))) ∧ (w'.heap[s_]? = some (.cells #[.int .i64 0, .int .i64 0] 47 (0, 0))) ∧ (w.heap.size ≤ s_) ∧ (w.heap.size ≤ s_) ∧ (gb600 ≠ s_) ∧ (s_ ≠ gb600) ∧ (gb610 ≠ s_) ∧ (s_ ≠ gb610) ∧ (gb619 ≠ s_) ∧ (s_ ≠ gb619) ∧ (gb620 ≠ s_) ∧ (s_ ≠ gb620) ∧ (gb625 ≠ s_) ∧ (s_ ≠ gb625) ∧ (gb630 ≠ s_) ∧ (s_ ≠ gb630) ∧ (Below w.heap.size w w')) ?_ ?_
               rotate_left
               ·intro hCont
                refine two_ (i := 5) (j := 9) (Ni := some 167) (Nj := some 26) (bz 12 63) (bz 12 543) rfl rfl rfl rfl (two_of HT_.out (by kernel_rfl)) (by decide) (by decide) (fun K hK => ?_) (fun K hK => ?_)
                ·skip
                 refine gO Try.func35 #[.agg #[.int .i64 ((rd_T51 t636 x25_3).f0), .int .i64 ((rd_T51 t636 x25_3).f1), .int .i64 ((rd_T51 t636 x25_3).f2), .int .i64 ((rd_T51 t636 x25_3).f3)], .agg #[.int .i64 t598, .int .i64 t599]] ?_
                 with_reducible refine (impl_ApplyMat.calls k3 ((rd_T51 t636 x25_3).f0) ((rd_T51 t636 x25_3).f1) ((rd_T51 t636 x25_3).f2) ((rd_T51 t636 x25_3).f3) t598 t599 t641 t642 t643 _ A126.out).mono ?_
                 rintro e w178 ⟨rfl, hb⟩
                 have HS2_ := (hb.cell (World.block_lt_of_cell? _ _ (hHeld.2.2.1))).trans (hHeld.2.2.1)
                 have HS3_ := (hb.cell (World.block_lt_of_cell? _ _ (hHeld.2.2.2.1))).trans (hHeld.2.2.2.1)
                 have HS4_ := (hb.cell (World.block_lt_of_cell? _ _ (hHeld.2.2.2.2.1))).trans (hHeld.2.2.2.2.1)
                 have HS5_ := (hb.cell (World.block_lt_of_cell? _ _ (hHeld.2.2.2.2.2))).trans (hHeld.2.2.2.2.2)
                 refine ⟨_, rfl, ?_⟩
                 have n0_ := aM (Kd.R_below (by (with_reducible repeat (first | apply Kd.R_alloc | apply Kd.R_drewN | apply Kd.R_drew)); exact HO_23.out) hb)
                 have n1_ := bB BK600 hb
                 have n2_ := bB BK610 hb
                 have n3_ := bB BK619 hb
                 have n4_ := bB BK620 hb
                 have n5_ := bB BK625 hb
                 have n6_ := bB BK630 hb
                 have n7_ := bS HB hb
                 clear HO_23
                 clear BK600
                 clear BK610
                 clear BK619
                 clear BK620
                 clear BK625
                 clear BK630
                 clear HB
                 have HO_23 := n0_
                 have BK600 := n1_
                 have BK610 := n2_
                 have BK619 := n3_
                 have BK620 := n4_
                 have BK625 := n5_
                 have BK630 := n6_
                 have HB := n7_
                 clear n0_ n1_ n2_ n3_ n4_ n5_ n6_ n7_
                 (try clear hb)
                 (try clear hb2)
                 (try clear hk)
                 (try clear hi)
                 refine hK.out _ _ ⟨cB BK600, cB BK600, HS2_, HS3_, HS4_, HS5_⟩ (fun hHeld => ?_)
                 clear hK K
                 refine nM 167 ?_
                 refine pU 6 (some 161) 127 HT_ ?_
                 refine pU 7 (some 168) 255 HT_ ?_
                 refine pU 8 (some 169) 511 HT_ ?_
                 refine oU 9 (some 26) 1023 HT_ (fun K hK => ?_)
                 refine xS 26 #[.int .i64 0, .int .i64 0] 47 ?_
                 intro gb644 hg w179 hbox hb
                 have HS2_ := (hb.cell (World.block_lt_of_cell? _ _ (hHeld.2.2.1))).trans (hHeld.2.2.1)
                 have HS3_ := (hb.cell (World.block_lt_of_cell? _ _ (hHeld.2.2.2.1))).trans (hHeld.2.2.2.1)
                 have HS4_ := (hb.cell (World.block_lt_of_cell? _ _ (hHeld.2.2.2.2.1))).trans (hHeld.2.2.2.2.1)
                 have HS5_ := (hb.cell (World.block_lt_of_cell? _ _ (hHeld.2.2.2.2.2))).trans (hHeld.2.2.2.2.2)
                 have n0_ := aM (Kd.R_below (by (with_reducible repeat (first | apply Kd.R_alloc | apply Kd.R_drewN | apply Kd.R_drew)); exact HO_23.out) hb)
                 have n1_ := bB BK600 hb
                 have n2_ := bB BK610 hb
                 have n3_ := bB BK619 hb
                 have n4_ := bB BK620 hb
                 have n5_ := bB BK625 hb
                 have n6_ := bB BK630 hb
                 have n7_ := bS HB hb
                 have n8_ := aM hbox
                 have n9_ := bZ hg HB
                 have n10_ := bZ hg HB
                 have n11_ := nL hg BK600
                 have n12_ := nG hg BK600
                 have n13_ := nL hg BK610
                 have n14_ := nG hg BK610
                 have n15_ := nL hg BK619
                 have n16_ := nG hg BK619
                 have n17_ := nL hg BK620
                 have n18_ := nG hg BK620
                 have n19_ := nL hg BK625
                 have n20_ := nG hg BK625
                 have n21_ := nL hg BK630
                 have n22_ := nG hg BK630
                 clear HO_23
                 clear BK600
                 clear BK610
                 clear BK619
                 clear BK620
                 clear BK625
                 clear BK630
                 clear HB
                 have HO_23 := n0_
                 have BK600 := n1_
                 have BK610 := n2_
                 have BK619 := n3_
                 have BK620 := n4_
                 have BK625 := n5_
                 have BK630 := n6_
                 have HB := n7_
                 have BK644 := n8_
                 have GW644 := n9_
                 have GE644 := n10_
                 have NB600_644 := n11_
                 have NB644_600 := n12_
                 have NB610_644 := n13_
                 have NB644_610 := n14_
                 have NB619_644 := n15_
                 have NB644_619 := n16_
                 have NB620_644 := n17_
                 have NB644_620 := n18_
                 have NB625_644 := n19_
                 have NB644_625 := n20_
                 have NB630_644 := n21_
                 have NB644_630 := n22_
                 clear n0_ n1_ n2_ n3_ n4_ n5_ n6_ n7_ n8_ n9_ n10_ n11_ n12_ n13_ n14_ n15_ n16_ n17_ n18_ n19_ n20_ n21_ n22_
                 clear hb hbox hg
                 refine hK.out _ _ ⟨cB BK600, cB BK600, HS2_, HS3_, HS4_, HS5_⟩ (fun hHeld => ?_)
                 clear hK K
                 refine nM 26 ?_
                 exact norm_ (by simp only [putAll, Act.put, List.setIfInBounds_toArray, List.set_cons_zero, List.set_cons_succ]) (hCont (gb644) _ ⟨hHeld, (by (with_reducible repeat (first | apply Kd.R_alloc | apply Kd.R_drewN | apply Kd.R_drew)); exact HO_23.out), (bk BK600), (bk BK610), (bk BK619), (bk BK620), (bk BK625), (bk BK630), (bk BK644), GW644.out, GE644.out, NB600_644.out, NB644_600.out, NB610_644.out, NB644_610.out, NB619_644.out, NB644_619.out, NB620_644.out, NB644_620.out, NB625_644.out, NB644_625.out, NB630_644.out, NB644_630.out, qB⟩)
                ·skip
                 refine xS 26 #[.int .i64 0, .int .i64 0] 47 ?_
                 intro gb644 hg w178 hbox hb
                 have HS2_ := (hb.cell (World.block_lt_of_cell? _ _ (hHeld.2.2.1))).trans (hHeld.2.2.1)
                 have HS3_ := (hb.cell (World.block_lt_of_cell? _ _ (hHeld.2.2.2.1))).trans (hHeld.2.2.2.1)
                 have HS4_ := (hb.cell (World.block_lt_of_cell? _ _ (hHeld.2.2.2.2.1))).trans (hHeld.2.2.2.2.1)
                 have HS5_ := (hb.cell (World.block_lt_of_cell? _ _ (hHeld.2.2.2.2.2))).trans (hHeld.2.2.2.2.2)
                 have n0_ := aM (Kd.R_below (by (with_reducible repeat (first | apply Kd.R_alloc | apply Kd.R_drewN | apply Kd.R_drew)); exact HO_23.out) hb)
                 have n1_ := bB BK600 hb
                 have n2_ := bB BK610 hb
                 have n3_ := bB BK619 hb
                 have n4_ := bB BK620 hb
                 have n5_ := bB BK625 hb
                 have n6_ := bB BK630 hb
                 have n7_ := bS HB hb
                 have n8_ := aM hbox
                 have n9_ := bZ hg HB
                 have n10_ := bZ hg HB
                 have n11_ := nL hg BK600
                 have n12_ := nG hg BK600
                 have n13_ := nL hg BK610
                 have n14_ := nG hg BK610
                 have n15_ := nL hg BK619
                 have n16_ := nG hg BK619
                 have n17_ := nL hg BK620
                 have n18_ := nG hg BK620
                 have n19_ := nL hg BK625
                 have n20_ := nG hg BK625
                 have n21_ := nL hg BK630
                 have n22_ := nG hg BK630
                 clear HO_23
                 clear BK600
                 clear BK610
                 clear BK619
                 clear BK620
                 clear BK625
                 clear BK630
                 clear HB
                 have HO_23 := n0_
                 have BK600 := n1_
                 have BK610 := n2_
                 have BK619 := n3_
                 have BK620 := n4_
                 have BK625 := n5_
                 have BK630 := n6_
                 have HB := n7_
                 have BK644 := n8_
                 have GW644 := n9_
                 have GE644 := n10_
                 have NB600_644 := n11_
                 have NB644_600 := n12_
                 have NB610_644 := n13_
                 have NB644_610 := n14_
                 have NB619_644 := n15_
                 have NB644_619 := n16_
                 have NB620_644 := n17_
                 have NB644_620 := n18_
                 have NB625_644 := n19_
                 have NB644_625 := n20_
                 have NB630_644 := n21_
                 have NB644_630 := n22_
                 clear n0_ n1_ n2_ n3_ n4_ n5_ n6_ n7_ n8_ n9_ n10_ n11_ n12_ n13_ n14_ n15_ n16_ n17_ n18_ n19_ n20_ n21_ n22_
                 clear hb hbox hg
                 refine hK.out _ _ ⟨cB BK600, cB BK600, HS2_, HS3_, HS4_, HS5_⟩ (fun hHeld => ?_)
                 clear hK K
                 refine nM 26 ?_
                 refine oU 5 (some 167) 575 HT_ (fun K hK => ?_)
                 refine gO Try.func35 #[.agg #[.int .i64 ((rd_T51 t636 x25_3).f0), .int .i64 ((rd_T51 t636 x25_3).f1), .int .i64 ((rd_T51 t636 x25_3).f2), .int .i64 ((rd_T51 t636 x25_3).f3)], .agg #[.int .i64 t598, .int .i64 t599]] ?_
                 with_reducible refine (impl_ApplyMat.calls k3 ((rd_T51 t636 x25_3).f0) ((rd_T51 t636 x25_3).f1) ((rd_T51 t636 x25_3).f2) ((rd_T51 t636 x25_3).f3) t598 t599 t641 t642 t643 _ A126.out).mono ?_
                 rintro e w179 ⟨rfl, hb⟩
                 have HS2_ := (hb.cell (World.block_lt_of_cell? _ _ (hHeld.2.2.1))).trans (hHeld.2.2.1)
                 have HS3_ := (hb.cell (World.block_lt_of_cell? _ _ (hHeld.2.2.2.1))).trans (hHeld.2.2.2.1)
                 have HS4_ := (hb.cell (World.block_lt_of_cell? _ _ (hHeld.2.2.2.2.1))).trans (hHeld.2.2.2.2.1)
                 have HS5_ := (hb.cell (World.block_lt_of_cell? _ _ (hHeld.2.2.2.2.2))).trans (hHeld.2.2.2.2.2)
                 refine ⟨_, rfl, ?_⟩
                 have n0_ := aM (Kd.R_below (by (with_reducible repeat (first | apply Kd.R_alloc | apply Kd.R_drewN | apply Kd.R_drew)); exact HO_23.out) hb)
                 have n1_ := bB BK600 hb
                 have n2_ := bB BK610 hb
                 have n3_ := bB BK619 hb
                 have n4_ := bB BK620 hb
                 have n5_ := bB BK625 hb
                 have n6_ := bB BK630 hb
                 have n7_ := bB BK644 hb
                 have n8_ := bS HB hb
                 clear HO_23
                 clear BK600
                 clear BK610
                 clear BK619
                 clear BK620
                 clear BK625
                 clear BK630
                 clear BK644
                 clear HB
                 have HO_23 := n0_
                 have BK600 := n1_
                 have BK610 := n2_
                 have BK619 := n3_
                 have BK620 := n4_
                 have BK625 := n5_
                 have BK630 := n6_
                 have BK644 := n7_
                 have HB := n8_
                 clear n0_ n1_ n2_ n3_ n4_ n5_ n6_ n7_ n8_
                 (try clear hb)
                 (try clear hb2)
                 (try clear hk)
                 (try clear hi)
                 refine hK.out _ _ ⟨cB BK600, cB BK600, HS2_, HS3_, HS4_, HS5_⟩ (fun hHeld => ?_)
                 clear hK K
                 refine nM 167 ?_
                 refine pU 6 (some 161) 639 HT_ ?_
                 refine pU 7 (some 168) 767 HT_ ?_
                 refine pU 8 (some 169) 1023 HT_ ?_
                 exact norm_ (by simp only [putAll, Act.put, List.setIfInBounds_toArray, List.set_cons_zero, List.set_cons_succ]) (hCont (gb644) _ ⟨hHeld, (by (with_reducible repeat (first | apply Kd.R_alloc | apply Kd.R_drewN | apply Kd.R_drew)); exact HO_23.out), (bk BK600), (bk BK610), (bk BK619), (bk BK620), (bk BK625), (bk BK630), (bk BK644), GW644.out, GE644.out, NB600_644.out, NB644_600.out, NB610_644.out, NB644_610.out, NB619_644.out, NB644_619.out, NB620_644.out, NB644_620.out, NB625_644.out, NB644_625.out, NB630_644.out, NB644_630.out, qB⟩)
               rintro gb644 w180 ⟨hS_, h0_, h1_, h2_, h3_, h4_, h5_, h6_, h7_, h8_, h9_, h10_, h11_, h12_, h13_, h14_, h15_, h16_, h17_, h18_, h19_, h20_, h21_, h22_⟩
               have n0_ : Aside0 (Kd.R k51 51 w180 w.heap.size (fun k_ => k_ ≠ gb610 ∧ k_ ≠ gb619) (.slice (some ad640) t636.length co176) t636) := ⟨h0_⟩
               have n1_ : Aside0 (w180.heap[gb600]? = some (.cells #[.int .i64 t598, .int .i64 t599] 47 (0, 0))) := ⟨h1_⟩
               have n2_ : Aside0 (w180.heap[gb610]? = some (.cells #[.int .i64 t606, .int .i64 t607, .int .i64 t608, .int .i64 t609] 51 (0, 0))) := ⟨h2_⟩
               have n3_ : Aside0 (w180.heap[gb619]? = some (.cells #[.int .i64 t612, .int .i64 t613, .int .i64 t614, .int .i64 t615] 51 (0, 0))) := ⟨h3_⟩
               have n4_ : Aside0 (w180.heap[gb620]? = some (.cells #[.int .i64 t616, .int .i64 t617, .int .i64 t618] 33 (0, 0))) := ⟨h4_⟩
               have n5_ : Aside0 (w180.heap[gb625]? = some (.cells #[.int .i64 t621, .int .i64 t622, .int .i64 t623] 33 (0, 0))) := ⟨h5_⟩
               have n6_ : Aside0 (w180.heap[gb630]? = some (.cells #[.int .i64 t626, .int .i64 t627, .int .i64 t628] 33 (0, 0))) := ⟨h6_⟩
               have n7_ : Aside0 (w180.heap[gb644]? = some (.cells #[.int .i64 0, .int .i64 0] 47 (0, 0))) := ⟨h7_⟩
               have n8_ : Aside0 (w.heap.size ≤ gb644) := ⟨h8_⟩
               have n9_ : Aside0 (w.heap.size ≤ gb644) := ⟨h9_⟩
               have n10_ : Aside0 (gb600 ≠ gb644) := ⟨h10_⟩
               have n11_ : Aside0 (gb644 ≠ gb600) := ⟨h11_⟩
               have n12_ : Aside0 (gb610 ≠ gb644) := ⟨h12_⟩
               have n13_ : Aside0 (gb644 ≠ gb610) := ⟨h13_⟩
               have n14_ : Aside0 (gb619 ≠ gb644) := ⟨h14_⟩
               have n15_ : Aside0 (gb644 ≠ gb619) := ⟨h15_⟩
               have n16_ : Aside0 (gb620 ≠ gb644) := ⟨h16_⟩
               have n17_ : Aside0 (gb644 ≠ gb620) := ⟨h17_⟩
               have n18_ : Aside0 (gb625 ≠ gb644) := ⟨h18_⟩
               have n19_ : Aside0 (gb644 ≠ gb625) := ⟨h19_⟩
               have n20_ : Aside0 (gb630 ≠ gb644) := ⟨h20_⟩
               have n21_ : Aside0 (gb644 ≠ gb630) := ⟨h21_⟩
               have n22_ : Aside0 (Below w.heap.size w w180) := ⟨h22_⟩
               clear HO_23
               clear BK600
               clear BK610
               clear BK619
               clear BK620
               clear BK625
               clear BK630
               clear HB
               clear h0_ h1_ h2_ h3_ h4_ h5_ h6_ h7_ h8_ h9_ h10_ h11_ h12_ h13_ h14_ h15_ h16_ h17_ h18_ h19_ h20_ h21_ h22_
               have HO_23 := n0_
               have BK600 := n1_
               have BK610 := n2_
               have BK619 := n3_
               have BK620 := n4_
               have BK625 := n5_
               have BK630 := n6_
               have BK644 := n7_
               have GW644 := n8_
               have GE644 := n9_
               have NB600_644 := n10_
               have NB644_600 := n11_
               have NB610_644 := n12_
               have NB644_610 := n13_
               have NB619_644 := n14_
               have NB644_619 := n15_
               have NB620_644 := n16_
               have NB644_620 := n17_
               have NB625_644 := n18_
               have NB644_625 := n19_
               have NB630_644 := n20_
               have NB644_630 := n21_
               have HB := n22_
               clear n0_ n1_ n2_ n3_ n4_ n5_ n6_ n7_ n8_ n9_ n10_ n11_ n12_ n13_ n14_ n15_ n16_ n17_ n18_ n19_ n20_ n21_ n22_
               have hHeld : w180.cell? ⟨gb600, 0, none⟩ = some (.int .i64 t598) ∧ w180.cell? ⟨gb600, 1, none⟩ = some (.int .i64 t599) ∧ w180.cell? (ad640.add ((x25_3).toNat * 4)) = some (.int .i64 ((rd_T51 t636 x25_3).f0)) ∧ w180.cell? ⟨(ad640.add ((x25_3).toNat * 4)).block, (ad640.add ((x25_3).toNat * 4)).off + 1, none⟩ = some (.int .i64 ((rd_T51 t636 x25_3).f1)) ∧ w180.cell? ⟨(ad640.add ((x25_3).toNat * 4)).block, (ad640.add ((x25_3).toNat * 4)).off + 2, none⟩ = some (.int .i64 ((rd_T51 t636 x25_3).f2)) ∧ w180.cell? ⟨(ad640.add ((x25_3).toNat * 4)).block, (ad640.add ((x25_3).toNat * 4)).off + 3, none⟩ = some (.int .i64 ((rd_T51 t636 x25_3).f3)) := hS_
               refine norm_ (a' := ?_) ?_ ?_
               rotate_left
               ·simp only [putAll, Act.put, List.setIfInBounds_toArray, List.set_cons_zero, List.set_cons_succ]
                rfl
               refine oU 10 none 2047 HT_ (fun K hK => ?_)
               have hs181 : w180.cell? ⟨gb644, 0, none⟩ = some (.int .i64 0) := cB BK644
               have hfs181 := blk_frozen BK644.out 0
               have hns181_0 := NB600_644.out
               have hns181_1 := NB610_644.out
               have hns181_2 := NB619_644.out
               have hns181_3 := NB620_644.out
               have hns181_4 := NB625_644.out
               have hns181_5 := NB630_644.out
               have hms181_0 := NB644_600.out
               have hms181_1 := NB644_610.out
               have hms181_2 := NB644_619.out
               have hms181_3 := NB644_620.out
               have hms181_4 := NB644_625.out
               have hms181_5 := NB644_630.out
               have hs182 : w180.cell? ⟨gb644, 1, none⟩ = some (.int .i64 0) := cB BK644
               have hfs182 := blk_frozen BK644.out 1
               have hns182_0 := NB600_644.out
               have hns182_1 := NB610_644.out
               have hns182_2 := NB619_644.out
               have hns182_3 := NB620_644.out
               have hns182_4 := NB625_644.out
               have hns182_5 := NB630_644.out
               have hms182_0 := NB644_600.out
               have hms182_1 := NB644_610.out
               have hms182_2 := NB644_619.out
               have hms182_3 := NB644_620.out
               have hms182_4 := NB644_625.out
               have hms182_5 := NB644_630.out
               refine skip_ (w1 := ?_) (by rfl) rfl ?_ ?_
               rotate_left
               ·go_simp
                rfl
               refine hK.out _ _ ⟨((cell_far (p := ⟨gb644, _, none⟩) NB600_644.out _).trans (((cell_far (p := ⟨gb644, _, none⟩) NB600_644.out _).trans (hHeld.1)))), ((cell_far (p := ⟨gb644, _, none⟩) NB600_644.out _).trans (((cell_far (p := ⟨gb644, _, none⟩) NB600_644.out _).trans (hHeld.2.1)))), ((cell_far (p := ⟨gb644, _, none⟩) (by first | exact Kd.own_blk (Kd.R_ne HO_23.out BK644.out (by decide)) | (rw [add_block]; exact Kd.own_blk (Kd.R_ne HO_23.out BK644.out (by decide))) | (show (Addr.add _ _).block ≠ _; rw [add_block]; exact Kd.own_blk (Kd.R_ne HO_23.out BK644.out (by decide))) | (dsimp only; exact Kd.own_blk (Kd.R_ne HO_23.out BK644.out (by decide)))) _).trans (((cell_far (p := ⟨gb644, _, none⟩) (by first | exact Kd.own_blk (Kd.R_ne HO_23.out BK644.out (by decide)) | (rw [add_block]; exact Kd.own_blk (Kd.R_ne HO_23.out BK644.out (by decide))) | (show (Addr.add _ _).block ≠ _; rw [add_block]; exact Kd.own_blk (Kd.R_ne HO_23.out BK644.out (by decide))) | (dsimp only; exact Kd.own_blk (Kd.R_ne HO_23.out BK644.out (by decide)))) _).trans (hHeld.2.2.1)))), ((cell_far (p := ⟨gb644, _, none⟩) (by first | exact Kd.own_blk (Kd.R_ne HO_23.out BK644.out (by decide)) | (rw [add_block]; exact Kd.own_blk (Kd.R_ne HO_23.out BK644.out (by decide))) | (show (Addr.add _ _).block ≠ _; rw [add_block]; exact Kd.own_blk (Kd.R_ne HO_23.out BK644.out (by decide))) | (dsimp only; exact Kd.own_blk (Kd.R_ne HO_23.out BK644.out (by decide)))) _).trans (((cell_far (p := ⟨gb644, _, none⟩) (by first | exact Kd.own_blk (Kd.R_ne HO_23.out BK644.out (by decide)) | (rw [add_block]; exact Kd.own_blk (Kd.R_ne HO_23.out BK644.out (by decide))) | (show (Addr.add _ _).block ≠ _; rw [add_block]; exact Kd.own_blk (Kd.R_ne HO_23.out BK644.out (by decide))) | (dsimp only; exact Kd.own_blk (Kd.R_ne HO_23.out BK644.out (by decide)))) _).trans (hHeld.2.2.2.1)))), ((cell_far (p := ⟨gb644, _, none⟩) (by first | exact Kd.own_blk (Kd.R_ne HO_23.out BK644.out (by decide)) | (rw [add_block]; exact Kd.own_blk (Kd.R_ne HO_23.out BK644.out (by decide))) | (show (Addr.add _ _).block ≠ _; rw [add_block]; exact Kd.own_blk (Kd.R_ne HO_23.out BK644.out (by decide))) | (dsimp only; exact Kd.own_blk (Kd.R_ne HO_23.out BK644.out (by decide)))) _).trans (((cell_far (p := ⟨gb644, _, none⟩) (by first | exact Kd.own_blk (Kd.R_ne HO_23.out BK644.out (by decide)) | (rw [add_block]; exact Kd.own_blk (Kd.R_ne HO_23.out BK644.out (by decide))) | (show (Addr.add _ _).block ≠ _; rw [add_block]; exact Kd.own_blk (Kd.R_ne HO_23.out BK644.out (by decide))) | (dsimp only; exact Kd.own_blk (Kd.R_ne HO_23.out BK644.out (by decide)))) _).trans (hHeld.2.2.2.2.1)))), ((cell_far (p := ⟨gb644, _, none⟩) (by first | exact Kd.own_blk (Kd.R_ne HO_23.out BK644.out (by decide)) | (rw [add_block]; exact Kd.own_blk (Kd.R_ne HO_23.out BK644.out (by decide))) | (show (Addr.add _ _).block ≠ _; rw [add_block]; exact Kd.own_blk (Kd.R_ne HO_23.out BK644.out (by decide))) | (dsimp only; exact Kd.own_blk (Kd.R_ne HO_23.out BK644.out (by decide)))) _).trans (((cell_far (p := ⟨gb644, _, none⟩) (by first | exact Kd.own_blk (Kd.R_ne HO_23.out BK644.out (by decide)) | (rw [add_block]; exact Kd.own_blk (Kd.R_ne HO_23.out BK644.out (by decide))) | (show (Addr.add _ _).block ≠ _; rw [add_block]; exact Kd.own_blk (Kd.R_ne HO_23.out BK644.out (by decide))) | (dsimp only; exact Kd.own_blk (Kd.R_ne HO_23.out BK644.out (by decide)))) _).trans (hHeld.2.2.2.2.2))))⟩ (fun hHeld => ?_)
               clear hK K
               refine pU 11 (some 27) 4095 HT_ ?_
               refine dN HT_ ?_
               try go_wp2
               go_roundg k3
               case measure => have := HJ13.out; have := HJ105.out; have := HK3.out; omega
               case rel => exact ⟨(wrap64 (x25_3 + 1)), (by first | rfl | (simp; done) | (simp [*]; done)), H', ⟨by have := HJ13.out; have := HJ105.out; have := HK3.out; omega⟩, ⟨by (with_reducible repeat (first | apply Kd.R_alloc | apply Kd.R_drewN | apply Kd.R_drew)); exact Kd.R_mono (Kd.R_far (p := ⟨gb644, 1, none⟩) (Kd.R_far (p := ⟨gb644, 0, none⟩) (Kd.R_types HO_23.out BK644.out (by decide)) (fun _ hk => hk.2) (.int .i64 t641)) (fun _ hk => hk.2) (.int .i64 t642)) (fun _ hk => ⟨hk.1.1, hk.1.2⟩)⟩, ⟨by (repeat (first|(with_reducible first|apply kN|apply kD|apply kA)|refine blk_far ?_ NB600_644.out _)); exact BK600.out⟩, ⟨by (repeat (first|(with_reducible first|apply kN|apply kD|apply kA)|refine blk_far ?_ NB610_644.out _)); exact BK610.out⟩, ⟨by (repeat (first|(with_reducible first|apply kN|apply kD|apply kA)|refine blk_far ?_ NB619_644.out _)); exact BK619.out⟩, ⟨by (repeat (first|(with_reducible first|apply kN|apply kD|apply kA)|refine blk_far ?_ NB620_644.out _)); exact BK620.out⟩, ⟨by (repeat (first|(with_reducible first|apply kN|apply kD|apply kA)|refine blk_far ?_ NB625_644.out _)); exact BK625.out⟩, ⟨by (repeat (first|(with_reducible first|apply kN|apply kD|apply kA)|refine blk_far ?_ NB630_644.out _)); exact BK630.out⟩, ⟨qB⟩⟩
             ·rw [if_neg c125] at H
              exact absurd H (by simp)
            ·rw [if_neg c124] at H
             have c124b0 : decide (x25_3 < (t636.length : Int)) = false := decide_eq_false c124
             clear c124
             have hrT_ := Option.some.inj H
             obtain ⟨Ao183, co183, eo183⟩ := Kd.R_slice HO_23.out
             subst eo183
             go_wp2
             all_goals go_ret
             all_goals exact ⟨qR, qB⟩
         ·rw [if_neg c122] at H
          have c122b0 : (t637 == 0) = false := beq_eq_false_iff_ne.mpr c122
          have c122b1 : (t637 != 0) = true := bne_iff_ne.mpr c122
          exact absurd (Option.some.inj H) (by decide)
        ·rw [if_neg c120] at H
         have c120b0 : (t602 == 0) = false := beq_eq_false_iff_ne.mpr c120
         have c120b1 : (t602 != 0) = true := bne_iff_ne.mpr c120
         clear H
         go_wp2
         go_ret
         exact ⟨qR, qB⟩


end Go.Proofs.Ytcjchihnopmplaa.F

import Derived.Test.YtcjchihnopmplaaO0
import Derived.Test.YtcjchihnopmplaaO3
import Derived.Test.YtcjchihnopmplaaO10
import Derived.Test.YtcjchihnopmplaaO12
import Derived.Test.YtcjchihnopmplaaO13
import Derived.Test.YtcjchihnopmplaaO14
import Derived.Test.YtcjchihnopmplaaO16
import Derived.Test.YtcjchihnopmplaaO17
import Derived.Test.YtcjchihnopmplaaO18
import Derived.Test.YtcjchihnopmplaaO19
namespace Go.Proofs.Ytcjchihnopmplaa.F
open Go.RowKit Go.Proofs.YtcjchihnopmplaaW.PrintWords Go.Proofs.YtcjchihnopmplaaW.PrintLast Go.Proofs.YtcjchihnopmplaaW.PrintMore
attribute [local go_sem] max2_int min2_int max_two min_two max_three min_three max_four min_four   -- for this text's walks alone
set_option linter.unusedVariables false
set_option linter.unusedSimpArgs false
attribute [local go_sem high] eqA47 eqA64

mutual
def laws_FnMotions.j0 : Nat → Int → Int → Bool → Int → Int → Int → Int → Int → Int → Int → Int → Int → Int → Int → Int → Int → Int → Int → Int → Int → Int → Int → Int → Int → Int → Int → Int → Int → Int → Int → Int → Int → Int → Option (Bool)
 | 0, _, _, _, _, _, _, _, _, _, _, _, _, _, _, _, _, _, _, _, _, _, _, _, _, _, _, _, _, _, _, _, _, _ => none
 | k + 1, x6, x11, x111, x1081000, x1081001, x1081002, x1081003, x1081004, x1081005, x1082000, x1082001, x1082002, x1082003, x1082004, x1082005, x1090000, x1090001, x1090002, x1090003, x1090004, x1090005, x1105000, x1105001, x1105002, x1105003, x1105004, x1105005, x1113000, x1113001, x1113002, x1113003, x1113004, x1113005 => if x111 = true then (some false) else (if x11 = 0 then ((impl_ComposeMotions.f k x1105000 x1105001 x1105002 x1105003 x1105004 x1105005 x1113000 x1113001 x1113002 x1113003 x1113004 x1113005).bind fun bt1141 => (if bt1141.2.2.2.2.2.2 = 3 then (laws_FnMotions.j1 k x6 x1081000 x1081001 x1081002 x1081003 x1081004 x1081005 x1082000 x1082001 x1082002 x1082003 x1082004 x1082005 x1090000 x1090001 x1090002 x1090003 x1090004 x1090005) else (if bt1141.2.2.2.2.2.2 = 0 then (if ((!(bt1141.1 == 1) || (!(bt1141.2.1 == 0) || (!(bt1141.2.2.1 == 0) || (!(bt1141.2.2.2.1 == 1))))) || ((!(bt1141.2.2.2.2.1 == 0) || (!(bt1141.2.2.2.2.2.1 == 0))))) = true then (some false) else (laws_FnMotions.j1 k x6 x1081000 x1081001 x1081002 x1081003 x1081004 x1081005 x1082000 x1082001 x1082002 x1082003 x1082004 x1082005 x1090000 x1090001 x1090002 x1090003 x1090004 x1090005)) else (some false)))) else (laws_FnMotions.j1 k x6 x1081000 x1081001 x1081002 x1081003 x1081004 x1081005 x1082000 x1082001 x1082002 x1082003 x1082004 x1082005 x1090000 x1090001 x1090002 x1090003 x1090004 x1090005))
def laws_FnMotions.j1 : Nat → Int → Int → Int → Int → Int → Int → Int → Int → Int → Int → Int → Int → Int → Int → Int → Int → Int → Int → Int → Option (Bool)
 | 0, _, _, _, _, _, _, _, _, _, _, _, _, _, _, _, _, _, _, _ => none
 | k + 1, x6, x1081000, x1081001, x1081002, x1081003, x1081004, x1081005, x1082000, x1082001, x1082002, x1082003, x1082004, x1082005, x1090000, x1090001, x1090002, x1090003, x1090004, x1090005 => if x6 = 0 then ((impl_ApplyMotion.f k x1082000 x1082001 x1082002 x1082003 x1082004 x1082005 2 (-3)).bind fun bt1150 => ((impl_ApplyMotion.f k x1081000 x1081001 x1081002 x1081003 x1081004 x1081005 bt1150.1 bt1150.2.1).bind fun bt1154 => ((impl_ApplyMotion.f k x1090000 x1090001 x1090002 x1090003 x1090004 x1090005 2 (-3)).bind fun bt1158 => (if bt1150.2.2 = 0 then (if bt1154.2.2 = 0 then (if bt1158.2.2 = 0 then (some (bt1154.1 == bt1158.1 && (bt1154.2.1 == bt1158.2.1))) else (some true)) else (some true)) else (some true))))) else (some true)
end
def laws_FnMotions.f (k : Nat) (l0 : List Int) : Option (Bool) := (laws_big.f l0).bind fun t1067 => (if t1067 = true then (some true) else ((spec_DrawComposeMotions.f k l0).bind fun bt1068 => ((impl_ComposeMotions.f k bt1068.1 bt1068.2.1 bt1068.2.2.1 bt1068.2.2.2.1 bt1068.2.2.2.2.1 bt1068.2.2.2.2.2.1 bt1068.2.2.2.2.2.2.1 bt1068.2.2.2.2.2.2.2.1 bt1068.2.2.2.2.2.2.2.2.1 bt1068.2.2.2.2.2.2.2.2.2.1 bt1068.2.2.2.2.2.2.2.2.2.2.1 bt1068.2.2.2.2.2.2.2.2.2.2.2).bind fun bt1082 => ((spec_ComposeMotions.f k bt1068.1 bt1068.2.1 bt1068.2.2.1 bt1068.2.2.2.1 bt1068.2.2.2.2.1 bt1068.2.2.2.2.2.1 bt1068.2.2.2.2.2.2.1 bt1068.2.2.2.2.2.2.2.1 bt1068.2.2.2.2.2.2.2.2.1 bt1068.2.2.2.2.2.2.2.2.2.1 bt1068.2.2.2.2.2.2.2.2.2.2.1 bt1068.2.2.2.2.2.2.2.2.2.2.2).bind fun bt1090 => ((spec_DrawInverseMotion.f k l0).bind fun bt1098 => ((impl_InverseMotion.f k bt1098.1 bt1098.2.1 bt1098.2.2.1 bt1098.2.2.2.1 bt1098.2.2.2.2.1 bt1098.2.2.2.2.2).bind fun bt1105 => ((spec_InverseMotion.f k bt1098.1 bt1098.2.1 bt1098.2.2.1 bt1098.2.2.2.1 bt1098.2.2.2.2.1 bt1098.2.2.2.2.2).bind fun bt1113 => ((spec_DrawApplyMotion.f k l0).bind fun bt1121 => ((impl_ApplyMotion.f k bt1121.1 bt1121.2.1 bt1121.2.2.1 bt1121.2.2.2.1 bt1121.2.2.2.2.1 bt1121.2.2.2.2.2.1 bt1121.2.2.2.2.2.2.1 bt1121.2.2.2.2.2.2.2).bind fun bt1131 => ((spec_ApplyMotion.f k bt1121.1 bt1121.2.1 bt1121.2.2.1 bt1121.2.2.2.1 bt1121.2.2.2.2.1 bt1121.2.2.2.2.2.1 bt1121.2.2.2.2.2.2.1 bt1121.2.2.2.2.2.2.2).bind fun bt1135 => (if bt1082.2.2.2.2.2.2 = bt1090.2.2.2.2.2.2 then (if ((!(bt1082.1 == bt1090.1) || (!(bt1082.2.1 == bt1090.2.1) || (!(bt1082.2.2.1 == bt1090.2.2.1) || (!(bt1082.2.2.2.1 == bt1090.2.2.2.1))))) || ((!(bt1082.2.2.2.2.1 == bt1090.2.2.2.2.1) || (!(bt1082.2.2.2.2.2.1 == bt1090.2.2.2.2.2.1))))) = true then (laws_FnMotions.j0 k bt1082.2.2.2.2.2.2 bt1105.2.2.2.2.2.2 true bt1068.1 bt1068.2.1 bt1068.2.2.1 bt1068.2.2.2.1 bt1068.2.2.2.2.1 bt1068.2.2.2.2.2.1 bt1068.2.2.2.2.2.2.1 bt1068.2.2.2.2.2.2.2.1 bt1068.2.2.2.2.2.2.2.2.1 bt1068.2.2.2.2.2.2.2.2.2.1 bt1068.2.2.2.2.2.2.2.2.2.2.1 bt1068.2.2.2.2.2.2.2.2.2.2.2 bt1082.1 bt1082.2.1 bt1082.2.2.1 bt1082.2.2.2.1 bt1082.2.2.2.2.1 bt1082.2.2.2.2.2.1 bt1098.1 bt1098.2.1 bt1098.2.2.1 bt1098.2.2.2.1 bt1098.2.2.2.2.1 bt1098.2.2.2.2.2 bt1105.1 bt1105.2.1 bt1105.2.2.1 bt1105.2.2.2.1 bt1105.2.2.2.2.1 bt1105.2.2.2.2.2.1) else (if bt1105.2.2.2.2.2.2 = bt1113.2.2.2.2.2.2 then (if ((!(bt1105.1 == bt1113.1) || (!(bt1105.2.1 == bt1113.2.1) || (!(bt1105.2.2.1 == bt1113.2.2.1) || (!(bt1105.2.2.2.1 == bt1113.2.2.2.1))))) || ((!(bt1105.2.2.2.2.1 == bt1113.2.2.2.2.1) || (!(bt1105.2.2.2.2.2.1 == bt1113.2.2.2.2.2.1))))) = true then (laws_FnMotions.j0 k bt1082.2.2.2.2.2.2 bt1105.2.2.2.2.2.2 true bt1068.1 bt1068.2.1 bt1068.2.2.1 bt1068.2.2.2.1 bt1068.2.2.2.2.1 bt1068.2.2.2.2.2.1 bt1068.2.2.2.2.2.2.1 bt1068.2.2.2.2.2.2.2.1 bt1068.2.2.2.2.2.2.2.2.1 bt1068.2.2.2.2.2.2.2.2.2.1 bt1068.2.2.2.2.2.2.2.2.2.2.1 bt1068.2.2.2.2.2.2.2.2.2.2.2 bt1082.1 bt1082.2.1 bt1082.2.2.1 bt1082.2.2.2.1 bt1082.2.2.2.2.1 bt1082.2.2.2.2.2.1 bt1098.1 bt1098.2.1 bt1098.2.2.1 bt1098.2.2.2.1 bt1098.2.2.2.2.1 bt1098.2.2.2.2.2 bt1105.1 bt1105.2.1 bt1105.2.2.1 bt1105.2.2.2.1 bt1105.2.2.2.2.1 bt1105.2.2.2.2.2.1) else (if bt1131.2.2 = bt1135.2.2 then (if (!(bt1131.1 == bt1135.1) || (!(bt1131.2.1 == bt1135.2.1))) = true then (laws_FnMotions.j0 k bt1082.2.2.2.2.2.2 bt1105.2.2.2.2.2.2 true bt1068.1 bt1068.2.1 bt1068.2.2.1 bt1068.2.2.2.1 bt1068.2.2.2.2.1 bt1068.2.2.2.2.2.1 bt1068.2.2.2.2.2.2.1 bt1068.2.2.2.2.2.2.2.1 bt1068.2.2.2.2.2.2.2.2.1 bt1068.2.2.2.2.2.2.2.2.2.1 bt1068.2.2.2.2.2.2.2.2.2.2.1 bt1068.2.2.2.2.2.2.2.2.2.2.2 bt1082.1 bt1082.2.1 bt1082.2.2.1 bt1082.2.2.2.1 bt1082.2.2.2.2.1 bt1082.2.2.2.2.2.1 bt1098.1 bt1098.2.1 bt1098.2.2.1 bt1098.2.2.2.1 bt1098.2.2.2.2.1 bt1098.2.2.2.2.2 bt1105.1 bt1105.2.1 bt1105.2.2.1 bt1105.2.2.2.1 bt1105.2.2.2.2.1 bt1105.2.2.2.2.2.1) else ((impl_IsMotion.f k bt1068.1 bt1068.2.1 bt1068.2.2.1 bt1068.2.2.2.1 bt1068.2.2.2.2.1 bt1068.2.2.2.2.2.1).bind fun t1139 => ((spec_IsMotion.f k bt1068.1 bt1068.2.1 bt1068.2.2.1 bt1068.2.2.2.1 bt1068.2.2.2.2.1 bt1068.2.2.2.2.2.1).bind fun t1140 => (laws_FnMotions.j0 k bt1082.2.2.2.2.2.2 bt1105.2.2.2.2.2.2 (t1139 != t1140) bt1068.1 bt1068.2.1 bt1068.2.2.1 bt1068.2.2.2.1 bt1068.2.2.2.2.1 bt1068.2.2.2.2.2.1 bt1068.2.2.2.2.2.2.1 bt1068.2.2.2.2.2.2.2.1 bt1068.2.2.2.2.2.2.2.2.1 bt1068.2.2.2.2.2.2.2.2.2.1 bt1068.2.2.2.2.2.2.2.2.2.2.1 bt1068.2.2.2.2.2.2.2.2.2.2.2 bt1082.1 bt1082.2.1 bt1082.2.2.1 bt1082.2.2.2.1 bt1082.2.2.2.2.1 bt1082.2.2.2.2.2.1 bt1098.1 bt1098.2.1 bt1098.2.2.1 bt1098.2.2.2.1 bt1098.2.2.2.2.1 bt1098.2.2.2.2.2 bt1105.1 bt1105.2.1 bt1105.2.2.1 bt1105.2.2.2.1 bt1105.2.2.2.2.1 bt1105.2.2.2.2.2.1)))) else (laws_FnMotions.j0 k bt1082.2.2.2.2.2.2 bt1105.2.2.2.2.2.2 true bt1068.1 bt1068.2.1 bt1068.2.2.1 bt1068.2.2.2.1 bt1068.2.2.2.2.1 bt1068.2.2.2.2.2.1 bt1068.2.2.2.2.2.2.1 bt1068.2.2.2.2.2.2.2.1 bt1068.2.2.2.2.2.2.2.2.1 bt1068.2.2.2.2.2.2.2.2.2.1 bt1068.2.2.2.2.2.2.2.2.2.2.1 bt1068.2.2.2.2.2.2.2.2.2.2.2 bt1082.1 bt1082.2.1 bt1082.2.2.1 bt1082.2.2.2.1 bt1082.2.2.2.2.1 bt1082.2.2.2.2.2.1 bt1098.1 bt1098.2.1 bt1098.2.2.1 bt1098.2.2.2.1 bt1098.2.2.2.2.1 bt1098.2.2.2.2.2 bt1105.1 bt1105.2.1 bt1105.2.2.1 bt1105.2.2.2.1 bt1105.2.2.2.2.1 bt1105.2.2.2.2.2.1))) else (laws_FnMotions.j0 k bt1082.2.2.2.2.2.2 bt1105.2.2.2.2.2.2 true bt1068.1 bt1068.2.1 bt1068.2.2.1 bt1068.2.2.2.1 bt1068.2.2.2.2.1 bt1068.2.2.2.2.2.1 bt1068.2.2.2.2.2.2.1 bt1068.2.2.2.2.2.2.2.1 bt1068.2.2.2.2.2.2.2.2.1 bt1068.2.2.2.2.2.2.2.2.2.1 bt1068.2.2.2.2.2.2.2.2.2.2.1 bt1068.2.2.2.2.2.2.2.2.2.2.2 bt1082.1 bt1082.2.1 bt1082.2.2.1 bt1082.2.2.2.1 bt1082.2.2.2.2.1 bt1082.2.2.2.2.2.1 bt1098.1 bt1098.2.1 bt1098.2.2.1 bt1098.2.2.2.1 bt1098.2.2.2.2.1 bt1098.2.2.2.2.2 bt1105.1 bt1105.2.1 bt1105.2.2.1 bt1105.2.2.2.1 bt1105.2.2.2.2.1 bt1105.2.2.2.2.2.1))) else (laws_FnMotions.j0 k bt1082.2.2.2.2.2.2 bt1105.2.2.2.2.2.2 true bt1068.1 bt1068.2.1 bt1068.2.2.1 bt1068.2.2.2.1 bt1068.2.2.2.2.1 bt1068.2.2.2.2.2.1 bt1068.2.2.2.2.2.2.1 bt1068.2.2.2.2.2.2.2.1 bt1068.2.2.2.2.2.2.2.2.1 bt1068.2.2.2.2.2.2.2.2.2.1 bt1068.2.2.2.2.2.2.2.2.2.2.1 bt1068.2.2.2.2.2.2.2.2.2.2.2 bt1082.1 bt1082.2.1 bt1082.2.2.1 bt1082.2.2.2.1 bt1082.2.2.2.2.1 bt1082.2.2.2.2.2.1 bt1098.1 bt1098.2.1 bt1098.2.2.1 bt1098.2.2.2.1 bt1098.2.2.2.2.1 bt1098.2.2.2.2.2 bt1105.1 bt1105.2.1 bt1105.2.2.1 bt1105.2.2.2.1 bt1105.2.2.2.2.1 bt1105.2.2.2.2.2.1))))))))))))
def laws_FnMotions.T12 : Bool × List (List Nat × List Nat) := (true, [([], []), ([], []), ([0, 1], [0, 1]), ([2], [2]), ([3], [3]), ([3], [3]), ([4, 5, 3], [3, 4, 5]), ([3, 6], [3, 6]), ([7, 3], [7]), ([8], [8]), ([8], [8]), ([9, 10, 8], [8, 9, 10]), ([8, 11], [8, 11]), ([12, 8], [12]), ([13], [13]), ([13], [13]), ([14, 15, 13], [13, 14, 15]), ([13, 16], [13, 16]), ([17, 13], [17]), ([18], [18]), ([18], [18]), ([19, 20, 18], [18, 19, 20]), ([18, 21], [18, 21]), ([22, 18], [22]), ([23], [23]), ([23], [23]), ([24, 25, 23], [23, 24, 25]), ([23, 26], [23, 26]), ([27, 23], [27]), ([28], [28]), ([29, 28, 28], [28, 29]), ([28], [28]), ([31, 30, 28], [28, 31]), ([30, 32, 28], [28, 30, 32]), ([28, 33], [28, 33])])
def laws_FnMotions.B12 : List Nat := [0, 0, 3, 7, 15, 15, 63, 127, 255, 511, 511, 2047, 4095, 8191, 16383, 16383, 65535, 131071, 262143, 524287, 524287, 2097151, 4194303, 8388607, 16777215, 16777215, 67108863, 134217727, 268435455, 536870911, 1073741823, 536870911, 4294967295, 8589934591, 17179869183]
theorem laws_FnMotions.tab12 : rtab .any (opsOf Try.f7 12) = laws_FnMotions.T12 := by kernel_rfl
theorem laws_FnMotions.bits12 : waitsOk laws_FnMotions.T12.2 laws_FnMotions.B12 = true := by kernel_rfl
set_option maxHeartbeats 8000000 in
set_option maxRecDepth 100000 in
theorem laws_FnMotions.calls (k : Nat) (A0 : Option Addr) (c0 : Nat) (l0 : List Int) (w : World) (hr0 : Kd.C (Kd.int .u8) w A0 l0.length l0) (hc0 : l0.length ≤ c0) (h : laws_FnMotions.f k l0 = some true) :
  Calls Try.prog 7 #[.slice A0 l0.length c0] w fun e w' => e = .returned (.bool true) ∧ Below w.heap.size w w' := by
 have hu64 := Try.underlying64
 have hu47 := Try.underlying47
 have hu51 := Try.underlying51
 have HR0 := aM hr0
 have HC0 := aM hc0
 clear hr0 hc0
 have HB := aM (Below.refl w.heap.size w)
 have H : ((laws_big.f l0).bind fun t1067 => (if t1067 = true then (some true) else ((spec_DrawComposeMotions.f k l0).bind fun bt1068 => ((impl_ComposeMotions.f k bt1068.1 bt1068.2.1 bt1068.2.2.1 bt1068.2.2.2.1 bt1068.2.2.2.2.1 bt1068.2.2.2.2.2.1 bt1068.2.2.2.2.2.2.1 bt1068.2.2.2.2.2.2.2.1 bt1068.2.2.2.2.2.2.2.2.1 bt1068.2.2.2.2.2.2.2.2.2.1 bt1068.2.2.2.2.2.2.2.2.2.2.1 bt1068.2.2.2.2.2.2.2.2.2.2.2).bind fun bt1082 => ((spec_ComposeMotions.f k bt1068.1 bt1068.2.1 bt1068.2.2.1 bt1068.2.2.2.1 bt1068.2.2.2.2.1 bt1068.2.2.2.2.2.1 bt1068.2.2.2.2.2.2.1 bt1068.2.2.2.2.2.2.2.1 bt1068.2.2.2.2.2.2.2.2.1 bt1068.2.2.2.2.2.2.2.2.2.1 bt1068.2.2.2.2.2.2.2.2.2.2.1 bt1068.2.2.2.2.2.2.2.2.2.2.2).bind fun bt1090 => ((spec_DrawInverseMotion.f k l0).bind fun bt1098 => ((impl_InverseMotion.f k bt1098.1 bt1098.2.1 bt1098.2.2.1 bt1098.2.2.2.1 bt1098.2.2.2.2.1 bt1098.2.2.2.2.2).bind fun bt1105 => ((spec_InverseMotion.f k bt1098.1 bt1098.2.1 bt1098.2.2.1 bt1098.2.2.2.1 bt1098.2.2.2.2.1 bt1098.2.2.2.2.2).bind fun bt1113 => ((spec_DrawApplyMotion.f k l0).bind fun bt1121 => ((impl_ApplyMotion.f k bt1121.1 bt1121.2.1 bt1121.2.2.1 bt1121.2.2.2.1 bt1121.2.2.2.2.1 bt1121.2.2.2.2.2.1 bt1121.2.2.2.2.2.2.1 bt1121.2.2.2.2.2.2.2).bind fun bt1131 => ((spec_ApplyMotion.f k bt1121.1 bt1121.2.1 bt1121.2.2.1 bt1121.2.2.2.1 bt1121.2.2.2.2.1 bt1121.2.2.2.2.2.1 bt1121.2.2.2.2.2.2.1 bt1121.2.2.2.2.2.2.2).bind fun bt1135 => (if bt1082.2.2.2.2.2.2 = bt1090.2.2.2.2.2.2 then (if ((!(bt1082.1 == bt1090.1) || (!(bt1082.2.1 == bt1090.2.1) || (!(bt1082.2.2.1 == bt1090.2.2.1) || (!(bt1082.2.2.2.1 == bt1090.2.2.2.1))))) || ((!(bt1082.2.2.2.2.1 == bt1090.2.2.2.2.1) || (!(bt1082.2.2.2.2.2.1 == bt1090.2.2.2.2.2.1))))) = true then (laws_FnMotions.j0 k bt1082.2.2.2.2.2.2 bt1105.2.2.2.2.2.2 true bt1068.1 bt1068.2.1 bt1068.2.2.1 bt1068.2.2.2.1 bt1068.2.2.2.2.1 bt1068.2.2.2.2.2.1 bt1068.2.2.2.2.2.2.1 bt1068.2.2.2.2.2.2.2.1 bt1068.2.2.2.2.2.2.2.2.1 bt1068.2.2.2.2.2.2.2.2.2.1 bt1068.2.2.2.2.2.2.2.2.2.2.1 bt1068.2.2.2.2.2.2.2.2.2.2.2 bt1082.1 bt1082.2.1 bt1082.2.2.1 bt1082.2.2.2.1 bt1082.2.2.2.2.1 bt1082.2.2.2.2.2.1 bt1098.1 bt1098.2.1 bt1098.2.2.1 bt1098.2.2.2.1 bt1098.2.2.2.2.1 bt1098.2.2.2.2.2 bt1105.1 bt1105.2.1 bt1105.2.2.1 bt1105.2.2.2.1 bt1105.2.2.2.2.1 bt1105.2.2.2.2.2.1) else (if bt1105.2.2.2.2.2.2 = bt1113.2.2.2.2.2.2 then (if ((!(bt1105.1 == bt1113.1) || (!(bt1105.2.1 == bt1113.2.1) || (!(bt1105.2.2.1 == bt1113.2.2.1) || (!(bt1105.2.2.2.1 == bt1113.2.2.2.1))))) || ((!(bt1105.2.2.2.2.1 == bt1113.2.2.2.2.1) || (!(bt1105.2.2.2.2.2.1 == bt1113.2.2.2.2.2.1))))) = true then (laws_FnMotions.j0 k bt1082.2.2.2.2.2.2 bt1105.2.2.2.2.2.2 true bt1068.1 bt1068.2.1 bt1068.2.2.1 bt1068.2.2.2.1 bt1068.2.2.2.2.1 bt1068.2.2.2.2.2.1 bt1068.2.2.2.2.2.2.1 bt1068.2.2.2.2.2.2.2.1 bt1068.2.2.2.2.2.2.2.2.1 bt1068.2.2.2.2.2.2.2.2.2.1 bt1068.2.2.2.2.2.2.2.2.2.2.1 bt1068.2.2.2.2.2.2.2.2.2.2.2 bt1082.1 bt1082.2.1 bt1082.2.2.1 bt1082.2.2.2.1 bt1082.2.2.2.2.1 bt1082.2.2.2.2.2.1 bt1098.1 bt1098.2.1 bt1098.2.2.1 bt1098.2.2.2.1 bt1098.2.2.2.2.1 bt1098.2.2.2.2.2 bt1105.1 bt1105.2.1 bt1105.2.2.1 bt1105.2.2.2.1 bt1105.2.2.2.2.1 bt1105.2.2.2.2.2.1) else (if bt1131.2.2 = bt1135.2.2 then (if (!(bt1131.1 == bt1135.1) || (!(bt1131.2.1 == bt1135.2.1))) = true then (laws_FnMotions.j0 k bt1082.2.2.2.2.2.2 bt1105.2.2.2.2.2.2 true bt1068.1 bt1068.2.1 bt1068.2.2.1 bt1068.2.2.2.1 bt1068.2.2.2.2.1 bt1068.2.2.2.2.2.1 bt1068.2.2.2.2.2.2.1 bt1068.2.2.2.2.2.2.2.1 bt1068.2.2.2.2.2.2.2.2.1 bt1068.2.2.2.2.2.2.2.2.2.1 bt1068.2.2.2.2.2.2.2.2.2.2.1 bt1068.2.2.2.2.2.2.2.2.2.2.2 bt1082.1 bt1082.2.1 bt1082.2.2.1 bt1082.2.2.2.1 bt1082.2.2.2.2.1 bt1082.2.2.2.2.2.1 bt1098.1 bt1098.2.1 bt1098.2.2.1 bt1098.2.2.2.1 bt1098.2.2.2.2.1 bt1098.2.2.2.2.2 bt1105.1 bt1105.2.1 bt1105.2.2.1 bt1105.2.2.2.1 bt1105.2.2.2.2.1 bt1105.2.2.2.2.2.1) else ((impl_IsMotion.f k bt1068.1 bt1068.2.1 bt1068.2.2.1 bt1068.2.2.2.1 bt1068.2.2.2.2.1 bt1068.2.2.2.2.2.1).bind fun t1139 => ((spec_IsMotion.f k bt1068.1 bt1068.2.1 bt1068.2.2.1 bt1068.2.2.2.1 bt1068.2.2.2.2.1 bt1068.2.2.2.2.2.1).bind fun t1140 => (laws_FnMotions.j0 k bt1082.2.2.2.2.2.2 bt1105.2.2.2.2.2.2 (t1139 != t1140) bt1068.1 bt1068.2.1 bt1068.2.2.1 bt1068.2.2.2.1 bt1068.2.2.2.2.1 bt1068.2.2.2.2.2.1 bt1068.2.2.2.2.2.2.1 bt1068.2.2.2.2.2.2.2.1 bt1068.2.2.2.2.2.2.2.2.1 bt1068.2.2.2.2.2.2.2.2.2.1 bt1068.2.2.2.2.2.2.2.2.2.2.1 bt1068.2.2.2.2.2.2.2.2.2.2.2 bt1082.1 bt1082.2.1 bt1082.2.2.1 bt1082.2.2.2.1 bt1082.2.2.2.2.1 bt1082.2.2.2.2.2.1 bt1098.1 bt1098.2.1 bt1098.2.2.1 bt1098.2.2.2.1 bt1098.2.2.2.2.1 bt1098.2.2.2.2.2 bt1105.1 bt1105.2.1 bt1105.2.2.1 bt1105.2.2.2.1 bt1105.2.2.2.2.1 bt1105.2.2.2.2.2.1)))) else (laws_FnMotions.j0 k bt1082.2.2.2.2.2.2 bt1105.2.2.2.2.2.2 true bt1068.1 bt1068.2.1 bt1068.2.2.1 bt1068.2.2.2.1 bt1068.2.2.2.2.1 bt1068.2.2.2.2.2.1 bt1068.2.2.2.2.2.2.1 bt1068.2.2.2.2.2.2.2.1 bt1068.2.2.2.2.2.2.2.2.1 bt1068.2.2.2.2.2.2.2.2.2.1 bt1068.2.2.2.2.2.2.2.2.2.2.1 bt1068.2.2.2.2.2.2.2.2.2.2.2 bt1082.1 bt1082.2.1 bt1082.2.2.1 bt1082.2.2.2.1 bt1082.2.2.2.2.1 bt1082.2.2.2.2.2.1 bt1098.1 bt1098.2.1 bt1098.2.2.1 bt1098.2.2.2.1 bt1098.2.2.2.2.1 bt1098.2.2.2.2.2 bt1105.1 bt1105.2.1 bt1105.2.2.1 bt1105.2.2.2.1 bt1105.2.2.2.2.1 bt1105.2.2.2.2.2.1))) else (laws_FnMotions.j0 k bt1082.2.2.2.2.2.2 bt1105.2.2.2.2.2.2 true bt1068.1 bt1068.2.1 bt1068.2.2.1 bt1068.2.2.2.1 bt1068.2.2.2.2.1 bt1068.2.2.2.2.2.1 bt1068.2.2.2.2.2.2.1 bt1068.2.2.2.2.2.2.2.1 bt1068.2.2.2.2.2.2.2.2.1 bt1068.2.2.2.2.2.2.2.2.2.1 bt1068.2.2.2.2.2.2.2.2.2.2.1 bt1068.2.2.2.2.2.2.2.2.2.2.2 bt1082.1 bt1082.2.1 bt1082.2.2.1 bt1082.2.2.2.1 bt1082.2.2.2.2.1 bt1082.2.2.2.2.2.1 bt1098.1 bt1098.2.1 bt1098.2.2.1 bt1098.2.2.2.1 bt1098.2.2.2.2.1 bt1098.2.2.2.2.2 bt1105.1 bt1105.2.1 bt1105.2.2.1 bt1105.2.2.2.1 bt1105.2.2.2.2.1 bt1105.2.2.2.2.2.1))) else (laws_FnMotions.j0 k bt1082.2.2.2.2.2.2 bt1105.2.2.2.2.2.2 true bt1068.1 bt1068.2.1 bt1068.2.2.1 bt1068.2.2.2.1 bt1068.2.2.2.2.1 bt1068.2.2.2.2.2.1 bt1068.2.2.2.2.2.2.1 bt1068.2.2.2.2.2.2.2.1 bt1068.2.2.2.2.2.2.2.2.1 bt1068.2.2.2.2.2.2.2.2.2.1 bt1068.2.2.2.2.2.2.2.2.2.2.1 bt1068.2.2.2.2.2.2.2.2.2.2.2 bt1082.1 bt1082.2.1 bt1082.2.2.1 bt1082.2.2.2.1 bt1082.2.2.2.2.1 bt1082.2.2.2.2.2.1 bt1098.1 bt1098.2.1 bt1098.2.2.1 bt1098.2.2.2.1 bt1098.2.2.2.2.1 bt1098.2.2.2.2.2 bt1105.1 bt1105.2.1 bt1105.2.2.1 bt1105.2.2.2.1 bt1105.2.2.2.2.1 bt1105.2.2.2.2.2.1))))))))))))) = some true := h
 clear h
 replace H := Option.bind_eq_some_iff.mp H
 obtain ⟨t1067, A20, H⟩ := H
 try dsimp only at H
 have A2 := aM A20
 clear A20
 by_cases c3 : t1067 = true
 ·subst c3
  have H1 : (some true) = some true := rfl
  clear H
  have H := H1
  clear H1
  clear H
  go_enter Try.func7, Try.ntmps7
  go_wp2_with (first | ((with_reducible refine gate_callee (f := 21) rfl ?_); refine goesL_ (some 30) rfl rfl Try.func21 (by kernel_rfl) rfl #[.slice A0 l0.length c0] rfl (by first|rfl|(simp only [List.map_toArray, List.map_cons, List.map_nil]; try rfl)) ?_; (with_reducible refine (laws_big.calls _ _ l0 true _ ?side1 ?side2 A2.out).mono ?_); (case side1 => repeat (first | exact HR0.out | (with_reducible refine Kd.C_alloc ?_ _) | (with_reducible refine Kd.C_drewN ?_ _) | (with_reducible refine Kd.C_drew ?_))); (case side2 => exact HC0.out); rintro e w' ⟨rfl, ⟨nd, rfl⟩⟩; refine ⟨_, rfl, ?_⟩))
  go_ret
  exact ⟨by first|rfl|(simp [*, errW_none, errW_some] <;> rfl), by repeat (first | (with_reducible first | exact HB.out | apply bA|apply bN|apply b1) | exact HB.out)⟩
 ·replace c3 := Bool.eq_false_iff.mpr c3
  subst c3
  have H1 : ((spec_DrawComposeMotions.f k l0).bind fun bt1068 => ((impl_ComposeMotions.f k bt1068.1 bt1068.2.1 bt1068.2.2.1 bt1068.2.2.2.1 bt1068.2.2.2.2.1 bt1068.2.2.2.2.2.1 bt1068.2.2.2.2.2.2.1 bt1068.2.2.2.2.2.2.2.1 bt1068.2.2.2.2.2.2.2.2.1 bt1068.2.2.2.2.2.2.2.2.2.1 bt1068.2.2.2.2.2.2.2.2.2.2.1 bt1068.2.2.2.2.2.2.2.2.2.2.2).bind fun bt1082 => ((spec_ComposeMotions.f k bt1068.1 bt1068.2.1 bt1068.2.2.1 bt1068.2.2.2.1 bt1068.2.2.2.2.1 bt1068.2.2.2.2.2.1 bt1068.2.2.2.2.2.2.1 bt1068.2.2.2.2.2.2.2.1 bt1068.2.2.2.2.2.2.2.2.1 bt1068.2.2.2.2.2.2.2.2.2.1 bt1068.2.2.2.2.2.2.2.2.2.2.1 bt1068.2.2.2.2.2.2.2.2.2.2.2).bind fun bt1090 => ((spec_DrawInverseMotion.f k l0).bind fun bt1098 => ((impl_InverseMotion.f k bt1098.1 bt1098.2.1 bt1098.2.2.1 bt1098.2.2.2.1 bt1098.2.2.2.2.1 bt1098.2.2.2.2.2).bind fun bt1105 => ((spec_InverseMotion.f k bt1098.1 bt1098.2.1 bt1098.2.2.1 bt1098.2.2.2.1 bt1098.2.2.2.2.1 bt1098.2.2.2.2.2).bind fun bt1113 => ((spec_DrawApplyMotion.f k l0).bind fun bt1121 => ((impl_ApplyMotion.f k bt1121.1 bt1121.2.1 bt1121.2.2.1 bt1121.2.2.2.1 bt1121.2.2.2.2.1 bt1121.2.2.2.2.2.1 bt1121.2.2.2.2.2.2.1 bt1121.2.2.2.2.2.2.2).bind fun bt1131 => ((spec_ApplyMotion.f k bt1121.1 bt1121.2.1 bt1121.2.2.1 bt1121.2.2.2.1 bt1121.2.2.2.2.1 bt1121.2.2.2.2.2.1 bt1121.2.2.2.2.2.2.1 bt1121.2.2.2.2.2.2.2).bind fun bt1135 => (if bt1082.2.2.2.2.2.2 = bt1090.2.2.2.2.2.2 then (if ((!(bt1082.1 == bt1090.1) || (!(bt1082.2.1 == bt1090.2.1) || (!(bt1082.2.2.1 == bt1090.2.2.1) || (!(bt1082.2.2.2.1 == bt1090.2.2.2.1))))) || ((!(bt1082.2.2.2.2.1 == bt1090.2.2.2.2.1) || (!(bt1082.2.2.2.2.2.1 == bt1090.2.2.2.2.2.1))))) = true then (laws_FnMotions.j0 k bt1082.2.2.2.2.2.2 bt1105.2.2.2.2.2.2 true bt1068.1 bt1068.2.1 bt1068.2.2.1 bt1068.2.2.2.1 bt1068.2.2.2.2.1 bt1068.2.2.2.2.2.1 bt1068.2.2.2.2.2.2.1 bt1068.2.2.2.2.2.2.2.1 bt1068.2.2.2.2.2.2.2.2.1 bt1068.2.2.2.2.2.2.2.2.2.1 bt1068.2.2.2.2.2.2.2.2.2.2.1 bt1068.2.2.2.2.2.2.2.2.2.2.2 bt1082.1 bt1082.2.1 bt1082.2.2.1 bt1082.2.2.2.1 bt1082.2.2.2.2.1 bt1082.2.2.2.2.2.1 bt1098.1 bt1098.2.1 bt1098.2.2.1 bt1098.2.2.2.1 bt1098.2.2.2.2.1 bt1098.2.2.2.2.2 bt1105.1 bt1105.2.1 bt1105.2.2.1 bt1105.2.2.2.1 bt1105.2.2.2.2.1 bt1105.2.2.2.2.2.1) else (if bt1105.2.2.2.2.2.2 = bt1113.2.2.2.2.2.2 then (if ((!(bt1105.1 == bt1113.1) || (!(bt1105.2.1 == bt1113.2.1) || (!(bt1105.2.2.1 == bt1113.2.2.1) || (!(bt1105.2.2.2.1 == bt1113.2.2.2.1))))) || ((!(bt1105.2.2.2.2.1 == bt1113.2.2.2.2.1) || (!(bt1105.2.2.2.2.2.1 == bt1113.2.2.2.2.2.1))))) = true then (laws_FnMotions.j0 k bt1082.2.2.2.2.2.2 bt1105.2.2.2.2.2.2 true bt1068.1 bt1068.2.1 bt1068.2.2.1 bt1068.2.2.2.1 bt1068.2.2.2.2.1 bt1068.2.2.2.2.2.1 bt1068.2.2.2.2.2.2.1 bt1068.2.2.2.2.2.2.2.1 bt1068.2.2.2.2.2.2.2.2.1 bt1068.2.2.2.2.2.2.2.2.2.1 bt1068.2.2.2.2.2.2.2.2.2.2.1 bt1068.2.2.2.2.2.2.2.2.2.2.2 bt1082.1 bt1082.2.1 bt1082.2.2.1 bt1082.2.2.2.1 bt1082.2.2.2.2.1 bt1082.2.2.2.2.2.1 bt1098.1 bt1098.2.1 bt1098.2.2.1 bt1098.2.2.2.1 bt1098.2.2.2.2.1 bt1098.2.2.2.2.2 bt1105.1 bt1105.2.1 bt1105.2.2.1 bt1105.2.2.2.1 bt1105.2.2.2.2.1 bt1105.2.2.2.2.2.1) else (if bt1131.2.2 = bt1135.2.2 then (if (!(bt1131.1 == bt1135.1) || (!(bt1131.2.1 == bt1135.2.1))) = true then (laws_FnMotions.j0 k bt1082.2.2.2.2.2.2 bt1105.2.2.2.2.2.2 true bt1068.1 bt1068.2.1 bt1068.2.2.1 bt1068.2.2.2.1 bt1068.2.2.2.2.1 bt1068.2.2.2.2.2.1 bt1068.2.2.2.2.2.2.1 bt1068.2.2.2.2.2.2.2.1 bt1068.2.2.2.2.2.2.2.2.1 bt1068.2.2.2.2.2.2.2.2.2.1 bt1068.2.2.2.2.2.2.2.2.2.2.1 bt1068.2.2.2.2.2.2.2.2.2.2.2 bt1082.1 bt1082.2.1 bt1082.2.2.1 bt1082.2.2.2.1 bt1082.2.2.2.2.1 bt1082.2.2.2.2.2.1 bt1098.1 bt1098.2.1 bt1098.2.2.1 bt1098.2.2.2.1 bt1098.2.2.2.2.1 bt1098.2.2.2.2.2 bt1105.1 bt1105.2.1 bt1105.2.2.1 bt1105.2.2.2.1 bt1105.2.2.2.2.1 bt1105.2.2.2.2.2.1) else ((impl_IsMotion.f k bt1068.1 bt1068.2.1 bt1068.2.2.1 bt1068.2.2.2.1 bt1068.2.2.2.2.1 bt1068.2.2.2.2.2.1).bind fun t1139 => ((spec_IsMotion.f k bt1068.1 bt1068.2.1 bt1068.2.2.1 bt1068.2.2.2.1 bt1068.2.2.2.2.1 bt1068.2.2.2.2.2.1).bind fun t1140 => (laws_FnMotions.j0 k bt1082.2.2.2.2.2.2 bt1105.2.2.2.2.2.2 (t1139 != t1140) bt1068.1 bt1068.2.1 bt1068.2.2.1 bt1068.2.2.2.1 bt1068.2.2.2.2.1 bt1068.2.2.2.2.2.1 bt1068.2.2.2.2.2.2.1 bt1068.2.2.2.2.2.2.2.1 bt1068.2.2.2.2.2.2.2.2.1 bt1068.2.2.2.2.2.2.2.2.2.1 bt1068.2.2.2.2.2.2.2.2.2.2.1 bt1068.2.2.2.2.2.2.2.2.2.2.2 bt1082.1 bt1082.2.1 bt1082.2.2.1 bt1082.2.2.2.1 bt1082.2.2.2.2.1 bt1082.2.2.2.2.2.1 bt1098.1 bt1098.2.1 bt1098.2.2.1 bt1098.2.2.2.1 bt1098.2.2.2.2.1 bt1098.2.2.2.2.2 bt1105.1 bt1105.2.1 bt1105.2.2.1 bt1105.2.2.2.1 bt1105.2.2.2.2.1 bt1105.2.2.2.2.2.1)))) else (laws_FnMotions.j0 k bt1082.2.2.2.2.2.2 bt1105.2.2.2.2.2.2 true bt1068.1 bt1068.2.1 bt1068.2.2.1 bt1068.2.2.2.1 bt1068.2.2.2.2.1 bt1068.2.2.2.2.2.1 bt1068.2.2.2.2.2.2.1 bt1068.2.2.2.2.2.2.2.1 bt1068.2.2.2.2.2.2.2.2.1 bt1068.2.2.2.2.2.2.2.2.2.1 bt1068.2.2.2.2.2.2.2.2.2.2.1 bt1068.2.2.2.2.2.2.2.2.2.2.2 bt1082.1 bt1082.2.1 bt1082.2.2.1 bt1082.2.2.2.1 bt1082.2.2.2.2.1 bt1082.2.2.2.2.2.1 bt1098.1 bt1098.2.1 bt1098.2.2.1 bt1098.2.2.2.1 bt1098.2.2.2.2.1 bt1098.2.2.2.2.2 bt1105.1 bt1105.2.1 bt1105.2.2.1 bt1105.2.2.2.1 bt1105.2.2.2.2.1 bt1105.2.2.2.2.2.1))) else (laws_FnMotions.j0 k bt1082.2.2.2.2.2.2 bt1105.2.2.2.2.2.2 true bt1068.1 bt1068.2.1 bt1068.2.2.1 bt1068.2.2.2.1 bt1068.2.2.2.2.1 bt1068.2.2.2.2.2.1 bt1068.2.2.2.2.2.2.1 bt1068.2.2.2.2.2.2.2.1 bt1068.2.2.2.2.2.2.2.2.1 bt1068.2.2.2.2.2.2.2.2.2.1 bt1068.2.2.2.2.2.2.2.2.2.2.1 bt1068.2.2.2.2.2.2.2.2.2.2.2 bt1082.1 bt1082.2.1 bt1082.2.2.1 bt1082.2.2.2.1 bt1082.2.2.2.2.1 bt1082.2.2.2.2.2.1 bt1098.1 bt1098.2.1 bt1098.2.2.1 bt1098.2.2.2.1 bt1098.2.2.2.2.1 bt1098.2.2.2.2.2 bt1105.1 bt1105.2.1 bt1105.2.2.1 bt1105.2.2.2.1 bt1105.2.2.2.2.1 bt1105.2.2.2.2.2.1))) else (laws_FnMotions.j0 k bt1082.2.2.2.2.2.2 bt1105.2.2.2.2.2.2 true bt1068.1 bt1068.2.1 bt1068.2.2.1 bt1068.2.2.2.1 bt1068.2.2.2.2.1 bt1068.2.2.2.2.2.1 bt1068.2.2.2.2.2.2.1 bt1068.2.2.2.2.2.2.2.1 bt1068.2.2.2.2.2.2.2.2.1 bt1068.2.2.2.2.2.2.2.2.2.1 bt1068.2.2.2.2.2.2.2.2.2.2.1 bt1068.2.2.2.2.2.2.2.2.2.2.2 bt1082.1 bt1082.2.1 bt1082.2.2.1 bt1082.2.2.2.1 bt1082.2.2.2.2.1 bt1082.2.2.2.2.2.1 bt1098.1 bt1098.2.1 bt1098.2.2.1 bt1098.2.2.2.1 bt1098.2.2.2.2.1 bt1098.2.2.2.2.2 bt1105.1 bt1105.2.1 bt1105.2.2.1 bt1105.2.2.2.1 bt1105.2.2.2.2.1 bt1105.2.2.2.2.2.1))))))))))) = some true := by rw [if_neg (show ¬ (false = true) by decide)] at H; exact H
  clear H
  have H := H1
  clear H1
  replace H := Option.bind_eq_some_iff.mp H
  obtain ⟨⟨t1068, t1069, t1070, t1071, t1072, t1073, t1074, t1075, t1076, t1077, t1078, t1079⟩, A40, H⟩ := H
  try dsimp only at H
  have A4 := aM A40
  clear A40
  replace H := Option.bind_eq_some_iff.mp H
  obtain ⟨⟨t1082, t1083, t1084, t1085, t1086, t1087, t1088⟩, A50, H⟩ := H
  try dsimp only at H
  have A5 := aM A50
  clear A50
  replace H := Option.bind_eq_some_iff.mp H
  obtain ⟨⟨t1090, t1091, t1092, t1093, t1094, t1095, t1096⟩, A60, H⟩ := H
  try dsimp only at H
  have A6 := aM A60
  clear A60
  replace H := Option.bind_eq_some_iff.mp H
  obtain ⟨⟨t1098, t1099, t1100, t1101, t1102, t1103⟩, A70, H⟩ := H
  try dsimp only at H
  have A7 := aM A70
  clear A70
  replace H := Option.bind_eq_some_iff.mp H
  obtain ⟨⟨t1105, t1106, t1107, t1108, t1109, t1110, t1111⟩, A80, H⟩ := H
  try dsimp only at H
  have A8 := aM A80
  clear A80
  replace H := Option.bind_eq_some_iff.mp H
  obtain ⟨⟨t1113, t1114, t1115, t1116, t1117, t1118, t1119⟩, A90, H⟩ := H
  try dsimp only at H
  have A9 := aM A90
  clear A90
  replace H := Option.bind_eq_some_iff.mp H
  obtain ⟨⟨t1121, t1122, t1123, t1124, t1125, t1126, t1127, t1128⟩, A100, H⟩ := H
  try dsimp only at H
  have A10 := aM A100
  clear A100
  replace H := Option.bind_eq_some_iff.mp H
  obtain ⟨⟨t1131, t1132, t1133⟩, A110, H⟩ := H
  try dsimp only at H
  have A11 := aM A110
  clear A110
  replace H := Option.bind_eq_some_iff.mp H
  obtain ⟨⟨t1135, t1136, t1137⟩, A120, H⟩ := H
  try dsimp only at H
  have A12 := aM A120
  clear A120
  have HC13 := aM H
  clear H
  go_enter Try.func7, Try.ntmps7
  go_upto_region 12 with (first | ((with_reducible refine gate_callee (f := 21) rfl ?_); refine goesL_ (some 30) rfl rfl Try.func21 (by kernel_rfl) rfl #[.slice A0 l0.length c0] rfl (by first|rfl|(simp only [List.map_toArray, List.map_cons, List.map_nil]; try rfl)) ?_; (with_reducible refine (laws_big.calls _ _ l0 false _ ?side1 ?side2 A2.out).mono ?_); (case side1 => repeat (first | exact HR0.out | (with_reducible refine Kd.C_alloc ?_ _) | (with_reducible refine Kd.C_drewN ?_ _) | (with_reducible refine Kd.C_drew ?_))); (case side2 => exact HC0.out); rintro e w' ⟨rfl, ⟨nd, rfl⟩⟩; refine ⟨_, rfl, ?_⟩) | ((with_reducible refine gate_callee (f := 39) rfl ?_); refine goesL_ (some 33) rfl rfl Try.func39 (by kernel_rfl) rfl #[.slice A0 l0.length c0] rfl (by first|rfl|(simp only [List.map_toArray, List.map_cons, List.map_nil]; try rfl)) ?_; (with_reducible refine (spec_DrawComposeMotions.calls k _ _ l0 t1068 t1069 t1070 t1071 t1072 t1073 t1074 t1075 t1076 t1077 t1078 t1079 _ ?side1 ?side2 A4.out).mono ?_); (case side1 => repeat (first | exact HR0.out | (with_reducible refine Kd.C_alloc ?_ _) | (with_reducible refine Kd.C_drewN ?_ _) | (with_reducible refine Kd.C_drew ?_))); (case side2 => exact HC0.out); rintro e w14 ⟨rfl, hb⟩; refine ⟨_, rfl, ?_⟩; have n0_ := bS HB hb; clear HB; have HB := n0_; clear n0_; (try clear hb)) | ((with_reducible refine gate_dst (N := 3) rfl ?_); refine box_event ?hg (N := 3) ?hd (cs := #[.int .i64 0, .int .i64 0, .int .i64 0, .int .i64 0, .int .i64 0, .int .i64 0]) (t := 64) ?hr ?_; (case hd => rfl); (case hg => rfl); (case hr => first | (go_simp; done) | (go_simp; rfl)); intro gb1080 hg w15 hbox hb; have n0_ := bS HB hb; have n1_ := aM (hbox); have n2_ := bZ hg HB; have n3_ := bZ hg HB; clear HB; have HB := n0_; have BK1080 := n1_; have GW1080 := n2_; have GE1080 := n3_; clear n0_ n1_ n2_ n3_; clear hb hbox hg) | ((with_reducible refine gate_dst (N := 4) rfl ?_); refine box_event ?hg (N := 4) ?hd (cs := #[.int .i64 0, .int .i64 0, .int .i64 0, .int .i64 0, .int .i64 0, .int .i64 0]) (t := 64) ?hr ?_; (case hd => rfl); (case hg => rfl); (case hr => first | (go_simp; done) | (go_simp; rfl)); intro gb1081 hg w16 hbox hb; have n0_ := bB BK1080 hb; have n1_ := bS HB hb; have n2_ := aM (hbox); have n3_ := bZ hg HB; have n4_ := bZ hg HB; have n5_ := nL hg BK1080; have n6_ := nG hg BK1080; clear BK1080; clear HB; have BK1080 := n0_; have HB := n1_; have BK1081 := n2_; have GW1081 := n3_; have GE1081 := n4_; have NB1080_1081 := n5_; have NB1081_1080 := n6_; clear n0_ n1_ n2_ n3_ n4_ n5_ n6_; clear hb hbox hg; have hnb17 := NB1080_1081.out; have hnc17 := NB1081_1080.out; obtain ⟨hcz18_0, hcz18_1, hcz18_2, hcz18_3, hcz18_4, hcz18_5⟩ := z6 BK1080; obtain ⟨hfz18_0, hfz18_1, hfz18_2, hfz18_3, hfz18_4, hfz18_5⟩ := y6 BK1080; obtain ⟨hcz19_0, hcz19_1, hcz19_2, hcz19_3, hcz19_4, hcz19_5⟩ := z6 BK1081; obtain ⟨hfz19_0, hfz19_1, hfz19_2, hfz19_3, hfz19_4, hfz19_5⟩ := y6 BK1081) | ((with_reducible refine gate_callee (f := 40) rfl ?_); refine goesL_ (some 39) rfl rfl Try.func40 (by kernel_rfl) rfl #[.agg #[.int .i64 t1068, .int .i64 t1069, .int .i64 t1070, .int .i64 t1071, .int .i64 t1072, .int .i64 t1073], .agg #[.int .i64 t1074, .int .i64 t1075, .int .i64 t1076, .int .i64 t1077, .int .i64 t1078, .int .i64 t1079]] rfl (by first|rfl|(simp only [List.map_toArray, List.map_cons, List.map_nil]; try rfl)) ?_; (with_reducible refine (impl_ComposeMotions.calls k t1068 t1069 t1070 t1071 t1072 t1073 t1074 t1075 t1076 t1077 t1078 t1079 t1082 t1083 t1084 t1085 t1086 t1087 t1088 _ A5.out).mono ?_); rintro e w20 ⟨rfl, hb⟩; refine ⟨_, rfl, ?_⟩; have n0_ := aM (blk_below (g := gb1080) (o := .cells #[.int .i64 t1068, .int .i64 t1069, .int .i64 t1070, .int .i64 t1071, .int .i64 t1072, .int .i64 t1073] 64 (0, 0)) (by (repeat (first|(with_reducible first|apply kN|apply kD|apply kA)|refine blk_far ?_ NB1080_1081.out _)); refine blk_put (cs := #[.int .i64 t1068, .int .i64 t1069, .int .i64 t1070, .int .i64 t1071, .int .i64 t1072, .int .i64 0]) ?_ 5 _ rfl; (with_reducible repeat (first|apply kN|apply kD|apply kA)); refine blk_put (cs := #[.int .i64 t1068, .int .i64 t1069, .int .i64 t1070, .int .i64 t1071, .int .i64 0, .int .i64 0]) ?_ 4 _ rfl; (with_reducible repeat (first|apply kN|apply kD|apply kA)); refine blk_put (cs := #[.int .i64 t1068, .int .i64 t1069, .int .i64 t1070, .int .i64 0, .int .i64 0, .int .i64 0]) ?_ 3 _ rfl; (with_reducible repeat (first|apply kN|apply kD|apply kA)); refine blk_put (cs := #[.int .i64 t1068, .int .i64 t1069, .int .i64 0, .int .i64 0, .int .i64 0, .int .i64 0]) ?_ 2 _ rfl; (with_reducible repeat (first|apply kN|apply kD|apply kA)); refine blk_put (cs := #[.int .i64 t1068, .int .i64 0, .int .i64 0, .int .i64 0, .int .i64 0, .int .i64 0]) ?_ 1 _ rfl; (with_reducible repeat (first|apply kN|apply kD|apply kA)); refine blk_put (cs := #[.int .i64 0, .int .i64 0, .int .i64 0, .int .i64 0, .int .i64 0, .int .i64 0]) ?_ 0 _ rfl; (with_reducible repeat (first|apply kN|apply kD|apply kA)); exact BK1080.out) hb); have n1_ := aM (blk_below (g := gb1081) (o := .cells #[.int .i64 t1074, .int .i64 t1075, .int .i64 t1076, .int .i64 t1077, .int .i64 t1078, .int .i64 t1079] 64 (0, 0)) (by (with_reducible repeat (first|apply kN|apply kD|apply kA)); refine blk_put (cs := #[.int .i64 t1074, .int .i64 t1075, .int .i64 t1076, .int .i64 t1077, .int .i64 t1078, .int .i64 0]) ?_ 5 _ rfl; (with_reducible repeat (first|apply kN|apply kD|apply kA)); refine blk_put (cs := #[.int .i64 t1074, .int .i64 t1075, .int .i64 t1076, .int .i64 t1077, .int .i64 0, .int .i64 0]) ?_ 4 _ rfl; (with_reducible repeat (first|apply kN|apply kD|apply kA)); refine blk_put (cs := #[.int .i64 t1074, .int .i64 t1075, .int .i64 t1076, .int .i64 0, .int .i64 0, .int .i64 0]) ?_ 3 _ rfl; (with_reducible repeat (first|apply kN|apply kD|apply kA)); refine blk_put (cs := #[.int .i64 t1074, .int .i64 t1075, .int .i64 0, .int .i64 0, .int .i64 0, .int .i64 0]) ?_ 2 _ rfl; (with_reducible repeat (first|apply kN|apply kD|apply kA)); refine blk_put (cs := #[.int .i64 t1074, .int .i64 0, .int .i64 0, .int .i64 0, .int .i64 0, .int .i64 0]) ?_ 1 _ rfl; (with_reducible repeat (first|apply kN|apply kD|apply kA)); refine blk_put (cs := #[.int .i64 0, .int .i64 0, .int .i64 0, .int .i64 0, .int .i64 0, .int .i64 0]) ?_ 0 _ rfl; (repeat (first|(with_reducible first|apply kN|apply kD|apply kA)|refine blk_far ?_ NB1081_1080.out _)); exact BK1081.out) hb); have n2_ := bS HB hb; clear BK1080; clear BK1081; clear HB; have BK1080 := n0_; have BK1081 := n1_; have HB := n2_; clear n0_ n1_ n2_; (try clear hb)) | ((with_reducible refine gate_dst (N := 5) rfl ?_); refine box_event ?hg (N := 5) ?hd (cs := #[.int .i64 0, .int .i64 0, .int .i64 0, .int .i64 0, .int .i64 0, .int .i64 0]) (t := 64) ?hr ?_; (case hd => rfl); (case hg => rfl); (case hr => first | (go_simp; done) | (go_simp; rfl)); intro gb1089 hg w21 hbox hb; have n0_ := bB BK1080 hb; have n1_ := bB BK1081 hb; have n2_ := bS HB hb; have n3_ := aM (hbox); have n4_ := bZ hg HB; have n5_ := bZ hg HB; have n6_ := nL hg BK1080; have n7_ := nG hg BK1080; have n8_ := nL hg BK1081; have n9_ := nG hg BK1081; clear BK1080; clear BK1081; clear HB; have BK1080 := n0_; have BK1081 := n1_; have HB := n2_; have BK1089 := n3_; have GW1089 := n4_; have GE1089 := n5_; have NB1080_1089 := n6_; have NB1089_1080 := n7_; have NB1081_1089 := n8_; have NB1089_1081 := n9_; clear n0_ n1_ n2_ n3_ n4_ n5_ n6_ n7_ n8_ n9_; clear hb hbox hg; have hnb22 := NB1089_1080.out; have hnc22 := NB1080_1089.out; have hnb23 := NB1089_1081.out; have hnc23 := NB1081_1089.out; obtain ⟨hcz24_0, hcz24_1, hcz24_2, hcz24_3, hcz24_4, hcz24_5⟩ := z6 BK1089; obtain ⟨hfz24_0, hfz24_1, hfz24_2, hfz24_3, hfz24_4, hfz24_5⟩ := y6 BK1089; obtain ⟨hcz25_0, hcz25_1, hcz25_2, hcz25_3, hcz25_4, hcz25_5⟩ := z6 BK1080; obtain ⟨hfz25_0, hfz25_1, hfz25_2, hfz25_3, hfz25_4, hfz25_5⟩ := y6 BK1080; obtain ⟨hcz26_0, hcz26_1, hcz26_2, hcz26_3, hcz26_4, hcz26_5⟩ := z6 BK1081; obtain ⟨hfz26_0, hfz26_1, hfz26_2, hfz26_3, hfz26_4, hfz26_5⟩ := y6 BK1081) | ((with_reducible refine gate_callee (f := 41) rfl ?_); refine goesL_ (some 45) rfl rfl Try.func41 (by kernel_rfl) rfl #[.agg #[.int .i64 t1068, .int .i64 t1069, .int .i64 t1070, .int .i64 t1071, .int .i64 t1072, .int .i64 t1073], .agg #[.int .i64 t1074, .int .i64 t1075, .int .i64 t1076, .int .i64 t1077, .int .i64 t1078, .int .i64 t1079]] rfl (by first|rfl|(simp only [List.map_toArray, List.map_cons, List.map_nil]; try rfl)) ?_; (with_reducible refine (spec_ComposeMotions.calls k t1068 t1069 t1070 t1071 t1072 t1073 t1074 t1075 t1076 t1077 t1078 t1079 t1090 t1091 t1092 t1093 t1094 t1095 t1096 _ A6.out).mono ?_); rintro e w27 ⟨rfl, hb⟩; refine ⟨_, rfl, ?_⟩; have n0_ := aM (blk_below (g := gb1080) (o := .cells #[.int .i64 t1068, .int .i64 t1069, .int .i64 t1070, .int .i64 t1071, .int .i64 t1072, .int .i64 t1073] 64 (0, 0)) (by (repeat (first|(with_reducible first|apply kN|apply kD|apply kA)|refine blk_far ?_ NB1080_1089.out _)); exact BK1080.out) hb); have n1_ := aM (blk_below (g := gb1081) (o := .cells #[.int .i64 t1074, .int .i64 t1075, .int .i64 t1076, .int .i64 t1077, .int .i64 t1078, .int .i64 t1079] 64 (0, 0)) (by (repeat (first|(with_reducible first|apply kN|apply kD|apply kA)|refine blk_far ?_ NB1081_1089.out _)); exact BK1081.out) hb); have n2_ := aM (blk_below (g := gb1089) (o := .cells #[.int .i64 t1082, .int .i64 t1083, .int .i64 t1084, .int .i64 t1085, .int .i64 t1086, .int .i64 t1087] 64 (0, 0)) (by (with_reducible repeat (first|apply kN|apply kD|apply kA)); refine blk_put (cs := #[.int .i64 t1082, .int .i64 t1083, .int .i64 t1084, .int .i64 t1085, .int .i64 t1086, .int .i64 0]) ?_ 5 _ rfl; (with_reducible repeat (first|apply kN|apply kD|apply kA)); refine blk_put (cs := #[.int .i64 t1082, .int .i64 t1083, .int .i64 t1084, .int .i64 t1085, .int .i64 0, .int .i64 0]) ?_ 4 _ rfl; (with_reducible repeat (first|apply kN|apply kD|apply kA)); refine blk_put (cs := #[.int .i64 t1082, .int .i64 t1083, .int .i64 t1084, .int .i64 0, .int .i64 0, .int .i64 0]) ?_ 3 _ rfl; (with_reducible repeat (first|apply kN|apply kD|apply kA)); refine blk_put (cs := #[.int .i64 t1082, .int .i64 t1083, .int .i64 0, .int .i64 0, .int .i64 0, .int .i64 0]) ?_ 2 _ rfl; (with_reducible repeat (first|apply kN|apply kD|apply kA)); refine blk_put (cs := #[.int .i64 t1082, .int .i64 0, .int .i64 0, .int .i64 0, .int .i64 0, .int .i64 0]) ?_ 1 _ rfl; (with_reducible repeat (first|apply kN|apply kD|apply kA)); refine blk_put (cs := #[.int .i64 0, .int .i64 0, .int .i64 0, .int .i64 0, .int .i64 0, .int .i64 0]) ?_ 0 _ rfl; (with_reducible repeat (first|apply kN|apply kD|apply kA)); exact BK1089.out) hb); have n3_ := bS HB hb; clear BK1080; clear BK1081; clear BK1089; clear HB; have BK1080 := n0_; have BK1081 := n1_; have BK1089 := n2_; have HB := n3_; clear n0_ n1_ n2_ n3_; (try clear hb)) | ((with_reducible refine gate_dst (N := 7) rfl ?_); refine box_event ?hg (N := 7) ?hd (cs := #[.int .i64 0, .int .i64 0, .int .i64 0, .int .i64 0, .int .i64 0, .int .i64 0]) (t := 64) ?hr ?_; (case hd => rfl); (case hg => rfl); (case hr => first | (go_simp; done) | (go_simp; rfl)); intro gb1097 hg w28 hbox hb; have n0_ := bB BK1080 hb; have n1_ := bB BK1081 hb; have n2_ := bB BK1089 hb; have n3_ := bS HB hb; have n4_ := aM (hbox); have n5_ := bZ hg HB; have n6_ := bZ hg HB; have n7_ := nL hg BK1080; have n8_ := nG hg BK1080; have n9_ := nL hg BK1081; have n10_ := nG hg BK1081; have n11_ := nL hg BK1089; have n12_ := nG hg BK1089; clear BK1080; clear BK1081; clear BK1089; clear HB; have BK1080 := n0_; have BK1081 := n1_; have BK1089 := n2_; have HB := n3_; have BK1097 := n4_; have GW1097 := n5_; have GE1097 := n6_; have NB1080_1097 := n7_; have NB1097_1080 := n8_; have NB1081_1097 := n9_; have NB1097_1081 := n10_; have NB1089_1097 := n11_; have NB1097_1089 := n12_; clear n0_ n1_ n2_ n3_ n4_ n5_ n6_ n7_ n8_ n9_ n10_ n11_ n12_; clear hb hbox hg; have hnb29 := NB1097_1080.out; have hnc29 := NB1080_1097.out; have hnb30 := NB1097_1081.out; have hnc30 := NB1081_1097.out; have hnb31 := NB1097_1089.out; have hnc31 := NB1089_1097.out; obtain ⟨hcz32_0, hcz32_1, hcz32_2, hcz32_3, hcz32_4, hcz32_5⟩ := z6 BK1097; obtain ⟨hfz32_0, hfz32_1, hfz32_2, hfz32_3, hfz32_4, hfz32_5⟩ := y6 BK1097) | ((with_reducible refine gate_callee (f := 42) rfl ?_); refine goesL_ (some 49) rfl rfl Try.func42 (by kernel_rfl) rfl #[.slice A0 l0.length c0] rfl (by first|rfl|(simp only [List.map_toArray, List.map_cons, List.map_nil]; try rfl)) ?_; (with_reducible refine (spec_DrawInverseMotion.calls k _ _ l0 t1098 t1099 t1100 t1101 t1102 t1103 _ ?side1 ?side2 A7.out).mono ?_); (case side1 => exact Kd.C_below HR0.out (by repeat (first | (with_reducible first | exact HB.out | apply bA|apply bN|apply b1 | refine below_set ?_ (Aside0.out (by assumption))) | exact HB.out))); (case side2 => exact HC0.out); rintro e w33 ⟨rfl, hb⟩; refine ⟨_, rfl, ?_⟩; have n0_ := aM (blk_below (g := gb1080) (o := .cells #[.int .i64 t1068, .int .i64 t1069, .int .i64 t1070, .int .i64 t1071, .int .i64 t1072, .int .i64 t1073] 64 (0, 0)) (by (repeat (first|(with_reducible first|apply kN|apply kD|apply kA)|refine blk_far ?_ NB1080_1097.out _)); exact BK1080.out) hb); have n1_ := aM (blk_below (g := gb1081) (o := .cells #[.int .i64 t1074, .int .i64 t1075, .int .i64 t1076, .int .i64 t1077, .int .i64 t1078, .int .i64 t1079] 64 (0, 0)) (by (repeat (first|(with_reducible first|apply kN|apply kD|apply kA)|refine blk_far ?_ NB1081_1097.out _)); exact BK1081.out) hb); have n2_ := aM (blk_below (g := gb1089) (o := .cells #[.int .i64 t1082, .int .i64 t1083, .int .i64 t1084, .int .i64 t1085, .int .i64 t1086, .int .i64 t1087] 64 (0, 0)) (by (repeat (first|(with_reducible first|apply kN|apply kD|apply kA)|refine blk_far ?_ NB1089_1097.out _)); exact BK1089.out) hb); have n3_ := aM (blk_below (g := gb1097) (o := .cells #[.int .i64 t1090, .int .i64 t1091, .int .i64 t1092, .int .i64 t1093, .int .i64 t1094, .int .i64 t1095] 64 (0, 0)) (by (with_reducible repeat (first|apply kN|apply kD|apply kA)); refine blk_put (cs := #[.int .i64 t1090, .int .i64 t1091, .int .i64 t1092, .int .i64 t1093, .int .i64 t1094, .int .i64 0]) ?_ 5 _ rfl; (with_reducible repeat (first|apply kN|apply kD|apply kA)); refine blk_put (cs := #[.int .i64 t1090, .int .i64 t1091, .int .i64 t1092, .int .i64 t1093, .int .i64 0, .int .i64 0]) ?_ 4 _ rfl; (with_reducible repeat (first|apply kN|apply kD|apply kA)); refine blk_put (cs := #[.int .i64 t1090, .int .i64 t1091, .int .i64 t1092, .int .i64 0, .int .i64 0, .int .i64 0]) ?_ 3 _ rfl; (with_reducible repeat (first|apply kN|apply kD|apply kA)); refine blk_put (cs := #[.int .i64 t1090, .int .i64 t1091, .int .i64 0, .int .i64 0, .int .i64 0, .int .i64 0]) ?_ 2 _ rfl; (with_reducible repeat (first|apply kN|apply kD|apply kA)); refine blk_put (cs := #[.int .i64 t1090, .int .i64 0, .int .i64 0, .int .i64 0, .int .i64 0, .int .i64 0]) ?_ 1 _ rfl; (with_reducible repeat (first|apply kN|apply kD|apply kA)); refine blk_put (cs := #[.int .i64 0, .int .i64 0, .int .i64 0, .int .i64 0, .int .i64 0, .int .i64 0]) ?_ 0 _ rfl; (with_reducible repeat (first|apply kN|apply kD|apply kA)); exact BK1097.out) hb); have n4_ := bS HB hb; clear BK1080; clear BK1081; clear BK1089; clear BK1097; clear HB; have BK1080 := n0_; have BK1081 := n1_; have BK1089 := n2_; have BK1097 := n3_; have HB := n4_; clear n0_ n1_ n2_ n3_ n4_; (try clear hb)) | ((with_reducible refine gate_dst (N := 9) rfl ?_); refine box_event ?hg (N := 9) ?hd (cs := #[.int .i64 0, .int .i64 0, .int .i64 0, .int .i64 0, .int .i64 0, .int .i64 0]) (t := 64) ?hr ?_; (case hd => rfl); (case hg => rfl); (case hr => first | (go_simp; done) | (go_simp; rfl)); intro gb1104 hg w34 hbox hb; have n0_ := bB BK1080 hb; have n1_ := bB BK1081 hb; have n2_ := bB BK1089 hb; have n3_ := bB BK1097 hb; have n4_ := bS HB hb; have n5_ := aM (hbox); have n6_ := bZ hg HB; have n7_ := bZ hg HB; have n8_ := nL hg BK1080; have n9_ := nG hg BK1080; have n10_ := nL hg BK1081; have n11_ := nG hg BK1081; have n12_ := nL hg BK1089; have n13_ := nG hg BK1089; have n14_ := nL hg BK1097; have n15_ := nG hg BK1097; clear BK1080; clear BK1081; clear BK1089; clear BK1097; clear HB; have BK1080 := n0_; have BK1081 := n1_; have BK1089 := n2_; have BK1097 := n3_; have HB := n4_; have BK1104 := n5_; have GW1104 := n6_; have GE1104 := n7_; have NB1080_1104 := n8_; have NB1104_1080 := n9_; have NB1081_1104 := n10_; have NB1104_1081 := n11_; have NB1089_1104 := n12_; have NB1104_1089 := n13_; have NB1097_1104 := n14_; have NB1104_1097 := n15_; clear n0_ n1_ n2_ n3_ n4_ n5_ n6_ n7_ n8_ n9_ n10_ n11_ n12_ n13_ n14_ n15_; clear hb hbox hg; have hnb35 := NB1104_1080.out; have hnc35 := NB1080_1104.out; have hnb36 := NB1104_1081.out; have hnc36 := NB1081_1104.out; have hnb37 := NB1104_1089.out; have hnc37 := NB1089_1104.out; have hnb38 := NB1104_1097.out; have hnc38 := NB1097_1104.out; obtain ⟨hcz39_0, hcz39_1, hcz39_2, hcz39_3, hcz39_4, hcz39_5⟩ := z6 BK1104; obtain ⟨hfz39_0, hfz39_1, hfz39_2, hfz39_3, hfz39_4, hfz39_5⟩ := y6 BK1104) | ((with_reducible refine gate_callee (f := 43) rfl ?_); refine goesL_ (some 52) rfl rfl Try.func43 (by kernel_rfl) rfl #[.agg #[.int .i64 t1098, .int .i64 t1099, .int .i64 t1100, .int .i64 t1101, .int .i64 t1102, .int .i64 t1103]] rfl (by first|rfl|(simp only [List.map_toArray, List.map_cons, List.map_nil]; try rfl)) ?_; (with_reducible refine (impl_InverseMotion.calls k t1098 t1099 t1100 t1101 t1102 t1103 t1105 t1106 t1107 t1108 t1109 t1110 t1111 _ A8.out).mono ?_); rintro e w40 ⟨rfl, hb⟩; refine ⟨_, rfl, ?_⟩; have n0_ := aM (blk_below (g := gb1080) (o := .cells #[.int .i64 t1068, .int .i64 t1069, .int .i64 t1070, .int .i64 t1071, .int .i64 t1072, .int .i64 t1073] 64 (0, 0)) (by (repeat (first|(with_reducible first|apply kN|apply kD|apply kA)|refine blk_far ?_ NB1080_1104.out _)); exact BK1080.out) hb); have n1_ := aM (blk_below (g := gb1081) (o := .cells #[.int .i64 t1074, .int .i64 t1075, .int .i64 t1076, .int .i64 t1077, .int .i64 t1078, .int .i64 t1079] 64 (0, 0)) (by (repeat (first|(with_reducible first|apply kN|apply kD|apply kA)|refine blk_far ?_ NB1081_1104.out _)); exact BK1081.out) hb); have n2_ := aM (blk_below (g := gb1089) (o := .cells #[.int .i64 t1082, .int .i64 t1083, .int .i64 t1084, .int .i64 t1085, .int .i64 t1086, .int .i64 t1087] 64 (0, 0)) (by (repeat (first|(with_reducible first|apply kN|apply kD|apply kA)|refine blk_far ?_ NB1089_1104.out _)); exact BK1089.out) hb); have n3_ := aM (blk_below (g := gb1097) (o := .cells #[.int .i64 t1090, .int .i64 t1091, .int .i64 t1092, .int .i64 t1093, .int .i64 t1094, .int .i64 t1095] 64 (0, 0)) (by (repeat (first|(with_reducible first|apply kN|apply kD|apply kA)|refine blk_far ?_ NB1097_1104.out _)); exact BK1097.out) hb); have n4_ := aM (blk_below (g := gb1104) (o := .cells #[.int .i64 t1098, .int .i64 t1099, .int .i64 t1100, .int .i64 t1101, .int .i64 t1102, .int .i64 t1103] 64 (0, 0)) (by (with_reducible repeat (first|apply kN|apply kD|apply kA)); refine blk_put (cs := #[.int .i64 t1098, .int .i64 t1099, .int .i64 t1100, .int .i64 t1101, .int .i64 t1102, .int .i64 0]) ?_ 5 _ rfl; (with_reducible repeat (first|apply kN|apply kD|apply kA)); refine blk_put (cs := #[.int .i64 t1098, .int .i64 t1099, .int .i64 t1100, .int .i64 t1101, .int .i64 0, .int .i64 0]) ?_ 4 _ rfl; (with_reducible repeat (first|apply kN|apply kD|apply kA)); refine blk_put (cs := #[.int .i64 t1098, .int .i64 t1099, .int .i64 t1100, .int .i64 0, .int .i64 0, .int .i64 0]) ?_ 3 _ rfl; (with_reducible repeat (first|apply kN|apply kD|apply kA)); refine blk_put (cs := #[.int .i64 t1098, .int .i64 t1099, .int .i64 0, .int .i64 0, .int .i64 0, .int .i64 0]) ?_ 2 _ rfl; (with_reducible repeat (first|apply kN|apply kD|apply kA)); refine blk_put (cs := #[.int .i64 t1098, .int .i64 0, .int .i64 0, .int .i64 0, .int .i64 0, .int .i64 0]) ?_ 1 _ rfl; (with_reducible repeat (first|apply kN|apply kD|apply kA)); refine blk_put (cs := #[.int .i64 0, .int .i64 0, .int .i64 0, .int .i64 0, .int .i64 0, .int .i64 0]) ?_ 0 _ rfl; (with_reducible repeat (first|apply kN|apply kD|apply kA)); exact BK1104.out) hb); have n5_ := bS HB hb; clear BK1080; clear BK1081; clear BK1089; clear BK1097; clear BK1104; clear HB; have BK1080 := n0_; have BK1081 := n1_; have BK1089 := n2_; have BK1097 := n3_; have BK1104 := n4_; have HB := n5_; clear n0_ n1_ n2_ n3_ n4_ n5_; (try clear hb)) | ((with_reducible refine gate_dst (N := 10) rfl ?_); refine box_event ?hg (N := 10) ?hd (cs := #[.int .i64 0, .int .i64 0, .int .i64 0, .int .i64 0, .int .i64 0, .int .i64 0]) (t := 64) ?hr ?_; (case hd => rfl); (case hg => rfl); (case hr => first | (go_simp; done) | (go_simp; rfl)); intro gb1112 hg w41 hbox hb; have n0_ := bB BK1080 hb; have n1_ := bB BK1081 hb; have n2_ := bB BK1089 hb; have n3_ := bB BK1097 hb; have n4_ := bB BK1104 hb; have n5_ := bS HB hb; have n6_ := aM (hbox); have n7_ := bZ hg HB; have n8_ := bZ hg HB; have n9_ := nL hg BK1080; have n10_ := nG hg BK1080; have n11_ := nL hg BK1081; have n12_ := nG hg BK1081; have n13_ := nL hg BK1089; have n14_ := nG hg BK1089; have n15_ := nL hg BK1097; have n16_ := nG hg BK1097; have n17_ := nL hg BK1104; have n18_ := nG hg BK1104; clear BK1080; clear BK1081; clear BK1089; clear BK1097; clear BK1104; clear HB; have BK1080 := n0_; have BK1081 := n1_; have BK1089 := n2_; have BK1097 := n3_; have BK1104 := n4_; have HB := n5_; have BK1112 := n6_; have GW1112 := n7_; have GE1112 := n8_; have NB1080_1112 := n9_; have NB1112_1080 := n10_; have NB1081_1112 := n11_; have NB1112_1081 := n12_; have NB1089_1112 := n13_; have NB1112_1089 := n14_; have NB1097_1112 := n15_; have NB1112_1097 := n16_; have NB1104_1112 := n17_; have NB1112_1104 := n18_; clear n0_ n1_ n2_ n3_ n4_ n5_ n6_ n7_ n8_ n9_ n10_ n11_ n12_ n13_ n14_ n15_ n16_ n17_ n18_; clear hb hbox hg; have hnb42 := NB1112_1080.out; have hnc42 := NB1080_1112.out; have hnb43 := NB1112_1081.out; have hnc43 := NB1081_1112.out; have hnb44 := NB1112_1089.out; have hnc44 := NB1089_1112.out; have hnb45 := NB1112_1097.out; have hnc45 := NB1097_1112.out; have hnb46 := NB1112_1104.out; have hnc46 := NB1104_1112.out; obtain ⟨hcz47_0, hcz47_1, hcz47_2, hcz47_3, hcz47_4, hcz47_5⟩ := z6 BK1112; obtain ⟨hfz47_0, hfz47_1, hfz47_2, hfz47_3, hfz47_4, hfz47_5⟩ := y6 BK1112; obtain ⟨hcz48_0, hcz48_1, hcz48_2, hcz48_3, hcz48_4, hcz48_5⟩ := z6 BK1104; obtain ⟨hfz48_0, hfz48_1, hfz48_2, hfz48_3, hfz48_4, hfz48_5⟩ := y6 BK1104) | ((with_reducible refine gate_callee (f := 44) rfl ?_); refine goesL_ (some 57) rfl rfl Try.func44 (by kernel_rfl) rfl #[.agg #[.int .i64 t1098, .int .i64 t1099, .int .i64 t1100, .int .i64 t1101, .int .i64 t1102, .int .i64 t1103]] rfl (by first|rfl|(simp only [List.map_toArray, List.map_cons, List.map_nil]; try rfl)) ?_; (with_reducible refine (spec_InverseMotion.calls k t1098 t1099 t1100 t1101 t1102 t1103 t1113 t1114 t1115 t1116 t1117 t1118 t1119 _ A9.out).mono ?_); rintro e w49 ⟨rfl, hb⟩; refine ⟨_, rfl, ?_⟩; have n0_ := aM (blk_below (g := gb1080) (o := .cells #[.int .i64 t1068, .int .i64 t1069, .int .i64 t1070, .int .i64 t1071, .int .i64 t1072, .int .i64 t1073] 64 (0, 0)) (by (repeat (first|(with_reducible first|apply kN|apply kD|apply kA)|refine blk_far ?_ NB1080_1112.out _)); exact BK1080.out) hb); have n1_ := aM (blk_below (g := gb1081) (o := .cells #[.int .i64 t1074, .int .i64 t1075, .int .i64 t1076, .int .i64 t1077, .int .i64 t1078, .int .i64 t1079] 64 (0, 0)) (by (repeat (first|(with_reducible first|apply kN|apply kD|apply kA)|refine blk_far ?_ NB1081_1112.out _)); exact BK1081.out) hb); have n2_ := aM (blk_below (g := gb1089) (o := .cells #[.int .i64 t1082, .int .i64 t1083, .int .i64 t1084, .int .i64 t1085, .int .i64 t1086, .int .i64 t1087] 64 (0, 0)) (by (repeat (first|(with_reducible first|apply kN|apply kD|apply kA)|refine blk_far ?_ NB1089_1112.out _)); exact BK1089.out) hb); have n3_ := aM (blk_below (g := gb1097) (o := .cells #[.int .i64 t1090, .int .i64 t1091, .int .i64 t1092, .int .i64 t1093, .int .i64 t1094, .int .i64 t1095] 64 (0, 0)) (by (repeat (first|(with_reducible first|apply kN|apply kD|apply kA)|refine blk_far ?_ NB1097_1112.out _)); exact BK1097.out) hb); have n4_ := aM (blk_below (g := gb1104) (o := .cells #[.int .i64 t1098, .int .i64 t1099, .int .i64 t1100, .int .i64 t1101, .int .i64 t1102, .int .i64 t1103] 64 (0, 0)) (by (repeat (first|(with_reducible first|apply kN|apply kD|apply kA)|refine blk_far ?_ NB1104_1112.out _)); exact BK1104.out) hb); have n5_ := aM (blk_below (g := gb1112) (o := .cells #[.int .i64 t1105, .int .i64 t1106, .int .i64 t1107, .int .i64 t1108, .int .i64 t1109, .int .i64 t1110] 64 (0, 0)) (by (with_reducible repeat (first|apply kN|apply kD|apply kA)); refine blk_put (cs := #[.int .i64 t1105, .int .i64 t1106, .int .i64 t1107, .int .i64 t1108, .int .i64 t1109, .int .i64 0]) ?_ 5 _ rfl; (with_reducible repeat (first|apply kN|apply kD|apply kA)); refine blk_put (cs := #[.int .i64 t1105, .int .i64 t1106, .int .i64 t1107, .int .i64 t1108, .int .i64 0, .int .i64 0]) ?_ 4 _ rfl; (with_reducible repeat (first|apply kN|apply kD|apply kA)); refine blk_put (cs := #[.int .i64 t1105, .int .i64 t1106, .int .i64 t1107, .int .i64 0, .int .i64 0, .int .i64 0]) ?_ 3 _ rfl; (with_reducible repeat (first|apply kN|apply kD|apply kA)); refine blk_put (cs := #[.int .i64 t1105, .int .i64 t1106, .int .i64 0, .int .i64 0, .int .i64 0, .int .i64 0]) ?_ 2 _ rfl; (with_reducible repeat (first|apply kN|apply kD|apply kA)); refine blk_put (cs := #[.int .i64 t1105, .int .i64 0, .int .i64 0, .int .i64 0, .int .i64 0, .int .i64 0]) ?_ 1 _ rfl; (with_reducible repeat (first|apply kN|apply kD|apply kA)); refine blk_put (cs := #[.int .i64 0, .int .i64 0, .int .i64 0, .int .i64 0, .int .i64 0, .int .i64 0]) ?_ 0 _ rfl; (with_reducible repeat (first|apply kN|apply kD|apply kA)); exact BK1112.out) hb); have n6_ := bS HB hb; clear BK1080; clear BK1081; clear BK1089; clear BK1097; clear BK1104; clear BK1112; clear HB; have BK1080 := n0_; have BK1081 := n1_; have BK1089 := n2_; have BK1097 := n3_; have BK1104 := n4_; have BK1112 := n5_; have HB := n6_; clear n0_ n1_ n2_ n3_ n4_ n5_ n6_; (try clear hb)) | ((with_reducible refine gate_dst (N := 12) rfl ?_); refine box_event ?hg (N := 12) ?hd (cs := #[.int .i64 0, .int .i64 0, .int .i64 0, .int .i64 0, .int .i64 0, .int .i64 0]) (t := 64) ?hr ?_; (case hd => rfl); (case hg => rfl); (case hr => first | (go_simp; done) | (go_simp; rfl)); intro gb1120 hg w50 hbox hb; have n0_ := bB BK1080 hb; have n1_ := bB BK1081 hb; have n2_ := bB BK1089 hb; have n3_ := bB BK1097 hb; have n4_ := bB BK1104 hb; have n5_ := bB BK1112 hb; have n6_ := bS HB hb; have n7_ := aM (hbox); have n8_ := bZ hg HB; have n9_ := bZ hg HB; have n10_ := nL hg BK1080; have n11_ := nG hg BK1080; have n12_ := nL hg BK1081; have n13_ := nG hg BK1081; have n14_ := nL hg BK1089; have n15_ := nG hg BK1089; have n16_ := nL hg BK1097; have n17_ := nG hg BK1097; have n18_ := nL hg BK1104; have n19_ := nG hg BK1104; have n20_ := nL hg BK1112; have n21_ := nG hg BK1112; clear BK1080; clear BK1081; clear BK1089; clear BK1097; clear BK1104; clear BK1112; clear HB; have BK1080 := n0_; have BK1081 := n1_; have BK1089 := n2_; have BK1097 := n3_; have BK1104 := n4_; have BK1112 := n5_; have HB := n6_; have BK1120 := n7_; have GW1120 := n8_; have GE1120 := n9_; have NB1080_1120 := n10_; have NB1120_1080 := n11_; have NB1081_1120 := n12_; have NB1120_1081 := n13_; have NB1089_1120 := n14_; have NB1120_1089 := n15_; have NB1097_1120 := n16_; have NB1120_1097 := n17_; have NB1104_1120 := n18_; have NB1120_1104 := n19_; have NB1112_1120 := n20_; have NB1120_1112 := n21_; clear n0_ n1_ n2_ n3_ n4_ n5_ n6_ n7_ n8_ n9_ n10_ n11_ n12_ n13_ n14_ n15_ n16_ n17_ n18_ n19_ n20_ n21_; clear hb hbox hg; have hnb51 := NB1120_1080.out; have hnc51 := NB1080_1120.out; have hnb52 := NB1120_1081.out; have hnc52 := NB1081_1120.out; have hnb53 := NB1120_1089.out; have hnc53 := NB1089_1120.out; have hnb54 := NB1120_1097.out; have hnc54 := NB1097_1120.out; have hnb55 := NB1120_1104.out; have hnc55 := NB1104_1120.out; have hnb56 := NB1120_1112.out; have hnc56 := NB1112_1120.out; obtain ⟨hcz57_0, hcz57_1, hcz57_2, hcz57_3, hcz57_4, hcz57_5⟩ := z6 BK1120; obtain ⟨hfz57_0, hfz57_1, hfz57_2, hfz57_3, hfz57_4, hfz57_5⟩ := y6 BK1120) | ((with_reducible refine gate_callee (f := 45) rfl ?_); refine goesL_ (some 62) rfl rfl Try.func45 (by kernel_rfl) rfl #[.slice A0 l0.length c0] rfl (by first|rfl|(simp only [List.map_toArray, List.map_cons, List.map_nil]; try rfl)) ?_; (with_reducible refine (spec_DrawApplyMotion.calls k _ _ l0 t1121 t1122 t1123 t1124 t1125 t1126 t1127 t1128 _ ?side1 ?side2 A10.out).mono ?_); (case side1 => exact Kd.C_below HR0.out (by repeat (first | (with_reducible first | exact HB.out | apply bA|apply bN|apply b1 | refine below_set ?_ (Aside0.out (by assumption))) | exact HB.out))); (case side2 => exact HC0.out); rintro e w58 ⟨rfl, hb⟩; refine ⟨_, rfl, ?_⟩; have n0_ := aM (blk_below (g := gb1080) (o := .cells #[.int .i64 t1068, .int .i64 t1069, .int .i64 t1070, .int .i64 t1071, .int .i64 t1072, .int .i64 t1073] 64 (0, 0)) (by (repeat (first|(with_reducible first|apply kN|apply kD|apply kA)|refine blk_far ?_ NB1080_1120.out _)); exact BK1080.out) hb); have n1_ := aM (blk_below (g := gb1081) (o := .cells #[.int .i64 t1074, .int .i64 t1075, .int .i64 t1076, .int .i64 t1077, .int .i64 t1078, .int .i64 t1079] 64 (0, 0)) (by (repeat (first|(with_reducible first|apply kN|apply kD|apply kA)|refine blk_far ?_ NB1081_1120.out _)); exact BK1081.out) hb); have n2_ := aM (blk_below (g := gb1089) (o := .cells #[.int .i64 t1082, .int .i64 t1083, .int .i64 t1084, .int .i64 t1085, .int .i64 t1086, .int .i64 t1087] 64 (0, 0)) (by (repeat (first|(with_reducible first|apply kN|apply kD|apply kA)|refine blk_far ?_ NB1089_1120.out _)); exact BK1089.out) hb); have n3_ := aM (blk_below (g := gb1097) (o := .cells #[.int .i64 t1090, .int .i64 t1091, .int .i64 t1092, .int .i64 t1093, .int .i64 t1094, .int .i64 t1095] 64 (0, 0)) (by (repeat (first|(with_reducible first|apply kN|apply kD|apply kA)|refine blk_far ?_ NB1097_1120.out _)); exact BK1097.out) hb); have n4_ := aM (blk_below (g := gb1104) (o := .cells #[.int .i64 t1098, .int .i64 t1099, .int .i64 t1100, .int .i64 t1101, .int .i64 t1102, .int .i64 t1103] 64 (0, 0)) (by (repeat (first|(with_reducible first|apply kN|apply kD|apply kA)|refine blk_far ?_ NB1104_1120.out _)); exact BK1104.out) hb); have n5_ := aM (blk_below (g := gb1112) (o := .cells #[.int .i64 t1105, .int .i64 t1106, .int .i64 t1107, .int .i64 t1108, .int .i64 t1109, .int .i64 t1110] 64 (0, 0)) (by (repeat (first|(with_reducible first|apply kN|apply kD|apply kA)|refine blk_far ?_ NB1112_1120.out _)); exact BK1112.out) hb); have n6_ := aM (blk_below (g := gb1120) (o := .cells #[.int .i64 t1113, .int .i64 t1114, .int .i64 t1115, .int .i64 t1116, .int .i64 t1117, .int .i64 t1118] 64 (0, 0)) (by (with_reducible repeat (first|apply kN|apply kD|apply kA)); refine blk_put (cs := #[.int .i64 t1113, .int .i64 t1114, .int .i64 t1115, .int .i64 t1116, .int .i64 t1117, .int .i64 0]) ?_ 5 _ rfl; (with_reducible repeat (first|apply kN|apply kD|apply kA)); refine blk_put (cs := #[.int .i64 t1113, .int .i64 t1114, .int .i64 t1115, .int .i64 t1116, .int .i64 0, .int .i64 0]) ?_ 4 _ rfl; (with_reducible repeat (first|apply kN|apply kD|apply kA)); refine blk_put (cs := #[.int .i64 t1113, .int .i64 t1114, .int .i64 t1115, .int .i64 0, .int .i64 0, .int .i64 0]) ?_ 3 _ rfl; (with_reducible repeat (first|apply kN|apply kD|apply kA)); refine blk_put (cs := #[.int .i64 t1113, .int .i64 t1114, .int .i64 0, .int .i64 0, .int .i64 0, .int .i64 0]) ?_ 2 _ rfl; (with_reducible repeat (first|apply kN|apply kD|apply kA)); refine blk_put (cs := #[.int .i64 t1113, .int .i64 0, .int .i64 0, .int .i64 0, .int .i64 0, .int .i64 0]) ?_ 1 _ rfl; (with_reducible repeat (first|apply kN|apply kD|apply kA)); refine blk_put (cs := #[.int .i64 0, .int .i64 0, .int .i64 0, .int .i64 0, .int .i64 0, .int .i64 0]) ?_ 0 _ rfl; (with_reducible repeat (first|apply kN|apply kD|apply kA)); exact BK1120.out) hb); have n7_ := bS HB hb; clear BK1080; clear BK1081; clear BK1089; clear BK1097; clear BK1104; clear BK1112; clear BK1120; clear HB; have BK1080 := n0_; have BK1081 := n1_; have BK1089 := n2_; have BK1097 := n3_; have BK1104 := n4_; have BK1112 := n5_; have BK1120 := n6_; have HB := n7_; clear n0_ n1_ n2_ n3_ n4_ n5_ n6_ n7_; (try clear hb)) | ((with_reducible refine gate_dst (N := 14) rfl ?_); refine box_event ?hg (N := 14) ?hd (cs := #[.int .i64 0, .int .i64 0, .int .i64 0, .int .i64 0, .int .i64 0, .int .i64 0]) (t := 64) ?hr ?_; (case hd => rfl); (case hg => rfl); (case hr => first | (go_simp; done) | (go_simp; rfl)); intro gb1129 hg w59 hbox hb; have n0_ := bB BK1080 hb; have n1_ := bB BK1081 hb; have n2_ := bB BK1089 hb; have n3_ := bB BK1097 hb; have n4_ := bB BK1104 hb; have n5_ := bB BK1112 hb; have n6_ := bB BK1120 hb; have n7_ := bS HB hb; have n8_ := aM (hbox); have n9_ := bZ hg HB; have n10_ := bZ hg HB; have n11_ := nL hg BK1080; have n12_ := nG hg BK1080; have n13_ := nL hg BK1081; have n14_ := nG hg BK1081; have n15_ := nL hg BK1089; have n16_ := nG hg BK1089; have n17_ := nL hg BK1097; have n18_ := nG hg BK1097; have n19_ := nL hg BK1104; have n20_ := nG hg BK1104; have n21_ := nL hg BK1112; have n22_ := nG hg BK1112; have n23_ := nL hg BK1120; have n24_ := nG hg BK1120; clear BK1080; clear BK1081; clear BK1089; clear BK1097; clear BK1104; clear BK1112; clear BK1120; clear HB; have BK1080 := n0_; have BK1081 := n1_; have BK1089 := n2_; have BK1097 := n3_; have BK1104 := n4_; have BK1112 := n5_; have BK1120 := n6_; have HB := n7_; have BK1129 := n8_; have GW1129 := n9_; have GE1129 := n10_; have NB1080_1129 := n11_; have NB1129_1080 := n12_; have NB1081_1129 := n13_; have NB1129_1081 := n14_; have NB1089_1129 := n15_; have NB1129_1089 := n16_; have NB1097_1129 := n17_; have NB1129_1097 := n18_; have NB1104_1129 := n19_; have NB1129_1104 := n20_; have NB1112_1129 := n21_; have NB1129_1112 := n22_; have NB1120_1129 := n23_; have NB1129_1120 := n24_; clear n0_ n1_ n2_ n3_ n4_ n5_ n6_ n7_ n8_ n9_ n10_ n11_ n12_ n13_ n14_ n15_ n16_ n17_ n18_ n19_ n20_ n21_ n22_ n23_ n24_; clear hb hbox hg) | ((with_reducible refine gate_dst (N := 15) rfl ?_); refine box_event ?hg (N := 15) ?hd (cs := #[.int .i64 0, .int .i64 0]) (t := 47) ?hr ?_; (case hd => rfl); (case hg => rfl); (case hr => first | (go_simp; done) | (go_simp; rfl)); intro gb1130 hg w60 hbox hb; have n0_ := bB BK1080 hb; have n1_ := bB BK1081 hb; have n2_ := bB BK1089 hb; have n3_ := bB BK1097 hb; have n4_ := bB BK1104 hb; have n5_ := bB BK1112 hb; have n6_ := bB BK1120 hb; have n7_ := bB BK1129 hb; have n8_ := bS HB hb; have n9_ := aM (hbox); have n10_ := bZ hg HB; have n11_ := bZ hg HB; have n12_ := nL hg BK1080; have n13_ := nG hg BK1080; have n14_ := nL hg BK1081; have n15_ := nG hg BK1081; have n16_ := nL hg BK1089; have n17_ := nG hg BK1089; have n18_ := nL hg BK1097; have n19_ := nG hg BK1097; have n20_ := nL hg BK1104; have n21_ := nG hg BK1104; have n22_ := nL hg BK1112; have n23_ := nG hg BK1112; have n24_ := nL hg BK1120; have n25_ := nG hg BK1120; have n26_ := nL hg BK1129; have n27_ := nG hg BK1129; clear BK1080; clear BK1081; clear BK1089; clear BK1097; clear BK1104; clear BK1112; clear BK1120; clear BK1129; clear HB; have BK1080 := n0_; have BK1081 := n1_; have BK1089 := n2_; have BK1097 := n3_; have BK1104 := n4_; have BK1112 := n5_; have BK1120 := n6_; have BK1129 := n7_; have HB := n8_; have BK1130 := n9_; have GW1130 := n10_; have GE1130 := n11_; have NB1080_1130 := n12_; have NB1130_1080 := n13_; have NB1081_1130 := n14_; have NB1130_1081 := n15_; have NB1089_1130 := n16_; have NB1130_1089 := n17_; have NB1097_1130 := n18_; have NB1130_1097 := n19_; have NB1104_1130 := n20_; have NB1130_1104 := n21_; have NB1112_1130 := n22_; have NB1130_1112 := n23_; have NB1120_1130 := n24_; have NB1130_1120 := n25_; have NB1129_1130 := n26_; have NB1130_1129 := n27_; clear n0_ n1_ n2_ n3_ n4_ n5_ n6_ n7_ n8_ n9_ n10_ n11_ n12_ n13_ n14_ n15_ n16_ n17_ n18_ n19_ n20_ n21_ n22_ n23_ n24_ n25_ n26_ n27_; clear hb hbox hg; have hnb61 := NB1129_1080.out; have hnc61 := NB1080_1129.out; have hnb62 := NB1129_1081.out; have hnc62 := NB1081_1129.out; have hnb63 := NB1129_1089.out; have hnc63 := NB1089_1129.out; have hnb64 := NB1129_1097.out; have hnc64 := NB1097_1129.out; have hnb65 := NB1129_1104.out; have hnc65 := NB1104_1129.out; have hnb66 := NB1129_1112.out; have hnc66 := NB1112_1129.out; have hnb67 := NB1129_1120.out; have hnc67 := NB1120_1129.out; have hnb68 := NB1129_1130.out; have hnc68 := NB1130_1129.out; obtain ⟨hcz69_0, hcz69_1, hcz69_2, hcz69_3, hcz69_4, hcz69_5⟩ := z6 BK1129; obtain ⟨hfz69_0, hfz69_1, hfz69_2, hfz69_3, hfz69_4, hfz69_5⟩ := y6 BK1129; have hnb70 := NB1130_1080.out; have hnc70 := NB1080_1130.out; have hnb71 := NB1130_1081.out; have hnc71 := NB1081_1130.out; have hnb72 := NB1130_1089.out; have hnc72 := NB1089_1130.out; have hnb73 := NB1130_1097.out; have hnc73 := NB1097_1130.out; have hnb74 := NB1130_1104.out; have hnc74 := NB1104_1130.out; have hnb75 := NB1130_1112.out; have hnc75 := NB1112_1130.out; have hnb76 := NB1130_1120.out; have hnc76 := NB1120_1130.out; obtain ⟨hcz77_0, hcz77_1⟩ := z2 BK1130; obtain ⟨hfz77_0, hfz77_1⟩ := y2 BK1130) | ((with_reducible refine gate_callee (f := 46) rfl ?_); refine goesL_ (some 68) rfl rfl Try.func46 (by kernel_rfl) rfl #[.agg #[.int .i64 t1121, .int .i64 t1122, .int .i64 t1123, .int .i64 t1124, .int .i64 t1125, .int .i64 t1126], .agg #[.int .i64 t1127, .int .i64 t1128]] rfl (by first|rfl|(simp only [List.map_toArray, List.map_cons, List.map_nil]; try rfl)) ?_; (with_reducible refine (impl_ApplyMotion.calls k t1121 t1122 t1123 t1124 t1125 t1126 t1127 t1128 t1131 t1132 t1133 _ A11.out).mono ?_); rintro e w78 ⟨rfl, hb⟩; refine ⟨_, rfl, ?_⟩; have n0_ := aM (blk_below (g := gb1080) (o := .cells #[.int .i64 t1068, .int .i64 t1069, .int .i64 t1070, .int .i64 t1071, .int .i64 t1072, .int .i64 t1073] 64 (0, 0)) (by (repeat (first|(with_reducible first|apply kN|apply kD|apply kA)|refine blk_far ?_ NB1080_1130.out _|refine blk_far ?_ NB1080_1129.out _)); exact BK1080.out) hb); have n1_ := aM (blk_below (g := gb1081) (o := .cells #[.int .i64 t1074, .int .i64 t1075, .int .i64 t1076, .int .i64 t1077, .int .i64 t1078, .int .i64 t1079] 64 (0, 0)) (by (repeat (first|(with_reducible first|apply kN|apply kD|apply kA)|refine blk_far ?_ NB1081_1130.out _|refine blk_far ?_ NB1081_1129.out _)); exact BK1081.out) hb); have n2_ := aM (blk_below (g := gb1089) (o := .cells #[.int .i64 t1082, .int .i64 t1083, .int .i64 t1084, .int .i64 t1085, .int .i64 t1086, .int .i64 t1087] 64 (0, 0)) (by (repeat (first|(with_reducible first|apply kN|apply kD|apply kA)|refine blk_far ?_ NB1089_1130.out _|refine blk_far ?_ NB1089_1129.out _)); exact BK1089.out) hb); have n3_ := aM (blk_below (g := gb1097) (o := .cells #[.int .i64 t1090, .int .i64 t1091, .int .i64 t1092, .int .i64 t1093, .int .i64 t1094, .int .i64 t1095] 64 (0, 0)) (by (repeat (first|(with_reducible first|apply kN|apply kD|apply kA)|refine blk_far ?_ NB1097_1130.out _|refine blk_far ?_ NB1097_1129.out _)); exact BK1097.out) hb); have n4_ := aM (blk_below (g := gb1104) (o := .cells #[.int .i64 t1098, .int .i64 t1099, .int .i64 t1100, .int .i64 t1101, .int .i64 t1102, .int .i64 t1103] 64 (0, 0)) (by (repeat (first|(with_reducible first|apply kN|apply kD|apply kA)|refine blk_far ?_ NB1104_1130.out _|refine blk_far ?_ NB1104_1129.out _)); exact BK1104.out) hb); have n5_ := aM (blk_below (g := gb1112) (o := .cells #[.int .i64 t1105, .int .i64 t1106, .int .i64 t1107, .int .i64 t1108, .int .i64 t1109, .int .i64 t1110] 64 (0, 0)) (by (repeat (first|(with_reducible first|apply kN|apply kD|apply kA)|refine blk_far ?_ NB1112_1130.out _|refine blk_far ?_ NB1112_1129.out _)); exact BK1112.out) hb); have n6_ := aM (blk_below (g := gb1120) (o := .cells #[.int .i64 t1113, .int .i64 t1114, .int .i64 t1115, .int .i64 t1116, .int .i64 t1117, .int .i64 t1118] 64 (0, 0)) (by (repeat (first|(with_reducible first|apply kN|apply kD|apply kA)|refine blk_far ?_ NB1120_1130.out _|refine blk_far ?_ NB1120_1129.out _)); exact BK1120.out) hb); have n7_ := aM (blk_below (g := gb1129) (o := .cells #[.int .i64 t1121, .int .i64 t1122, .int .i64 t1123, .int .i64 t1124, .int .i64 t1125, .int .i64 t1126] 64 (0, 0)) (by (repeat (first|(with_reducible first|apply kN|apply kD|apply kA)|refine blk_far ?_ NB1129_1130.out _)); refine blk_put (cs := #[.int .i64 t1121, .int .i64 t1122, .int .i64 t1123, .int .i64 t1124, .int .i64 t1125, .int .i64 0]) ?_ 5 _ rfl; (with_reducible repeat (first|apply kN|apply kD|apply kA)); refine blk_put (cs := #[.int .i64 t1121, .int .i64 t1122, .int .i64 t1123, .int .i64 t1124, .int .i64 0, .int .i64 0]) ?_ 4 _ rfl; (with_reducible repeat (first|apply kN|apply kD|apply kA)); refine blk_put (cs := #[.int .i64 t1121, .int .i64 t1122, .int .i64 t1123, .int .i64 0, .int .i64 0, .int .i64 0]) ?_ 3 _ rfl; (with_reducible repeat (first|apply kN|apply kD|apply kA)); refine blk_put (cs := #[.int .i64 t1121, .int .i64 t1122, .int .i64 0, .int .i64 0, .int .i64 0, .int .i64 0]) ?_ 2 _ rfl; (with_reducible repeat (first|apply kN|apply kD|apply kA)); refine blk_put (cs := #[.int .i64 t1121, .int .i64 0, .int .i64 0, .int .i64 0, .int .i64 0, .int .i64 0]) ?_ 1 _ rfl; (with_reducible repeat (first|apply kN|apply kD|apply kA)); refine blk_put (cs := #[.int .i64 0, .int .i64 0, .int .i64 0, .int .i64 0, .int .i64 0, .int .i64 0]) ?_ 0 _ rfl; (with_reducible repeat (first|apply kN|apply kD|apply kA)); exact BK1129.out) hb); have n8_ := aM (blk_below (g := gb1130) (o := .cells #[.int .i64 t1127, .int .i64 t1128] 47 (0, 0)) (by (with_reducible repeat (first|apply kN|apply kD|apply kA)); refine blk_put (cs := #[.int .i64 t1127, .int .i64 0]) ?_ 1 _ rfl; (with_reducible repeat (first|apply kN|apply kD|apply kA)); refine blk_put (cs := #[.int .i64 0, .int .i64 0]) ?_ 0 _ rfl; (repeat (first|(with_reducible first|apply kN|apply kD|apply kA)|refine blk_far ?_ NB1130_1129.out _)); exact BK1130.out) hb); have n9_ := bS HB hb; clear BK1080; clear BK1081; clear BK1089; clear BK1097; clear BK1104; clear BK1112; clear BK1120; clear BK1129; clear BK1130; clear HB; have BK1080 := n0_; have BK1081 := n1_; have BK1089 := n2_; have BK1097 := n3_; have BK1104 := n4_; have BK1112 := n5_; have BK1120 := n6_; have BK1129 := n7_; have BK1130 := n8_; have HB := n9_; clear n0_ n1_ n2_ n3_ n4_ n5_ n6_ n7_ n8_ n9_; (try clear hb)) | ((with_reducible refine gate_dst (N := 16) rfl ?_); refine box_event ?hg (N := 16) ?hd (cs := #[.int .i64 0, .int .i64 0]) (t := 47) ?hr ?_; (case hd => rfl); (case hg => rfl); (case hr => first | (go_simp; done) | (go_simp; rfl)); intro gb1134 hg w79 hbox hb; have n0_ := bB BK1080 hb; have n1_ := bB BK1081 hb; have n2_ := bB BK1089 hb; have n3_ := bB BK1097 hb; have n4_ := bB BK1104 hb; have n5_ := bB BK1112 hb; have n6_ := bB BK1120 hb; have n7_ := bB BK1129 hb; have n8_ := bB BK1130 hb; have n9_ := bS HB hb; have n10_ := aM (hbox); have n11_ := bZ hg HB; have n12_ := bZ hg HB; have n13_ := nL hg BK1080; have n14_ := nG hg BK1080; have n15_ := nL hg BK1081; have n16_ := nG hg BK1081; have n17_ := nL hg BK1089; have n18_ := nG hg BK1089; have n19_ := nL hg BK1097; have n20_ := nG hg BK1097; have n21_ := nL hg BK1104; have n22_ := nG hg BK1104; have n23_ := nL hg BK1112; have n24_ := nG hg BK1112; have n25_ := nL hg BK1120; have n26_ := nG hg BK1120; have n27_ := nL hg BK1129; have n28_ := nG hg BK1129; have n29_ := nL hg BK1130; have n30_ := nG hg BK1130; clear BK1080; clear BK1081; clear BK1089; clear BK1097; clear BK1104; clear BK1112; clear BK1120; clear BK1129; clear BK1130; clear HB; have BK1080 := n0_; have BK1081 := n1_; have BK1089 := n2_; have BK1097 := n3_; have BK1104 := n4_; have BK1112 := n5_; have BK1120 := n6_; have BK1129 := n7_; have BK1130 := n8_; have HB := n9_; have BK1134 := n10_; have GW1134 := n11_; have GE1134 := n12_; have NB1080_1134 := n13_; have NB1134_1080 := n14_; have NB1081_1134 := n15_; have NB1134_1081 := n16_; have NB1089_1134 := n17_; have NB1134_1089 := n18_; have NB1097_1134 := n19_; have NB1134_1097 := n20_; have NB1104_1134 := n21_; have NB1134_1104 := n22_; have NB1112_1134 := n23_; have NB1134_1112 := n24_; have NB1120_1134 := n25_; have NB1134_1120 := n26_; have NB1129_1134 := n27_; have NB1134_1129 := n28_; have NB1130_1134 := n29_; have NB1134_1130 := n30_; clear n0_ n1_ n2_ n3_ n4_ n5_ n6_ n7_ n8_ n9_ n10_ n11_ n12_ n13_ n14_ n15_ n16_ n17_ n18_ n19_ n20_ n21_ n22_ n23_ n24_ n25_ n26_ n27_ n28_ n29_ n30_; clear hb hbox hg; have hnb80 := NB1134_1080.out; have hnc80 := NB1080_1134.out; have hnb81 := NB1134_1081.out; have hnc81 := NB1081_1134.out; have hnb82 := NB1134_1089.out; have hnc82 := NB1089_1134.out; have hnb83 := NB1134_1097.out; have hnc83 := NB1097_1134.out; have hnb84 := NB1134_1104.out; have hnc84 := NB1104_1134.out; have hnb85 := NB1134_1112.out; have hnc85 := NB1112_1134.out; have hnb86 := NB1134_1120.out; have hnc86 := NB1120_1134.out; have hnb87 := NB1134_1129.out; have hnc87 := NB1129_1134.out; have hnb88 := NB1134_1130.out; have hnc88 := NB1130_1134.out; obtain ⟨hcz89_0, hcz89_1⟩ := z2 BK1134; obtain ⟨hfz89_0, hfz89_1⟩ := y2 BK1134; obtain ⟨hcz90_0, hcz90_1, hcz90_2, hcz90_3, hcz90_4, hcz90_5⟩ := z6 BK1129; obtain ⟨hfz90_0, hfz90_1, hfz90_2, hfz90_3, hfz90_4, hfz90_5⟩ := y6 BK1129; obtain ⟨hcz91_0, hcz91_1⟩ := z2 BK1130; obtain ⟨hfz91_0, hfz91_1⟩ := y2 BK1130) | ((with_reducible refine gate_callee (f := 47) rfl ?_); refine goesL_ (some 74) rfl rfl Try.func47 (by kernel_rfl) rfl #[.agg #[.int .i64 t1121, .int .i64 t1122, .int .i64 t1123, .int .i64 t1124, .int .i64 t1125, .int .i64 t1126], .agg #[.int .i64 t1127, .int .i64 t1128]] rfl (by first|rfl|(simp only [List.map_toArray, List.map_cons, List.map_nil]; try rfl)) ?_; (with_reducible refine (spec_ApplyMotion.calls k t1121 t1122 t1123 t1124 t1125 t1126 t1127 t1128 t1135 t1136 t1137 _ A12.out).mono ?_); rintro e w92 ⟨rfl, hb⟩; refine ⟨_, rfl, ?_⟩; have n0_ := aM (blk_below (g := gb1080) (o := .cells #[.int .i64 t1068, .int .i64 t1069, .int .i64 t1070, .int .i64 t1071, .int .i64 t1072, .int .i64 t1073] 64 (0, 0)) (by (repeat (first|(with_reducible first|apply kN|apply kD|apply kA)|refine blk_far ?_ NB1080_1134.out _)); exact BK1080.out) hb); have n1_ := aM (blk_below (g := gb1081) (o := .cells #[.int .i64 t1074, .int .i64 t1075, .int .i64 t1076, .int .i64 t1077, .int .i64 t1078, .int .i64 t1079] 64 (0, 0)) (by (repeat (first|(with_reducible first|apply kN|apply kD|apply kA)|refine blk_far ?_ NB1081_1134.out _)); exact BK1081.out) hb); have n2_ := aM (blk_below (g := gb1089) (o := .cells #[.int .i64 t1082, .int .i64 t1083, .int .i64 t1084, .int .i64 t1085, .int .i64 t1086, .int .i64 t1087] 64 (0, 0)) (by (repeat (first|(with_reducible first|apply kN|apply kD|apply kA)|refine blk_far ?_ NB1089_1134.out _)); exact BK1089.out) hb); have n3_ := aM (blk_below (g := gb1097) (o := .cells #[.int .i64 t1090, .int .i64 t1091, .int .i64 t1092, .int .i64 t1093, .int .i64 t1094, .int .i64 t1095] 64 (0, 0)) (by (repeat (first|(with_reducible first|apply kN|apply kD|apply kA)|refine blk_far ?_ NB1097_1134.out _)); exact BK1097.out) hb); have n4_ := aM (blk_below (g := gb1104) (o := .cells #[.int .i64 t1098, .int .i64 t1099, .int .i64 t1100, .int .i64 t1101, .int .i64 t1102, .int .i64 t1103] 64 (0, 0)) (by (repeat (first|(with_reducible first|apply kN|apply kD|apply kA)|refine blk_far ?_ NB1104_1134.out _)); exact BK1104.out) hb); have n5_ := aM (blk_below (g := gb1112) (o := .cells #[.int .i64 t1105, .int .i64 t1106, .int .i64 t1107, .int .i64 t1108, .int .i64 t1109, .int .i64 t1110] 64 (0, 0)) (by (repeat (first|(with_reducible first|apply kN|apply kD|apply kA)|refine blk_far ?_ NB1112_1134.out _)); exact BK1112.out) hb); have n6_ := aM (blk_below (g := gb1120) (o := .cells #[.int .i64 t1113, .int .i64 t1114, .int .i64 t1115, .int .i64 t1116, .int .i64 t1117, .int .i64 t1118] 64 (0, 0)) (by (repeat (first|(with_reducible first|apply kN|apply kD|apply kA)|refine blk_far ?_ NB1120_1134.out _)); exact BK1120.out) hb); have n7_ := aM (blk_below (g := gb1129) (o := .cells #[.int .i64 t1121, .int .i64 t1122, .int .i64 t1123, .int .i64 t1124, .int .i64 t1125, .int .i64 t1126] 64 (0, 0)) (by (repeat (first|(with_reducible first|apply kN|apply kD|apply kA)|refine blk_far ?_ NB1129_1134.out _)); exact BK1129.out) hb); have n8_ := aM (blk_below (g := gb1130) (o := .cells #[.int .i64 t1127, .int .i64 t1128] 47 (0, 0)) (by (repeat (first|(with_reducible first|apply kN|apply kD|apply kA)|refine blk_far ?_ NB1130_1134.out _)); exact BK1130.out) hb); have n9_ := aM (blk_below (g := gb1134) (o := .cells #[.int .i64 t1131, .int .i64 t1132] 47 (0, 0)) (by (with_reducible repeat (first|apply kN|apply kD|apply kA)); refine blk_put (cs := #[.int .i64 t1131, .int .i64 0]) ?_ 1 _ rfl; (with_reducible repeat (first|apply kN|apply kD|apply kA)); refine blk_put (cs := #[.int .i64 0, .int .i64 0]) ?_ 0 _ rfl; (with_reducible repeat (first|apply kN|apply kD|apply kA)); exact BK1134.out) hb); have n10_ := bS HB hb; clear BK1080; clear BK1081; clear BK1089; clear BK1097; clear BK1104; clear BK1112; clear BK1120; clear BK1129; clear BK1130; clear BK1134; clear HB; have BK1080 := n0_; have BK1081 := n1_; have BK1089 := n2_; have BK1097 := n3_; have BK1104 := n4_; have BK1112 := n5_; have BK1120 := n6_; have BK1129 := n7_; have BK1130 := n8_; have BK1134 := n9_; have HB := n10_; clear n0_ n1_ n2_ n3_ n4_ n5_ n6_ n7_ n8_ n9_ n10_; (try clear hb)) | ((with_reducible refine gate_dst (N := 18) rfl ?_); refine box_event ?hg (N := 18) ?hd (cs := #[.int .i64 0, .int .i64 0]) (t := 47) ?hr ?_; (case hd => rfl); (case hg => rfl); (case hr => first | (go_simp; done) | (go_simp; rfl)); intro gb1138 hg w93 hbox hb; have n0_ := bB BK1080 hb; have n1_ := bB BK1081 hb; have n2_ := bB BK1089 hb; have n3_ := bB BK1097 hb; have n4_ := bB BK1104 hb; have n5_ := bB BK1112 hb; have n6_ := bB BK1120 hb; have n7_ := bB BK1129 hb; have n8_ := bB BK1130 hb; have n9_ := bB BK1134 hb; have n10_ := bS HB hb; have n11_ := aM (hbox); have n12_ := bZ hg HB; have n13_ := bZ hg HB; have n14_ := nL hg BK1080; have n15_ := nG hg BK1080; have n16_ := nL hg BK1081; have n17_ := nG hg BK1081; have n18_ := nL hg BK1089; have n19_ := nG hg BK1089; have n20_ := nL hg BK1097; have n21_ := nG hg BK1097; have n22_ := nL hg BK1104; have n23_ := nG hg BK1104; have n24_ := nL hg BK1112; have n25_ := nG hg BK1112; have n26_ := nL hg BK1120; have n27_ := nG hg BK1120; have n28_ := nL hg BK1129; have n29_ := nG hg BK1129; have n30_ := nL hg BK1130; have n31_ := nG hg BK1130; have n32_ := nL hg BK1134; have n33_ := nG hg BK1134; clear BK1080; clear BK1081; clear BK1089; clear BK1097; clear BK1104; clear BK1112; clear BK1120; clear BK1129; clear BK1130; clear BK1134; clear HB; have BK1080 := n0_; have BK1081 := n1_; have BK1089 := n2_; have BK1097 := n3_; have BK1104 := n4_; have BK1112 := n5_; have BK1120 := n6_; have BK1129 := n7_; have BK1130 := n8_; have BK1134 := n9_; have HB := n10_; have BK1138 := n11_; have GW1138 := n12_; have GE1138 := n13_; have NB1080_1138 := n14_; have NB1138_1080 := n15_; have NB1081_1138 := n16_; have NB1138_1081 := n17_; have NB1089_1138 := n18_; have NB1138_1089 := n19_; have NB1097_1138 := n20_; have NB1138_1097 := n21_; have NB1104_1138 := n22_; have NB1138_1104 := n23_; have NB1112_1138 := n24_; have NB1138_1112 := n25_; have NB1120_1138 := n26_; have NB1138_1120 := n27_; have NB1129_1138 := n28_; have NB1138_1129 := n29_; have NB1130_1138 := n30_; have NB1138_1130 := n31_; have NB1134_1138 := n32_; have NB1138_1134 := n33_; clear n0_ n1_ n2_ n3_ n4_ n5_ n6_ n7_ n8_ n9_ n10_ n11_ n12_ n13_ n14_ n15_ n16_ n17_ n18_ n19_ n20_ n21_ n22_ n23_ n24_ n25_ n26_ n27_ n28_ n29_ n30_ n31_ n32_ n33_; clear hb hbox hg; have hnb94 := NB1138_1080.out; have hnc94 := NB1080_1138.out; have hnb95 := NB1138_1081.out; have hnc95 := NB1081_1138.out; have hnb96 := NB1138_1089.out; have hnc96 := NB1089_1138.out; have hnb97 := NB1138_1097.out; have hnc97 := NB1097_1138.out; have hnb98 := NB1138_1104.out; have hnc98 := NB1104_1138.out; have hnb99 := NB1138_1112.out; have hnc99 := NB1112_1138.out; have hnb100 := NB1138_1120.out; have hnc100 := NB1120_1138.out; have hnb101 := NB1138_1129.out; have hnc101 := NB1129_1138.out; have hnb102 := NB1138_1130.out; have hnc102 := NB1130_1138.out; have hnb103 := NB1138_1134.out; have hnc103 := NB1134_1138.out; obtain ⟨hcz104_0, hcz104_1⟩ := z2 BK1138; obtain ⟨hfz104_0, hfz104_1⟩ := y2 BK1138))
  (try simp only [Act.put, List.setIfInBounds_toArray, List.set_cons_zero, List.set_cons_succ])
  go_cut [111] (fun v111 wc => ∃ (kq : Nat) (x111_12 : Bool), v111 = .bool x111_12 ∧ Aside0 (laws_FnMotions.j0 kq t1088 t1111 x111_12 t1068 t1069 t1070 t1071 t1072 t1073 t1074 t1075 t1076 t1077 t1078 t1079 t1082 t1083 t1084 t1085 t1086 t1087 t1098 t1099 t1100 t1101 t1102 t1103 t1105 t1106 t1107 t1108 t1109 t1110 = some true) ∧ Aside0 (kq ≤ k) ∧ Aside0 (wc.heap[gb1080]? = some (.cells #[.int .i64 t1068, .int .i64 t1069, .int .i64 t1070, .int .i64 t1071, .int .i64 t1072, .int .i64 t1073] 64 (0, 0))) ∧ Aside0 (wc.heap[gb1081]? = some (.cells #[.int .i64 t1074, .int .i64 t1075, .int .i64 t1076, .int .i64 t1077, .int .i64 t1078, .int .i64 t1079] 64 (0, 0))) ∧ Aside0 (wc.heap[gb1089]? = some (.cells #[.int .i64 t1082, .int .i64 t1083, .int .i64 t1084, .int .i64 t1085, .int .i64 t1086, .int .i64 t1087] 64 (0, 0))) ∧ Aside0 (wc.heap[gb1097]? = some (.cells #[.int .i64 t1090, .int .i64 t1091, .int .i64 t1092, .int .i64 t1093, .int .i64 t1094, .int .i64 t1095] 64 (0, 0))) ∧ Aside0 (wc.heap[gb1104]? = some (.cells #[.int .i64 t1098, .int .i64 t1099, .int .i64 t1100, .int .i64 t1101, .int .i64 t1102, .int .i64 t1103] 64 (0, 0))) ∧ Aside0 (wc.heap[gb1112]? = some (.cells #[.int .i64 t1105, .int .i64 t1106, .int .i64 t1107, .int .i64 t1108, .int .i64 t1109, .int .i64 t1110] 64 (0, 0))) ∧ Aside0 (wc.heap[gb1120]? = some (.cells #[.int .i64 t1113, .int .i64 t1114, .int .i64 t1115, .int .i64 t1116, .int .i64 t1117, .int .i64 t1118] 64 (0, 0))) ∧ Aside0 (wc.heap[gb1129]? = some (.cells #[.int .i64 t1121, .int .i64 t1122, .int .i64 t1123, .int .i64 t1124, .int .i64 t1125, .int .i64 t1126] 64 (0, 0))) ∧ Aside0 (wc.heap[gb1130]? = some (.cells #[.int .i64 t1127, .int .i64 t1128] 47 (0, 0))) ∧ Aside0 (wc.heap[gb1134]? = some (.cells #[.int .i64 t1131, .int .i64 t1132] 47 (0, 0))) ∧ Aside0 (wc.heap[gb1138]? = some (.cells #[.int .i64 t1135, .int .i64 t1136] 47 (0, 0))) ∧ Aside0 (Below w.heap.size w wc))
  case first =>
   have H := HC13.out
   clear HC13
   by_cases c105 : t1088 = t1096
   ·rw [if_pos c105] at H
    have c105b0 : (t1088 == t1096) = true := beq_iff_eq.mpr c105
    have c105b1 : (t1088 != t1096) = false := bne_eq_false_iff_eq.mpr c105
    clear c105
    (first | rw [c105b0] | (simp only [i64_w, i32_w]; rw [c105b0]) | skip)
    by_cases c106 : ((!(t1082 == t1090) || (!(t1083 == t1091) || (!(t1084 == t1092) || (!(t1085 == t1093))))) || ((!(t1086 == t1094) || (!(t1087 == t1095))))) = true
    ·rw [if_pos c106] at H
     exact absurd H (by cases k <;> simp [laws_FnMotions.j0])
    ·rw [if_neg c106] at H
     have c106b0 : ((!(t1082 == t1090) || (!(t1083 == t1091) || (!(t1084 == t1092) || (!(t1085 == t1093))))) || ((!(t1086 == t1094) || (!(t1087 == t1095))))) = false := by simpa using c106
     clear c106
     by_cases c109 : t1111 = t1119
     ·rw [if_pos c109] at H
      have c109b0 : (t1111 == t1119) = true := beq_iff_eq.mpr c109
      have c109b1 : (t1111 != t1119) = false := bne_eq_false_iff_eq.mpr c109
      clear c109
      by_cases c110 : ((!(t1105 == t1113) || (!(t1106 == t1114) || (!(t1107 == t1115) || (!(t1108 == t1116))))) || ((!(t1109 == t1117) || (!(t1110 == t1118))))) = true
      ·rw [if_pos c110] at H
       exact absurd H (by cases k <;> simp [laws_FnMotions.j0])
      ·rw [if_neg c110] at H
       have c110b0 : ((!(t1105 == t1113) || (!(t1106 == t1114) || (!(t1107 == t1115) || (!(t1108 == t1116))))) || ((!(t1109 == t1117) || (!(t1110 == t1118))))) = false := by simpa using c110
       clear c110
       by_cases c113 : t1133 = t1137
       ·rw [if_pos c113] at H
        have c113b0 : (t1133 == t1137) = true := beq_iff_eq.mpr c113
        have c113b1 : (t1133 != t1137) = false := bne_eq_false_iff_eq.mpr c113
        clear c113
        by_cases c114 : (!(t1131 == t1135) || (!(t1132 == t1136))) = true
        ·rw [if_pos c114] at H
         exact absurd H (by cases k <;> simp [laws_FnMotions.j0])
        ·rw [if_neg c114] at H
         have c114b0 : (!(t1131 == t1135) || (!(t1132 == t1136))) = false := by simpa using c114
         clear c114
         replace H := Option.bind_eq_some_iff.mp H
         obtain ⟨t1139, A1170, H⟩ := H
         try dsimp only at H
         have A117 := aM A1170
         clear A1170
         replace H := Option.bind_eq_some_iff.mp H
         obtain ⟨t1140, A1180, H⟩ := H
         try dsimp only at H
         have A118 := aM A1180
         clear A1180
         have H' := aM H
         clear H
         try go_wp2
         have n0_ : Aside0 (((w93.setCell ⟨gb1138, 0, none⟩ (.int .i64 t1135)).setCell ⟨gb1138, 1, none⟩ (.int .i64 t1136)).heap[gb1080]? = some (.cells #[.int .i64 t1068, .int .i64 t1069, .int .i64 t1070, .int .i64 t1071, .int .i64 t1072, .int .i64 t1073] 64 (0, 0))) := ⟨by (repeat (first|(with_reducible first|apply kN|apply kD|apply kA)|refine blk_far ?_ NB1080_1138.out _)); exact BK1080.out⟩
         have n1_ : Aside0 (((w93.setCell ⟨gb1138, 0, none⟩ (.int .i64 t1135)).setCell ⟨gb1138, 1, none⟩ (.int .i64 t1136)).heap[gb1081]? = some (.cells #[.int .i64 t1074, .int .i64 t1075, .int .i64 t1076, .int .i64 t1077, .int .i64 t1078, .int .i64 t1079] 64 (0, 0))) := ⟨by (repeat (first|(with_reducible first|apply kN|apply kD|apply kA)|refine blk_far ?_ NB1081_1138.out _)); exact BK1081.out⟩
         have n2_ : Aside0 (((w93.setCell ⟨gb1138, 0, none⟩ (.int .i64 t1135)).setCell ⟨gb1138, 1, none⟩ (.int .i64 t1136)).heap[gb1089]? = some (.cells #[.int .i64 t1082, .int .i64 t1083, .int .i64 t1084, .int .i64 t1085, .int .i64 t1086, .int .i64 t1087] 64 (0, 0))) := ⟨by (repeat (first|(with_reducible first|apply kN|apply kD|apply kA)|refine blk_far ?_ NB1089_1138.out _)); exact BK1089.out⟩
         have n3_ : Aside0 (((w93.setCell ⟨gb1138, 0, none⟩ (.int .i64 t1135)).setCell ⟨gb1138, 1, none⟩ (.int .i64 t1136)).heap[gb1097]? = some (.cells #[.int .i64 t1090, .int .i64 t1091, .int .i64 t1092, .int .i64 t1093, .int .i64 t1094, .int .i64 t1095] 64 (0, 0))) := ⟨by (repeat (first|(with_reducible first|apply kN|apply kD|apply kA)|refine blk_far ?_ NB1097_1138.out _)); exact BK1097.out⟩
         have n4_ : Aside0 (((w93.setCell ⟨gb1138, 0, none⟩ (.int .i64 t1135)).setCell ⟨gb1138, 1, none⟩ (.int .i64 t1136)).heap[gb1104]? = some (.cells #[.int .i64 t1098, .int .i64 t1099, .int .i64 t1100, .int .i64 t1101, .int .i64 t1102, .int .i64 t1103] 64 (0, 0))) := ⟨by (repeat (first|(with_reducible first|apply kN|apply kD|apply kA)|refine blk_far ?_ NB1104_1138.out _)); exact BK1104.out⟩
         have n5_ : Aside0 (((w93.setCell ⟨gb1138, 0, none⟩ (.int .i64 t1135)).setCell ⟨gb1138, 1, none⟩ (.int .i64 t1136)).heap[gb1112]? = some (.cells #[.int .i64 t1105, .int .i64 t1106, .int .i64 t1107, .int .i64 t1108, .int .i64 t1109, .int .i64 t1110] 64 (0, 0))) := ⟨by (repeat (first|(with_reducible first|apply kN|apply kD|apply kA)|refine blk_far ?_ NB1112_1138.out _)); exact BK1112.out⟩
         have n6_ : Aside0 (((w93.setCell ⟨gb1138, 0, none⟩ (.int .i64 t1135)).setCell ⟨gb1138, 1, none⟩ (.int .i64 t1136)).heap[gb1120]? = some (.cells #[.int .i64 t1113, .int .i64 t1114, .int .i64 t1115, .int .i64 t1116, .int .i64 t1117, .int .i64 t1118] 64 (0, 0))) := ⟨by (repeat (first|(with_reducible first|apply kN|apply kD|apply kA)|refine blk_far ?_ NB1120_1138.out _)); exact BK1120.out⟩
         have n7_ : Aside0 (((w93.setCell ⟨gb1138, 0, none⟩ (.int .i64 t1135)).setCell ⟨gb1138, 1, none⟩ (.int .i64 t1136)).heap[gb1129]? = some (.cells #[.int .i64 t1121, .int .i64 t1122, .int .i64 t1123, .int .i64 t1124, .int .i64 t1125, .int .i64 t1126] 64 (0, 0))) := ⟨by (repeat (first|(with_reducible first|apply kN|apply kD|apply kA)|refine blk_far ?_ NB1129_1138.out _)); exact BK1129.out⟩
         have n8_ : Aside0 (((w93.setCell ⟨gb1138, 0, none⟩ (.int .i64 t1135)).setCell ⟨gb1138, 1, none⟩ (.int .i64 t1136)).heap[gb1130]? = some (.cells #[.int .i64 t1127, .int .i64 t1128] 47 (0, 0))) := ⟨by (repeat (first|(with_reducible first|apply kN|apply kD|apply kA)|refine blk_far ?_ NB1130_1138.out _)); exact BK1130.out⟩
         have n9_ : Aside0 (((w93.setCell ⟨gb1138, 0, none⟩ (.int .i64 t1135)).setCell ⟨gb1138, 1, none⟩ (.int .i64 t1136)).heap[gb1134]? = some (.cells #[.int .i64 t1131, .int .i64 t1132] 47 (0, 0))) := ⟨by (repeat (first|(with_reducible first|apply kN|apply kD|apply kA)|refine blk_far ?_ NB1134_1138.out _)); exact BK1134.out⟩
         have n10_ : Aside0 (((w93.setCell ⟨gb1138, 0, none⟩ (.int .i64 t1135)).setCell ⟨gb1138, 1, none⟩ (.int .i64 t1136)).heap[gb1138]? = some (.cells #[.int .i64 t1135, .int .i64 t1136] 47 (0, 0))) := ⟨by (with_reducible repeat (first|apply kN|apply kD|apply kA)); refine blk_put (cs := #[.int .i64 t1135, .int .i64 0]) ?_ 1 _ rfl; (with_reducible repeat (first|apply kN|apply kD|apply kA)); refine blk_put (cs := #[.int .i64 0, .int .i64 0]) ?_ 0 _ rfl; (with_reducible repeat (first|apply kN|apply kD|apply kA)); exact BK1138.out⟩
         have n11_ : Aside0 (Below w.heap.size w ((w93.setCell ⟨gb1138, 0, none⟩ (.int .i64 t1135)).setCell ⟨gb1138, 1, none⟩ (.int .i64 t1136))) := ⟨by repeat (first | (with_reducible first | exact HB.out | apply bA|apply bN|apply b1 | refine below_set ?_ (Aside0.out (by assumption))) | exact HB.out)⟩
         (try clear BK1080)
         (try clear BK1081)
         (try clear BK1089)
         (try clear BK1097)
         (try clear BK1104)
         (try clear BK1112)
         (try clear BK1120)
         (try clear BK1129)
         (try clear BK1130)
         (try clear BK1134)
         (try clear BK1138)
         (try clear HB)
         generalize ((w93.setCell ⟨gb1138, 0, none⟩ (.int .i64 t1135)).setCell ⟨gb1138, 1, none⟩ (.int .i64 t1136)) = w119 at n0_ n1_ n2_ n3_ n4_ n5_ n6_ n7_ n8_ n9_ n10_ n11_ ⊢
         have BK1080 := n0_
         have BK1081 := n1_
         have BK1089 := n2_
         have BK1097 := n3_
         have BK1104 := n4_
         have BK1112 := n5_
         have BK1120 := n6_
         have BK1129 := n7_
         have BK1130 := n8_
         have BK1134 := n9_
         have BK1138 := n10_
         have HB := n11_
         clear n0_ n1_ n2_ n3_ n4_ n5_ n6_ n7_ n8_ n9_ n10_ n11_
         have n0_ := aM (blk_drew BK1080.out)
         have n1_ := aM (blk_drew BK1081.out)
         have n2_ := aM (blk_drew BK1089.out)
         have n3_ := aM (blk_drew BK1097.out)
         have n4_ := aM (blk_drew BK1104.out)
         have n5_ := aM (blk_drew BK1112.out)
         have n6_ := aM (blk_drew BK1120.out)
         have n7_ := aM (blk_drew BK1129.out)
         have n8_ := aM (blk_drew BK1130.out)
         have n9_ := aM (blk_drew BK1134.out)
         have n10_ := aM (blk_drew BK1138.out)
         have n11_ := aM (below_drew1 HB.out)
         clear BK1080
         clear BK1081
         clear BK1089
         clear BK1097
         clear BK1104
         clear BK1112
         clear BK1120
         clear BK1129
         clear BK1130
         clear BK1134
         clear BK1138
         clear HB
         have BK1080 := n0_
         have BK1081 := n1_
         have BK1089 := n2_
         have BK1097 := n3_
         have BK1104 := n4_
         have BK1112 := n5_
         have BK1120 := n6_
         have BK1129 := n7_
         have BK1130 := n8_
         have BK1134 := n9_
         have BK1138 := n10_
         have HB := n11_
         clear n0_ n1_ n2_ n3_ n4_ n5_ n6_ n7_ n8_ n9_ n10_ n11_
         refine start_ (n := 35) (S := fun w' => w'.cell? ⟨gb1089, 0, none⟩ = some (.int .i64 t1082) ∧ w'.cell? ⟨gb1089, 1, none⟩ = some (.int .i64 t1083) ∧ w'.cell? ⟨gb1089, 2, none⟩ = some (.int .i64 t1084) ∧ w'.cell? ⟨gb1089, 3, none⟩ = some (.int .i64 t1085) ∧ w'.cell? ⟨gb1089, 4, none⟩ = some (.int .i64 t1086) ∧ w'.cell? ⟨gb1089, 5, none⟩ = some (.int .i64 t1087) ∧ w'.cell? ⟨gb1097, 0, none⟩ = some (.int .i64 t1090) ∧ w'.cell? ⟨gb1097, 1, none⟩ = some (.int .i64 t1091) ∧ w'.cell? ⟨gb1097, 2, none⟩ = some (.int .i64 t1092) ∧ w'.cell? ⟨gb1097, 3, none⟩ = some (.int .i64 t1093) ∧ w'.cell? ⟨gb1097, 4, none⟩ = some (.int .i64 t1094) ∧ w'.cell? ⟨gb1097, 5, none⟩ = some (.int .i64 t1095) ∧ w'.cell? ⟨gb1112, 0, none⟩ = some (.int .i64 t1105) ∧ w'.cell? ⟨gb1112, 1, none⟩ = some (.int .i64 t1106) ∧ w'.cell? ⟨gb1112, 2, none⟩ = some (.int .i64 t1107) ∧ w'.cell? ⟨gb1112, 3, none⟩ = some (.int .i64 t1108) ∧ w'.cell? ⟨gb1112, 4, none⟩ = some (.int .i64 t1109) ∧ w'.cell? ⟨gb1112, 5, none⟩ = some (.int .i64 t1110) ∧ w'.cell? ⟨gb1120, 0, none⟩ = some (.int .i64 t1113) ∧ w'.cell? ⟨gb1120, 1, none⟩ = some (.int .i64 t1114) ∧ w'.cell? ⟨gb1120, 2, none⟩ = some (.int .i64 t1115) ∧ w'.cell? ⟨gb1120, 3, none⟩ = some (.int .i64 t1116) ∧ w'.cell? ⟨gb1120, 4, none⟩ = some (.int .i64 t1117) ∧ w'.cell? ⟨gb1120, 5, none⟩ = some (.int .i64 t1118) ∧ w'.cell? ⟨gb1134, 0, none⟩ = some (.int .i64 t1131) ∧ w'.cell? ⟨gb1134, 1, none⟩ = some (.int .i64 t1132) ∧ w'.cell? ⟨gb1138, 0, none⟩ = some (.int .i64 t1135) ∧ w'.cell? ⟨gb1138, 1, none⟩ = some (.int .i64 t1136) ∧ w'.cell? ⟨gb1080, 0, none⟩ = some (.int .i64 t1068) ∧ w'.cell? ⟨gb1080, 1, none⟩ = some (.int .i64 t1069) ∧ w'.cell? ⟨gb1080, 2, none⟩ = some (.int .i64 t1070) ∧ w'.cell? ⟨gb1080, 3, none⟩ = some (.int .i64 t1071) ∧ w'.cell? ⟨gb1080, 4, none⟩ = some (.int .i64 t1072) ∧ w'.cell? ⟨gb1080, 5, none⟩ = some (.int .i64 t1073)) (ds := []) #[false, false, false, false, false, false, false, false, false, false, false, false, false, false, false, false, false, false, false, false, false, false, false, false, false, false, false, false, false, false, false, false, false, false, false] (by kernel_rfl) rfl rfl ⟨(blk_cell BK1089.out 0).trans rfl, (blk_cell BK1089.out 1).trans rfl, (blk_cell BK1089.out 2).trans rfl, (blk_cell BK1089.out 3).trans rfl, (blk_cell BK1089.out 4).trans rfl, (blk_cell BK1089.out 5).trans rfl, (blk_cell BK1097.out 0).trans rfl, (blk_cell BK1097.out 1).trans rfl, (blk_cell BK1097.out 2).trans rfl, (blk_cell BK1097.out 3).trans rfl, (blk_cell BK1097.out 4).trans rfl, (blk_cell BK1097.out 5).trans rfl, (blk_cell BK1112.out 0).trans rfl, (blk_cell BK1112.out 1).trans rfl, (blk_cell BK1112.out 2).trans rfl, (blk_cell BK1112.out 3).trans rfl, (blk_cell BK1112.out 4).trans rfl, (blk_cell BK1112.out 5).trans rfl, (blk_cell BK1120.out 0).trans rfl, (blk_cell BK1120.out 1).trans rfl, (blk_cell BK1120.out 2).trans rfl, (blk_cell BK1120.out 3).trans rfl, (blk_cell BK1120.out 4).trans rfl, (blk_cell BK1120.out 5).trans rfl, (blk_cell BK1134.out 0).trans rfl, (blk_cell BK1134.out 1).trans rfl, (blk_cell BK1138.out 0).trans rfl, (blk_cell BK1138.out 1).trans rfl, (blk_cell BK1080.out 0).trans rfl, (blk_cell BK1080.out 1).trans rfl, (blk_cell BK1080.out 2).trans rfl, (blk_cell BK1080.out 3).trans rfl, (blk_cell BK1080.out 4).trans rfl, (blk_cell BK1080.out 5).trans rfl⟩ (fun hHeld => ?_); refine with_tabW laws_FnMotions.tab12 laws_FnMotions.bits12 (fun HT_ HW_ => ?_)
         generalize w119.drew = w120 at BK1080 BK1081 BK1089 BK1097 BK1104 BK1112 BK1120 BK1129 BK1130 BK1134 BK1138 HB hHeld ⊢
         refine pure_ (i := 0) (N := some 77) (v := ?_) (a' := ?_) #[true, false, false, false, false, false, false, false, false, false, false, false, false, false, false, false, false, false, false, false, false, false, false, false, false, false, false, false, false, false, false, false, false, false, false] rfl rfl (any_of HT_.out (by kernel_rfl)) (fun _ _ _ h => h) (Or.inl ⟨by rfl, ?_⟩) ?_ ?_
         rotate_left
         ·intro w'
          go_simp
          with_reducible rfl
         rotate_left
         ·simp only [Act.put, List.setIfInBounds_toArray, List.set_cons_zero, List.set_cons_succ, i64_w, i32_w]
          rfl
         refine pure_ (i := 1) (N := some 78) (v := ?_) (a' := ?_) #[true, true, false, false, false, false, false, false, false, false, false, false, false, false, false, false, false, false, false, false, false, false, false, false, false, false, false, false, false, false, false, false, false, false, false] rfl rfl (any_of HT_.out (by kernel_rfl)) (fun _ _ _ h => h) (Or.inl ⟨by rfl, ?_⟩) ?_ ?_
         rotate_left
         ·intro w'
          go_simp
          with_reducible rfl
         rotate_left
         ·simp only [Act.put, List.setIfInBounds_toArray, List.set_cons_zero, List.set_cons_succ, i64_w, i32_w]
          rfl
         refine pure_ (i := 2) (N := some 79) (v := ?_) (a' := ?_) #[true, true, true, false, false, false, false, false, false, false, false, false, false, false, false, false, false, false, false, false, false, false, false, false, false, false, false, false, false, false, false, false, false, false, false] rfl rfl (any_of HT_.out (by kernel_rfl)) (fun _ _ _ h => h) (Or.inl ⟨by rfl, ?_⟩) ?_ ?_
         rotate_left
         ·intro w'
          go_simp
          with_reducible rfl
         rotate_left
         ·simp only [Act.put, List.setIfInBounds_toArray, List.set_cons_zero, List.set_cons_succ, i64_w, i32_w]
          rfl
         refine pure_ (i := 3) (N := some 80) (v := ?_) (a' := ?_) #[true, true, true, true, false, false, false, false, false, false, false, false, false, false, false, false, false, false, false, false, false, false, false, false, false, false, false, false, false, false, false, false, false, false, false] rfl rfl (any_of HT_.out (by kernel_rfl)) (fun _ _ _ h => h) (Or.inl ⟨by rfl, ?_⟩) ?_ ?_
         rotate_left
         ·intro w'
          go_simp
          with_reducible rfl
         rotate_left
         ·simp only [Act.put, List.setIfInBounds_toArray, List.set_cons_zero, List.set_cons_succ, i64_w, i32_w]
          rfl
         refine take_ (i := 4) (N := some 81) (v := ?_) (a' := ?_) #[true, true, true, true, true, false, false, false, false, false, false, false, false, false, false, false, false, false, false, false, false, false, false, false, false, false, false, false, false, false, false, false, false, false, false] rfl rfl (take_ofW HT_.out HW_.out (by kernel_rfl)) (fun _ _ _ h => h) (Or.inl ⟨by rfl, ?_⟩) hHeld ?_ ?_
         rotate_left
         ·rintro w' ⟨s0, s1, s2, s3, s4, s5, s6, s7, s8, s9, s10, s11, s12, s13, s14, s15, s16, s17, s18, s19, s20, s21, s22, s23, s24, s25, s26, s27, s28, s29, s30, s31, s32, s33⟩
          go_simp
          with_reducible rfl
         rotate_left
         ·simp only [Act.put, List.setIfInBounds_toArray, List.set_cons_zero, List.set_cons_succ, i64_w, i32_w]
          rfl
         refine take_ (i := 5) (N := some 82) (v := ?_) (a' := ?_) #[true, true, true, true, true, true, false, false, false, false, false, false, false, false, false, false, false, false, false, false, false, false, false, false, false, false, false, false, false, false, false, false, false, false, false] rfl rfl (take_ofW HT_.out HW_.out (by kernel_rfl)) (fun _ _ _ h => h) (Or.inl ⟨by rfl, ?_⟩) hHeld ?_ ?_
         rotate_left
         ·rintro w' ⟨s0, s1, s2, s3, s4, s5, s6, s7, s8, s9, s10, s11, s12, s13, s14, s15, s16, s17, s18, s19, s20, s21, s22, s23, s24, s25, s26, s27, s28, s29, s30, s31, s32, s33⟩
          go_simp
          with_reducible rfl
         rotate_left
         ·simp only [Act.put, List.setIfInBounds_toArray, List.set_cons_zero, List.set_cons_succ, i64_w, i32_w]
          rfl
         refine pure_ (i := 6) (N := some 83) (v := ?_) (a' := ?_) #[true, true, true, true, true, true, true, false, false, false, false, false, false, false, false, false, false, false, false, false, false, false, false, false, false, false, false, false, false, false, false, false, false, false, false] rfl rfl (any_of HT_.out (by kernel_rfl)) (fun _ _ _ h => h) (Or.inl ⟨by rfl, ?_⟩) ?_ ?_
         rotate_left
         ·intro w'
          go_simp
          with_reducible rfl
         rotate_left
         ·simp only [Act.put, List.setIfInBounds_toArray, List.set_cons_zero, List.set_cons_succ, i64_w, i32_w]
          rfl
         refine pure_ (i := 7) (N := some 84) (v := ?_) (a' := ?_) #[true, true, true, true, true, true, true, true, false, false, false, false, false, false, false, false, false, false, false, false, false, false, false, false, false, false, false, false, false, false, false, false, false, false, false] rfl rfl (any_of HT_.out (by kernel_rfl)) (fun _ _ _ h => h) (Or.inl ⟨by rfl, ?_⟩) ?_ ?_
         rotate_left
         ·intro w'
          go_simp
          with_reducible rfl
         rotate_left
         ·simp only [Act.put, List.setIfInBounds_toArray, List.set_cons_zero, List.set_cons_succ, i64_w, i32_w]
          rfl
         refine pure_ (i := 8) (N := some 85) (v := ?_) (a' := ?_) #[true, true, true, true, true, true, true, true, true, false, false, false, false, false, false, false, false, false, false, false, false, false, false, false, false, false, false, false, false, false, false, false, false, false, false] rfl rfl (any_of HT_.out (by kernel_rfl)) (fun _ _ _ h => h) (Or.inl ⟨by rfl, ?_⟩) ?_ ?_
         rotate_left
         ·intro w'
          go_simp
          with_reducible rfl
         rotate_left
         ·simp only [Act.put, List.setIfInBounds_toArray, List.set_cons_zero, List.set_cons_succ, i64_w, i32_w]
          rfl
         refine pure_ (i := 9) (N := some 86) (v := ?_) (a' := ?_) #[true, true, true, true, true, true, true, true, true, true, false, false, false, false, false, false, false, false, false, false, false, false, false, false, false, false, false, false, false, false, false, false, false, false, false] rfl rfl (any_of HT_.out (by kernel_rfl)) (fun _ _ _ h => h) (Or.inl ⟨by rfl, ?_⟩) ?_ ?_
         rotate_left
         ·intro w'
          go_simp
          with_reducible rfl
         rotate_left
         ·simp only [Act.put, List.setIfInBounds_toArray, List.set_cons_zero, List.set_cons_succ, i64_w, i32_w]
          rfl
         refine pure_ (i := 10) (N := some 87) (v := ?_) (a' := ?_) #[true, true, true, true, true, true, true, true, true, true, true, false, false, false, false, false, false, false, false, false, false, false, false, false, false, false, false, false, false, false, false, false, false, false, false] rfl rfl (any_of HT_.out (by kernel_rfl)) (fun _ _ _ h => h) (Or.inl ⟨by rfl, ?_⟩) ?_ ?_
         rotate_left
         ·intro w'
          go_simp
          with_reducible rfl
         rotate_left
         ·simp only [Act.put, List.setIfInBounds_toArray, List.set_cons_zero, List.set_cons_succ, i64_w, i32_w]
          rfl
         refine pure_ (i := 11) (N := some 88) (v := ?_) (a' := ?_) #[true, true, true, true, true, true, true, true, true, true, true, true, false, false, false, false, false, false, false, false, false, false, false, false, false, false, false, false, false, false, false, false, false, false, false] rfl rfl (any_of HT_.out (by kernel_rfl)) (fun _ _ _ h => h) (Or.inl ⟨by rfl, ?_⟩) ?_ ?_
         rotate_left
         ·intro w'
          go_simp
          with_reducible rfl
         rotate_left
         ·simp only [Act.put, List.setIfInBounds_toArray, List.set_cons_zero, List.set_cons_succ, i64_w, i32_w]
          rfl
         refine pure_ (i := 12) (N := some 89) (v := ?_) (a' := ?_) #[true, true, true, true, true, true, true, true, true, true, true, true, true, false, false, false, false, false, false, false, false, false, false, false, false, false, false, false, false, false, false, false, false, false, false] rfl rfl (any_of HT_.out (by kernel_rfl)) (fun _ _ _ h => h) (Or.inl ⟨by rfl, ?_⟩) ?_ ?_
         rotate_left
         ·intro w'
          go_simp
          with_reducible rfl
         rotate_left
         ·simp only [Act.put, List.setIfInBounds_toArray, List.set_cons_zero, List.set_cons_succ, i64_w, i32_w]
          rfl
         refine pure_ (i := 13) (N := some 90) (v := ?_) (a' := ?_) #[true, true, true, true, true, true, true, true, true, true, true, true, true, true, false, false, false, false, false, false, false, false, false, false, false, false, false, false, false, false, false, false, false, false, false] rfl rfl (any_of HT_.out (by kernel_rfl)) (fun _ _ _ h => h) (Or.inl ⟨by rfl, ?_⟩) ?_ ?_
         rotate_left
         ·intro w'
          go_simp
          with_reducible rfl
         rotate_left
         ·simp only [Act.put, List.setIfInBounds_toArray, List.set_cons_zero, List.set_cons_succ, i64_w, i32_w]
          rfl
         refine take_ (i := 14) (N := some 91) (v := ?_) (a' := ?_) #[true, true, true, true, true, true, true, true, true, true, true, true, true, true, true, false, false, false, false, false, false, false, false, false, false, false, false, false, false, false, false, false, false, false, false] rfl rfl (take_ofW HT_.out HW_.out (by kernel_rfl)) (fun _ _ _ h => h) (Or.inl ⟨by rfl, ?_⟩) hHeld ?_ ?_
         rotate_left
         ·rintro w' ⟨s0, s1, s2, s3, s4, s5, s6, s7, s8, s9, s10, s11, s12, s13, s14, s15, s16, s17, s18, s19, s20, s21, s22, s23, s24, s25, s26, s27, s28, s29, s30, s31, s32, s33⟩
          go_simp
          with_reducible rfl
         rotate_left
         ·simp only [Act.put, List.setIfInBounds_toArray, List.set_cons_zero, List.set_cons_succ, i64_w, i32_w]
          rfl
         refine take_ (i := 15) (N := some 92) (v := ?_) (a' := ?_) #[true, true, true, true, true, true, true, true, true, true, true, true, true, true, true, true, false, false, false, false, false, false, false, false, false, false, false, false, false, false, false, false, false, false, false] rfl rfl (take_ofW HT_.out HW_.out (by kernel_rfl)) (fun _ _ _ h => h) (Or.inl ⟨by rfl, ?_⟩) hHeld ?_ ?_
         rotate_left
         ·rintro w' ⟨s0, s1, s2, s3, s4, s5, s6, s7, s8, s9, s10, s11, s12, s13, s14, s15, s16, s17, s18, s19, s20, s21, s22, s23, s24, s25, s26, s27, s28, s29, s30, s31, s32, s33⟩
          go_simp
          with_reducible rfl
         rotate_left
         ·simp only [Act.put, List.setIfInBounds_toArray, List.set_cons_zero, List.set_cons_succ, i64_w, i32_w]
          rfl
         refine pure_ (i := 16) (N := some 93) (v := ?_) (a' := ?_) #[true, true, true, true, true, true, true, true, true, true, true, true, true, true, true, true, true, false, false, false, false, false, false, false, false, false, false, false, false, false, false, false, false, false, false] rfl rfl (any_of HT_.out (by kernel_rfl)) (fun _ _ _ h => h) (Or.inl ⟨by rfl, ?_⟩) ?_ ?_
         rotate_left
         ·intro w'
          go_simp
          with_reducible rfl
         rotate_left
         ·simp only [Act.put, List.setIfInBounds_toArray, List.set_cons_zero, List.set_cons_succ, i64_w, i32_w]
          rfl
         refine pure_ (i := 17) (N := some 94) (v := ?_) (a' := ?_) #[true, true, true, true, true, true, true, true, true, true, true, true, true, true, true, true, true, true, false, false, false, false, false, false, false, false, false, false, false, false, false, false, false, false, false] rfl rfl (any_of HT_.out (by kernel_rfl)) (fun _ _ _ h => h) (Or.inl ⟨by rfl, ?_⟩) ?_ ?_
         rotate_left
         ·intro w'
          go_simp
          with_reducible rfl
         rotate_left
         ·simp only [Act.put, List.setIfInBounds_toArray, List.set_cons_zero, List.set_cons_succ, i64_w, i32_w]
          rfl
         refine pure_ (i := 18) (N := some 95) (v := ?_) (a' := ?_) #[true, true, true, true, true, true, true, true, true, true, true, true, true, true, true, true, true, true, true, false, false, false, false, false, false, false, false, false, false, false, false, false, false, false, false] rfl rfl (any_of HT_.out (by kernel_rfl)) (fun _ _ _ h => h) (Or.inl ⟨by rfl, ?_⟩) ?_ ?_
         rotate_left
         ·intro w'
          go_simp
          with_reducible rfl
         rotate_left
         ·simp only [Act.put, List.setIfInBounds_toArray, List.set_cons_zero, List.set_cons_succ, i64_w, i32_w]
          rfl
         refine pure_ (i := 19) (N := some 96) (v := ?_) (a' := ?_) #[true, true, true, true, true, true, true, true, true, true, true, true, true, true, true, true, true, true, true, true, false, false, false, false, false, false, false, false, false, false, false, false, false, false, false] rfl rfl (any_of HT_.out (by kernel_rfl)) (fun _ _ _ h => h) (Or.inl ⟨by rfl, ?_⟩) ?_ ?_
         rotate_left
         ·intro w'
          go_simp
          with_reducible rfl
         rotate_left
         ·simp only [Act.put, List.setIfInBounds_toArray, List.set_cons_zero, List.set_cons_succ, i64_w, i32_w]
          rfl
         refine pure_ (i := 20) (N := some 97) (v := ?_) (a' := ?_) #[true, true, true, true, true, true, true, true, true, true, true, true, true, true, true, true, true, true, true, true, true, false, false, false, false, false, false, false, false, false, false, false, false, false, false] rfl rfl (any_of HT_.out (by kernel_rfl)) (fun _ _ _ h => h) (Or.inl ⟨by rfl, ?_⟩) ?_ ?_
         rotate_left
         ·intro w'
          go_simp
          with_reducible rfl
         rotate_left
         ·simp only [Act.put, List.setIfInBounds_toArray, List.set_cons_zero, List.set_cons_succ, i64_w, i32_w]
          rfl
         refine pure_ (i := 21) (N := some 98) (v := ?_) (a' := ?_) #[true, true, true, true, true, true, true, true, true, true, true, true, true, true, true, true, true, true, true, true, true, true, false, false, false, false, false, false, false, false, false, false, false, false, false] rfl rfl (any_of HT_.out (by kernel_rfl)) (fun _ _ _ h => h) (Or.inl ⟨by rfl, ?_⟩) ?_ ?_
         rotate_left
         ·intro w'
          go_simp
          with_reducible rfl
         rotate_left
         ·simp only [Act.put, List.setIfInBounds_toArray, List.set_cons_zero, List.set_cons_succ, i64_w, i32_w]
          rfl
         refine pure_ (i := 22) (N := some 99) (v := ?_) (a' := ?_) #[true, true, true, true, true, true, true, true, true, true, true, true, true, true, true, true, true, true, true, true, true, true, true, false, false, false, false, false, false, false, false, false, false, false, false] rfl rfl (any_of HT_.out (by kernel_rfl)) (fun _ _ _ h => h) (Or.inl ⟨by rfl, ?_⟩) ?_ ?_
         rotate_left
         ·intro w'
          go_simp
          with_reducible rfl
         rotate_left
         ·simp only [Act.put, List.setIfInBounds_toArray, List.set_cons_zero, List.set_cons_succ, i64_w, i32_w]
          rfl
         refine pure_ (i := 23) (N := some 100) (v := ?_) (a' := ?_) #[true, true, true, true, true, true, true, true, true, true, true, true, true, true, true, true, true, true, true, true, true, true, true, true, false, false, false, false, false, false, false, false, false, false, false] rfl rfl (any_of HT_.out (by kernel_rfl)) (fun _ _ _ h => h) (Or.inl ⟨by rfl, ?_⟩) ?_ ?_
         rotate_left
         ·intro w'
          go_simp
          with_reducible rfl
         rotate_left
         ·simp only [Act.put, List.setIfInBounds_toArray, List.set_cons_zero, List.set_cons_succ, i64_w, i32_w]
          rfl
         refine take_ (i := 24) (N := some 101) (v := ?_) (a' := ?_) #[true, true, true, true, true, true, true, true, true, true, true, true, true, true, true, true, true, true, true, true, true, true, true, true, true, false, false, false, false, false, false, false, false, false, false] rfl rfl (take_ofW HT_.out HW_.out (by kernel_rfl)) (fun _ _ _ h => h) (Or.inl ⟨by rfl, ?_⟩) hHeld ?_ ?_
         rotate_left
         ·rintro w' ⟨s0, s1, s2, s3, s4, s5, s6, s7, s8, s9, s10, s11, s12, s13, s14, s15, s16, s17, s18, s19, s20, s21, s22, s23, s24, s25, s26, s27, s28, s29, s30, s31, s32, s33⟩
          go_simp
          with_reducible rfl
         rotate_left
         ·simp only [Act.put, List.setIfInBounds_toArray, List.set_cons_zero, List.set_cons_succ, i64_w, i32_w]
          rfl
         refine take_ (i := 25) (N := some 102) (v := ?_) (a' := ?_) #[true, true, true, true, true, true, true, true, true, true, true, true, true, true, true, true, true, true, true, true, true, true, true, true, true, true, false, false, false, false, false, false, false, false, false] rfl rfl (take_ofW HT_.out HW_.out (by kernel_rfl)) (fun _ _ _ h => h) (Or.inl ⟨by rfl, ?_⟩) hHeld ?_ ?_
         rotate_left
         ·rintro w' ⟨s0, s1, s2, s3, s4, s5, s6, s7, s8, s9, s10, s11, s12, s13, s14, s15, s16, s17, s18, s19, s20, s21, s22, s23, s24, s25, s26, s27, s28, s29, s30, s31, s32, s33⟩
          go_simp
          with_reducible rfl
         rotate_left
         ·simp only [Act.put, List.setIfInBounds_toArray, List.set_cons_zero, List.set_cons_succ, i64_w, i32_w]
          rfl
         refine pure_ (i := 26) (N := some 103) (v := ?_) (a' := ?_) #[true, true, true, true, true, true, true, true, true, true, true, true, true, true, true, true, true, true, true, true, true, true, true, true, true, true, true, false, false, false, false, false, false, false, false] rfl rfl (any_of HT_.out (by kernel_rfl)) (fun _ _ _ h => h) (Or.inl ⟨by rfl, ?_⟩) ?_ ?_
         rotate_left
         ·intro w'
          go_simp
          with_reducible rfl
         rotate_left
         ·simp only [Act.put, List.setIfInBounds_toArray, List.set_cons_zero, List.set_cons_succ, i64_w, i32_w]
          rfl
         refine pure_ (i := 27) (N := some 104) (v := ?_) (a' := ?_) #[true, true, true, true, true, true, true, true, true, true, true, true, true, true, true, true, true, true, true, true, true, true, true, true, true, true, true, true, false, false, false, false, false, false, false] rfl rfl (any_of HT_.out (by kernel_rfl)) (fun _ _ _ h => h) (Or.inl ⟨by rfl, ?_⟩) ?_ ?_
         rotate_left
         ·intro w'
          go_simp
          with_reducible rfl
         rotate_left
         ·simp only [Act.put, List.setIfInBounds_toArray, List.set_cons_zero, List.set_cons_succ, i64_w, i32_w]
          rfl
         refine pure_ (i := 28) (N := some 105) (v := ?_) (a' := ?_) #[true, true, true, true, true, true, true, true, true, true, true, true, true, true, true, true, true, true, true, true, true, true, true, true, true, true, true, true, true, false, false, false, false, false, false] rfl rfl (any_of HT_.out (by kernel_rfl)) (fun _ _ _ h => h) (Or.inl ⟨by rfl, ?_⟩) ?_ ?_
         rotate_left
         ·intro w'
          go_simp
          with_reducible rfl
         rotate_left
         ·simp only [Act.put, List.setIfInBounds_toArray, List.set_cons_zero, List.set_cons_succ, i64_w, i32_w]
          rfl
         refine take_ (i := 29) (N := some 106) (v := ?_) (a' := ?_) #[true, true, true, true, true, true, true, true, true, true, true, true, true, true, true, true, true, true, true, true, true, true, true, true, true, true, true, true, true, true, false, false, false, false, false] rfl rfl (take_ofW HT_.out HW_.out (by kernel_rfl)) (fun _ _ _ h => h) (Or.inl ⟨by rfl, ?_⟩) hHeld ?_ ?_
         rotate_left
         ·rintro w' ⟨s0, s1, s2, s3, s4, s5, s6, s7, s8, s9, s10, s11, s12, s13, s14, s15, s16, s17, s18, s19, s20, s21, s22, s23, s24, s25, s26, s27, s28, s29, s30, s31, s32, s33⟩
          go_simp
          with_reducible rfl
         rotate_left
         ·simp only [Act.put, List.setIfInBounds_toArray, List.set_cons_zero, List.set_cons_succ, i64_w, i32_w]
          rfl
         refine take_ (i := 31) (N := some 108) (v := ?_) (a' := ?_) #[true, true, true, true, true, true, true, true, true, true, true, true, true, true, true, true, true, true, true, true, true, true, true, true, true, true, true, true, true, true, false, true, false, false, false] rfl rfl (take_ofW HT_.out HW_.out (by kernel_rfl)) (fun _ _ _ h => h) (Or.inl ⟨by rfl, ?_⟩) hHeld ?_ ?_
         rotate_left
         ·rintro w' ⟨s0, s1, s2, s3, s4, s5, s6, s7, s8, s9, s10, s11, s12, s13, s14, s15, s16, s17, s18, s19, s20, s21, s22, s23, s24, s25, s26, s27, s28, s29, s30, s31, s32, s33⟩
          go_simp
          with_reducible rfl
         rotate_left
         ·simp only [Act.put, List.setIfInBounds_toArray, List.set_cons_zero, List.set_cons_succ, i64_w, i32_w]
          rfl
         refine one_ (i := 30) (N := some 107) #[true, true, true, true, true, true, true, true, true, true, true, true, true, true, true, true, true, true, true, true, true, true, true, true, true, true, true, true, true, true, true, true, false, false, false] rfl rfl (one_of HT_.out (by kernel_rfl)) (by decide) (fun K hK => ?_)
         refine goes_ Try.func48 (by kernel_rfl) rfl #[.agg #[.int .i64 t1068, .int .i64 t1069, .int .i64 t1070, .int .i64 t1071, .int .i64 t1072, .int .i64 t1073]] (by rfl) rfl rfl (by first|rfl|(simp only [List.map_toArray, List.map_cons, List.map_nil]; try rfl)) ?_
         with_reducible refine (impl_IsMotion.calls k t1068 t1069 t1070 t1071 t1072 t1073 t1139 _ A117.out).mono ?_
         rintro e w121 ⟨rfl, hb⟩
         refine ⟨_, rfl, ?_⟩
         have n0_ := bB BK1080 hb
         have n1_ := bB BK1081 hb
         have n2_ := bB BK1089 hb
         have n3_ := bB BK1097 hb
         have n4_ := bB BK1104 hb
         have n5_ := bB BK1112 hb
         have n6_ := bB BK1120 hb
         have n7_ := bB BK1129 hb
         have n8_ := bB BK1130 hb
         have n9_ := bB BK1134 hb
         have n10_ := bB BK1138 hb
         have n11_ := bS HB hb
         clear BK1080
         clear BK1081
         clear BK1089
         clear BK1097
         clear BK1104
         clear BK1112
         clear BK1120
         clear BK1129
         clear BK1130
         clear BK1134
         clear BK1138
         clear HB
         have BK1080 := n0_
         have BK1081 := n1_
         have BK1089 := n2_
         have BK1097 := n3_
         have BK1104 := n4_
         have BK1112 := n5_
         have BK1120 := n6_
         have BK1129 := n7_
         have BK1130 := n8_
         have BK1134 := n9_
         have BK1138 := n10_
         have HB := n11_
         clear n0_ n1_ n2_ n3_ n4_ n5_ n6_ n7_ n8_ n9_ n10_ n11_
         (try clear hb)
         (try clear hb2)
         (try clear hk)
         (try clear hi)
         refine hK.out _ _ ⟨(blk_cell BK1089.out 0).trans rfl, (blk_cell BK1089.out 1).trans rfl, (blk_cell BK1089.out 2).trans rfl, (blk_cell BK1089.out 3).trans rfl, (blk_cell BK1089.out 4).trans rfl, (blk_cell BK1089.out 5).trans rfl, (blk_cell BK1097.out 0).trans rfl, (blk_cell BK1097.out 1).trans rfl, (blk_cell BK1097.out 2).trans rfl, (blk_cell BK1097.out 3).trans rfl, (blk_cell BK1097.out 4).trans rfl, (blk_cell BK1097.out 5).trans rfl, (blk_cell BK1112.out 0).trans rfl, (blk_cell BK1112.out 1).trans rfl, (blk_cell BK1112.out 2).trans rfl, (blk_cell BK1112.out 3).trans rfl, (blk_cell BK1112.out 4).trans rfl, (blk_cell BK1112.out 5).trans rfl, (blk_cell BK1120.out 0).trans rfl, (blk_cell BK1120.out 1).trans rfl, (blk_cell BK1120.out 2).trans rfl, (blk_cell BK1120.out 3).trans rfl, (blk_cell BK1120.out 4).trans rfl, (blk_cell BK1120.out 5).trans rfl, (blk_cell BK1134.out 0).trans rfl, (blk_cell BK1134.out 1).trans rfl, (blk_cell BK1138.out 0).trans rfl, (blk_cell BK1138.out 1).trans rfl, (blk_cell BK1080.out 0).trans rfl, (blk_cell BK1080.out 1).trans rfl, (blk_cell BK1080.out 2).trans rfl, (blk_cell BK1080.out 3).trans rfl, (blk_cell BK1080.out 4).trans rfl, (blk_cell BK1080.out 5).trans rfl⟩ (fun hHeld => ?_)
         clear hK K
         refine norm_ (a' := ?_) ?_ ?_
         rotate_left
         ·show Act.put _ (some 107) _ = _
          simp only [Act.put, List.setIfInBounds_toArray, List.set_cons_zero, List.set_cons_succ, i64_w, i32_w]
          rfl
         refine one_ (i := 32) (N := some 109) #[true, true, true, true, true, true, true, true, true, true, true, true, true, true, true, true, true, true, true, true, true, true, true, true, true, true, true, true, true, true, true, true, true, false, false] rfl rfl (one_of HT_.out (by kernel_rfl)) (by decide) (fun K hK => ?_)
         refine goes_ Try.func49 (by kernel_rfl) rfl #[.agg #[.int .i64 t1068, .int .i64 t1069, .int .i64 t1070, .int .i64 t1071, .int .i64 t1072, .int .i64 t1073]] (by rfl) rfl rfl (by first|rfl|(simp only [List.map_toArray, List.map_cons, List.map_nil]; try rfl)) ?_
         with_reducible refine (spec_IsMotion.calls k t1068 t1069 t1070 t1071 t1072 t1073 t1140 _ A118.out).mono ?_
         rintro e w122 ⟨rfl, hb⟩
         refine ⟨_, rfl, ?_⟩
         have n0_ := bB BK1080 hb
         have n1_ := bB BK1081 hb
         have n2_ := bB BK1089 hb
         have n3_ := bB BK1097 hb
         have n4_ := bB BK1104 hb
         have n5_ := bB BK1112 hb
         have n6_ := bB BK1120 hb
         have n7_ := bB BK1129 hb
         have n8_ := bB BK1130 hb
         have n9_ := bB BK1134 hb
         have n10_ := bB BK1138 hb
         have n11_ := bS HB hb
         clear BK1080
         clear BK1081
         clear BK1089
         clear BK1097
         clear BK1104
         clear BK1112
         clear BK1120
         clear BK1129
         clear BK1130
         clear BK1134
         clear BK1138
         clear HB
         have BK1080 := n0_
         have BK1081 := n1_
         have BK1089 := n2_
         have BK1097 := n3_
         have BK1104 := n4_
         have BK1112 := n5_
         have BK1120 := n6_
         have BK1129 := n7_
         have BK1130 := n8_
         have BK1134 := n9_
         have BK1138 := n10_
         have HB := n11_
         clear n0_ n1_ n2_ n3_ n4_ n5_ n6_ n7_ n8_ n9_ n10_ n11_
         (try clear hb)
         (try clear hb2)
         (try clear hk)
         (try clear hi)
         refine hK.out _ _ ⟨(blk_cell BK1089.out 0).trans rfl, (blk_cell BK1089.out 1).trans rfl, (blk_cell BK1089.out 2).trans rfl, (blk_cell BK1089.out 3).trans rfl, (blk_cell BK1089.out 4).trans rfl, (blk_cell BK1089.out 5).trans rfl, (blk_cell BK1097.out 0).trans rfl, (blk_cell BK1097.out 1).trans rfl, (blk_cell BK1097.out 2).trans rfl, (blk_cell BK1097.out 3).trans rfl, (blk_cell BK1097.out 4).trans rfl, (blk_cell BK1097.out 5).trans rfl, (blk_cell BK1112.out 0).trans rfl, (blk_cell BK1112.out 1).trans rfl, (blk_cell BK1112.out 2).trans rfl, (blk_cell BK1112.out 3).trans rfl, (blk_cell BK1112.out 4).trans rfl, (blk_cell BK1112.out 5).trans rfl, (blk_cell BK1120.out 0).trans rfl, (blk_cell BK1120.out 1).trans rfl, (blk_cell BK1120.out 2).trans rfl, (blk_cell BK1120.out 3).trans rfl, (blk_cell BK1120.out 4).trans rfl, (blk_cell BK1120.out 5).trans rfl, (blk_cell BK1134.out 0).trans rfl, (blk_cell BK1134.out 1).trans rfl, (blk_cell BK1138.out 0).trans rfl, (blk_cell BK1138.out 1).trans rfl, (blk_cell BK1080.out 0).trans rfl, (blk_cell BK1080.out 1).trans rfl, (blk_cell BK1080.out 2).trans rfl, (blk_cell BK1080.out 3).trans rfl, (blk_cell BK1080.out 4).trans rfl, (blk_cell BK1080.out 5).trans rfl⟩ (fun hHeld => ?_)
         clear hK K
         refine norm_ (a' := ?_) ?_ ?_
         rotate_left
         ·show Act.put _ (some 109) _ = _
          simp only [Act.put, List.setIfInBounds_toArray, List.set_cons_zero, List.set_cons_succ, i64_w, i32_w]
          rfl
         refine pure_ (i := 33) (N := some 110) (v := ?_) (a' := ?_) #[true, true, true, true, true, true, true, true, true, true, true, true, true, true, true, true, true, true, true, true, true, true, true, true, true, true, true, true, true, true, true, true, true, true, false] rfl rfl (any_of HT_.out (by kernel_rfl)) (fun _ _ _ h => h) (Or.inl ⟨by rfl, ?_⟩) ?_ ?_
         rotate_left
         ·intro w'
          go_simp
          with_reducible rfl
         rotate_left
         ·simp only [Act.put, List.setIfInBounds_toArray, List.set_cons_zero, List.set_cons_succ, i64_w, i32_w]
          rfl
         refine pure_ (i := 34) (N := some 111) (v := ?_) (a' := ?_) #[true, true, true, true, true, true, true, true, true, true, true, true, true, true, true, true, true, true, true, true, true, true, true, true, true, true, true, true, true, true, true, true, true, true, true] rfl rfl (any_of HT_.out (by kernel_rfl)) (fun _ _ _ h => h) (Or.inl ⟨by rfl, ?_⟩) ?_ ?_
         rotate_left
         ·intro w'
          go_simp
          with_reducible rfl
         rotate_left
         ·simp only [Act.put, List.setIfInBounds_toArray, List.set_cons_zero, List.set_cons_succ, i64_w, i32_w]
          rfl
         refine done_ (done_of HT_.out (by kernel_rfl)) ?_
         try go_wp2
         go_meet
         case rel => exact ⟨_, ((t1139 != t1140)), (by first | rfl | (simp; done) | (simp [*]; done)), H', ⟨by first | omega | exact Nat.le_refl _⟩, ⟨by (with_reducible repeat (first|apply kN|apply kD|apply kA)); exact BK1080.out⟩, ⟨by (with_reducible repeat (first|apply kN|apply kD|apply kA)); exact BK1081.out⟩, ⟨by (with_reducible repeat (first|apply kN|apply kD|apply kA)); exact BK1089.out⟩, ⟨by (with_reducible repeat (first|apply kN|apply kD|apply kA)); exact BK1097.out⟩, ⟨by (with_reducible repeat (first|apply kN|apply kD|apply kA)); exact BK1104.out⟩, ⟨by (with_reducible repeat (first|apply kN|apply kD|apply kA)); exact BK1112.out⟩, ⟨by (with_reducible repeat (first|apply kN|apply kD|apply kA)); exact BK1120.out⟩, ⟨by (with_reducible repeat (first|apply kN|apply kD|apply kA)); exact BK1129.out⟩, ⟨by (with_reducible repeat (first|apply kN|apply kD|apply kA)); exact BK1130.out⟩, ⟨by (with_reducible repeat (first|apply kN|apply kD|apply kA)); exact BK1134.out⟩, ⟨by (with_reducible repeat (first|apply kN|apply kD|apply kA)); exact BK1138.out⟩, ⟨by repeat (first | (with_reducible first | exact HB.out | apply bA|apply bN|apply b1 | refine below_set ?_ (Aside0.out (by assumption))) | exact HB.out)⟩⟩
       ·rw [if_neg c113] at H
        exact absurd H (by cases k <;> simp [laws_FnMotions.j0])
     ·rw [if_neg c109] at H
      exact absurd H (by cases k <;> simp [laws_FnMotions.j0])
   ·rw [if_neg c105] at H
    exact absurd H (by cases k <;> simp [laws_FnMotions.j0])
  case rest =>
   clear HC13
   try clear c1
   try clear p2
   try clear c10
   try clear c105
   try clear c105b0
   try clear c105b1
   try clear c109
   try clear c109b0
   try clear c109b1
   obtain ⟨kq, x111_12, rfl, HA, HJ12, BK1080, BK1081, BK1089, BK1097, BK1104, BK1112, BK1120, BK1129, BK1130, BK1134, BK1138, HB⟩ := hcut
   cases kq with
   | zero => exact absurd HA.out (by simp [laws_FnMotions.j0])
   | succ kj12 =>
    have H := HA.out
    clear HA
    simp only [laws_FnMotions.j0] at H
    by_cases c129 : x111_12 = true
    ·subst c129
     have H1 : (some false) = some true := by rw [if_pos rfl] at H; exact H
     clear H
     have H := H1
     clear H1
     exact absurd (Option.some.inj H) (by decide)
    ·replace c129 := Bool.eq_false_iff.mpr c129
     subst c129
     have H1 : (if t1111 = 0 then ((impl_ComposeMotions.f kj12 t1098 t1099 t1100 t1101 t1102 t1103 t1105 t1106 t1107 t1108 t1109 t1110).bind fun bt1141 => (if bt1141.2.2.2.2.2.2 = 3 then (laws_FnMotions.j1 kj12 t1088 t1068 t1069 t1070 t1071 t1072 t1073 t1074 t1075 t1076 t1077 t1078 t1079 t1082 t1083 t1084 t1085 t1086 t1087) else (if bt1141.2.2.2.2.2.2 = 0 then (if ((!(bt1141.1 == 1) || (!(bt1141.2.1 == 0) || (!(bt1141.2.2.1 == 0) || (!(bt1141.2.2.2.1 == 1))))) || ((!(bt1141.2.2.2.2.1 == 0) || (!(bt1141.2.2.2.2.2.1 == 0))))) = true then (some false) else (laws_FnMotions.j1 kj12 t1088 t1068 t1069 t1070 t1071 t1072 t1073 t1074 t1075 t1076 t1077 t1078 t1079 t1082 t1083 t1084 t1085 t1086 t1087)) else (some false)))) else (laws_FnMotions.j1 kj12 t1088 t1068 t1069 t1070 t1071 t1072 t1073 t1074 t1075 t1076 t1077 t1078 t1079 t1082 t1083 t1084 t1085 t1086 t1087)) = some true := by rw [if_neg (show ¬ (false = true) by decide)] at H; exact H
     clear H
     have H := H1
     clear H1
     have HC130 := aM H
     clear H
     go_upto_if 113 with (fail)
     go_cut [] (fun wc => ∃ (kq : Nat), Aside0 (laws_FnMotions.j1 kq t1088 t1068 t1069 t1070 t1071 t1072 t1073 t1074 t1075 t1076 t1077 t1078 t1079 t1082 t1083 t1084 t1085 t1086 t1087 = some true) ∧ Aside0 (kq ≤ kj12) ∧ Aside0 (wc.heap[gb1080]? = some (.cells #[.int .i64 t1068, .int .i64 t1069, .int .i64 t1070, .int .i64 t1071, .int .i64 t1072, .int .i64 t1073] 64 (0, 0))) ∧ Aside0 (wc.heap[gb1081]? = some (.cells #[.int .i64 t1074, .int .i64 t1075, .int .i64 t1076, .int .i64 t1077, .int .i64 t1078, .int .i64 t1079] 64 (0, 0))) ∧ Aside0 (wc.heap[gb1089]? = some (.cells #[.int .i64 t1082, .int .i64 t1083, .int .i64 t1084, .int .i64 t1085, .int .i64 t1086, .int .i64 t1087] 64 (0, 0))) ∧ Aside0 (wc.heap[gb1097]? = some (.cells #[.int .i64 t1090, .int .i64 t1091, .int .i64 t1092, .int .i64 t1093, .int .i64 t1094, .int .i64 t1095] 64 (0, 0))) ∧ Aside0 (wc.heap[gb1104]? = some (.cells #[.int .i64 t1098, .int .i64 t1099, .int .i64 t1100, .int .i64 t1101, .int .i64 t1102, .int .i64 t1103] 64 (0, 0))) ∧ Aside0 (wc.heap[gb1112]? = some (.cells #[.int .i64 t1105, .int .i64 t1106, .int .i64 t1107, .int .i64 t1108, .int .i64 t1109, .int .i64 t1110] 64 (0, 0))) ∧ Aside0 (wc.heap[gb1120]? = some (.cells #[.int .i64 t1113, .int .i64 t1114, .int .i64 t1115, .int .i64 t1116, .int .i64 t1117, .int .i64 t1118] 64 (0, 0))) ∧ Aside0 (wc.heap[gb1129]? = some (.cells #[.int .i64 t1121, .int .i64 t1122, .int .i64 t1123, .int .i64 t1124, .int .i64 t1125, .int .i64 t1126] 64 (0, 0))) ∧ Aside0 (wc.heap[gb1130]? = some (.cells #[.int .i64 t1127, .int .i64 t1128] 47 (0, 0))) ∧ Aside0 (wc.heap[gb1134]? = some (.cells #[.int .i64 t1131, .int .i64 t1132] 47 (0, 0))) ∧ Aside0 (wc.heap[gb1138]? = some (.cells #[.int .i64 t1135, .int .i64 t1136] 47 (0, 0))) ∧ Aside0 (Below w.heap.size w wc))
     case first =>
      have H := HC130.out
      clear HC130
      by_cases c131 : t1111 = 0
      ·rw [if_pos c131] at H
       have c131b0 : (t1111 == 0) = true := beq_iff_eq.mpr c131
       have c131b1 : (t1111 != 0) = false := bne_eq_false_iff_eq.mpr c131
       clear c131
       (first | rw [c131b0] | (simp only [i64_w, i32_w]; rw [c131b0]) | skip)
       replace H := Option.bind_eq_some_iff.mp H
       obtain ⟨⟨t1141, t1142, t1143, t1144, t1145, t1146, t1147⟩, A1320, H⟩ := H
       try dsimp only at H
       have A132 := aM A1320
       clear A1320
       by_cases c133 : t1147 = 3
       ·rw [if_pos c133] at H
        have c133b0 : (t1147 == 3) = true := beq_iff_eq.mpr c133
        have c133b1 : (t1147 != 3) = false := bne_eq_false_iff_eq.mpr c133
        clear c133
        have H' := aM H
        clear H
        have hnb134 := NB1104_1080.out
        have hnc134 := NB1080_1104.out
        have hnb135 := NB1104_1081.out
        have hnc135 := NB1081_1104.out
        have hnb136 := NB1104_1089.out
        have hnc136 := NB1089_1104.out
        have hnb137 := NB1104_1097.out
        have hnc137 := NB1097_1104.out
        have hnb138 := NB1104_1112.out
        have hnc138 := NB1112_1104.out
        have hnb139 := NB1104_1120.out
        have hnc139 := NB1120_1104.out
        have hnb140 := NB1104_1129.out
        have hnc140 := NB1129_1104.out
        have hnb141 := NB1104_1130.out
        have hnc141 := NB1130_1104.out
        have hnb142 := NB1104_1134.out
        have hnc142 := NB1134_1104.out
        have hnb143 := NB1104_1138.out
        have hnc143 := NB1138_1104.out
        obtain ⟨hcz144_0, hcz144_1, hcz144_2, hcz144_3, hcz144_4, hcz144_5⟩ := z6 BK1104
        obtain ⟨hfz144_0, hfz144_1, hfz144_2, hfz144_3, hfz144_4, hfz144_5⟩ := y6 BK1104
        have hnb145 := NB1112_1080.out
        have hnc145 := NB1080_1112.out
        have hnb146 := NB1112_1081.out
        have hnc146 := NB1081_1112.out
        have hnb147 := NB1112_1089.out
        have hnc147 := NB1089_1112.out
        have hnb148 := NB1112_1097.out
        have hnc148 := NB1097_1112.out
        have hnb149 := NB1112_1120.out
        have hnc149 := NB1120_1112.out
        have hnb150 := NB1112_1129.out
        have hnc150 := NB1129_1112.out
        have hnb151 := NB1112_1130.out
        have hnc151 := NB1130_1112.out
        have hnb152 := NB1112_1134.out
        have hnc152 := NB1134_1112.out
        have hnb153 := NB1112_1138.out
        have hnc153 := NB1138_1112.out
        obtain ⟨hcz154_0, hcz154_1, hcz154_2, hcz154_3, hcz154_4, hcz154_5⟩ := z6 BK1112
        obtain ⟨hfz154_0, hfz154_1, hfz154_2, hfz154_3, hfz154_4, hfz154_5⟩ := y6 BK1112
        go_wp2_with (first | ((with_reducible refine gate_callee (f := 40) rfl ?_); refine goesL_ (some 117) rfl rfl Try.func40 (by kernel_rfl) rfl #[.agg #[.int .i64 t1098, .int .i64 t1099, .int .i64 t1100, .int .i64 t1101, .int .i64 t1102, .int .i64 t1103], .agg #[.int .i64 t1105, .int .i64 t1106, .int .i64 t1107, .int .i64 t1108, .int .i64 t1109, .int .i64 t1110]] rfl (by first|rfl|(simp only [List.map_toArray, List.map_cons, List.map_nil]; try rfl)) ?_; (with_reducible refine (impl_ComposeMotions.calls kj12 t1098 t1099 t1100 t1101 t1102 t1103 t1105 t1106 t1107 t1108 t1109 t1110 t1141 t1142 t1143 t1144 t1145 t1146 t1147 _ A132.out).mono ?_); rintro e w155 ⟨rfl, hb⟩; refine ⟨_, rfl, ?_⟩; have n0_ := bB BK1080 hb; have n1_ := bB BK1081 hb; have n2_ := bB BK1089 hb; have n3_ := bB BK1097 hb; have n4_ := bB BK1104 hb; have n5_ := bB BK1112 hb; have n6_ := bB BK1120 hb; have n7_ := bB BK1129 hb; have n8_ := bB BK1130 hb; have n9_ := bB BK1134 hb; have n10_ := bB BK1138 hb; have n11_ := bS HB hb; clear BK1080; clear BK1081; clear BK1089; clear BK1097; clear BK1104; clear BK1112; clear BK1120; clear BK1129; clear BK1130; clear BK1134; clear BK1138; clear HB; have BK1080 := n0_; have BK1081 := n1_; have BK1089 := n2_; have BK1097 := n3_; have BK1104 := n4_; have BK1112 := n5_; have BK1120 := n6_; have BK1129 := n7_; have BK1130 := n8_; have BK1134 := n9_; have BK1138 := n10_; have HB := n11_; clear n0_ n1_ n2_ n3_ n4_ n5_ n6_ n7_ n8_ n9_ n10_ n11_; (try clear hb)) | ((with_reducible refine gate_dst (N := 20) rfl ?_); refine box_event ?hg (N := 20) ?hd (cs := #[.int .i64 0, .int .i64 0, .int .i64 0, .int .i64 0, .int .i64 0, .int .i64 0]) (t := 64) ?hr ?_; (case hd => rfl); (case hg => rfl); (case hr => first | (go_simp; done) | (go_simp; rfl)); intro gb1148 hg w156 hbox hb; have n0_ := bB BK1080 hb; have n1_ := bB BK1081 hb; have n2_ := bB BK1089 hb; have n3_ := bB BK1097 hb; have n4_ := bB BK1104 hb; have n5_ := bB BK1112 hb; have n6_ := bB BK1120 hb; have n7_ := bB BK1129 hb; have n8_ := bB BK1130 hb; have n9_ := bB BK1134 hb; have n10_ := bB BK1138 hb; have n11_ := bS HB hb; have n12_ := aM (hbox); have n13_ := bZ hg HB; have n14_ := bZ hg HB; have n15_ := nL hg BK1080; have n16_ := nG hg BK1080; have n17_ := nL hg BK1081; have n18_ := nG hg BK1081; have n19_ := nL hg BK1089; have n20_ := nG hg BK1089; have n21_ := nL hg BK1097; have n22_ := nG hg BK1097; have n23_ := nL hg BK1104; have n24_ := nG hg BK1104; have n25_ := nL hg BK1112; have n26_ := nG hg BK1112; have n27_ := nL hg BK1120; have n28_ := nG hg BK1120; have n29_ := nL hg BK1129; have n30_ := nG hg BK1129; have n31_ := nL hg BK1130; have n32_ := nG hg BK1130; have n33_ := nL hg BK1134; have n34_ := nG hg BK1134; have n35_ := nL hg BK1138; have n36_ := nG hg BK1138; clear BK1080; clear BK1081; clear BK1089; clear BK1097; clear BK1104; clear BK1112; clear BK1120; clear BK1129; clear BK1130; clear BK1134; clear BK1138; clear HB; have BK1080 := n0_; have BK1081 := n1_; have BK1089 := n2_; have BK1097 := n3_; have BK1104 := n4_; have BK1112 := n5_; have BK1120 := n6_; have BK1129 := n7_; have BK1130 := n8_; have BK1134 := n9_; have BK1138 := n10_; have HB := n11_; have BK1148 := n12_; have GW1148 := n13_; have GE1148 := n14_; have NB1080_1148 := n15_; have NB1148_1080 := n16_; have NB1081_1148 := n17_; have NB1148_1081 := n18_; have NB1089_1148 := n19_; have NB1148_1089 := n20_; have NB1097_1148 := n21_; have NB1148_1097 := n22_; have NB1104_1148 := n23_; have NB1148_1104 := n24_; have NB1112_1148 := n25_; have NB1148_1112 := n26_; have NB1120_1148 := n27_; have NB1148_1120 := n28_; have NB1129_1148 := n29_; have NB1148_1129 := n30_; have NB1130_1148 := n31_; have NB1148_1130 := n32_; have NB1134_1148 := n33_; have NB1148_1134 := n34_; have NB1138_1148 := n35_; have NB1148_1138 := n36_; clear n0_ n1_ n2_ n3_ n4_ n5_ n6_ n7_ n8_ n9_ n10_ n11_ n12_ n13_ n14_ n15_ n16_ n17_ n18_ n19_ n20_ n21_ n22_ n23_ n24_ n25_ n26_ n27_ n28_ n29_ n30_ n31_ n32_ n33_ n34_ n35_ n36_; clear hb hbox hg; have hnb157 := NB1148_1080.out; have hnc157 := NB1080_1148.out; have hnb158 := NB1148_1081.out; have hnc158 := NB1081_1148.out; have hnb159 := NB1148_1089.out; have hnc159 := NB1089_1148.out; have hnb160 := NB1148_1097.out; have hnc160 := NB1097_1148.out; have hnb161 := NB1148_1104.out; have hnc161 := NB1104_1148.out; have hnb162 := NB1148_1112.out; have hnc162 := NB1112_1148.out; have hnb163 := NB1148_1120.out; have hnc163 := NB1120_1148.out; have hnb164 := NB1148_1129.out; have hnc164 := NB1129_1148.out; have hnb165 := NB1148_1130.out; have hnc165 := NB1130_1148.out; have hnb166 := NB1148_1134.out; have hnc166 := NB1134_1148.out; have hnb167 := NB1148_1138.out; have hnc167 := NB1138_1148.out; obtain ⟨hcz168_0, hcz168_1, hcz168_2, hcz168_3, hcz168_4, hcz168_5⟩ := z6 BK1148; obtain ⟨hfz168_0, hfz168_1, hfz168_2, hfz168_3, hfz168_4, hfz168_5⟩ := y6 BK1148))
        go_meet
        case rel => exact ⟨_, H', ⟨by have := HJ12.out; first | omega | exact Nat.le_refl _⟩, ⟨by (repeat (first|(with_reducible first|apply kN|apply kD|apply kA)|refine blk_far ?_ NB1080_1148.out _)); exact BK1080.out⟩, ⟨by (repeat (first|(with_reducible first|apply kN|apply kD|apply kA)|refine blk_far ?_ NB1081_1148.out _)); exact BK1081.out⟩, ⟨by (repeat (first|(with_reducible first|apply kN|apply kD|apply kA)|refine blk_far ?_ NB1089_1148.out _)); exact BK1089.out⟩, ⟨by (repeat (first|(with_reducible first|apply kN|apply kD|apply kA)|refine blk_far ?_ NB1097_1148.out _)); exact BK1097.out⟩, ⟨by (repeat (first|(with_reducible first|apply kN|apply kD|apply kA)|refine blk_far ?_ NB1104_1148.out _)); exact BK1104.out⟩, ⟨by (repeat (first|(with_reducible first|apply kN|apply kD|apply kA)|refine blk_far ?_ NB1112_1148.out _)); exact BK1112.out⟩, ⟨by (repeat (first|(with_reducible first|apply kN|apply kD|apply kA)|refine blk_far ?_ NB1120_1148.out _)); exact BK1120.out⟩, ⟨by (repeat (first|(with_reducible first|apply kN|apply kD|apply kA)|refine blk_far ?_ NB1129_1148.out _)); exact BK1129.out⟩, ⟨by (repeat (first|(with_reducible first|apply kN|apply kD|apply kA)|refine blk_far ?_ NB1130_1148.out _)); exact BK1130.out⟩, ⟨by (repeat (first|(with_reducible first|apply kN|apply kD|apply kA)|refine blk_far ?_ NB1134_1148.out _)); exact BK1134.out⟩, ⟨by (repeat (first|(with_reducible first|apply kN|apply kD|apply kA)|refine blk_far ?_ NB1138_1148.out _)); exact BK1138.out⟩, ⟨by repeat (first | (with_reducible first | exact HB.out | apply bA|apply bN|apply b1 | refine below_set ?_ (Aside0.out (by assumption))) | exact HB.out)⟩⟩
       ·rw [if_neg c133] at H
        have c133b0 : (t1147 == 3) = false := beq_eq_false_iff_ne.mpr c133
        have c133b1 : (t1147 != 3) = true := bne_iff_ne.mpr c133
        by_cases c169 : t1147 = 0
        ·rw [if_pos c169] at H
         have c169b0 : (t1147 == 0) = true := beq_iff_eq.mpr c169
         have c169b1 : (t1147 != 0) = false := bne_eq_false_iff_eq.mpr c169
         clear c169
         by_cases c170 : ((!(t1141 == 1) || (!(t1142 == 0) || (!(t1143 == 0) || (!(t1144 == 1))))) || ((!(t1145 == 0) || (!(t1146 == 0))))) = true
         ·rw [if_pos c170] at H
          have c170b0 : ((!(t1141 == 1) || (!(t1142 == 0) || (!(t1143 == 0) || (!(t1144 == 1))))) || ((!(t1145 == 0) || (!(t1146 == 0))))) = true := c170
          clear c170
          exact absurd (Option.some.inj H) (by decide)
         ·rw [if_neg c170] at H
          have c170b0 : ((!(t1141 == 1) || (!(t1142 == 0) || (!(t1143 == 0) || (!(t1144 == 1))))) || ((!(t1145 == 0) || (!(t1146 == 0))))) = false := by simpa using c170
          clear c170
          have H' := aM H
          clear H
          have hnb206 := NB1104_1080.out
          have hnc206 := NB1080_1104.out
          have hnb207 := NB1104_1081.out
          have hnc207 := NB1081_1104.out
          have hnb208 := NB1104_1089.out
          have hnc208 := NB1089_1104.out
          have hnb209 := NB1104_1097.out
          have hnc209 := NB1097_1104.out
          have hnb210 := NB1104_1112.out
          have hnc210 := NB1112_1104.out
          have hnb211 := NB1104_1120.out
          have hnc211 := NB1120_1104.out
          have hnb212 := NB1104_1129.out
          have hnc212 := NB1129_1104.out
          have hnb213 := NB1104_1130.out
          have hnc213 := NB1130_1104.out
          have hnb214 := NB1104_1134.out
          have hnc214 := NB1134_1104.out
          have hnb215 := NB1104_1138.out
          have hnc215 := NB1138_1104.out
          obtain ⟨hcz216_0, hcz216_1, hcz216_2, hcz216_3, hcz216_4, hcz216_5⟩ := z6 BK1104
          obtain ⟨hfz216_0, hfz216_1, hfz216_2, hfz216_3, hfz216_4, hfz216_5⟩ := y6 BK1104
          have hnb217 := NB1112_1080.out
          have hnc217 := NB1080_1112.out
          have hnb218 := NB1112_1081.out
          have hnc218 := NB1081_1112.out
          have hnb219 := NB1112_1089.out
          have hnc219 := NB1089_1112.out
          have hnb220 := NB1112_1097.out
          have hnc220 := NB1097_1112.out
          have hnb221 := NB1112_1120.out
          have hnc221 := NB1120_1112.out
          have hnb222 := NB1112_1129.out
          have hnc222 := NB1129_1112.out
          have hnb223 := NB1112_1130.out
          have hnc223 := NB1130_1112.out
          have hnb224 := NB1112_1134.out
          have hnc224 := NB1134_1112.out
          have hnb225 := NB1112_1138.out
          have hnc225 := NB1138_1112.out
          obtain ⟨hcz226_0, hcz226_1, hcz226_2, hcz226_3, hcz226_4, hcz226_5⟩ := z6 BK1112
          obtain ⟨hfz226_0, hfz226_1, hfz226_2, hfz226_3, hfz226_4, hfz226_5⟩ := y6 BK1112
          go_wp2_with (first | ((with_reducible refine gate_callee (f := 40) rfl ?_); refine goesL_ (some 117) rfl rfl Try.func40 (by kernel_rfl) rfl #[.agg #[.int .i64 t1098, .int .i64 t1099, .int .i64 t1100, .int .i64 t1101, .int .i64 t1102, .int .i64 t1103], .agg #[.int .i64 t1105, .int .i64 t1106, .int .i64 t1107, .int .i64 t1108, .int .i64 t1109, .int .i64 t1110]] rfl (by first|rfl|(simp only [List.map_toArray, List.map_cons, List.map_nil]; try rfl)) ?_; (with_reducible refine (impl_ComposeMotions.calls kj12 t1098 t1099 t1100 t1101 t1102 t1103 t1105 t1106 t1107 t1108 t1109 t1110 t1141 t1142 t1143 t1144 t1145 t1146 t1147 _ A132.out).mono ?_); rintro e w227 ⟨rfl, hb⟩; refine ⟨_, rfl, ?_⟩; have n0_ := bB BK1080 hb; have n1_ := bB BK1081 hb; have n2_ := bB BK1089 hb; have n3_ := bB BK1097 hb; have n4_ := bB BK1104 hb; have n5_ := bB BK1112 hb; have n6_ := bB BK1120 hb; have n7_ := bB BK1129 hb; have n8_ := bB BK1130 hb; have n9_ := bB BK1134 hb; have n10_ := bB BK1138 hb; have n11_ := bS HB hb; clear BK1080; clear BK1081; clear BK1089; clear BK1097; clear BK1104; clear BK1112; clear BK1120; clear BK1129; clear BK1130; clear BK1134; clear BK1138; clear HB; have BK1080 := n0_; have BK1081 := n1_; have BK1089 := n2_; have BK1097 := n3_; have BK1104 := n4_; have BK1112 := n5_; have BK1120 := n6_; have BK1129 := n7_; have BK1130 := n8_; have BK1134 := n9_; have BK1138 := n10_; have HB := n11_; clear n0_ n1_ n2_ n3_ n4_ n5_ n6_ n7_ n8_ n9_ n10_ n11_; (try clear hb)) | ((with_reducible refine gate_dst (N := 20) rfl ?_); refine box_event ?hg (N := 20) ?hd (cs := #[.int .i64 0, .int .i64 0, .int .i64 0, .int .i64 0, .int .i64 0, .int .i64 0]) (t := 64) ?hr ?_; (case hd => rfl); (case hg => rfl); (case hr => first | (go_simp; done) | (go_simp; rfl)); intro gb1148 hg w228 hbox hb; have n0_ := bB BK1080 hb; have n1_ := bB BK1081 hb; have n2_ := bB BK1089 hb; have n3_ := bB BK1097 hb; have n4_ := bB BK1104 hb; have n5_ := bB BK1112 hb; have n6_ := bB BK1120 hb; have n7_ := bB BK1129 hb; have n8_ := bB BK1130 hb; have n9_ := bB BK1134 hb; have n10_ := bB BK1138 hb; have n11_ := bS HB hb; have n12_ := aM (hbox); have n13_ := bZ hg HB; have n14_ := bZ hg HB; have n15_ := nL hg BK1080; have n16_ := nG hg BK1080; have n17_ := nL hg BK1081; have n18_ := nG hg BK1081; have n19_ := nL hg BK1089; have n20_ := nG hg BK1089; have n21_ := nL hg BK1097; have n22_ := nG hg BK1097; have n23_ := nL hg BK1104; have n24_ := nG hg BK1104; have n25_ := nL hg BK1112; have n26_ := nG hg BK1112; have n27_ := nL hg BK1120; have n28_ := nG hg BK1120; have n29_ := nL hg BK1129; have n30_ := nG hg BK1129; have n31_ := nL hg BK1130; have n32_ := nG hg BK1130; have n33_ := nL hg BK1134; have n34_ := nG hg BK1134; have n35_ := nL hg BK1138; have n36_ := nG hg BK1138; clear BK1080; clear BK1081; clear BK1089; clear BK1097; clear BK1104; clear BK1112; clear BK1120; clear BK1129; clear BK1130; clear BK1134; clear BK1138; clear HB; have BK1080 := n0_; have BK1081 := n1_; have BK1089 := n2_; have BK1097 := n3_; have BK1104 := n4_; have BK1112 := n5_; have BK1120 := n6_; have BK1129 := n7_; have BK1130 := n8_; have BK1134 := n9_; have BK1138 := n10_; have HB := n11_; have BK1148 := n12_; have GW1148 := n13_; have GE1148 := n14_; have NB1080_1148 := n15_; have NB1148_1080 := n16_; have NB1081_1148 := n17_; have NB1148_1081 := n18_; have NB1089_1148 := n19_; have NB1148_1089 := n20_; have NB1097_1148 := n21_; have NB1148_1097 := n22_; have NB1104_1148 := n23_; have NB1148_1104 := n24_; have NB1112_1148 := n25_; have NB1148_1112 := n26_; have NB1120_1148 := n27_; have NB1148_1120 := n28_; have NB1129_1148 := n29_; have NB1148_1129 := n30_; have NB1130_1148 := n31_; have NB1148_1130 := n32_; have NB1134_1148 := n33_; have NB1148_1134 := n34_; have NB1138_1148 := n35_; have NB1148_1138 := n36_; clear n0_ n1_ n2_ n3_ n4_ n5_ n6_ n7_ n8_ n9_ n10_ n11_ n12_ n13_ n14_ n15_ n16_ n17_ n18_ n19_ n20_ n21_ n22_ n23_ n24_ n25_ n26_ n27_ n28_ n29_ n30_ n31_ n32_ n33_ n34_ n35_ n36_; clear hb hbox hg; have hnb229 := NB1148_1080.out; have hnc229 := NB1080_1148.out; have hnb230 := NB1148_1081.out; have hnc230 := NB1081_1148.out; have hnb231 := NB1148_1089.out; have hnc231 := NB1089_1148.out; have hnb232 := NB1148_1097.out; have hnc232 := NB1097_1148.out; have hnb233 := NB1148_1104.out; have hnc233 := NB1104_1148.out; have hnb234 := NB1148_1112.out; have hnc234 := NB1112_1148.out; have hnb235 := NB1148_1120.out; have hnc235 := NB1120_1148.out; have hnb236 := NB1148_1129.out; have hnc236 := NB1129_1148.out; have hnb237 := NB1148_1130.out; have hnc237 := NB1130_1148.out; have hnb238 := NB1148_1134.out; have hnc238 := NB1134_1148.out; have hnb239 := NB1148_1138.out; have hnc239 := NB1138_1148.out; obtain ⟨hcz240_0, hcz240_1, hcz240_2, hcz240_3, hcz240_4, hcz240_5⟩ := z6 BK1148; obtain ⟨hfz240_0, hfz240_1, hfz240_2, hfz240_3, hfz240_4, hfz240_5⟩ := y6 BK1148))
          go_meet
          case rel => exact ⟨_, H', ⟨by have := HJ12.out; first | omega | exact Nat.le_refl _⟩, ⟨by (repeat (first|(with_reducible first|apply kN|apply kD|apply kA)|refine blk_far ?_ NB1080_1148.out _)); exact BK1080.out⟩, ⟨by (repeat (first|(with_reducible first|apply kN|apply kD|apply kA)|refine blk_far ?_ NB1081_1148.out _)); exact BK1081.out⟩, ⟨by (repeat (first|(with_reducible first|apply kN|apply kD|apply kA)|refine blk_far ?_ NB1089_1148.out _)); exact BK1089.out⟩, ⟨by (repeat (first|(with_reducible first|apply kN|apply kD|apply kA)|refine blk_far ?_ NB1097_1148.out _)); exact BK1097.out⟩, ⟨by (repeat (first|(with_reducible first|apply kN|apply kD|apply kA)|refine blk_far ?_ NB1104_1148.out _)); exact BK1104.out⟩, ⟨by (repeat (first|(with_reducible first|apply kN|apply kD|apply kA)|refine blk_far ?_ NB1112_1148.out _)); exact BK1112.out⟩, ⟨by (repeat (first|(with_reducible first|apply kN|apply kD|apply kA)|refine blk_far ?_ NB1120_1148.out _)); exact BK1120.out⟩, ⟨by (repeat (first|(with_reducible first|apply kN|apply kD|apply kA)|refine blk_far ?_ NB1129_1148.out _)); exact BK1129.out⟩, ⟨by (repeat (first|(with_reducible first|apply kN|apply kD|apply kA)|refine blk_far ?_ NB1130_1148.out _)); exact BK1130.out⟩, ⟨by (repeat (first|(with_reducible first|apply kN|apply kD|apply kA)|refine blk_far ?_ NB1134_1148.out _)); exact BK1134.out⟩, ⟨by (repeat (first|(with_reducible first|apply kN|apply kD|apply kA)|refine blk_far ?_ NB1138_1148.out _)); exact BK1138.out⟩, ⟨by repeat (first | (with_reducible first | exact HB.out | apply bA|apply bN|apply b1 | refine below_set ?_ (Aside0.out (by assumption))) | exact HB.out)⟩⟩
        ·rw [if_neg c169] at H
         have c169b0 : (t1147 == 0) = false := beq_eq_false_iff_ne.mpr c169
         have c169b1 : (t1147 != 0) = true := bne_iff_ne.mpr c169
         exact absurd (Option.some.inj H) (by decide)
      ·rw [if_neg c131] at H
       have c131b0 : (t1111 == 0) = false := beq_eq_false_iff_ne.mpr c131
       have c131b1 : (t1111 != 0) = true := bne_iff_ne.mpr c131
       (first | rw [c131b0] | (simp only [i64_w, i32_w]; rw [c131b0]) | skip)
       have H' := aM H
       clear H
       go_wp2
       go_meet
       case rel => exact ⟨_, H', ⟨by have := HJ12.out; first | omega | exact Nat.le_refl _⟩, ⟨by (with_reducible repeat (first|apply kN|apply kD|apply kA)); exact BK1080.out⟩, ⟨by (with_reducible repeat (first|apply kN|apply kD|apply kA)); exact BK1081.out⟩, ⟨by (with_reducible repeat (first|apply kN|apply kD|apply kA)); exact BK1089.out⟩, ⟨by (with_reducible repeat (first|apply kN|apply kD|apply kA)); exact BK1097.out⟩, ⟨by (with_reducible repeat (first|apply kN|apply kD|apply kA)); exact BK1104.out⟩, ⟨by (with_reducible repeat (first|apply kN|apply kD|apply kA)); exact BK1112.out⟩, ⟨by (with_reducible repeat (first|apply kN|apply kD|apply kA)); exact BK1120.out⟩, ⟨by (with_reducible repeat (first|apply kN|apply kD|apply kA)); exact BK1129.out⟩, ⟨by (with_reducible repeat (first|apply kN|apply kD|apply kA)); exact BK1130.out⟩, ⟨by (with_reducible repeat (first|apply kN|apply kD|apply kA)); exact BK1134.out⟩, ⟨by (with_reducible repeat (first|apply kN|apply kD|apply kA)); exact BK1138.out⟩, ⟨by repeat (first | (with_reducible first | exact HB.out | apply bA|apply bN|apply b1 | refine below_set ?_ (Aside0.out (by assumption))) | exact HB.out)⟩⟩
     case rest =>
      clear HC130
      try clear c1
      try clear c2
      try clear p2
      try clear c4
      try clear c10
      try clear c12
      try clear c13
      try clear c14
      try clear c15
      try clear c16
      try clear c17
      try clear c18
      try clear c19
      try clear c20
      try clear c21
      try clear c22
      try clear c23
      try clear c24
      try clear c25
      try clear c26
      try clear c27
      try clear c40
      try clear c105
      try clear c105b0
      try clear c105b1
      try clear c109
      try clear c109b0
      try clear c109b1
      try clear c129
      try clear c131
      try clear c131b0
      try clear c131b1
      try clear c133
      try clear c133b0
      try clear c133b1
      try clear c134
      try clear c135
      try clear c136
      try clear c137
      try clear c138
      try clear c139
      try clear c140
      try clear c141
      try clear c142
      try clear c143
      try clear c145
      try clear c146
      try clear c147
      try clear c148
      try clear c149
      try clear c150
      try clear c151
      try clear c152
      try clear c153
      try clear c157
      try clear c158
      try clear c159
      try clear c160
      try clear c161
      try clear c162
      try clear c163
      try clear c164
      try clear c165
      try clear c166
      try clear c167
      try clear c169
      try clear c169b0
      try clear c169b1
      try clear c170
      try clear c170b0
      try clear c171
      try clear c172
      try clear c173
      try clear c174
      try clear c175
      try clear c176
      try clear c177
      try clear c178
      try clear c179
      try clear c180
      try clear c182
      try clear c183
      try clear c184
      try clear c185
      try clear c186
      try clear c187
      try clear c188
      try clear c189
      try clear c190
      try clear c194
      try clear c195
      try clear c196
      try clear c197
      try clear c198
      try clear c199
      try clear c200
      try clear c201
      try clear c202
      try clear c203
      try clear c204
      try clear c206
      try clear c207
      try clear c208
      try clear c209
      try clear c210
      try clear c211
      try clear c212
      try clear c213
      try clear c214
      try clear c215
      try clear c217
      try clear c218
      try clear c219
      try clear c220
      try clear c221
      try clear c222
      try clear c223
      try clear c224
      try clear c225
      try clear c229
      try clear c230
      try clear c231
      try clear c232
      try clear c233
      try clear c234
      try clear c235
      try clear c236
      try clear c237
      try clear c238
      try clear c239
      try clear c241
      try clear c242
      try clear c243
      try clear c244
      try clear c245
      try clear c246
      try clear c247
      try clear c248
      try clear c249
      try clear c250
      try clear c252
      try clear c253
      try clear c254
      try clear c255
      try clear c256
      try clear c257
      try clear c258
      try clear c259
      try clear c260
      try clear c264
      try clear c265
      try clear c266
      try clear c267
      try clear c268
      try clear c269
      try clear c270
      try clear c271
      try clear c272
      try clear c273
      try clear c274
      try clear hcz144_0
      try clear hcz144_1
      try clear hcz144_2
      try clear hcz144_3
      try clear hcz144_4
      try clear hcz144_5
      try clear hcz154_0
      try clear hcz154_1
      try clear hcz154_2
      try clear hcz154_3
      try clear hcz154_4
      try clear hcz154_5
      try clear hcz168_0
      try clear hcz168_1
      try clear hcz168_2
      try clear hcz168_3
      try clear hcz168_4
      try clear hcz168_5
      try clear hcz181_0
      try clear hcz181_1
      try clear hcz181_2
      try clear hcz181_3
      try clear hcz181_4
      try clear hcz181_5
      try clear hcz191_0
      try clear hcz191_1
      try clear hcz191_2
      try clear hcz191_3
      try clear hcz191_4
      try clear hcz191_5
      try clear hcz205_0
      try clear hcz205_1
      try clear hcz205_2
      try clear hcz205_3
      try clear hcz205_4
      try clear hcz205_5
      try clear hcz216_0
      try clear hcz216_1
      try clear hcz216_2
      try clear hcz216_3
      try clear hcz216_4
      try clear hcz216_5
      try clear hcz226_0
      try clear hcz226_1
      try clear hcz226_2
      try clear hcz226_3
      try clear hcz226_4
      try clear hcz226_5
      try clear hcz240_0
      try clear hcz240_1
      try clear hcz240_2
      try clear hcz240_3
      try clear hcz240_4
      try clear hcz240_5
      try clear hcz251_0
      try clear hcz251_1
      try clear hcz251_2
      try clear hcz251_3
      try clear hcz251_4
      try clear hcz251_5
      try clear hcz261_0
      try clear hcz261_1
      try clear hcz261_2
      try clear hcz261_3
      try clear hcz261_4
      try clear hcz261_5
      try clear hcz275_0
      try clear hcz275_1
      try clear hcz275_2
      try clear hcz275_3
      try clear hcz275_4
      try clear hcz275_5
      try clear hfz144_0
      try clear hfz144_1
      try clear hfz144_2
      try clear hfz144_3
      try clear hfz144_4
      try clear hfz144_5
      try clear hfz154_0
      try clear hfz154_1
      try clear hfz154_2
      try clear hfz154_3
      try clear hfz154_4
      try clear hfz154_5
      try clear hfz168_0
      try clear hfz168_1
      try clear hfz168_2
      try clear hfz168_3
      try clear hfz168_4
      try clear hfz168_5
      try clear hfz181_0
      try clear hfz181_1
      try clear hfz181_2
      try clear hfz181_3
      try clear hfz181_4
      try clear hfz181_5
      try clear hfz191_0
      try clear hfz191_1
      try clear hfz191_2
      try clear hfz191_3
      try clear hfz191_4
      try clear hfz191_5
      try clear hfz205_0
      try clear hfz205_1
      try clear hfz205_2
      try clear hfz205_3
      try clear hfz205_4
      try clear hfz205_5
      try clear hfz216_0
      try clear hfz216_1
      try clear hfz216_2
      try clear hfz216_3
      try clear hfz216_4
      try clear hfz216_5
      try clear hfz226_0
      try clear hfz226_1
      try clear hfz226_2
      try clear hfz226_3
      try clear hfz226_4
      try clear hfz226_5
      try clear hfz240_0
      try clear hfz240_1
      try clear hfz240_2
      try clear hfz240_3
      try clear hfz240_4
      try clear hfz240_5
      try clear hfz251_0
      try clear hfz251_1
      try clear hfz251_2
      try clear hfz251_3
      try clear hfz251_4
      try clear hfz251_5
      try clear hfz261_0
      try clear hfz261_1
      try clear hfz261_2
      try clear hfz261_3
      try clear hfz261_4
      try clear hfz261_5
      try clear hfz275_0
      try clear hfz275_1
      try clear hfz275_2
      try clear hfz275_3
      try clear hfz275_4
      try clear hfz275_5
      try clear p2
      obtain ⟨kq, HA, HJ129, BK1080, BK1081, BK1089, BK1097, BK1104, BK1112, BK1120, BK1129, BK1130, BK1134, BK1138, HB⟩ := hcut
      cases kq with
      | zero => exact absurd HA.out (by simp [laws_FnMotions.j1])
      | succ kj129 =>
       have H := HA.out
       clear HA
       simp only [laws_FnMotions.j1] at H
       by_cases c276 : t1088 = 0
       ·rw [if_pos c276] at H
        have c276b0 : (t1088 == 0) = true := beq_iff_eq.mpr c276
        have c276b1 : (t1088 != 0) = false := bne_eq_false_iff_eq.mpr c276
        clear c276
        replace H := Option.bind_eq_some_iff.mp H
        obtain ⟨⟨t1150, t1151, t1152⟩, A2770, H⟩ := H
        try dsimp only at H
        have A277 := aM A2770
        clear A2770
        replace H := Option.bind_eq_some_iff.mp H
        obtain ⟨⟨t1154, t1155, t1156⟩, A2780, H⟩ := H
        try dsimp only at H
        have A278 := aM A2780
        clear A2780
        replace H := Option.bind_eq_some_iff.mp H
        obtain ⟨⟨t1158, t1159, t1160⟩, A2790, H⟩ := H
        try dsimp only at H
        have A279 := aM A2790
        clear A2790
        have hrT_ := fun (h1 : t1152 = 0) (h2 : t1156 = 0) (h3 : t1160 = 0) => Option.some.inj ((if_pos h3).symm.trans ((if_pos h2).symm.trans ((if_pos h1).symm.trans H)))
        clear H
        go_wp2_with (first | ((with_reducible refine gate_dst (N := 22) rfl ?_); refine box_event ?hg (N := 22) ?hd (cs := #[.int .i64 0, .int .i64 0]) (t := 47) ?hr ?_; (case hd => rfl); (case hg => rfl); (case hr => first | (go_simp; done) | (go_simp; rfl)); intro gb1149 hg w283 hbox hb; have n0_ := bB BK1080 hb; have n1_ := bB BK1081 hb; have n2_ := bB BK1089 hb; have n3_ := bB BK1097 hb; have n4_ := bB BK1104 hb; have n5_ := bB BK1112 hb; have n6_ := bB BK1120 hb; have n7_ := bB BK1129 hb; have n8_ := bB BK1130 hb; have n9_ := bB BK1134 hb; have n10_ := bB BK1138 hb; have n11_ := bS HB hb; have n12_ := aM (hbox); have n13_ := bZ hg HB; have n14_ := bZ hg HB; have n15_ := nL hg BK1080; have n16_ := nG hg BK1080; have n17_ := nL hg BK1081; have n18_ := nG hg BK1081; have n19_ := nL hg BK1089; have n20_ := nG hg BK1089; have n21_ := nL hg BK1097; have n22_ := nG hg BK1097; have n23_ := nL hg BK1104; have n24_ := nG hg BK1104; have n25_ := nL hg BK1112; have n26_ := nG hg BK1112; have n27_ := nL hg BK1120; have n28_ := nG hg BK1120; have n29_ := nL hg BK1129; have n30_ := nG hg BK1129; have n31_ := nL hg BK1130; have n32_ := nG hg BK1130; have n33_ := nL hg BK1134; have n34_ := nG hg BK1134; have n35_ := nL hg BK1138; have n36_ := nG hg BK1138; clear BK1080; clear BK1081; clear BK1089; clear BK1097; clear BK1104; clear BK1112; clear BK1120; clear BK1129; clear BK1130; clear BK1134; clear BK1138; clear HB; have BK1080 := n0_; have BK1081 := n1_; have BK1089 := n2_; have BK1097 := n3_; have BK1104 := n4_; have BK1112 := n5_; have BK1120 := n6_; have BK1129 := n7_; have BK1130 := n8_; have BK1134 := n9_; have BK1138 := n10_; have HB := n11_; have BK1149 := n12_; have GW1149 := n13_; have GE1149 := n14_; have NB1080_1149 := n15_; have NB1149_1080 := n16_; have NB1081_1149 := n17_; have NB1149_1081 := n18_; have NB1089_1149 := n19_; have NB1149_1089 := n20_; have NB1097_1149 := n21_; have NB1149_1097 := n22_; have NB1104_1149 := n23_; have NB1149_1104 := n24_; have NB1112_1149 := n25_; have NB1149_1112 := n26_; have NB1120_1149 := n27_; have NB1149_1120 := n28_; have NB1129_1149 := n29_; have NB1149_1129 := n30_; have NB1130_1149 := n31_; have NB1149_1130 := n32_; have NB1134_1149 := n33_; have NB1149_1134 := n34_; have NB1138_1149 := n35_; have NB1149_1138 := n36_; clear n0_ n1_ n2_ n3_ n4_ n5_ n6_ n7_ n8_ n9_ n10_ n11_ n12_ n13_ n14_ n15_ n16_ n17_ n18_ n19_ n20_ n21_ n22_ n23_ n24_ n25_ n26_ n27_ n28_ n29_ n30_ n31_ n32_ n33_ n34_ n35_ n36_; clear hb hbox hg; have hnb284 := NB1149_1080.out; have hnc284 := NB1080_1149.out; have hnb285 := NB1149_1081.out; have hnc285 := NB1081_1149.out; have hnb286 := NB1149_1089.out; have hnc286 := NB1089_1149.out; have hnb287 := NB1149_1097.out; have hnc287 := NB1097_1149.out; have hnb288 := NB1149_1104.out; have hnc288 := NB1104_1149.out; have hnb289 := NB1149_1112.out; have hnc289 := NB1112_1149.out; have hnb290 := NB1149_1120.out; have hnc290 := NB1120_1149.out; have hnb291 := NB1149_1129.out; have hnc291 := NB1129_1149.out; have hnb292 := NB1149_1130.out; have hnc292 := NB1130_1149.out; have hnb293 := NB1149_1134.out; have hnc293 := NB1134_1149.out; have hnb294 := NB1149_1138.out; have hnc294 := NB1138_1149.out; obtain ⟨hcz295_0, hcz295_1⟩ := z2 BK1149; obtain ⟨hfz295_0, hfz295_1⟩ := y2 BK1149; have hnb296 := NB1081_1080.out; have hnc296 := NB1080_1081.out; have hnb297 := NB1081_1089.out; have hnc297 := NB1089_1081.out; have hnb298 := NB1081_1097.out; have hnc298 := NB1097_1081.out; have hnb299 := NB1081_1104.out; have hnc299 := NB1104_1081.out; have hnb300 := NB1081_1112.out; have hnc300 := NB1112_1081.out; have hnb301 := NB1081_1120.out; have hnc301 := NB1120_1081.out; have hnb302 := NB1081_1129.out; have hnc302 := NB1129_1081.out; have hnb303 := NB1081_1130.out; have hnc303 := NB1130_1081.out; have hnb304 := NB1081_1134.out; have hnc304 := NB1134_1081.out; have hnb305 := NB1081_1138.out; have hnc305 := NB1138_1081.out; obtain ⟨hcz306_0, hcz306_1, hcz306_2, hcz306_3, hcz306_4, hcz306_5⟩ := z6 BK1081; obtain ⟨hfz306_0, hfz306_1, hfz306_2, hfz306_3, hfz306_4, hfz306_5⟩ := y6 BK1081) | ((with_reducible refine gate_callee (f := 46) rfl ?_); refine goesL_ (some 138) rfl rfl Try.func46 (by kernel_rfl) rfl #[.agg #[.int .i64 t1074, .int .i64 t1075, .int .i64 t1076, .int .i64 t1077, .int .i64 t1078, .int .i64 t1079], .agg #[.int .i64 2, .int .i64 (-3)]] rfl (by first|rfl|(simp only [List.map_toArray, List.map_cons, List.map_nil]; try rfl)) ?_; (with_reducible refine (impl_ApplyMotion.calls kj129 t1074 t1075 t1076 t1077 t1078 t1079 2 (-3) t1150 t1151 t1152 _ A277.out).mono ?_); rintro e w307 ⟨rfl, hb⟩; refine ⟨_, rfl, ?_⟩; have n0_ := aM (blk_below (g := gb1080) (o := .cells #[.int .i64 t1068, .int .i64 t1069, .int .i64 t1070, .int .i64 t1071, .int .i64 t1072, .int .i64 t1073] 64 (0, 0)) (by (repeat (first|(with_reducible first|apply kN|apply kD|apply kA)|refine blk_far ?_ NB1080_1149.out _)); exact BK1080.out) hb); have n1_ := aM (blk_below (g := gb1081) (o := .cells #[.int .i64 t1074, .int .i64 t1075, .int .i64 t1076, .int .i64 t1077, .int .i64 t1078, .int .i64 t1079] 64 (0, 0)) (by (repeat (first|(with_reducible first|apply kN|apply kD|apply kA)|refine blk_far ?_ NB1081_1149.out _)); exact BK1081.out) hb); have n2_ := aM (blk_below (g := gb1089) (o := .cells #[.int .i64 t1082, .int .i64 t1083, .int .i64 t1084, .int .i64 t1085, .int .i64 t1086, .int .i64 t1087] 64 (0, 0)) (by (repeat (first|(with_reducible first|apply kN|apply kD|apply kA)|refine blk_far ?_ NB1089_1149.out _)); exact BK1089.out) hb); have n3_ := aM (blk_below (g := gb1097) (o := .cells #[.int .i64 t1090, .int .i64 t1091, .int .i64 t1092, .int .i64 t1093, .int .i64 t1094, .int .i64 t1095] 64 (0, 0)) (by (repeat (first|(with_reducible first|apply kN|apply kD|apply kA)|refine blk_far ?_ NB1097_1149.out _)); exact BK1097.out) hb); have n4_ := aM (blk_below (g := gb1104) (o := .cells #[.int .i64 t1098, .int .i64 t1099, .int .i64 t1100, .int .i64 t1101, .int .i64 t1102, .int .i64 t1103] 64 (0, 0)) (by (repeat (first|(with_reducible first|apply kN|apply kD|apply kA)|refine blk_far ?_ NB1104_1149.out _)); exact BK1104.out) hb); have n5_ := aM (blk_below (g := gb1112) (o := .cells #[.int .i64 t1105, .int .i64 t1106, .int .i64 t1107, .int .i64 t1108, .int .i64 t1109, .int .i64 t1110] 64 (0, 0)) (by (repeat (first|(with_reducible first|apply kN|apply kD|apply kA)|refine blk_far ?_ NB1112_1149.out _)); exact BK1112.out) hb); have n6_ := aM (blk_below (g := gb1120) (o := .cells #[.int .i64 t1113, .int .i64 t1114, .int .i64 t1115, .int .i64 t1116, .int .i64 t1117, .int .i64 t1118] 64 (0, 0)) (by (repeat (first|(with_reducible first|apply kN|apply kD|apply kA)|refine blk_far ?_ NB1120_1149.out _)); exact BK1120.out) hb); have n7_ := aM (blk_below (g := gb1129) (o := .cells #[.int .i64 t1121, .int .i64 t1122, .int .i64 t1123, .int .i64 t1124, .int .i64 t1125, .int .i64 t1126] 64 (0, 0)) (by (repeat (first|(with_reducible first|apply kN|apply kD|apply kA)|refine blk_far ?_ NB1129_1149.out _)); exact BK1129.out) hb); have n8_ := aM (blk_below (g := gb1130) (o := .cells #[.int .i64 t1127, .int .i64 t1128] 47 (0, 0)) (by (repeat (first|(with_reducible first|apply kN|apply kD|apply kA)|refine blk_far ?_ NB1130_1149.out _)); exact BK1130.out) hb); have n9_ := aM (blk_below (g := gb1134) (o := .cells #[.int .i64 t1131, .int .i64 t1132] 47 (0, 0)) (by (repeat (first|(with_reducible first|apply kN|apply kD|apply kA)|refine blk_far ?_ NB1134_1149.out _)); exact BK1134.out) hb); have n10_ := aM (blk_below (g := gb1138) (o := .cells #[.int .i64 t1135, .int .i64 t1136] 47 (0, 0)) (by (repeat (first|(with_reducible first|apply kN|apply kD|apply kA)|refine blk_far ?_ NB1138_1149.out _)); exact BK1138.out) hb); have n11_ := aM (blk_below (g := gb1149) (o := .cells #[.int .i64 2, .int .i64 (-3)] 47 (0, 0)) (by (with_reducible repeat (first|apply kN|apply kD|apply kA)); refine blk_put (cs := #[.int .i64 2, .int .i64 0]) ?_ 1 _ rfl; (with_reducible repeat (first|apply kN|apply kD|apply kA)); refine blk_put (cs := #[.int .i64 0, .int .i64 0]) ?_ 0 _ rfl; (with_reducible repeat (first|apply kN|apply kD|apply kA)); exact BK1149.out) hb); have n12_ := bS HB hb; clear BK1080; clear BK1081; clear BK1089; clear BK1097; clear BK1104; clear BK1112; clear BK1120; clear BK1129; clear BK1130; clear BK1134; clear BK1138; clear BK1149; clear HB; have BK1080 := n0_; have BK1081 := n1_; have BK1089 := n2_; have BK1097 := n3_; have BK1104 := n4_; have BK1112 := n5_; have BK1120 := n6_; have BK1129 := n7_; have BK1130 := n8_; have BK1134 := n9_; have BK1138 := n10_; have BK1149 := n11_; have HB := n12_; clear n0_ n1_ n2_ n3_ n4_ n5_ n6_ n7_ n8_ n9_ n10_ n11_ n12_; (try clear hb)) | ((with_reducible refine gate_dst (N := 23) rfl ?_); refine box_event ?hg (N := 23) ?hd (cs := #[.int .i64 0, .int .i64 0]) (t := 47) ?hr ?_; (case hd => rfl); (case hg => rfl); (case hr => first | (go_simp; done) | (go_simp; rfl)); intro gb1153 hg w308 hbox hb; have n0_ := bB BK1080 hb; have n1_ := bB BK1081 hb; have n2_ := bB BK1089 hb; have n3_ := bB BK1097 hb; have n4_ := bB BK1104 hb; have n5_ := bB BK1112 hb; have n6_ := bB BK1120 hb; have n7_ := bB BK1129 hb; have n8_ := bB BK1130 hb; have n9_ := bB BK1134 hb; have n10_ := bB BK1138 hb; have n11_ := bB BK1149 hb; have n12_ := bS HB hb; have n13_ := aM (hbox); have n14_ := bZ hg HB; have n15_ := bZ hg HB; have n16_ := nL hg BK1080; have n17_ := nG hg BK1080; have n18_ := nL hg BK1081; have n19_ := nG hg BK1081; have n20_ := nL hg BK1089; have n21_ := nG hg BK1089; have n22_ := nL hg BK1097; have n23_ := nG hg BK1097; have n24_ := nL hg BK1104; have n25_ := nG hg BK1104; have n26_ := nL hg BK1112; have n27_ := nG hg BK1112; have n28_ := nL hg BK1120; have n29_ := nG hg BK1120; have n30_ := nL hg BK1129; have n31_ := nG hg BK1129; have n32_ := nL hg BK1130; have n33_ := nG hg BK1130; have n34_ := nL hg BK1134; have n35_ := nG hg BK1134; have n36_ := nL hg BK1138; have n37_ := nG hg BK1138; have n38_ := nL hg BK1149; have n39_ := nG hg BK1149; clear BK1080; clear BK1081; clear BK1089; clear BK1097; clear BK1104; clear BK1112; clear BK1120; clear BK1129; clear BK1130; clear BK1134; clear BK1138; clear BK1149; clear HB; have BK1080 := n0_; have BK1081 := n1_; have BK1089 := n2_; have BK1097 := n3_; have BK1104 := n4_; have BK1112 := n5_; have BK1120 := n6_; have BK1129 := n7_; have BK1130 := n8_; have BK1134 := n9_; have BK1138 := n10_; have BK1149 := n11_; have HB := n12_; have BK1153 := n13_; have GW1153 := n14_; have GE1153 := n15_; have NB1080_1153 := n16_; have NB1153_1080 := n17_; have NB1081_1153 := n18_; have NB1153_1081 := n19_; have NB1089_1153 := n20_; have NB1153_1089 := n21_; have NB1097_1153 := n22_; have NB1153_1097 := n23_; have NB1104_1153 := n24_; have NB1153_1104 := n25_; have NB1112_1153 := n26_; have NB1153_1112 := n27_; have NB1120_1153 := n28_; have NB1153_1120 := n29_; have NB1129_1153 := n30_; have NB1153_1129 := n31_; have NB1130_1153 := n32_; have NB1153_1130 := n33_; have NB1134_1153 := n34_; have NB1153_1134 := n35_; have NB1138_1153 := n36_; have NB1153_1138 := n37_; have NB1149_1153 := n38_; have NB1153_1149 := n39_; clear n0_ n1_ n2_ n3_ n4_ n5_ n6_ n7_ n8_ n9_ n10_ n11_ n12_ n13_ n14_ n15_ n16_ n17_ n18_ n19_ n20_ n21_ n22_ n23_ n24_ n25_ n26_ n27_ n28_ n29_ n30_ n31_ n32_ n33_ n34_ n35_ n36_ n37_ n38_ n39_; clear hb hbox hg; have hnb309 := NB1153_1080.out; have hnc309 := NB1080_1153.out; have hnb310 := NB1153_1081.out; have hnc310 := NB1081_1153.out; have hnb311 := NB1153_1089.out; have hnc311 := NB1089_1153.out; have hnb312 := NB1153_1097.out; have hnc312 := NB1097_1153.out; have hnb313 := NB1153_1104.out; have hnc313 := NB1104_1153.out; have hnb314 := NB1153_1112.out; have hnc314 := NB1112_1153.out; have hnb315 := NB1153_1120.out; have hnc315 := NB1120_1153.out; have hnb316 := NB1153_1129.out; have hnc316 := NB1129_1153.out; have hnb317 := NB1153_1130.out; have hnc317 := NB1130_1153.out; have hnb318 := NB1153_1134.out; have hnc318 := NB1134_1153.out; have hnb319 := NB1153_1138.out; have hnc319 := NB1138_1153.out; have hnb320 := NB1153_1149.out; have hnc320 := NB1149_1153.out; obtain ⟨hcz321_0, hcz321_1⟩ := z2 BK1153; obtain ⟨hfz321_0, hfz321_1⟩ := y2 BK1153; have hnb322 := NB1080_1089.out; have hnc322 := NB1089_1080.out; have hnb323 := NB1080_1097.out; have hnc323 := NB1097_1080.out; have hnb324 := NB1080_1104.out; have hnc324 := NB1104_1080.out; have hnb325 := NB1080_1112.out; have hnc325 := NB1112_1080.out; have hnb326 := NB1080_1120.out; have hnc326 := NB1120_1080.out; have hnb327 := NB1080_1129.out; have hnc327 := NB1129_1080.out; have hnb328 := NB1080_1130.out; have hnc328 := NB1130_1080.out; have hnb329 := NB1080_1134.out; have hnc329 := NB1134_1080.out; have hnb330 := NB1080_1138.out; have hnc330 := NB1138_1080.out; obtain ⟨hcz331_0, hcz331_1, hcz331_2, hcz331_3, hcz331_4, hcz331_5⟩ := z6 BK1080; obtain ⟨hfz331_0, hfz331_1, hfz331_2, hfz331_3, hfz331_4, hfz331_5⟩ := y6 BK1080) | ((with_reducible refine gate_callee (f := 46) rfl ?_); refine goesL_ (some 144) rfl rfl Try.func46 (by kernel_rfl) rfl #[.agg #[.int .i64 t1068, .int .i64 t1069, .int .i64 t1070, .int .i64 t1071, .int .i64 t1072, .int .i64 t1073], .agg #[.int .i64 t1150, .int .i64 t1151]] rfl (by first|rfl|(simp only [List.map_toArray, List.map_cons, List.map_nil]; try rfl)) ?_; (with_reducible refine (impl_ApplyMotion.calls kj129 t1068 t1069 t1070 t1071 t1072 t1073 t1150 t1151 t1154 t1155 t1156 _ A278.out).mono ?_); rintro e w332 ⟨rfl, hb⟩; refine ⟨_, rfl, ?_⟩; have n0_ := aM (blk_below (g := gb1080) (o := .cells #[.int .i64 t1068, .int .i64 t1069, .int .i64 t1070, .int .i64 t1071, .int .i64 t1072, .int .i64 t1073] 64 (0, 0)) (by (repeat (first|(with_reducible first|apply kN|apply kD|apply kA)|refine blk_far ?_ NB1080_1153.out _)); exact BK1080.out) hb); have n1_ := aM (blk_below (g := gb1081) (o := .cells #[.int .i64 t1074, .int .i64 t1075, .int .i64 t1076, .int .i64 t1077, .int .i64 t1078, .int .i64 t1079] 64 (0, 0)) (by (repeat (first|(with_reducible first|apply kN|apply kD|apply kA)|refine blk_far ?_ NB1081_1153.out _)); exact BK1081.out) hb); have n2_ := aM (blk_below (g := gb1089) (o := .cells #[.int .i64 t1082, .int .i64 t1083, .int .i64 t1084, .int .i64 t1085, .int .i64 t1086, .int .i64 t1087] 64 (0, 0)) (by (repeat (first|(with_reducible first|apply kN|apply kD|apply kA)|refine blk_far ?_ NB1089_1153.out _)); exact BK1089.out) hb); have n3_ := aM (blk_below (g := gb1097) (o := .cells #[.int .i64 t1090, .int .i64 t1091, .int .i64 t1092, .int .i64 t1093, .int .i64 t1094, .int .i64 t1095] 64 (0, 0)) (by (repeat (first|(with_reducible first|apply kN|apply kD|apply kA)|refine blk_far ?_ NB1097_1153.out _)); exact BK1097.out) hb); have n4_ := aM (blk_below (g := gb1104) (o := .cells #[.int .i64 t1098, .int .i64 t1099, .int .i64 t1100, .int .i64 t1101, .int .i64 t1102, .int .i64 t1103] 64 (0, 0)) (by (repeat (first|(with_reducible first|apply kN|apply kD|apply kA)|refine blk_far ?_ NB1104_1153.out _)); exact BK1104.out) hb); have n5_ := aM (blk_below (g := gb1112) (o := .cells #[.int .i64 t1105, .int .i64 t1106, .int .i64 t1107, .int .i64 t1108, .int .i64 t1109, .int .i64 t1110] 64 (0, 0)) (by (repeat (first|(with_reducible first|apply kN|apply kD|apply kA)|refine blk_far ?_ NB1112_1153.out _)); exact BK1112.out) hb); have n6_ := aM (blk_below (g := gb1120) (o := .cells #[.int .i64 t1113, .int .i64 t1114, .int .i64 t1115, .int .i64 t1116, .int .i64 t1117, .int .i64 t1118] 64 (0, 0)) (by (repeat (first|(with_reducible first|apply kN|apply kD|apply kA)|refine blk_far ?_ NB1120_1153.out _)); exact BK1120.out) hb); have n7_ := aM (blk_below (g := gb1129) (o := .cells #[.int .i64 t1121, .int .i64 t1122, .int .i64 t1123, .int .i64 t1124, .int .i64 t1125, .int .i64 t1126] 64 (0, 0)) (by (repeat (first|(with_reducible first|apply kN|apply kD|apply kA)|refine blk_far ?_ NB1129_1153.out _)); exact BK1129.out) hb); have n8_ := aM (blk_below (g := gb1130) (o := .cells #[.int .i64 t1127, .int .i64 t1128] 47 (0, 0)) (by (repeat (first|(with_reducible first|apply kN|apply kD|apply kA)|refine blk_far ?_ NB1130_1153.out _)); exact BK1130.out) hb); have n9_ := aM (blk_below (g := gb1134) (o := .cells #[.int .i64 t1131, .int .i64 t1132] 47 (0, 0)) (by (repeat (first|(with_reducible first|apply kN|apply kD|apply kA)|refine blk_far ?_ NB1134_1153.out _)); exact BK1134.out) hb); have n10_ := aM (blk_below (g := gb1138) (o := .cells #[.int .i64 t1135, .int .i64 t1136] 47 (0, 0)) (by (repeat (first|(with_reducible first|apply kN|apply kD|apply kA)|refine blk_far ?_ NB1138_1153.out _)); exact BK1138.out) hb); have n11_ := aM (blk_below (g := gb1149) (o := .cells #[.int .i64 2, .int .i64 (-3)] 47 (0, 0)) (by (repeat (first|(with_reducible first|apply kN|apply kD|apply kA)|refine blk_far ?_ NB1149_1153.out _)); exact BK1149.out) hb); have n12_ := aM (blk_below (g := gb1153) (o := .cells #[.int .i64 t1150, .int .i64 t1151] 47 (0, 0)) (by (with_reducible repeat (first|apply kN|apply kD|apply kA)); refine blk_put (cs := #[.int .i64 t1150, .int .i64 0]) ?_ 1 _ rfl; (with_reducible repeat (first|apply kN|apply kD|apply kA)); refine blk_put (cs := #[.int .i64 0, .int .i64 0]) ?_ 0 _ rfl; (with_reducible repeat (first|apply kN|apply kD|apply kA)); exact BK1153.out) hb); have n13_ := bS HB hb; clear BK1080; clear BK1081; clear BK1089; clear BK1097; clear BK1104; clear BK1112; clear BK1120; clear BK1129; clear BK1130; clear BK1134; clear BK1138; clear BK1149; clear BK1153; clear HB; have BK1080 := n0_; have BK1081 := n1_; have BK1089 := n2_; have BK1097 := n3_; have BK1104 := n4_; have BK1112 := n5_; have BK1120 := n6_; have BK1129 := n7_; have BK1130 := n8_; have BK1134 := n9_; have BK1138 := n10_; have BK1149 := n11_; have BK1153 := n12_; have HB := n13_; clear n0_ n1_ n2_ n3_ n4_ n5_ n6_ n7_ n8_ n9_ n10_ n11_ n12_ n13_; (try clear hb)) | ((with_reducible refine gate_dst (N := 25) rfl ?_); refine box_event ?hg (N := 25) ?hd (cs := #[.int .i64 0, .int .i64 0]) (t := 47) ?hr ?_; (case hd => rfl); (case hg => rfl); (case hr => first | (go_simp; done) | (go_simp; rfl)); intro gb1157 hg w333 hbox hb; have n0_ := bB BK1080 hb; have n1_ := bB BK1081 hb; have n2_ := bB BK1089 hb; have n3_ := bB BK1097 hb; have n4_ := bB BK1104 hb; have n5_ := bB BK1112 hb; have n6_ := bB BK1120 hb; have n7_ := bB BK1129 hb; have n8_ := bB BK1130 hb; have n9_ := bB BK1134 hb; have n10_ := bB BK1138 hb; have n11_ := bB BK1149 hb; have n12_ := bB BK1153 hb; have n13_ := bS HB hb; have n14_ := aM (hbox); have n15_ := bZ hg HB; have n16_ := bZ hg HB; have n17_ := nL hg BK1080; have n18_ := nG hg BK1080; have n19_ := nL hg BK1081; have n20_ := nG hg BK1081; have n21_ := nL hg BK1089; have n22_ := nG hg BK1089; have n23_ := nL hg BK1097; have n24_ := nG hg BK1097; have n25_ := nL hg BK1104; have n26_ := nG hg BK1104; have n27_ := nL hg BK1112; have n28_ := nG hg BK1112; have n29_ := nL hg BK1120; have n30_ := nG hg BK1120; have n31_ := nL hg BK1129; have n32_ := nG hg BK1129; have n33_ := nL hg BK1130; have n34_ := nG hg BK1130; have n35_ := nL hg BK1134; have n36_ := nG hg BK1134; have n37_ := nL hg BK1138; have n38_ := nG hg BK1138; have n39_ := nL hg BK1149; have n40_ := nG hg BK1149; have n41_ := nL hg BK1153; have n42_ := nG hg BK1153; clear BK1080; clear BK1081; clear BK1089; clear BK1097; clear BK1104; clear BK1112; clear BK1120; clear BK1129; clear BK1130; clear BK1134; clear BK1138; clear BK1149; clear BK1153; clear HB; have BK1080 := n0_; have BK1081 := n1_; have BK1089 := n2_; have BK1097 := n3_; have BK1104 := n4_; have BK1112 := n5_; have BK1120 := n6_; have BK1129 := n7_; have BK1130 := n8_; have BK1134 := n9_; have BK1138 := n10_; have BK1149 := n11_; have BK1153 := n12_; have HB := n13_; have BK1157 := n14_; have GW1157 := n15_; have GE1157 := n16_; have NB1080_1157 := n17_; have NB1157_1080 := n18_; have NB1081_1157 := n19_; have NB1157_1081 := n20_; have NB1089_1157 := n21_; have NB1157_1089 := n22_; have NB1097_1157 := n23_; have NB1157_1097 := n24_; have NB1104_1157 := n25_; have NB1157_1104 := n26_; have NB1112_1157 := n27_; have NB1157_1112 := n28_; have NB1120_1157 := n29_; have NB1157_1120 := n30_; have NB1129_1157 := n31_; have NB1157_1129 := n32_; have NB1130_1157 := n33_; have NB1157_1130 := n34_; have NB1134_1157 := n35_; have NB1157_1134 := n36_; have NB1138_1157 := n37_; have NB1157_1138 := n38_; have NB1149_1157 := n39_; have NB1157_1149 := n40_; have NB1153_1157 := n41_; have NB1157_1153 := n42_; clear n0_ n1_ n2_ n3_ n4_ n5_ n6_ n7_ n8_ n9_ n10_ n11_ n12_ n13_ n14_ n15_ n16_ n17_ n18_ n19_ n20_ n21_ n22_ n23_ n24_ n25_ n26_ n27_ n28_ n29_ n30_ n31_ n32_ n33_ n34_ n35_ n36_ n37_ n38_ n39_ n40_ n41_ n42_; clear hb hbox hg; have hnb334 := NB1157_1080.out; have hnc334 := NB1080_1157.out; have hnb335 := NB1157_1081.out; have hnc335 := NB1081_1157.out; have hnb336 := NB1157_1089.out; have hnc336 := NB1089_1157.out; have hnb337 := NB1157_1097.out; have hnc337 := NB1097_1157.out; have hnb338 := NB1157_1104.out; have hnc338 := NB1104_1157.out; have hnb339 := NB1157_1112.out; have hnc339 := NB1112_1157.out; have hnb340 := NB1157_1120.out; have hnc340 := NB1120_1157.out; have hnb341 := NB1157_1129.out; have hnc341 := NB1129_1157.out; have hnb342 := NB1157_1130.out; have hnc342 := NB1130_1157.out; have hnb343 := NB1157_1134.out; have hnc343 := NB1134_1157.out; have hnb344 := NB1157_1138.out; have hnc344 := NB1138_1157.out; have hnb345 := NB1157_1149.out; have hnc345 := NB1149_1157.out; have hnb346 := NB1157_1153.out; have hnc346 := NB1153_1157.out; obtain ⟨hcz347_0, hcz347_1⟩ := z2 BK1157; obtain ⟨hfz347_0, hfz347_1⟩ := y2 BK1157; have hnb348 := NB1089_1097.out; have hnc348 := NB1097_1089.out; have hnb349 := NB1089_1104.out; have hnc349 := NB1104_1089.out; have hnb350 := NB1089_1112.out; have hnc350 := NB1112_1089.out; have hnb351 := NB1089_1120.out; have hnc351 := NB1120_1089.out; have hnb352 := NB1089_1129.out; have hnc352 := NB1129_1089.out; have hnb353 := NB1089_1130.out; have hnc353 := NB1130_1089.out; have hnb354 := NB1089_1134.out; have hnc354 := NB1134_1089.out; have hnb355 := NB1089_1138.out; have hnc355 := NB1138_1089.out; obtain ⟨hcz356_0, hcz356_1, hcz356_2, hcz356_3, hcz356_4, hcz356_5⟩ := z6 BK1089; obtain ⟨hfz356_0, hfz356_1, hfz356_2, hfz356_3, hfz356_4, hfz356_5⟩ := y6 BK1089; obtain ⟨hcz357_0, hcz357_1⟩ := z2 BK1149; obtain ⟨hfz357_0, hfz357_1⟩ := y2 BK1149) | ((with_reducible refine gate_callee (f := 46) rfl ?_); refine goesL_ (some 150) rfl rfl Try.func46 (by kernel_rfl) rfl #[.agg #[.int .i64 t1082, .int .i64 t1083, .int .i64 t1084, .int .i64 t1085, .int .i64 t1086, .int .i64 t1087], .agg #[.int .i64 2, .int .i64 (-3)]] rfl (by first|rfl|(simp only [List.map_toArray, List.map_cons, List.map_nil]; try rfl)) ?_; (with_reducible refine (impl_ApplyMotion.calls kj129 t1082 t1083 t1084 t1085 t1086 t1087 2 (-3) t1158 t1159 t1160 _ A279.out).mono ?_); rintro e w358 ⟨rfl, hb⟩; refine ⟨_, rfl, ?_⟩; have n0_ := aM (blk_below (g := gb1080) (o := .cells #[.int .i64 t1068, .int .i64 t1069, .int .i64 t1070, .int .i64 t1071, .int .i64 t1072, .int .i64 t1073] 64 (0, 0)) (by (repeat (first|(with_reducible first|apply kN|apply kD|apply kA)|refine blk_far ?_ NB1080_1157.out _)); exact BK1080.out) hb); have n1_ := aM (blk_below (g := gb1081) (o := .cells #[.int .i64 t1074, .int .i64 t1075, .int .i64 t1076, .int .i64 t1077, .int .i64 t1078, .int .i64 t1079] 64 (0, 0)) (by (repeat (first|(with_reducible first|apply kN|apply kD|apply kA)|refine blk_far ?_ NB1081_1157.out _)); exact BK1081.out) hb); have n2_ := aM (blk_below (g := gb1089) (o := .cells #[.int .i64 t1082, .int .i64 t1083, .int .i64 t1084, .int .i64 t1085, .int .i64 t1086, .int .i64 t1087] 64 (0, 0)) (by (repeat (first|(with_reducible first|apply kN|apply kD|apply kA)|refine blk_far ?_ NB1089_1157.out _)); exact BK1089.out) hb); have n3_ := aM (blk_below (g := gb1097) (o := .cells #[.int .i64 t1090, .int .i64 t1091, .int .i64 t1092, .int .i64 t1093, .int .i64 t1094, .int .i64 t1095] 64 (0, 0)) (by (repeat (first|(with_reducible first|apply kN|apply kD|apply kA)|refine blk_far ?_ NB1097_1157.out _)); exact BK1097.out) hb); have n4_ := aM (blk_below (g := gb1104) (o := .cells #[.int .i64 t1098, .int .i64 t1099, .int .i64 t1100, .int .i64 t1101, .int .i64 t1102, .int .i64 t1103] 64 (0, 0)) (by (repeat (first|(with_reducible first|apply kN|apply kD|apply kA)|refine blk_far ?_ NB1104_1157.out _)); exact BK1104.out) hb); have n5_ := aM (blk_below (g := gb1112) (o := .cells #[.int .i64 t1105, .int .i64 t1106, .int .i64 t1107, .int .i64 t1108, .int .i64 t1109, .int .i64 t1110] 64 (0, 0)) (by (repeat (first|(with_reducible first|apply kN|apply kD|apply kA)|refine blk_far ?_ NB1112_1157.out _)); exact BK1112.out) hb); have n6_ := aM (blk_below (g := gb1120) (o := .cells #[.int .i64 t1113, .int .i64 t1114, .int .i64 t1115, .int .i64 t1116, .int .i64 t1117, .int .i64 t1118] 64 (0, 0)) (by (repeat (first|(with_reducible first|apply kN|apply kD|apply kA)|refine blk_far ?_ NB1120_1157.out _)); exact BK1120.out) hb); have n7_ := aM (blk_below (g := gb1129) (o := .cells #[.int .i64 t1121, .int .i64 t1122, .int .i64 t1123, .int .i64 t1124, .int .i64 t1125, .int .i64 t1126] 64 (0, 0)) (by (repeat (first|(with_reducible first|apply kN|apply kD|apply kA)|refine blk_far ?_ NB1129_1157.out _)); exact BK1129.out) hb); have n8_ := aM (blk_below (g := gb1130) (o := .cells #[.int .i64 t1127, .int .i64 t1128] 47 (0, 0)) (by (repeat (first|(with_reducible first|apply kN|apply kD|apply kA)|refine blk_far ?_ NB1130_1157.out _)); exact BK1130.out) hb); have n9_ := aM (blk_below (g := gb1134) (o := .cells #[.int .i64 t1131, .int .i64 t1132] 47 (0, 0)) (by (repeat (first|(with_reducible first|apply kN|apply kD|apply kA)|refine blk_far ?_ NB1134_1157.out _)); exact BK1134.out) hb); have n10_ := aM (blk_below (g := gb1138) (o := .cells #[.int .i64 t1135, .int .i64 t1136] 47 (0, 0)) (by (repeat (first|(with_reducible first|apply kN|apply kD|apply kA)|refine blk_far ?_ NB1138_1157.out _)); exact BK1138.out) hb); have n11_ := aM (blk_below (g := gb1149) (o := .cells #[.int .i64 2, .int .i64 (-3)] 47 (0, 0)) (by (repeat (first|(with_reducible first|apply kN|apply kD|apply kA)|refine blk_far ?_ NB1149_1157.out _)); exact BK1149.out) hb); have n12_ := aM (blk_below (g := gb1153) (o := .cells #[.int .i64 t1150, .int .i64 t1151] 47 (0, 0)) (by (repeat (first|(with_reducible first|apply kN|apply kD|apply kA)|refine blk_far ?_ NB1153_1157.out _)); exact BK1153.out) hb); have n13_ := aM (blk_below (g := gb1157) (o := .cells #[.int .i64 t1154, .int .i64 t1155] 47 (0, 0)) (by (with_reducible repeat (first|apply kN|apply kD|apply kA)); refine blk_put (cs := #[.int .i64 t1154, .int .i64 0]) ?_ 1 _ rfl; (with_reducible repeat (first|apply kN|apply kD|apply kA)); refine blk_put (cs := #[.int .i64 0, .int .i64 0]) ?_ 0 _ rfl; (with_reducible repeat (first|apply kN|apply kD|apply kA)); exact BK1157.out) hb); have n14_ := bS HB hb; clear BK1080; clear BK1081; clear BK1089; clear BK1097; clear BK1104; clear BK1112; clear BK1120; clear BK1129; clear BK1130; clear BK1134; clear BK1138; clear BK1149; clear BK1153; clear BK1157; clear HB; have BK1080 := n0_; have BK1081 := n1_; have BK1089 := n2_; have BK1097 := n3_; have BK1104 := n4_; have BK1112 := n5_; have BK1120 := n6_; have BK1129 := n7_; have BK1130 := n8_; have BK1134 := n9_; have BK1138 := n10_; have BK1149 := n11_; have BK1153 := n12_; have BK1157 := n13_; have HB := n14_; clear n0_ n1_ n2_ n3_ n4_ n5_ n6_ n7_ n8_ n9_ n10_ n11_ n12_ n13_ n14_; (try clear hb)) | ((with_reducible refine gate_dst (N := 27) rfl ?_); refine box_event ?hg (N := 27) ?hd (cs := #[.int .i64 0, .int .i64 0]) (t := 47) ?hr ?_; (case hd => rfl); (case hg => rfl); (case hr => first | (go_simp; done) | (go_simp; rfl)); intro gb1161 hg w359 hbox hb; have n0_ := bB BK1080 hb; have n1_ := bB BK1081 hb; have n2_ := bB BK1089 hb; have n3_ := bB BK1097 hb; have n4_ := bB BK1104 hb; have n5_ := bB BK1112 hb; have n6_ := bB BK1120 hb; have n7_ := bB BK1129 hb; have n8_ := bB BK1130 hb; have n9_ := bB BK1134 hb; have n10_ := bB BK1138 hb; have n11_ := bB BK1149 hb; have n12_ := bB BK1153 hb; have n13_ := bB BK1157 hb; have n14_ := bS HB hb; have n15_ := aM (hbox); have n16_ := bZ hg HB; have n17_ := bZ hg HB; have n18_ := nL hg BK1080; have n19_ := nG hg BK1080; have n20_ := nL hg BK1081; have n21_ := nG hg BK1081; have n22_ := nL hg BK1089; have n23_ := nG hg BK1089; have n24_ := nL hg BK1097; have n25_ := nG hg BK1097; have n26_ := nL hg BK1104; have n27_ := nG hg BK1104; have n28_ := nL hg BK1112; have n29_ := nG hg BK1112; have n30_ := nL hg BK1120; have n31_ := nG hg BK1120; have n32_ := nL hg BK1129; have n33_ := nG hg BK1129; have n34_ := nL hg BK1130; have n35_ := nG hg BK1130; have n36_ := nL hg BK1134; have n37_ := nG hg BK1134; have n38_ := nL hg BK1138; have n39_ := nG hg BK1138; have n40_ := nL hg BK1149; have n41_ := nG hg BK1149; have n42_ := nL hg BK1153; have n43_ := nG hg BK1153; have n44_ := nL hg BK1157; have n45_ := nG hg BK1157; clear BK1080; clear BK1081; clear BK1089; clear BK1097; clear BK1104; clear BK1112; clear BK1120; clear BK1129; clear BK1130; clear BK1134; clear BK1138; clear BK1149; clear BK1153; clear BK1157; clear HB; have BK1080 := n0_; have BK1081 := n1_; have BK1089 := n2_; have BK1097 := n3_; have BK1104 := n4_; have BK1112 := n5_; have BK1120 := n6_; have BK1129 := n7_; have BK1130 := n8_; have BK1134 := n9_; have BK1138 := n10_; have BK1149 := n11_; have BK1153 := n12_; have BK1157 := n13_; have HB := n14_; have BK1161 := n15_; have GW1161 := n16_; have GE1161 := n17_; have NB1080_1161 := n18_; have NB1161_1080 := n19_; have NB1081_1161 := n20_; have NB1161_1081 := n21_; have NB1089_1161 := n22_; have NB1161_1089 := n23_; have NB1097_1161 := n24_; have NB1161_1097 := n25_; have NB1104_1161 := n26_; have NB1161_1104 := n27_; have NB1112_1161 := n28_; have NB1161_1112 := n29_; have NB1120_1161 := n30_; have NB1161_1120 := n31_; have NB1129_1161 := n32_; have NB1161_1129 := n33_; have NB1130_1161 := n34_; have NB1161_1130 := n35_; have NB1134_1161 := n36_; have NB1161_1134 := n37_; have NB1138_1161 := n38_; have NB1161_1138 := n39_; have NB1149_1161 := n40_; have NB1161_1149 := n41_; have NB1153_1161 := n42_; have NB1161_1153 := n43_; have NB1157_1161 := n44_; have NB1161_1157 := n45_; clear n0_ n1_ n2_ n3_ n4_ n5_ n6_ n7_ n8_ n9_ n10_ n11_ n12_ n13_ n14_ n15_ n16_ n17_ n18_ n19_ n20_ n21_ n22_ n23_ n24_ n25_ n26_ n27_ n28_ n29_ n30_ n31_ n32_ n33_ n34_ n35_ n36_ n37_ n38_ n39_ n40_ n41_ n42_ n43_ n44_ n45_; clear hb hbox hg; have hnb360 := NB1161_1080.out; have hnc360 := NB1080_1161.out; have hnb361 := NB1161_1081.out; have hnc361 := NB1081_1161.out; have hnb362 := NB1161_1089.out; have hnc362 := NB1089_1161.out; have hnb363 := NB1161_1097.out; have hnc363 := NB1097_1161.out; have hnb364 := NB1161_1104.out; have hnc364 := NB1104_1161.out; have hnb365 := NB1161_1112.out; have hnc365 := NB1112_1161.out; have hnb366 := NB1161_1120.out; have hnc366 := NB1120_1161.out; have hnb367 := NB1161_1129.out; have hnc367 := NB1129_1161.out; have hnb368 := NB1161_1130.out; have hnc368 := NB1130_1161.out; have hnb369 := NB1161_1134.out; have hnc369 := NB1134_1161.out; have hnb370 := NB1161_1138.out; have hnc370 := NB1138_1161.out; have hnb371 := NB1161_1149.out; have hnc371 := NB1149_1161.out; have hnb372 := NB1161_1153.out; have hnc372 := NB1153_1161.out; have hnb373 := NB1161_1157.out; have hnc373 := NB1157_1161.out; obtain ⟨hcz374_0, hcz374_1⟩ := z2 BK1161; obtain ⟨hfz374_0, hfz374_1⟩ := y2 BK1161; obtain ⟨hcz375_0, hcz375_1⟩ := z2 BK1157; obtain ⟨hfz375_0, hfz375_1⟩ := y2 BK1157))
        all_goals go_ret
        all_goals exact ⟨by first|rfl|(simp [*, errW_none, errW_some] <;> rfl), by repeat (first | (with_reducible first | exact HB.out | apply bA|apply bN|apply b1 | refine below_set ?_ (Aside0.out (by assumption))) | exact HB.out)⟩
       ·rw [if_neg c276] at H
        have c276b0 : (t1088 == 0) = false := beq_eq_false_iff_ne.mpr c276
        have c276b1 : (t1088 != 0) = true := bne_iff_ne.mpr c276
        have hrT_ := Option.some.inj H
        go_wp2
        all_goals go_ret
        all_goals exact ⟨by first|rfl|(simp [*, errW_none, errW_some] <;> rfl), by repeat (first | (with_reducible first | exact HB.out | apply bA|apply bN|apply b1 | refine below_set ?_ (Aside0.out (by assumption))) | exact HB.out)⟩


end Go.Proofs.Ytcjchihnopmplaa.F

/-
The law FnExactConstants, over numbers and lists alone: the printed functions of the program and of the reference answer alike. No condition but that each number is an int64.
-/
import Derived.Test.YtalenihfajfdkaaF1
import Derived.Test.YtalenihfajfdkaaSem
import Derived.Test.YtalenihfajfdkaaMth
namespace Go.Proofs.Ytalenihfajfdkaa.PureFnExactConstants
open Go.RowKit Go.Proofs.Ytalenihfajfdkaa.F Go.Proofs.YtalenihfajfdkaaW.PrintWords Go.Proofs.YtalenihfajfdkaaW.PrintLast Go.Proofs.YtalenihfajfdkaaW.PrintMore Go.Proofs.Ytalenihfajfdkaa.Sem Go.Proofs.Ytalenihfajfdkaa.Mth
set_option linter.unusedVariables false
set_option linter.unusedSimpArgs false

theorem main   : laws_FnExactConstants.f  = some true := by
  rfl
end Go.Proofs.Ytalenihfajfdkaa.PureFnExactConstants

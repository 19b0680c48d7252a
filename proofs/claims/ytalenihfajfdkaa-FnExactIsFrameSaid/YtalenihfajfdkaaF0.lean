import Derived.Test.YtalenihfajfdkaaProg
import Derived.Below
import Derived.Deep.Draws
import Derived.Deep.AppendLies
import Derived.Maps.AppendAt
import Derived.OwnWalk
import Derived.Laws.BytesArg
import Derived.Laws.MakeOwn
import Derived.Laws.OwnMore
import Derived.Deep.OwnRows
import Derived.Tactics
import Derived.Lib.ConvBytes
import Derived.Laws.Slices
import Derived.WalkKit
import Derived.KernelRfl
import Derived.RowKit3
import Derived.Deep.LoopGhost
import Derived.Deep.QuietTactic
import Derived.BigQuiet
import Derived.WideLaws
import Derived.Deep.DeepCutAuto
import Derived.Deep.CutBlock
import Derived.Deep.RegionHeld3
import Derived.Laws.Rows
import Derived.Lib.AppendStr
import Derived.ArgAppend
import Derived.Laws.IdiomCopy
import Derived.OrdersHeld
import Derived.Laws.BitsLemmas
import Derived.RowKit
import Derived.Test.YtalenihfajfdkaaWWords
import Derived.Test.YtalenihfajfdkaaWLast
import Derived.Test.YtalenihfajfdkaaWTab
import Derived.Test.YtalenihfajfdkaaWFour
import Derived.Test.YtalenihfajfdkaaWQPut
import Derived.Test.YtalenihfajfdkaaWApart
import Derived.Test.YtalenihfajfdkaaWArr
import Derived.Test.YtalenihfajfdkaaWZeros
import Derived.Test.YtalenihfajfdkaaWFoot
import Derived.Test.YtalenihfajfdkaaWKept
import Derived.Test.YtalenihfajfdkaaWShare
import Derived.Test.YtalenihfajfdkaaWN
import Derived.Test.YtalenihfajfdkaaWFootNe
import Derived.Test.YtalenihfajfdkaaWAt
import Derived.Test.YtalenihfajfdkaaWEqStruct
import Derived.Test.YtalenihfajfdkaaWRepsOne
import Derived.Test.YtalenihfajfdkaaWInv
import Derived.Test.YtalenihfajfdkaaWInvWords
import Derived.Test.YtalenihfajfdkaaWGuard
import Derived.Test.YtalenihfajfdkaaWNEv
import Derived.Test.YtalenihfajfdkaaWMore
namespace Go.Proofs.Ytalenihfajfdkaa.F
open Go.RowKit Go.Proofs.YtalenihfajfdkaaW.PrintWords Go.Proofs.YtalenihfajfdkaaW.PrintLast Go.Proofs.YtalenihfajfdkaaW.PrintMore
attribute [local go_sem] max2_int min2_int max_two min_two max_three min_three max_four min_four   -- for this text's walks alone
set_option linter.unusedVariables false
set_option linter.unusedSimpArgs false



def errW : Option Int → Value
  | none => .nilIface
  | some c => .iface 0 (.int .i64 c)
theorem errW_none : errW none = .nilIface := rfl
theorem errW_some (c : Int) : errW (some c) = .iface 0 (.int .i64 c) := rfl

-- the values' own types


end Go.Proofs.Ytalenihfajfdkaa.F

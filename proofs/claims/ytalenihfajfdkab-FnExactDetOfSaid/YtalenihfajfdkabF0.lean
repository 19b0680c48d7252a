import Derived.Test.YtalenihfajfdkabProg
import Derived.Below
import Derived.Deep.Draws
import Derived.Deep.AppendLies
import Derived.Maps.AppendAt
import Derived.OwnWalk
import Derived.Laws.BytesArg
import Derived.Laws.MakeOwn
import Derived.Laws.OwnMore
import Derived.Deep.OwnRows
import Derived.Tactics
import Derived.Lib.ConvBytes
import Derived.Laws.Slices
import Derived.WalkKit
import Derived.KernelRfl
import Derived.RowKit3
import Derived.Deep.LoopGhost
import Derived.Deep.QuietTactic
import Derived.BigQuiet
import Derived.WideLaws
import Derived.Deep.DeepCutAuto
import Derived.Deep.CutBlock
import Derived.Deep.RegionHeld3
import Derived.Laws.Rows
import Derived.Lib.AppendStr
import Derived.ArgAppend
import Derived.Laws.IdiomCopy
import Derived.OrdersHeld
import Derived.Laws.BitsLemmas
import Derived.RowKit
import Derived.Test.YtalenihfajfdkabWWords
import Derived.Test.YtalenihfajfdkabWLast
import Derived.Test.YtalenihfajfdkabWTab
import Derived.Test.YtalenihfajfdkabWFour
import Derived.Test.YtalenihfajfdkabWQPut
import Derived.Test.YtalenihfajfdkabWApart
import Derived.Test.YtalenihfajfdkabWArr
import Derived.Test.YtalenihfajfdkabWZeros
import Derived.Test.YtalenihfajfdkabWFoot
import Derived.Test.YtalenihfajfdkabWKept
import Derived.Test.YtalenihfajfdkabWShare
import Derived.Test.YtalenihfajfdkabWN
import Derived.Test.YtalenihfajfdkabWFootNe
import Derived.Test.YtalenihfajfdkabWAt
import Derived.Test.YtalenihfajfdkabWEqStruct
import Derived.Test.YtalenihfajfdkabWRepsOne
import Derived.Test.YtalenihfajfdkabWInv
import Derived.Test.YtalenihfajfdkabWInvWords
import Derived.Test.YtalenihfajfdkabWGuard
import Derived.Test.YtalenihfajfdkabWNEv
import Derived.Test.YtalenihfajfdkabWMore
namespace Go.Proofs.Ytalenihfajfdkab.F
open Go.RowKit Go.Proofs.YtalenihfajfdkabW.PrintWords Go.Proofs.YtalenihfajfdkabW.PrintLast Go.Proofs.YtalenihfajfdkabW.PrintMore
attribute [local go_sem] max2_int min2_int max_two min_two max_three min_three max_four min_four   -- for this text's walks alone
set_option linter.unusedVariables false
set_option linter.unusedSimpArgs false



def errW : Option Int → Value
  | none => .nilIface
  | some c => .iface 0 (.int .i64 c)
theorem errW_none : errW none = .nilIface := rfl
theorem errW_some (c : Int) : errW (some c) = .iface 0 (.int .i64 c) := rfl

-- the values' own types


end Go.Proofs.Ytalenihfajfdkab.F

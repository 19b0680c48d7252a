import Derived.Test.YtcjchihnopmplaaWInv
import Derived.Test.YtcjchihnopmplaaWFootNe
namespace Go.Proofs.YtcjchihnopmplaaW.PrintWords
open Go.RowKit
end Go.Proofs.YtcjchihnopmplaaW.PrintWords
namespace Go.Proofs.YtcjchihnopmplaaW.PrintLast
section
variable {ops : Array Oper} {a : Act} {o og : Oper} {g : Nat} {t : Tmp} {u : Bool}
end
end Go.Proofs.YtcjchihnopmplaaW.PrintLast

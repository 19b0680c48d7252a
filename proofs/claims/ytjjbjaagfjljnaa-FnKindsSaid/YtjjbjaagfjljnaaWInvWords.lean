import Derived.Test.YtjjbjaagfjljnaaWInv
import Derived.Test.YtjjbjaagfjljnaaWFootNe
namespace Go.Proofs.YtjjbjaagfjljnaaW.PrintWords
open Go.RowKit
end Go.Proofs.YtjjbjaagfjljnaaW.PrintWords
namespace Go.Proofs.YtjjbjaagfjljnaaW.PrintLast
section
variable {ops : Array Oper} {a : Act} {o og : Oper} {g : Nat} {t : Tmp} {u : Bool}
end
end Go.Proofs.YtjjbjaagfjljnaaW.PrintLast

import Derived.Test.YtpkjgcafbkfbgacWInv
import Derived.Test.YtpkjgcafbkfbgacWFootNe
namespace Go.Proofs.YtpkjgcafbkfbgacW.PrintWords
open Go.RowKit
end Go.Proofs.YtpkjgcafbkfbgacW.PrintWords
namespace Go.Proofs.YtpkjgcafbkfbgacW.PrintLast
section
variable {ops : Array Oper} {a : Act} {o og : Oper} {g : Nat} {t : Tmp} {u : Bool}
end
end Go.Proofs.YtpkjgcafbkfbgacW.PrintLast

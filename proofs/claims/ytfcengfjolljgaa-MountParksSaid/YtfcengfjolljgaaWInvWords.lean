import Derived.Test.YtfcengfjolljgaaWInv
import Derived.Test.YtfcengfjolljgaaWFootNe
namespace Go.Proofs.YtfcengfjolljgaaW.PrintWords
open Go.RowKit
end Go.Proofs.YtfcengfjolljgaaW.PrintWords
namespace Go.Proofs.YtfcengfjolljgaaW.PrintLast
section
variable {ops : Array Oper} {a : Act} {o og : Oper} {g : Nat} {t : Tmp} {u : Bool}
end
end Go.Proofs.YtfcengfjolljgaaW.PrintLast

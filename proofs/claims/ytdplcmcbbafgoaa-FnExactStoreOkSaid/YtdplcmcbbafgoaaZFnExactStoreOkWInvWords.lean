/- Words that the walks use (lines of the print; no condition). -/
import Derived.Test.YtdplcmcbbafgoaaZFnExactStoreOkWInv
import Derived.Test.YtdplcmcbbafgoaaZFnExactStoreOkWFootNe
namespace Go.Proofs.YtdplcmcbbafgoaaW.PrintWords
open Go.RowKit
end Go.Proofs.YtdplcmcbbafgoaaW.PrintWords
namespace Go.Proofs.YtdplcmcbbafgoaaW.PrintLast
section
variable {ops : Array Oper} {a : Act} {o og : Oper} {g : Nat} {t : Tmp} {u : Bool}
end
end Go.Proofs.YtdplcmcbbafgoaaW.PrintLast


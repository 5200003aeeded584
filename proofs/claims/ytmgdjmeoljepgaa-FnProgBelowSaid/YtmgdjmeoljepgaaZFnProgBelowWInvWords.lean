/- Words that the walks use (lines of the print; no condition). -/
import Derived.Test.YtmgdjmeoljepgaaZFnProgBelowWInv
import Derived.Test.YtmgdjmeoljepgaaZFnProgBelowWFootNe
namespace Go.Proofs.YtmgdjmeoljepgaaW.PrintWords
open Go.RowKit
end Go.Proofs.YtmgdjmeoljepgaaW.PrintWords
namespace Go.Proofs.YtmgdjmeoljepgaaW.PrintLast
section
variable {ops : Array Oper} {a : Act} {o og : Oper} {g : Nat} {t : Tmp} {u : Bool}
end
end Go.Proofs.YtmgdjmeoljepgaaW.PrintLast


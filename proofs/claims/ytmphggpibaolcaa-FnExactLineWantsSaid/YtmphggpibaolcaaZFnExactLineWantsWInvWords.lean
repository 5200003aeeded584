/- Words that the walks use (lines of the print; no condition). -/
import Derived.Test.YtmphggpibaolcaaZFnExactLineWantsWInv
import Derived.Test.YtmphggpibaolcaaZFnExactLineWantsWFootNe
namespace Go.Proofs.YtmphggpibaolcaaW.PrintWords
open Go.RowKit
end Go.Proofs.YtmphggpibaolcaaW.PrintWords
namespace Go.Proofs.YtmphggpibaolcaaW.PrintLast
section
variable {ops : Array Oper} {a : Act} {o og : Oper} {g : Nat} {t : Tmp} {u : Bool}
end
end Go.Proofs.YtmphggpibaolcaaW.PrintLast


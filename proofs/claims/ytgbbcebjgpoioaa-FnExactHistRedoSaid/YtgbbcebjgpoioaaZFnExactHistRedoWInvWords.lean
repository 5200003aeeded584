/- Words that the walks use (lines of the print; no condition). -/
import Derived.Test.YtgbbcebjgpoioaaZFnExactHistRedoWInv
import Derived.Test.YtgbbcebjgpoioaaZFnExactHistRedoWFootNe
namespace Go.Proofs.YtgbbcebjgpoioaaW.PrintWords
open Go.RowKit
end Go.Proofs.YtgbbcebjgpoioaaW.PrintWords
namespace Go.Proofs.YtgbbcebjgpoioaaW.PrintLast
section
variable {ops : Array Oper} {a : Act} {o og : Oper} {g : Nat} {t : Tmp} {u : Bool}
end
end Go.Proofs.YtgbbcebjgpoioaaW.PrintLast


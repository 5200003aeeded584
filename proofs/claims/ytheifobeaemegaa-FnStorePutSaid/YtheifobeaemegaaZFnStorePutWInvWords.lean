/- Words that the walks use (lines of the print; no condition). -/
import Derived.Test.YtheifobeaemegaaZFnStorePutWInv
import Derived.Test.YtheifobeaemegaaZFnStorePutWFootNe
namespace Go.Proofs.YtheifobeaemegaaW.PrintWords
open Go.RowKit
end Go.Proofs.YtheifobeaemegaaW.PrintWords
namespace Go.Proofs.YtheifobeaemegaaW.PrintLast
section
variable {ops : Array Oper} {a : Act} {o og : Oper} {g : Nat} {t : Tmp} {u : Bool}
end
end Go.Proofs.YtheifobeaemegaaW.PrintLast


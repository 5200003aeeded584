/- Words that the walks use (lines of the print; no condition). -/
import Derived.Test.YthbodcpgdllegaaDoorZFnValDoWInv
import Derived.Test.YthbodcpgdllegaaDoorZFnValDoWFootNe
namespace Go.Proofs.YthbodcpgdllegaaDoorW.PrintWords
open Go.RowKit
end Go.Proofs.YthbodcpgdllegaaDoorW.PrintWords
namespace Go.Proofs.YthbodcpgdllegaaDoorW.PrintLast
section
variable {ops : Array Oper} {a : Act} {o og : Oper} {g : Nat} {t : Tmp} {u : Bool}
end
end Go.Proofs.YthbodcpgdllegaaDoorW.PrintLast


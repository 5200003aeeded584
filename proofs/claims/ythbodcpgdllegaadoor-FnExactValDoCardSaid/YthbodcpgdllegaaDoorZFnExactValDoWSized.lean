/- Words that the walks use (lines of the print; no condition). -/
import Derived.SizedLaws
import Derived.ChangeSlices
namespace Go.Proofs.YthbodcpgdllegaaDoorW.PrintWords
open Go.ChangeShapes Go.WideShapes
end Go.Proofs.YthbodcpgdllegaaDoorW.PrintWords


/- Words that the walks use (lines of the print; no condition). -/
import Derived.SizedLaws
import Derived.ChangeSlices
namespace Go.Proofs.YtgbbcebjgpoioaaW.PrintWords
open Go.ChangeShapes Go.WideShapes
end Go.Proofs.YtgbbcebjgpoioaaW.PrintWords


/- Words that the walks use (lines of the print; no condition). -/
import Derived.SizedLaws
import Derived.ChangeSlices
namespace Go.Proofs.YtmphggpibaolcaaW.PrintWords
open Go.ChangeShapes Go.WideShapes
end Go.Proofs.YtmphggpibaolcaaW.PrintWords


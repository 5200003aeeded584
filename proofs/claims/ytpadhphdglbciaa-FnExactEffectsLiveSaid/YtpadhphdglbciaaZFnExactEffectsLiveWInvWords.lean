/- Words that the walks use (lines of the print; no condition). -/
import Derived.Test.YtpadhphdglbciaaZFnExactEffectsLiveWInv
import Derived.Test.YtpadhphdglbciaaZFnExactEffectsLiveWFootNe
namespace Go.Proofs.YtpadhphdglbciaaW.PrintWords
open Go.RowKit
end Go.Proofs.YtpadhphdglbciaaW.PrintWords
namespace Go.Proofs.YtpadhphdglbciaaW.PrintLast
section
variable {ops : Array Oper} {a : Act} {o og : Oper} {g : Nat} {t : Tmp} {u : Bool}
end
end Go.Proofs.YtpadhphdglbciaaW.PrintLast


/- Words that the walks use (lines of the print; no condition). -/
import Derived.Test.YtmgdjmeoljepgaaZFnProgBelowWTab
namespace Go.Proofs.YtmgdjmeoljepgaaW.PrintLast
section
variable {P : Program} {ops : Array Oper} {Q : Exit → Act → World → Prop} {md : Region.Mode} {S : World → Prop} {ds : List Nat} {T : Bool × List (List Nat × List Nat)}
end
end Go.Proofs.YtmgdjmeoljepgaaW.PrintLast


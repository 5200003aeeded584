/- Words that the walks use (lines of the print; no condition). -/
import Derived.Test.YtpadhphdglbciaaZFnExactEffectsLiveWWords
namespace Go.Proofs.YtpadhphdglbciaaW.PrintWords
open Go.RowKit
section
variable {P : Program} {ops : Array Oper} {rest : List Oper} {o : Oper} {a : Act} {Q : Exit → Act → World → Prop} {W : World}
end
end Go.Proofs.YtpadhphdglbciaaW.PrintWords


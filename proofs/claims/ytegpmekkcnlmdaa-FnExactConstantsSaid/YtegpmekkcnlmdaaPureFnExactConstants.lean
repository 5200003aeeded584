/- The pure statement of the law 'FnExactConstants': it returns true (it has no argument and no condition). -/
import Derived.Test.YtegpmekkcnlmdaaPFnExactConstantsx1
namespace Go.Proofs.Ytegpmekkcnlmdaa.Pure
open Go Go.RowKit Go.Proofs.Ytegpmekkcnlmdaa.PFnExactConstants Go.Proofs.YtegpmekkcnlmdaaW.PrintWords Go.Proofs.YtegpmekkcnlmdaaW.PrintLast
set_option linter.unusedVariables false
set_option linter.unusedSimpArgs false

theorem FnExactConstants : laws_FnExactConstants.Pure := rfl

end Go.Proofs.Ytegpmekkcnlmdaa.Pure

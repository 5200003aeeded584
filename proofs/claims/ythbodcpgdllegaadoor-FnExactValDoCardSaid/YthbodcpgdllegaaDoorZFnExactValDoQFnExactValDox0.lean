/- Walks of the functions that the law 'FnExactValDo' reaches, part 0: for each a Lean function and the proof that Go's comes to just its answer (lines of the print, under own names; no condition). -/
import Derived.Test.YthbodcpgdllegaaDoorProg
import Derived.Below
import Derived.Deep.Draws
import Derived.Deep.AppendLies
import Derived.Maps.AppendAt
import Derived.OwnWalk
import Derived.Laws.BytesArg
import Derived.Laws.MakeOwn
import Derived.Laws.OwnMore
import Derived.Deep.OwnRows
import Derived.Tactics
import Derived.Lib.ConvBytes
import Derived.Laws.Slices
import Derived.WalkKit
import Derived.KernelRfl
import Derived.RowKit3
import Derived.Deep.LoopGhost
import Derived.Deep.QuietTactic
import Derived.BigQuiet
import Derived.WideLaws
import Derived.Deep.DeepCutAuto
import Derived.Deep.CutBlock
import Derived.Deep.RegionHeld3
import Derived.Laws.Rows
import Derived.Lib.AppendStr
import Derived.ArgAppend
import Derived.Laws.IdiomCopy
import Derived.OrdersHeld
import Derived.Laws.BitsLemmas
import Derived.RowKit
import Derived.Test.YthbodcpgdllegaaDoorZFnExactValDoItoa
import Derived.Test.YthbodcpgdllegaaDoorZFnExactValDoWWords
import Derived.Test.YthbodcpgdllegaaDoorZFnExactValDoWLast
import Derived.Test.YthbodcpgdllegaaDoorZFnExactValDoWTab
import Derived.Test.YthbodcpgdllegaaDoorZFnExactValDoWFour
import Derived.Test.YthbodcpgdllegaaDoorZFnExactValDoWQPut
import Derived.Test.YthbodcpgdllegaaDoorZFnExactValDoWApart
import Derived.Test.YthbodcpgdllegaaDoorZFnExactValDoWArr
import Derived.Test.YthbodcpgdllegaaDoorZFnExactValDoWZeros
import Derived.Test.YthbodcpgdllegaaDoorZFnExactValDoWFoot
import Derived.Test.YthbodcpgdllegaaDoorZFnExactValDoWKept
import Derived.Test.YthbodcpgdllegaaDoorZFnExactValDoWShare
import Derived.Test.YthbodcpgdllegaaDoorZFnExactValDoWN
import Derived.Test.YthbodcpgdllegaaDoorZFnExactValDoWFootNe
import Derived.Test.YthbodcpgdllegaaDoorZFnExactValDoWAt
import Derived.Test.YthbodcpgdllegaaDoorZFnExactValDoWEqStruct
import Derived.Test.YthbodcpgdllegaaDoorZFnExactValDoWRepsOne
import Derived.Test.YthbodcpgdllegaaDoorZFnExactValDoWInv
import Derived.Test.YthbodcpgdllegaaDoorZFnExactValDoWInvWords
import Derived.Test.YthbodcpgdllegaaDoorZFnExactValDoWGuard
import Derived.Test.YthbodcpgdllegaaDoorZFnExactValDoWNEv
import Derived.Test.YthbodcpgdllegaaDoorZFnExactValDoWMore
namespace Go.Proofs.YthbodcpgdllegaaDoor.PFnExactValDo
open Go.RowKit Go.Proofs.YthbodcpgdllegaaDoorW.PrintWords Go.Proofs.YthbodcpgdllegaaDoorW.PrintLast Go.Proofs.YthbodcpgdllegaaDoorW.PrintMore
attribute [local go_sem] max2_int min2_int max_two min_two max_three min_three max_four min_four
set_option linter.unusedVariables false
set_option linter.unusedSimpArgs false
def errW : Option Int → Value
 | none => .nilIface
 | some c => .iface 0 (.int .i64 c)
theorem errW_none : errW none = .nilIface := rfl
theorem errW_some (c : Int) : errW (some c) = .iface 0 (.int .i64 c) := rfl
end Go.Proofs.YthbodcpgdllegaaDoor.PFnExactValDo

/- Walks of the functions that the law 'FnValDo' reaches, part 0: for each a Lean function and the proof that Go's comes to just its answer (lines of the print, under own names; no condition). -/
import Derived.Test.YthbodcpgdllegaaDoorProg
import Derived.Below
import Derived.Deep.Draws
import Derived.Deep.AppendLies
import Derived.Maps.AppendAt
import Derived.OwnWalk
import Derived.Laws.BytesArg
import Derived.Laws.MakeOwn
import Derived.Laws.OwnMore
import Derived.Deep.OwnRows
import Derived.Tactics
import Derived.Lib.ConvBytes
import Derived.Laws.Slices
import Derived.WalkKit
import Derived.KernelRfl
import Derived.RowKit3
import Derived.Deep.LoopGhost
import Derived.Deep.QuietTactic
import Derived.BigQuiet
import Derived.WideLaws
import Derived.Deep.DeepCutAuto
import Derived.Deep.CutBlock
import Derived.Deep.RegionHeld3
import Derived.Laws.Rows
import Derived.Lib.AppendStr
import Derived.ArgAppend
import Derived.Laws.IdiomCopy
import Derived.OrdersHeld
import Derived.Laws.BitsLemmas
import Derived.RowKit
import Derived.Test.YthbodcpgdllegaaDoorZFnValDoItoa
import Derived.Test.YthbodcpgdllegaaDoorZFnValDoWWords
import Derived.Test.YthbodcpgdllegaaDoorZFnValDoWLast
import Derived.Test.YthbodcpgdllegaaDoorZFnValDoWTab
import Derived.Test.YthbodcpgdllegaaDoorZFnValDoWFour
import Derived.Test.YthbodcpgdllegaaDoorZFnValDoWQPut
import Derived.Test.YthbodcpgdllegaaDoorZFnValDoWApart
import Derived.Test.YthbodcpgdllegaaDoorZFnValDoWArr
import Derived.Test.YthbodcpgdllegaaDoorZFnValDoWZeros
import Derived.Test.YthbodcpgdllegaaDoorZFnValDoWFoot
import Derived.Test.YthbodcpgdllegaaDoorZFnValDoWKept
import Derived.Test.YthbodcpgdllegaaDoorZFnValDoWShare
import Derived.Test.YthbodcpgdllegaaDoorZFnValDoWN
import Derived.Test.YthbodcpgdllegaaDoorZFnValDoWFootNe
import Derived.Test.YthbodcpgdllegaaDoorZFnValDoWAt
import Derived.Test.YthbodcpgdllegaaDoorZFnValDoWEqStruct
import Derived.Test.YthbodcpgdllegaaDoorZFnValDoWRepsOne
import Derived.Test.YthbodcpgdllegaaDoorZFnValDoWInv
import Derived.Test.YthbodcpgdllegaaDoorZFnValDoWInvWords
import Derived.Test.YthbodcpgdllegaaDoorZFnValDoWGuard
import Derived.Test.YthbodcpgdllegaaDoorZFnValDoWNEv
import Derived.Test.YthbodcpgdllegaaDoorZFnValDoWMore
namespace Go.Proofs.YthbodcpgdllegaaDoor.PFnValDo
open Go.RowKit Go.Proofs.YthbodcpgdllegaaDoorW.PrintWords Go.Proofs.YthbodcpgdllegaaDoorW.PrintLast Go.Proofs.YthbodcpgdllegaaDoorW.PrintMore
attribute [local go_sem] max2_int min2_int max_two min_two max_three min_three max_four min_four
set_option linter.unusedVariables false
set_option linter.unusedSimpArgs false
def errW : Option Int → Value
 | none => .nilIface
 | some c => .iface 0 (.int .i64 c)
theorem errW_none : errW none = .nilIface := rfl
theorem errW_some (c : Int) : errW (some c) = .iface 0 (.int .i64 c) := rfl
theorem info3 : (Tryd.prog.info? 3).map (fun i => (i.zero, i.size, i.bytes)) = some (some (.int .i64 0), 1, 8) := by kernel_rfl
theorem info9 : (Tryd.prog.info? 9).map (fun i => (i.zero, i.size, i.bytes)) = some (some (.string ⟨#[]⟩), 1, 16) := by kernel_rfl
end Go.Proofs.YthbodcpgdllegaaDoor.PFnValDo

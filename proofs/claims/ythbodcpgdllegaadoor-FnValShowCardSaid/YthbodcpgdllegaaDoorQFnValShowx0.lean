/- Walks of the functions that the law 'FnValShow' reaches, part 0: for each a Lean function and the proof that Go's comes to just its answer (lines of the print, under own names; no condition). -/
import Derived.Test.YthbodcpgdllegaaDoorProg
import Derived.Below
import Derived.Deep.Draws
import Derived.Deep.AppendLies
import Derived.Maps.AppendAt
import Derived.OwnWalk
import Derived.Laws.BytesArg
import Derived.Laws.MakeOwn
import Derived.Laws.OwnMore
import Derived.Deep.OwnRows
import Derived.Tactics
import Derived.Lib.ConvBytes
import Derived.Laws.Slices
import Derived.WalkKit
import Derived.KernelRfl
import Derived.RowKit3
import Derived.Deep.LoopGhost
import Derived.Deep.QuietTactic
import Derived.BigQuiet
import Derived.WideLaws
import Derived.Deep.DeepCutAuto
import Derived.Deep.CutBlock
import Derived.Deep.RegionHeld3
import Derived.Laws.Rows
import Derived.Lib.AppendStr
import Derived.ArgAppend
import Derived.Laws.IdiomCopy
import Derived.OrdersHeld
import Derived.Laws.BitsLemmas
import Derived.RowKit
import Derived.Test.YthbodcpgdllegaaDoorItoa
import Derived.Test.YthbodcpgdllegaaDoorWWords
import Derived.Test.YthbodcpgdllegaaDoorWLast
import Derived.Test.YthbodcpgdllegaaDoorWTab
import Derived.Test.YthbodcpgdllegaaDoorWFour
import Derived.Test.YthbodcpgdllegaaDoorWQPut
import Derived.Test.YthbodcpgdllegaaDoorWApart
import Derived.Test.YthbodcpgdllegaaDoorWArr
import Derived.Test.YthbodcpgdllegaaDoorWZeros
import Derived.Test.YthbodcpgdllegaaDoorWFoot
import Derived.Test.YthbodcpgdllegaaDoorWKept
import Derived.Test.YthbodcpgdllegaaDoorWShare
import Derived.Test.YthbodcpgdllegaaDoorWN
import Derived.Test.YthbodcpgdllegaaDoorWFootNe
import Derived.Test.YthbodcpgdllegaaDoorWAt
import Derived.Test.YthbodcpgdllegaaDoorWEqStruct
import Derived.Test.YthbodcpgdllegaaDoorWRepsOne
import Derived.Test.YthbodcpgdllegaaDoorWInv
import Derived.Test.YthbodcpgdllegaaDoorWInvWords
import Derived.Test.YthbodcpgdllegaaDoorWGuard
import Derived.Test.YthbodcpgdllegaaDoorWNEv
import Derived.Test.YthbodcpgdllegaaDoorWMore
namespace Go.Proofs.YthbodcpgdllegaaDoor.PFnValShow
open Go.RowKit Go.Proofs.YthbodcpgdllegaaDoorW.PrintWords Go.Proofs.YthbodcpgdllegaaDoorW.PrintLast Go.Proofs.YthbodcpgdllegaaDoorW.PrintMore
attribute [local go_sem] max2_int min2_int max_two min_two max_three min_three max_four min_four   -- for this text's walks alone
set_option linter.unusedVariables false
set_option linter.unusedSimpArgs false



def errW : Option Int → Value
  | none => .nilIface
  | some c => .iface 0 (.int .i64 c)
theorem errW_none : errW none = .nilIface := rfl
theorem errW_some (c : Int) : errW (some c) = .iface 0 (.int .i64 c) := rfl

theorem info3 : (Tryd.prog.info? 3).map (fun i => (i.zero, i.size, i.bytes)) = some (some (.int .i64 0), 1, 8) := by kernel_rfl
theorem info9 : (Tryd.prog.info? 9).map (fun i => (i.zero, i.size, i.bytes)) = some (some (.string ⟨#[]⟩), 1, 16) := by kernel_rfl
-- the values' own types

end Go.Proofs.YthbodcpgdllegaaDoor.PFnValShow

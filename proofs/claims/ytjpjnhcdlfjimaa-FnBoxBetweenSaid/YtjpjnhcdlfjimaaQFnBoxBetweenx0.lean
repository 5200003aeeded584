/- Walks of the functions that the law 'FnBoxBetween' reaches, part 0: for each a Lean function and the proof that Go's comes to just its answer (lines of the print, under own names; no condition). -/
import Derived.Test.YtjpjnhcdlfjimaaProg
import Derived.Below
import Derived.Deep.Draws
import Derived.Deep.AppendLies
import Derived.Maps.AppendAt
import Derived.OwnWalk
import Derived.Laws.BytesArg
import Derived.Laws.MakeOwn
import Derived.Laws.OwnMore
import Derived.Deep.OwnRows
import Derived.Tactics
import Derived.Lib.ConvBytes
import Derived.Laws.Slices
import Derived.WalkKit
import Derived.KernelRfl
import Derived.RowKit3
import Derived.Deep.LoopGhost
import Derived.Deep.QuietTactic
import Derived.BigQuiet
import Derived.WideLaws
import Derived.Deep.DeepCutAuto
import Derived.Deep.CutBlock
import Derived.Deep.RegionHeld3
import Derived.Laws.Rows
import Derived.Lib.AppendStr
import Derived.ArgAppend
import Derived.Laws.IdiomCopy
import Derived.OrdersHeld
import Derived.Laws.BitsLemmas
import Derived.RowKit
import Derived.Test.YtjpjnhcdlfjimaaWWords
import Derived.Test.YtjpjnhcdlfjimaaWLast
import Derived.Test.YtjpjnhcdlfjimaaWTab
import Derived.Test.YtjpjnhcdlfjimaaWFour
import Derived.Test.YtjpjnhcdlfjimaaWQPut
import Derived.Test.YtjpjnhcdlfjimaaWApart
import Derived.Test.YtjpjnhcdlfjimaaWArr
import Derived.Test.YtjpjnhcdlfjimaaWZeros
import Derived.Test.YtjpjnhcdlfjimaaWFoot
import Derived.Test.YtjpjnhcdlfjimaaWKept
import Derived.Test.YtjpjnhcdlfjimaaWShare
import Derived.Test.YtjpjnhcdlfjimaaWN
import Derived.Test.YtjpjnhcdlfjimaaWFootNe
import Derived.Test.YtjpjnhcdlfjimaaWAt
import Derived.Test.YtjpjnhcdlfjimaaWEqStruct
import Derived.Test.YtjpjnhcdlfjimaaWRepsOne
import Derived.Test.YtjpjnhcdlfjimaaWInv
import Derived.Test.YtjpjnhcdlfjimaaWInvWords
import Derived.Test.YtjpjnhcdlfjimaaWGuard
import Derived.Test.YtjpjnhcdlfjimaaWNEv
import Derived.Test.YtjpjnhcdlfjimaaWMore
namespace Go.Proofs.Ytjpjnhcdlfjimaa.PFnBoxBetween
open Go.RowKit Go.Proofs.YtjpjnhcdlfjimaaW.PrintWords Go.Proofs.YtjpjnhcdlfjimaaW.PrintLast Go.Proofs.YtjpjnhcdlfjimaaW.PrintMore
attribute [local go_sem] max2_int min2_int max_two min_two max_three min_three max_four min_four   -- for this text's walks alone
set_option linter.unusedVariables false
set_option linter.unusedSimpArgs false



def errW : Option Int → Value
  | none => .nilIface
  | some c => .iface 0 (.int .i64 c)
theorem errW_none : errW none = .nilIface := rfl
theorem errW_some (c : Int) : errW (some c) = .iface 0 (.int .i64 c) := rfl

theorem info3 : (Try.prog.info? 3).map (fun i => (i.zero, i.size, i.bytes)) = some (some (.int .i64 0), 1, 8) := by kernel_rfl
-- the values' own types

end Go.Proofs.Ytjpjnhcdlfjimaa.PFnBoxBetween

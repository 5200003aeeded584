/-
  No cell of these rows narrows 'for every input' (looked for: loops, veiled, ifaces, maps, wideKeys, modest, calm, conditions, laid).
  DERIVED. THE GIVEN ROWS OF THIS SEAT. 6 by the template 'for every input the law returns true; each argument reads behind the call as it read before'; 0 by the template 'total and deterministic' (their statements: YtegpmekkcnlmdaaTotals.lean).
  GIVEN WITH THE SEED: the statements are not yours to turn. If you find one false, say at which input.
  Laid BY PROGRAM, IN A SANDBOX (cutbox-rows.mjs): the forced cells as the released guide's own fill.sh prints them over the translation f878449bf71474a2… (all of the seat's roots in one cut). By AI agents, Wed Nov 11 2026. No macro, syntax, notation, axiom, sorry.
-/
import Derived.Test.YtegpmekkcnlmdaaChecked
import GoSem.Claim
import GoSem.ClaimJoined
import GoSem.ClaimMapViews
import Derived.JoinedTies
import Derived.KernelRfl
namespace Go.Proofs.Ytegpmekkcnlmdaa
/- THE CELL 'sum', in the pinned program and in every row, IS THE sha256 OF THE DUMP (.gsa) THAT YtegpmekkcnlmdaaProg.lean LOADS. Nothing in Lean hashes anything: it is a label: what it is worth is what the hold of that sum in a sandbox is worth. -/
noncomputable def Try.pinned : Pinned := { name := "ytegpmekkcnlmdaa", sum := "f878449bf71474a20500bd001bf8b146f4c4fb2baeed08eddf3c3f0ff4cbae6f", checked := Try.checked }
namespace Rows
def none {H : Type} : Left H := { results := [], args := [] }

/-- 'laws.FnExactConstants': WHATEVER THE INPUT: true; the input reads as it did. -/
def fnExactConstantsSpec : ChangeSpec := { name := "fnExactConstants", fn := fun _ => fun
  | [] => { results := [.lit (.bool true)], args := [] }
  | _ => none }
def fnExactConstantsRow : OpenClaim := { program := "ytegpmekkcnlmdaa", sum := "f878449bf71474a20500bd001bf8b146f4c4fb2baeed08eddf3c3f0ff4cbae6f", func := "loop.example/drawnanew/laws.FnExactConstants", spec := "fnExactConstants", apart := false }
def FnExactConstantsSaid : Prop := fnExactConstantsRow.holds Try.pinned (OpenSpec.ofChange fnExactConstantsSpec)

/-- ITS FALSE NEIGHBOUR: 'it returns false'. Refute it at one input. -/
def fnExactConstantsWrong : ChangeSpec := { name := "fnExactConstants", fn := fun _ => fun
  | [] => { results := [.lit (.bool false)], args := [] }
  | _ => none }
def FnExactConstantsWrongFalsely : Prop := fnExactConstantsRow.holds Try.pinned (OpenSpec.ofChange fnExactConstantsWrong)

/-- 'laws.FnExactScrollTop': WHATEVER THE INPUT: true; the input reads as it did. -/
def fnExactScrollTopSpec : ChangeSpec := { name := "fnExactScrollTop", fn := fun _ => fun
  | [d1, d2, d3] => { results := [.lit (.bool true)], args := [d1, d2, d3] }
  | _ => none }
def fnExactScrollTopRow : OpenClaim := { program := "ytegpmekkcnlmdaa", sum := "f878449bf71474a20500bd001bf8b146f4c4fb2baeed08eddf3c3f0ff4cbae6f", func := "loop.example/drawnanew/laws.FnExactScrollTop", spec := "fnExactScrollTop", apart := false }
def FnExactScrollTopSaid : Prop := fnExactScrollTopRow.holds Try.pinned (OpenSpec.ofChange fnExactScrollTopSpec)

/-- ITS FALSE NEIGHBOUR: 'it returns false'. Refute it at one input. -/
def fnExactScrollTopWrong : ChangeSpec := { name := "fnExactScrollTop", fn := fun _ => fun
  | [d1, d2, d3] => { results := [.lit (.bool false)], args := [d1, d2, d3] }
  | _ => none }
def FnExactScrollTopWrongFalsely : Prop := fnExactScrollTopRow.holds Try.pinned (OpenSpec.ofChange fnExactScrollTopWrong)

/-- 'laws.FnExactScrollTo': WHATEVER THE INPUT: true; the input reads as it did. -/
def fnExactScrollToSpec : ChangeSpec := { name := "fnExactScrollTo", fn := fun _ => fun
  | [d1, d2, d3, d4] => { results := [.lit (.bool true)], args := [d1, d2, d3, d4] }
  | _ => none }
def fnExactScrollToRow : OpenClaim := { program := "ytegpmekkcnlmdaa", sum := "f878449bf71474a20500bd001bf8b146f4c4fb2baeed08eddf3c3f0ff4cbae6f", func := "loop.example/drawnanew/laws.FnExactScrollTo", spec := "fnExactScrollTo", apart := false }
def FnExactScrollToSaid : Prop := fnExactScrollToRow.holds Try.pinned (OpenSpec.ofChange fnExactScrollToSpec)

/-- ITS FALSE NEIGHBOUR: 'it returns false'. Refute it at one input. -/
def fnExactScrollToWrong : ChangeSpec := { name := "fnExactScrollTo", fn := fun _ => fun
  | [d1, d2, d3, d4] => { results := [.lit (.bool false)], args := [d1, d2, d3, d4] }
  | _ => none }
def FnExactScrollToWrongFalsely : Prop := fnExactScrollToRow.holds Try.pinned (OpenSpec.ofChange fnExactScrollToWrong)

/-- 'laws.FnScrollTop': WHATEVER THE INPUT: true; the input reads as it did. -/
def fnScrollTopSpec : ChangeSpec := { name := "fnScrollTop", fn := fun _ => fun
  | [d] => { results := [.lit (.bool true)], args := [d] }
  | _ => none }
def fnScrollTopRow : OpenClaim := { program := "ytegpmekkcnlmdaa", sum := "f878449bf71474a20500bd001bf8b146f4c4fb2baeed08eddf3c3f0ff4cbae6f", func := "loop.example/drawnanew/laws.FnScrollTop", spec := "fnScrollTop", apart := false }
def FnScrollTopSaid : Prop := fnScrollTopRow.holds Try.pinned (OpenSpec.ofChange fnScrollTopSpec)

/-- ITS FALSE NEIGHBOUR: 'it returns false'. Refute it at one input. -/
def fnScrollTopWrong : ChangeSpec := { name := "fnScrollTop", fn := fun _ => fun
  | [d] => { results := [.lit (.bool false)], args := [d] }
  | _ => none }
def FnScrollTopWrongFalsely : Prop := fnScrollTopRow.holds Try.pinned (OpenSpec.ofChange fnScrollTopWrong)

/-- 'laws.FnScrollTo': WHATEVER THE INPUT: true; the input reads as it did. -/
def fnScrollToSpec : ChangeSpec := { name := "fnScrollTo", fn := fun _ => fun
  | [d] => { results := [.lit (.bool true)], args := [d] }
  | _ => none }
def fnScrollToRow : OpenClaim := { program := "ytegpmekkcnlmdaa", sum := "f878449bf71474a20500bd001bf8b146f4c4fb2baeed08eddf3c3f0ff4cbae6f", func := "loop.example/drawnanew/laws.FnScrollTo", spec := "fnScrollTo", apart := false }
def FnScrollToSaid : Prop := fnScrollToRow.holds Try.pinned (OpenSpec.ofChange fnScrollToSpec)

/-- ITS FALSE NEIGHBOUR: 'it returns false'. Refute it at one input. -/
def fnScrollToWrong : ChangeSpec := { name := "fnScrollTo", fn := fun _ => fun
  | [d] => { results := [.lit (.bool false)], args := [d] }
  | _ => none }
def FnScrollToWrongFalsely : Prop := fnScrollToRow.holds Try.pinned (OpenSpec.ofChange fnScrollToWrong)

/-- 'laws.FnBoxMeet': WHATEVER THE INPUT: true; the input reads as it did. -/
def fnBoxMeetSpec : ChangeSpec := { name := "fnBoxMeet", fn := fun _ => fun
  | [d] => { results := [.lit (.bool true)], args := [d] }
  | _ => none }
def fnBoxMeetRow : OpenClaim := { program := "ytegpmekkcnlmdaa", sum := "f878449bf71474a20500bd001bf8b146f4c4fb2baeed08eddf3c3f0ff4cbae6f", func := "loop.example/drawnanew/laws.FnBoxMeet", spec := "fnBoxMeet", apart := false }
def FnBoxMeetSaid : Prop := fnBoxMeetRow.holds Try.pinned (OpenSpec.ofChange fnBoxMeetSpec)

/-- ITS FALSE NEIGHBOUR: 'it returns false'. Refute it at one input. -/
def fnBoxMeetWrong : ChangeSpec := { name := "fnBoxMeet", fn := fun _ => fun
  | [d] => { results := [.lit (.bool false)], args := [d] }
  | _ => none }
def FnBoxMeetWrongFalsely : Prop := fnBoxMeetRow.holds Try.pinned (OpenSpec.ofChange fnBoxMeetWrong)

/- THE SECOND FORM. 'bulk': how many values and letters a reading holds, each counted each time it is reached (what is shared counts as often as it is met; a slice's spare places count too). A statement '..UptoSaid' is the law's where the arguments, and the package variables that the reading takes, are together of bulk at most 1048576: NARROWER than '..Said'. Prove '..Said' where nothing that the law and all that it calls make is longer than what came in: it says more and counts as full. Else prove '..UptoSaid'. A law counts once. -/
mutual
def uptoBulk {H : Type} : DataW H → Nat
  | .lit (.string bytes) => bytes.length + 1
  | .lit _ => 1
  | .nil => 1
  | .ptr d => uptoBulk d + 1
  | .slice elems spare => uptoBulkAll elems + uptoBulkAll spare + 1
  | .agg parts => uptoBulkAll parts + 1
  | .iface _ d => uptoBulk d + 1
  | .map entries => uptoBulkEntries entries + 1
  | .held _ => 1
def uptoBulkAll {H : Type} : List (DataW H) → Nat
  | [] => 0
  | d :: r => uptoBulk d + uptoBulkAll r
def uptoBulkEntries {H : Type} : List (Lit × DataW H) → Nat
  | [] => 0
  | x :: r => uptoBulkEntry x + uptoBulkEntries r
def uptoBulkEntry {H : Type} : Lit × DataW H → Nat
  | (.string bytes, d) => bytes.length + uptoBulk d + 1
  | (_, d) => uptoBulk d + 1
 end
def uptoSmall : (H : Type) → List (DataW H) → Bool := fun _ ds => decide (uptoBulkAll ds ≤ 1048576)
def OpenSpec.upto (s : _root_.Go.ChangeSpec) : _root_.Go.OpenSpec := { _root_.Go.OpenSpec.ofChange s with cond := some uptoSmall }

/-- 'laws.FnExactConstants', WHERE WHAT IT READS IS OF BULK AT MOST 1048576: true; the input reads as it did. -/
def fnExactConstantsUptoRow : OpenClaim := { program := "ytegpmekkcnlmdaa", sum := "f878449bf71474a20500bd001bf8b146f4c4fb2baeed08eddf3c3f0ff4cbae6f", func := "loop.example/drawnanew/laws.FnExactConstants", spec := "fnExactConstants", apart := false, narrowed := true }
def FnExactConstantsUptoSaid : Prop := fnExactConstantsUptoRow.holds Try.pinned (OpenSpec.upto fnExactConstantsSpec)

/-- 'laws.FnExactScrollTop', WHERE WHAT IT READS IS OF BULK AT MOST 1048576: true; the input reads as it did. -/
def fnExactScrollTopUptoRow : OpenClaim := { program := "ytegpmekkcnlmdaa", sum := "f878449bf71474a20500bd001bf8b146f4c4fb2baeed08eddf3c3f0ff4cbae6f", func := "loop.example/drawnanew/laws.FnExactScrollTop", spec := "fnExactScrollTop", apart := false, narrowed := true }
def FnExactScrollTopUptoSaid : Prop := fnExactScrollTopUptoRow.holds Try.pinned (OpenSpec.upto fnExactScrollTopSpec)

/-- 'laws.FnExactScrollTo', WHERE WHAT IT READS IS OF BULK AT MOST 1048576: true; the input reads as it did. -/
def fnExactScrollToUptoRow : OpenClaim := { program := "ytegpmekkcnlmdaa", sum := "f878449bf71474a20500bd001bf8b146f4c4fb2baeed08eddf3c3f0ff4cbae6f", func := "loop.example/drawnanew/laws.FnExactScrollTo", spec := "fnExactScrollTo", apart := false, narrowed := true }
def FnExactScrollToUptoSaid : Prop := fnExactScrollToUptoRow.holds Try.pinned (OpenSpec.upto fnExactScrollToSpec)

/-- 'laws.FnScrollTop', WHERE WHAT IT READS IS OF BULK AT MOST 1048576: true; the input reads as it did. -/
def fnScrollTopUptoRow : OpenClaim := { program := "ytegpmekkcnlmdaa", sum := "f878449bf71474a20500bd001bf8b146f4c4fb2baeed08eddf3c3f0ff4cbae6f", func := "loop.example/drawnanew/laws.FnScrollTop", spec := "fnScrollTop", apart := false, narrowed := true }
def FnScrollTopUptoSaid : Prop := fnScrollTopUptoRow.holds Try.pinned (OpenSpec.upto fnScrollTopSpec)

/-- 'laws.FnScrollTo', WHERE WHAT IT READS IS OF BULK AT MOST 1048576: true; the input reads as it did. -/
def fnScrollToUptoRow : OpenClaim := { program := "ytegpmekkcnlmdaa", sum := "f878449bf71474a20500bd001bf8b146f4c4fb2baeed08eddf3c3f0ff4cbae6f", func := "loop.example/drawnanew/laws.FnScrollTo", spec := "fnScrollTo", apart := false, narrowed := true }
def FnScrollToUptoSaid : Prop := fnScrollToUptoRow.holds Try.pinned (OpenSpec.upto fnScrollToSpec)

/-- 'laws.FnBoxMeet', WHERE WHAT IT READS IS OF BULK AT MOST 1048576: true; the input reads as it did. -/
def fnBoxMeetUptoRow : OpenClaim := { program := "ytegpmekkcnlmdaa", sum := "f878449bf71474a20500bd001bf8b146f4c4fb2baeed08eddf3c3f0ff4cbae6f", func := "loop.example/drawnanew/laws.FnBoxMeet", spec := "fnBoxMeet", apart := false, narrowed := true }
def FnBoxMeetUptoSaid : Prop := fnBoxMeetUptoRow.holds Try.pinned (OpenSpec.upto fnBoxMeetSpec)

end Rows
end Go.Proofs.Ytegpmekkcnlmdaa

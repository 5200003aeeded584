/-
  No cell of these rows narrows 'for every input' (looked for: loops, veiled, ifaces, maps, wideKeys, modest, calm, conditions, laid).
  DERIVED. THE GIVEN ROWS OF THIS SEAT. 3 by the template 'for every input the law returns true; each argument reads behind the call as it read before'; 0 by the template 'total and deterministic' (their statements: YtnbdofimiljeiaaTotals.lean).
  GIVEN WITH THE SEED: the statements are not yours to turn. If you find one false, say at which input.
  Laid BY PROGRAM, IN A SANDBOX (cutbox-rows.mjs): the forced cells as the released guide's own fill.sh prints them over the translation 0638adafce70090f… (all of the seat's roots in one cut). By AI agents, Wed Nov 11 2026. No macro, syntax, notation, axiom, sorry.
-/
import Derived.Test.YtnbdofimiljeiaaChecked
import GoSem.Claim
import GoSem.ClaimJoined
import GoSem.ClaimMapViews
import Derived.JoinedTies
import Derived.KernelRfl
namespace Go.Proofs.Ytnbdofimiljeiaa
/- THE CELL 'sum', in the pinned program and in every row, IS THE sha256 OF THE DUMP (.gsa) THAT YtnbdofimiljeiaaProg.lean LOADS. Nothing in Lean hashes anything: it is a label: what it is worth is what the hold of that sum in a sandbox is worth. -/
noncomputable def Try.pinned : Pinned := { name := "ytnbdofimiljeiaa", sum := "0638adafce70090f8d95271ad254fca2619b8b3ed0a62f9010478f27d791ecf1", checked := Try.checked }
namespace Rows
def none {H : Type} : Left H := { results := [], args := [] }

/-- 'laws.FnExactFormNeeds': WHATEVER THE INPUT: true; the input reads as it did. -/
def fnExactFormNeedsSpec : ChangeSpec := { name := "fnExactFormNeeds", fn := fun _ => fun
  | [d1, d2] => { results := [.lit (.bool true)], args := [d1, d2] }
  | _ => none }
def fnExactFormNeedsRow : OpenClaim := { program := "ytnbdofimiljeiaa", sum := "0638adafce70090f8d95271ad254fca2619b8b3ed0a62f9010478f27d791ecf1", func := "loop.example/drawnanew/laws.FnExactFormNeeds", spec := "fnExactFormNeeds", recurses := true, apart := false }
def FnExactFormNeedsSaid : Prop := fnExactFormNeedsRow.holds Try.pinned (OpenSpec.ofChange fnExactFormNeedsSpec)

/-- ITS FALSE NEIGHBOUR: 'it returns false'. Refute it at one input. -/
def fnExactFormNeedsWrong : ChangeSpec := { name := "fnExactFormNeeds", fn := fun _ => fun
  | [d1, d2] => { results := [.lit (.bool false)], args := [d1, d2] }
  | _ => none }
def FnExactFormNeedsWrongFalsely : Prop := fnExactFormNeedsRow.holds Try.pinned (OpenSpec.ofChange fnExactFormNeedsWrong)

/-- 'laws.FnFormNeeds': WHATEVER THE INPUT: true; the input reads as it did. -/
def fnFormNeedsSpec : ChangeSpec := { name := "fnFormNeeds", fn := fun _ => fun
  | [d] => { results := [.lit (.bool true)], args := [d] }
  | _ => none }
def fnFormNeedsRow : OpenClaim := { program := "ytnbdofimiljeiaa", sum := "0638adafce70090f8d95271ad254fca2619b8b3ed0a62f9010478f27d791ecf1", func := "loop.example/drawnanew/laws.FnFormNeeds", spec := "fnFormNeeds", recurses := true, apart := false }
def FnFormNeedsSaid : Prop := fnFormNeedsRow.holds Try.pinned (OpenSpec.ofChange fnFormNeedsSpec)

/-- ITS FALSE NEIGHBOUR: 'it returns false'. Refute it at one input. -/
def fnFormNeedsWrong : ChangeSpec := { name := "fnFormNeeds", fn := fun _ => fun
  | [d] => { results := [.lit (.bool false)], args := [d] }
  | _ => none }
def FnFormNeedsWrongFalsely : Prop := fnFormNeedsRow.holds Try.pinned (OpenSpec.ofChange fnFormNeedsWrong)

/-- 'laws.FnProgBelow': WHATEVER THE INPUT: true; the input reads as it did. -/
def fnProgBelowSpec : ChangeSpec := { name := "fnProgBelow", fn := fun _ => fun
  | [d] => { results := [.lit (.bool true)], args := [d] }
  | _ => none }
def fnProgBelowRow : OpenClaim := { program := "ytnbdofimiljeiaa", sum := "0638adafce70090f8d95271ad254fca2619b8b3ed0a62f9010478f27d791ecf1", func := "loop.example/drawnanew/laws.FnProgBelow", spec := "fnProgBelow", recurses := true, apart := false }
def FnProgBelowSaid : Prop := fnProgBelowRow.holds Try.pinned (OpenSpec.ofChange fnProgBelowSpec)

/-- ITS FALSE NEIGHBOUR: 'it returns false'. Refute it at one input. -/
def fnProgBelowWrong : ChangeSpec := { name := "fnProgBelow", fn := fun _ => fun
  | [d] => { results := [.lit (.bool false)], args := [d] }
  | _ => none }
def FnProgBelowWrongFalsely : Prop := fnProgBelowRow.holds Try.pinned (OpenSpec.ofChange fnProgBelowWrong)

/- THE SECOND FORM. 'bulk': how many values and letters a reading holds, each counted each time it is reached (what is shared counts as often as it is met; a slice's spare places count too). A statement '..UptoSaid' is the law's where the arguments, and the package variables that the reading takes, are together of bulk at most 1048576: NARROWER than '..Said'. Prove '..Said' where nothing that the law and all that it calls make is longer than what came in: it says more and counts as full. Else prove '..UptoSaid'. A law counts once. -/
mutual
def uptoBulk {H : Type} : DataW H → Nat
  | .lit (.string bytes) => bytes.length + 1
  | .lit _ => 1
  | .nil => 1
  | .ptr d => uptoBulk d + 1
  | .slice elems spare => uptoBulkAll elems + uptoBulkAll spare + 1
  | .agg parts => uptoBulkAll parts + 1
  | .iface _ d => uptoBulk d + 1
  | .map entries => uptoBulkEntries entries + 1
  | .held _ => 1
def uptoBulkAll {H : Type} : List (DataW H) → Nat
  | [] => 0
  | d :: r => uptoBulk d + uptoBulkAll r
def uptoBulkEntries {H : Type} : List (Lit × DataW H) → Nat
  | [] => 0
  | x :: r => uptoBulkEntry x + uptoBulkEntries r
def uptoBulkEntry {H : Type} : Lit × DataW H → Nat
  | (.string bytes, d) => bytes.length + uptoBulk d + 1
  | (_, d) => uptoBulk d + 1
 end
def uptoSmall : (H : Type) → List (DataW H) → Bool := fun _ ds => decide (uptoBulkAll ds ≤ 1048576)
def OpenSpec.upto (s : _root_.Go.ChangeSpec) : _root_.Go.OpenSpec := { _root_.Go.OpenSpec.ofChange s with cond := some uptoSmall }

/-- 'laws.FnExactFormNeeds', WHERE WHAT IT READS IS OF BULK AT MOST 1048576: true; the input reads as it did. -/
def fnExactFormNeedsUptoRow : OpenClaim := { program := "ytnbdofimiljeiaa", sum := "0638adafce70090f8d95271ad254fca2619b8b3ed0a62f9010478f27d791ecf1", func := "loop.example/drawnanew/laws.FnExactFormNeeds", spec := "fnExactFormNeeds", recurses := true, apart := false, narrowed := true }
def FnExactFormNeedsUptoSaid : Prop := fnExactFormNeedsUptoRow.holds Try.pinned (OpenSpec.upto fnExactFormNeedsSpec)

/-- 'laws.FnFormNeeds', WHERE WHAT IT READS IS OF BULK AT MOST 1048576: true; the input reads as it did. -/
def fnFormNeedsUptoRow : OpenClaim := { program := "ytnbdofimiljeiaa", sum := "0638adafce70090f8d95271ad254fca2619b8b3ed0a62f9010478f27d791ecf1", func := "loop.example/drawnanew/laws.FnFormNeeds", spec := "fnFormNeeds", recurses := true, apart := false, narrowed := true }
def FnFormNeedsUptoSaid : Prop := fnFormNeedsUptoRow.holds Try.pinned (OpenSpec.upto fnFormNeedsSpec)

/-- 'laws.FnProgBelow', WHERE WHAT IT READS IS OF BULK AT MOST 1048576: true; the input reads as it did. -/
def fnProgBelowUptoRow : OpenClaim := { program := "ytnbdofimiljeiaa", sum := "0638adafce70090f8d95271ad254fca2619b8b3ed0a62f9010478f27d791ecf1", func := "loop.example/drawnanew/laws.FnProgBelow", spec := "fnProgBelow", recurses := true, apart := false, narrowed := true }
def FnProgBelowUptoSaid : Prop := fnProgBelowUptoRow.holds Try.pinned (OpenSpec.upto fnProgBelowSpec)

end Rows
end Go.Proofs.Ytnbdofimiljeiaa

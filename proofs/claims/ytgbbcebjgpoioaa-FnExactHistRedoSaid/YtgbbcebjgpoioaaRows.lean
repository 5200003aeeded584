/-
  No cell of these rows narrows 'for every input' (looked for: loops, veiled, ifaces, maps, wideKeys, modest, calm, conditions, laid).
  DERIVED. THE GIVEN ROWS OF THIS SEAT. 4 by the template 'for every input the law returns true; each argument reads behind the call as it read before'; 0 by the template 'total and deterministic' (their statements: YtgbbcebjgpoioaaTotals.lean).
  GIVEN WITH THE SEED: the statements are not yours to turn. If you find one false, say at which input.
  Laid BY PROGRAM, IN A SANDBOX (cutbox-rows.mjs): the forced cells as the released guide's own fill.sh prints them over the translation 8369b26db1e0bb4d… (all of the seat's roots in one cut). By AI agents, Wed Nov 11 2026. No macro, syntax, notation, axiom, sorry.
-/
import Derived.Test.YtgbbcebjgpoioaaChecked
import GoSem.Claim
import GoSem.ClaimJoined
import GoSem.ClaimMapViews
import Derived.JoinedTies
import Derived.KernelRfl
namespace Go.Proofs.Ytgbbcebjgpoioaa
/- THE CELL 'sum', in the pinned program and in every row, IS THE sha256 OF THE DUMP (.gsa) THAT YtgbbcebjgpoioaaProg.lean LOADS. Nothing in Lean hashes anything: it is a label: what it is worth is what the hold of that sum in a sandbox is worth. -/
noncomputable def Try.pinned : Pinned := { name := "ytgbbcebjgpoioaa", sum := "8369b26db1e0bb4d2935de9e8f981d8896763b36f7d7a54f7d1da645fc316820", checked := Try.checked }
namespace Rows
def none {H : Type} : Left H := { results := [], args := [] }

/-- 'laws.FnHistUndo': WHATEVER THE INPUT: true; the input reads as it did. -/
def fnHistUndoSpec : ChangeSpec := { name := "fnHistUndo", fn := fun _ => fun
  | [d] => { results := [.lit (.bool true)], args := [d] }
  | _ => none }
def fnHistUndoRow : OpenClaim := { program := "ytgbbcebjgpoioaa", sum := "8369b26db1e0bb4d2935de9e8f981d8896763b36f7d7a54f7d1da645fc316820", func := "loop.example/drawnanew/laws.FnHistUndo", spec := "fnHistUndo", recurses := true, apart := false }
def FnHistUndoSaid : Prop := fnHistUndoRow.holds Try.pinned (OpenSpec.ofChange fnHistUndoSpec)

/-- ITS FALSE NEIGHBOUR: 'it returns false'. Refute it at one input. -/
def fnHistUndoWrong : ChangeSpec := { name := "fnHistUndo", fn := fun _ => fun
  | [d] => { results := [.lit (.bool false)], args := [d] }
  | _ => none }
def FnHistUndoWrongFalsely : Prop := fnHistUndoRow.holds Try.pinned (OpenSpec.ofChange fnHistUndoWrong)

/-- 'laws.FnExactHistRedo': WHATEVER THE INPUT: true; the input reads as it did. -/
def fnExactHistRedoSpec : ChangeSpec := { name := "fnExactHistRedo", fn := fun _ => fun
  | [d] => { results := [.lit (.bool true)], args := [d] }
  | _ => none }
def fnExactHistRedoRow : OpenClaim := { program := "ytgbbcebjgpoioaa", sum := "8369b26db1e0bb4d2935de9e8f981d8896763b36f7d7a54f7d1da645fc316820", func := "loop.example/drawnanew/laws.FnExactHistRedo", spec := "fnExactHistRedo", apart := false }
def FnExactHistRedoSaid : Prop := fnExactHistRedoRow.holds Try.pinned (OpenSpec.ofChange fnExactHistRedoSpec)

/-- ITS FALSE NEIGHBOUR: 'it returns false'. Refute it at one input. -/
def fnExactHistRedoWrong : ChangeSpec := { name := "fnExactHistRedo", fn := fun _ => fun
  | [d] => { results := [.lit (.bool false)], args := [d] }
  | _ => none }
def FnExactHistRedoWrongFalsely : Prop := fnExactHistRedoRow.holds Try.pinned (OpenSpec.ofChange fnExactHistRedoWrong)

/-- 'laws.FnExactHistUndo': WHATEVER THE INPUT: true; the input reads as it did. -/
def fnExactHistUndoSpec : ChangeSpec := { name := "fnExactHistUndo", fn := fun _ => fun
  | [d] => { results := [.lit (.bool true)], args := [d] }
  | _ => none }
def fnExactHistUndoRow : OpenClaim := { program := "ytgbbcebjgpoioaa", sum := "8369b26db1e0bb4d2935de9e8f981d8896763b36f7d7a54f7d1da645fc316820", func := "loop.example/drawnanew/laws.FnExactHistUndo", spec := "fnExactHistUndo", apart := false }
def FnExactHistUndoSaid : Prop := fnExactHistUndoRow.holds Try.pinned (OpenSpec.ofChange fnExactHistUndoSpec)

/-- ITS FALSE NEIGHBOUR: 'it returns false'. Refute it at one input. -/
def fnExactHistUndoWrong : ChangeSpec := { name := "fnExactHistUndo", fn := fun _ => fun
  | [d] => { results := [.lit (.bool false)], args := [d] }
  | _ => none }
def FnExactHistUndoWrongFalsely : Prop := fnExactHistUndoRow.holds Try.pinned (OpenSpec.ofChange fnExactHistUndoWrong)

/-- 'laws.FnHistRedo': WHATEVER THE INPUT: true; the input reads as it did. -/
def fnHistRedoSpec : ChangeSpec := { name := "fnHistRedo", fn := fun _ => fun
  | [d] => { results := [.lit (.bool true)], args := [d] }
  | _ => none }
def fnHistRedoRow : OpenClaim := { program := "ytgbbcebjgpoioaa", sum := "8369b26db1e0bb4d2935de9e8f981d8896763b36f7d7a54f7d1da645fc316820", func := "loop.example/drawnanew/laws.FnHistRedo", spec := "fnHistRedo", recurses := true, apart := false }
def FnHistRedoSaid : Prop := fnHistRedoRow.holds Try.pinned (OpenSpec.ofChange fnHistRedoSpec)

/-- ITS FALSE NEIGHBOUR: 'it returns false'. Refute it at one input. -/
def fnHistRedoWrong : ChangeSpec := { name := "fnHistRedo", fn := fun _ => fun
  | [d] => { results := [.lit (.bool false)], args := [d] }
  | _ => none }
def FnHistRedoWrongFalsely : Prop := fnHistRedoRow.holds Try.pinned (OpenSpec.ofChange fnHistRedoWrong)

/- THE SECOND FORM. 'bulk': how many values and letters a reading holds, each counted each time it is reached (what is shared counts as often as it is met; a slice's spare places count too). A statement '..UptoSaid' is the law's where the arguments, and the package variables that the reading takes, are together of bulk at most 1048576: NARROWER than '..Said'. Prove '..Said' where nothing that the law and all that it calls make is longer than what came in: it says more and counts as full. Else prove '..UptoSaid'. A law counts once. -/
mutual
def uptoBulk {H : Type} : DataW H → Nat
  | .lit (.string bytes) => bytes.length + 1
  | .lit _ => 1
  | .nil => 1
  | .ptr d => uptoBulk d + 1
  | .slice elems spare => uptoBulkAll elems + uptoBulkAll spare + 1
  | .agg parts => uptoBulkAll parts + 1
  | .iface _ d => uptoBulk d + 1
  | .map entries => uptoBulkEntries entries + 1
  | .held _ => 1
def uptoBulkAll {H : Type} : List (DataW H) → Nat
  | [] => 0
  | d :: r => uptoBulk d + uptoBulkAll r
def uptoBulkEntries {H : Type} : List (Lit × DataW H) → Nat
  | [] => 0
  | x :: r => uptoBulkEntry x + uptoBulkEntries r
def uptoBulkEntry {H : Type} : Lit × DataW H → Nat
  | (.string bytes, d) => bytes.length + uptoBulk d + 1
  | (_, d) => uptoBulk d + 1
 end
def uptoSmall : (H : Type) → List (DataW H) → Bool := fun _ ds => decide (uptoBulkAll ds ≤ 1048576)
def OpenSpec.upto (s : _root_.Go.ChangeSpec) : _root_.Go.OpenSpec := { _root_.Go.OpenSpec.ofChange s with cond := some uptoSmall }

/-- 'laws.FnHistUndo', WHERE WHAT IT READS IS OF BULK AT MOST 1048576: true; the input reads as it did. -/
def fnHistUndoUptoRow : OpenClaim := { program := "ytgbbcebjgpoioaa", sum := "8369b26db1e0bb4d2935de9e8f981d8896763b36f7d7a54f7d1da645fc316820", func := "loop.example/drawnanew/laws.FnHistUndo", spec := "fnHistUndo", recurses := true, apart := false, narrowed := true }
def FnHistUndoUptoSaid : Prop := fnHistUndoUptoRow.holds Try.pinned (OpenSpec.upto fnHistUndoSpec)

/-- 'laws.FnExactHistRedo', WHERE WHAT IT READS IS OF BULK AT MOST 1048576: true; the input reads as it did. -/
def fnExactHistRedoUptoRow : OpenClaim := { program := "ytgbbcebjgpoioaa", sum := "8369b26db1e0bb4d2935de9e8f981d8896763b36f7d7a54f7d1da645fc316820", func := "loop.example/drawnanew/laws.FnExactHistRedo", spec := "fnExactHistRedo", apart := false, narrowed := true }
def FnExactHistRedoUptoSaid : Prop := fnExactHistRedoUptoRow.holds Try.pinned (OpenSpec.upto fnExactHistRedoSpec)

/-- 'laws.FnExactHistUndo', WHERE WHAT IT READS IS OF BULK AT MOST 1048576: true; the input reads as it did. -/
def fnExactHistUndoUptoRow : OpenClaim := { program := "ytgbbcebjgpoioaa", sum := "8369b26db1e0bb4d2935de9e8f981d8896763b36f7d7a54f7d1da645fc316820", func := "loop.example/drawnanew/laws.FnExactHistUndo", spec := "fnExactHistUndo", apart := false, narrowed := true }
def FnExactHistUndoUptoSaid : Prop := fnExactHistUndoUptoRow.holds Try.pinned (OpenSpec.upto fnExactHistUndoSpec)

/-- 'laws.FnHistRedo', WHERE WHAT IT READS IS OF BULK AT MOST 1048576: true; the input reads as it did. -/
def fnHistRedoUptoRow : OpenClaim := { program := "ytgbbcebjgpoioaa", sum := "8369b26db1e0bb4d2935de9e8f981d8896763b36f7d7a54f7d1da645fc316820", func := "loop.example/drawnanew/laws.FnHistRedo", spec := "fnHistRedo", recurses := true, apart := false, narrowed := true }
def FnHistRedoUptoSaid : Prop := fnHistRedoUptoRow.holds Try.pinned (OpenSpec.upto fnHistRedoSpec)

end Rows
end Go.Proofs.Ytgbbcebjgpoioaa
